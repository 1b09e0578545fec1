import PyProof.Rows.All
import Wide.All
import OpenK.AllK
import Wide.FinOn
import HandS.ForMost
import HandS.WordsExc
import HandS.Defaults
import KE.DatumOrd
import KE.SortData
import KE.DataAny
import PyProof.ReprRoads
import HandS.Ends
import HandS.TupAny
import HandS.IsInst
import HandS.Text
import HandS.Iter
import HandS.Zip
import PyProof.SeqIndex
import KE.KIndexOf
import HandS.SetFor
import HandS.Strs
import HandS.Comp
import HandS.Style
import HandS.Small
import HandS.Conv
import KE.KStar
import KE.DataMinMax
import HandS.TupSets
import KE.GoesEnum
import HandS.Exc
import HandS.HeadEnd
import HandS.HeadHook2
import HandS.HeadHook4
import KE.BitLaws
import PyProof.ReprLen
import HandS.Head0
import HandS.Head1
import HandS.Head2
import HandS.HeadHook1
import KE.KStateDown
import PySem.Challenge.RW_givenwebs_k27_main_whole_base_statements
set_option Elab.async false
set_option linter.all false
set_option autoImplicit false
set_option maxRecDepth 100000
namespace PyD
open PySem
/-- a value: lists that change, dicts stand in the store (ref); lst is a list that nothing changes -/
inductive D where
  | non | bl (b : Bool) | int (i : Int) | str (x : Str) | tup (ds : List D) | lst (ds : List D) | ref (a : Nat)
inductive MO where
  | lst (ds : List D) | dct (kvs : List ((Int ⊕ Str) × D))
abbrev Store := List MO
/-- an exception: its class, what it was made with -/
structure X where
  cls : Str
  args : List D
inductive R (α : Type) where
  | stuck | ok (a : α) (s : Store) | exc (x : X) (s : Store)
def R.bind {α β : Type} (r : R α) (f : α → Store → R β) : R β :=
  match r with
  | .stuck => .stuck
  | .ok a s => f a s
  | .exc x s => .exc x s
theorem R.bind_ok {α β : Type} (a : α) (s : Store) (f : α → Store → R β) : (R.ok a s).bind f = f a s := rfl
theorem R.bind_stuck {α β : Type} (f : α → Store → R β) : (R.stuck).bind f = R.stuck := rfl
theorem R.bind_exc {α β : Type} (x : X) (s : Store) (f : α → Store → R β) : (R.exc x s : R α).bind f = R.exc x s := rfl
abbrev Env := List (Option D)
mutual
def D.pure : D → Bool
  | .non => true | .bl _ => true | .int _ => true | .str _ => true
  | .tup ds => D.pures ds
  | .lst ds => D.pures ds
  | .ref _ => false
def D.pures : List D → Bool
  | [] => true
  | d :: ds => D.pure d && D.pures ds
end
mutual
/-- the very same -/
def D.same : D → D → Bool
  | .non, .non => true
  | .bl a, .bl b => a == b
  | .int a, .int b => decide (a = b)
  | .str a, .str b => decide (a = b)
  | .tup a, .tup b => D.sames a b
  | .lst a, .lst b => D.sames a b
  | .ref a, .ref b => a == b
  | _, _ => false
def D.sames : List D → List D → Bool
  | [], [] => true
  | a :: as, b :: bs => D.same a b && D.sames as bs
  | _, _ => false
end
mutual
theorem D.same_eq : ∀ {a b : D}, D.same a b = true → a = b
  | .non, b, h => by cases b <;> first | rfl | simp [D.same] at h
  | .bl a, b, h => by cases b <;> first | (simp [D.same] at h; subst h; rfl) | simp [D.same] at h
  | .int a, b, h => by cases b <;> first | (simp [D.same] at h; subst h; rfl) | simp [D.same] at h
  | .str a, b, h => by cases b <;> first | (simp [D.same] at h; subst h; rfl) | simp [D.same] at h
  | .tup a, b, h => by
    cases b with
    | tup b => simp only [D.same] at h; rw [D.sames_eq h]
    | _ => simp [D.same] at h
  | .lst a, b, h => by
    cases b with
    | lst b => simp only [D.same] at h; rw [D.sames_eq h]
    | _ => simp [D.same] at h
  | .ref a, b, h => by cases b <;> first | (simp [D.same] at h; subst h; rfl) | simp [D.same] at h
theorem D.sames_eq : ∀ {as bs : List D}, D.sames as bs = true → as = bs
  | [], [], _ => rfl
  | [], _ :: _, h => by simp [D.sames] at h
  | _ :: _, [], h => by simp [D.sames] at h
  | a :: as, b :: bs, h => by
    simp only [D.sames, Bool.and_eq_true] at h
    rw [D.same_eq h.1, D.sames_eq h.2]
end
mutual
theorem D.same_refl : ∀ a : D, D.same a a = true
  | .non => rfl
  | .bl a => by simp [D.same]
  | .int a => by simp [D.same]
  | .str a => by simp [D.same]
  | .tup a => by simp only [D.same]; exact D.sames_refl a
  | .lst a => by simp only [D.same]; exact D.sames_refl a
  | .ref a => by simp [D.same]
theorem D.sames_refl : ∀ as : List D, D.sames as as = true
  | [] => rfl
  | a :: as => by simp only [D.sames, D.same_refl a, D.sames_refl as, Bool.and_self]
end
def kvSame : List ((Int ⊕ Str) × D) → List ((Int ⊕ Str) × D) → Bool
  | [], [] => true
  | (k, a) :: as, (j, b) :: bs => decide (k = j) && D.same a b && kvSame as bs
  | _, _ => false
theorem kvSame_eq : ∀ {as bs : List ((Int ⊕ Str) × D)}, kvSame as bs = true → as = bs
  | [], [], _ => rfl
  | [], _ :: _, h => by simp [kvSame] at h
  | _ :: _, [], h => by simp [kvSame] at h
  | (k, a) :: as, (j, b) :: bs, h => by
    simp only [kvSame, Bool.and_eq_true, decide_eq_true_eq] at h
    rw [h.1.1, D.same_eq h.1.2, kvSame_eq h.2]
theorem kvSame_refl : ∀ as : List ((Int ⊕ Str) × D), kvSame as as = true
  | [] => rfl
  | (k, a) :: as => by simp [kvSame, D.same_refl, kvSame_refl as]
def MO.same : MO → MO → Bool
  | .lst a, .lst b => D.sames a b
  | .dct a, .dct b => kvSame a b
  | _, _ => false
theorem MO.same_eq {a b : MO} (h : MO.same a b = true) : a = b := by
  cases a <;> cases b <;> simp only [MO.same] at h <;> first | cases h | rw [D.sames_eq h] | rw [kvSame_eq h]
theorem MO.same_refl (a : MO) : MO.same a a = true := by
  cases a <;> simp only [MO.same] <;> first | exact D.sames_refl _ | exact kvSame_refl _
def stSame : Store → Store → Bool
  | [], [] => true
  | a :: as, b :: bs => MO.same a b && stSame as bs
  | _, _ => false
theorem stSame_eq : ∀ {as bs : Store}, stSame as bs = true → as = bs
  | [], [], _ => rfl
  | [], _ :: _, h => by simp [stSame] at h
  | _ :: _, [], h => by simp [stSame] at h
  | a :: as, b :: bs, h => by
    simp only [stSame, Bool.and_eq_true] at h
    rw [MO.same_eq h.1, stSame_eq h.2]
theorem stSame_refl : ∀ as : Store, stSame as as = true
  | [] => rfl
  | a :: as => by simp [stSame, MO.same_refl, stSame_refl as]
mutual
def D.py : D → PyData
  | .non => .none | .bl b => .bool b | .int i => .int i | .str x => .str x
  | .tup ds => .tuple (D.pys ds)
  | .lst ds => .list (D.pys ds)
  | .ref _ => .none
def D.pys : List D → List PyData
  | [] => []
  | d :: ds => D.py d :: D.pys ds
end
theorem D.pys_map (ds : List D) : D.pys ds = ds.map D.py := by
  induction ds with
  | nil => rfl
  | cons d ds ih => simp only [D.pys, ih, List.map_cons]
/-- lists of the store seen as data, n deep -/
def see (st : Store) : Nat → D → Option D
  | 0, _ => none
  | n + 1, d => match d with
    | .ref a => match st[a]? with
      | some (.lst ds) => (ds.mapM (see st n)).map D.lst
      | _ => none
    | .tup ds => (ds.mapM (see st n)).map D.tup
    | .lst ds => (ds.mapM (see st n)).map D.lst
    | d => some d
mutual
/-- == of data -/
def D.eqv : D → D → Bool
  | .non, .non => true
  | .bl a, .bl b => a == b
  | .bl a, .int b => decide ((if a then 1 else 0) = b)
  | .int a, .bl b => decide (a = (if b then 1 else 0))
  | .int a, .int b => decide (a = b)
  | .str a, .str b => decide (a = b)
  | .tup a, .tup b => D.eqvs a b
  | .lst a, .lst b => D.eqvs a b
  | .ref _, .ref _ => true
  | .ref _, .non => true
  | .non, .ref _ => true
  | _, _ => false
def D.eqvs : List D → List D → Bool
  | [], [] => true
  | a :: as, b :: bs => D.eqv a b && D.eqvs as bs
  | _, _ => false
end
end PyD
namespace PyD
open PySem
inductive Op where
  | add | sub | mul | fdiv | mod | pow | shl | shr | band | bor | bxor
inductive Cop where
  | eq | ne | lt | le | gt | ge | isin | notin
inductive B1 where
  | len | abs | int | repr
inductive Ty where
  | int | bool | str | tuple | list | dict
  deriving DecidableEq
mutual
inductive E where
  | never
  | c (d : D)
  | v (i : Nat)
  | g (x : Str) (d : D)
  | neg (a : E)
  | tup (es : Es)
  | ls (l : L)
  | fz (l : L)
  | dct (ks : List Str) (es : Es)
  | bin (o : Op) (a b : E)
  | cmp (o : Cop) (a b : E)
  | chain (o p : Cop) (a b c : E)
  | isN (a : E)
  | notN (a : E)
  | isB (k : Bool) (a : E)
  | notB (k : Bool) (a : E)
  | bools (k : Bool) (es : Es)
  | not (a : E)
  | ite (c a b : E)
  | ix (a i : E)
  | sl (a : E) (lo hi : O)
  | call (f : Nat) (es : Es)
  | callk (f : Nat) (es zs : Es) (perm : List Nat)
  | b1 (b : B1) (a : E)
  | isi (t : Ty) (a : E)
  | dvm (a b : E)
  | tupOf (l : L)
  | allOf (l : L)
  | anyOf (l : L)
  | sumOf (l : L)
  | mnx (g : Bool) (l : L)
  | mnx2 (g : Bool) (a b : E)
  | tupR (a : E)
  | lenSet (l : L)
  | app (a e : E)
  | ext (a : E) (l : L)
  | pop (a : E)
  | popi (a i : E)
  | idx (a e : E)
inductive Es where
  | nil
  | cons (e : E) (es : Es)
  | star (l : L) (es : Es)
inductive O where
  | no
  | at (e : E)
/-- a list or a tuple, by its items -/
inductive L where
  | of (e : E)
  | disp (es : Es)
  | comp (own : List (Str × Nat)) (t : T) (i : I) (cs : Es) (elt : E)
  | comp2 (own : List (Str × Nat)) (vs1 : List Nat) (t : T) (i : I) (t2 : T) (i2 : I) (cs : Es) (elt : E)
  | cat (a b : L)
  | sl (a : L) (lo hi : O)
  | listOf (l : L)
  | listR (a : E)
  | sorted (l : L)
  | sortedSet (l : L)
  | rep (a : L) (e : E)
/-- what a loop goes through -/
inductive I where
  | of (l : L)
  | rng1 (a : E)
  | rng2 (a b : E)
  | enum (i : I)
  | zip (a b : I)
inductive T where
  | nm (i : Nat)
  | tp (ts : Ts)
  | sub (a k : E)
inductive Ts where
  | nil
  | cons (t : T) (ts : Ts)
inductive S where
  | pass
  | asg (t : T) (e : E)
  | ex (e : E)
  | ret (e : E)
  | retN
  | ifs (c : E) (a b : Ss)
  | for (t : T) (i : I) (b : Ss)
  | whil (c : E) (b : Ss)
  | never
inductive Ss where
  | nil
  | cons (s : S) (ss : Ss)
end
def Es.isNil : Es → Bool
  | .nil => true
  | _ => false
/-- the slots of a block's own names forgotten -/
def wipeE (env : Env) : List Nat → Env
  | [] => env
  | v :: vs => (wipeE env vs).set v none
inductive Fl where
  | nx | rt (d : D) | bk | ct
/-- a loop's source -/
inductive It where
  | ds (isL : Bool) (ds : List D)
  | lv (a : Nat)
  | rng (lo : Int) (n : Nat)
  | enum (j : It)
  | zip (j k : It)
/-- the i-th: stuck, the end, or an item -/
def lstAt (st : Store) (a : Nat) : Option (List D) := match st[a]? with
  | some (.lst xs) => some xs
  | _ => none
/-- a list's, a tuple's items -/
def It.its : It → Store → Option (List D)
  | .ds _ xs, _ => some xs
  | .lv a, st => lstAt st a
  | _, _ => none
def It.isL : It → Bool
  | .ds b _ => b
  | .lv _ => true
  | _ => false
def It.isT : It → Bool
  | .ds b _ => !b
  | _ => false
def It.next : It → Nat → Store → Option (Option D)
  | .ds _ xs, i, _ => some xs[i]?
  | .lv a, i, st => (lstAt st a).map fun xs => xs[i]?
  | .rng lo n, i, _ => some (if i < n then some (.int (lo + i)) else none)
  | .enum j, i, st => (j.next i st).map fun o => o.map fun d => .tup [.int i, d]
  | .zip j k, i, st => match j.next i st, k.next i st with
    | some (some x), some (some y) => some (some (.tup [x, y]))
    | some none, some _ => some none
    | some _, some none => some none
    | _, _ => none
/-- how many at the start -/
def It.len : It → Store → Nat
  | .ds _ xs, _ => xs.length
  | .lv a, st => match lstAt st a with
    | some xs => xs.length
    | none => 0
  | .rng _ n, _ => n
  | .enum j, st => j.len st
  | .zip j k, st => min (j.len st) (k.len st)
def small (n : Nat) : Bool := decide (n ≤ 16777216)
def okB (b : Bool) (st : Store) : R D := .ok (.bl b) st
def smallI (i : Int) : Bool := decide (-(2 ^ 64) < i) && decide (i < 2 ^ 64)
/-- the items of a list, a tuple; whether it is a list -/
def items (x : D) (st : Store) : Option (Bool × List D) :=
  match x with
  | .tup ds => some (false, ds)
  | .lst ds => some (true, ds)
  | .ref a => match st[a]? with
    | some (.lst ds) => some (true, ds)
    | _ => none
  | _ => none
/-- list + list -/
def catD (x y : D) (st : Store) : R D := match items x st, items y st with
  | some (true, xs), some (true, ys) => if small (xs.length + ys.length) then .ok (.lst (xs ++ ys)) st else .stuck
  | _, _ => .stuck
def addD (x y : D) (st : Store) : R D :=
  match x, y with
  | .int i, .int j => .ok (.int (i + j)) st
  | .str i, .str j => if small (i.length + j.length) then .ok (.str (i ++ j)) st else .stuck
  | .tup a, .tup b => if small (a.length + b.length) then .ok (.tup (a ++ b)) st else .stuck
  | x, y => catD x y st
def binD (o : Op) (x y : D) (st : Store) : R D :=
  match o, x, y with
  | .add, x, y => addD x y st
  | .sub, .int i, .int j => .ok (.int (i - j)) st
  | .mul, .int i, .int j => if smallI i || smallI j then .ok (.int (i * j)) st else .stuck
  | .fdiv, .int i, .int j => if decide (0 < j) && decide (j < 1073741824) then .ok (.int (i / j)) st else .stuck
  | .mod, .int i, .int j => if decide (0 < j) then .ok (.int (i % j)) st else .stuck
  | .pow, .int i, .int j => if decide (0 ≤ j) && decide (j ≤ 1000) && smallI i then .ok (.int (i ^ j.toNat)) st else .stuck
  | .shl, .int i, .int j => if decide (0 ≤ j) && decide (j ≤ 1000) && smallI i then .ok (.int (i * 2 ^ j.toNat)) st else .stuck
  | .shr, .int i, .int j => if decide (0 ≤ j) then .ok (.int (i / 2 ^ j.toNat)) st else .stuck
  | .band, .int i, .int j => .ok (.int (Builtin.bitAnd i j)) st
  | .bor, .int i, .int j => .ok (.int (Builtin.bitOr i j)) st
  | .bxor, .int i, .int j => .ok (.int (Builtin.bitXor i j)) st
  | _, _, _ => .stuck
def depthL : Nat := 40
def D.notNone : D → Bool
  | .non => false
  | _ => true
def ordD (f : PyData → PyData → Bool) (x y : D) (st : Store) : R D :=
  match see st depthL x, see st depthL y with
  | some a, some b => if PySem.W.alike a.py b.py && a.notNone then okB (f a.py b.py) st else .stuck
  | _, _ => .stuck
def keyOf : D → Option (Int ⊕ Str)
  | .int i => some (.inl i)
  | .str x => some (.inr x)
  | _ => none
def getK (kvs : List ((Int ⊕ Str) × D)) (k : Int ⊕ Str) : Option D := (kvs.find? fun kv => decide (kv.1 = k)).map (·.2)
def putK (kvs : List ((Int ⊕ Str) × D)) (k : Int ⊕ Str) (d : D) : List ((Int ⊕ Str) × D) :=
  if kvs.any (fun kv => decide (kv.1 = k)) then kvs.map fun kv => if kv.1 = k then (kv.1, d) else kv else kvs ++ [(k, d)]
def inD (x y : D) (st : Store) : Option Bool :=
  match y with
  | .str t => match x with
    | .str s => some (!(Builtin.Str.occurrences t s 0 t.length 1).isEmpty)
    | _ => none
  | .ref a => match st[a]? with
    | some (.dct kvs) => (keyOf x).map fun k => (getK kvs k).isSome
    | _ => match see st depthL x, see st depthL y with
      | some d, some (.lst ds) => some (ds.any fun z => D.eqv z d)
      | _, _ => none
  | .tup _ => match see st depthL x, see st depthL y with
    | some d, some (.tup ds) => some (ds.any fun z => D.eqv z d)
    | _, _ => none
  | .lst _ => match see st depthL x, see st depthL y with
    | some d, some (.lst ds) => some (ds.any fun z => D.eqv z d)
    | _, _ => none
  | _ => none
def cmpD (o : Cop) (x y : D) (st : Store) : R D :=
  match o with
  | .eq => match see st depthL x, see st depthL y with
    | some a, some b => okB (D.eqv a b) st
    | _, _ => .stuck
  | .ne => match see st depthL x, see st depthL y with
    | some a, some b => okB (!D.eqv a b) st
    | _, _ => .stuck
  | .lt => ordD (fun a b => PySem.W.dataLt a b) x y st
  | .gt => ordD (fun a b => PySem.W.dataLt b a) x y st
  | .le => ordD (fun a b => !PySem.W.dataLt b a) x y st
  | .ge => ordD (fun a b => !PySem.W.dataLt a b) x y st
  | .isin => match inD x y st with
    | some b => okB b st
    | none => .stuck
  | .notin => match inD x y st with
    | some b => okB (!b) st
    | none => .stuck
def atI (xs : List D) (i : Int) : Option D := (L2.ixN xs.length i).bind fun j => xs[j]?
def ixD (x y : D) (st : Store) : R D :=
  match x, y with
  | .str s, .int i => match L2.atI s.cps.toList i with
    | some c => if small s.length then .ok (.str ⟨#[c]⟩) st else .stuck
    | none => .stuck
  | x, .int i => match x with
    | .ref a => match st[a]? with
      | some (.dct kvs) => match getK kvs (.inl i) with
        | some d => .ok d st
        | none => .stuck
      | some (.lst ds) => match L2.atI ds i with
        | some d => .ok d st
        | none => .stuck
      | _ => .stuck
    | .tup ds => match L2.atI ds i with
      | some d => .ok d st
      | none => .stuck
    | .lst ds => match L2.atI ds i with
      | some d => .ok d st
      | none => .stuck
    | _ => .stuck
  | .ref a, .str k => match st[a]? with
    | some (.dct kvs) => match getK kvs (.inr k) with
      | some d => .ok d st
      | none => .stuck
    | _ => .stuck
  | _, _ => .stuck
def cutL (ds : List D) (lo hi : Option Int) : List D := (ds.drop (HT.sIx ds.length 0 lo)).take (HT.sIx ds.length ds.length hi - HT.sIx ds.length 0 lo)
def reprD (x : D) (st : Store) : R D :=
  match see st depthL x with
  | some d => if d.py.showable && small d.py.shown.length then .ok (.str d.py.shown) st else .stuck
  | none => .stuck
def b1D (b : B1) (x : D) (st : Store) : R D :=
  match b with
  | .len => match x with
    | .str s => if small s.length then .ok (.int s.length) st else .stuck
    | .ref a => match st[a]? with
      | some (.lst ds) => .ok (.int ds.length) st
      | some (.dct kvs) => .ok (.int kvs.length) st
      | none => .stuck
    | .tup ds => .ok (.int ds.length) st
    | .lst ds => .ok (.int ds.length) st
    | _ => .stuck
  | .abs => match x with
    | .int i => .ok (.int (if i < 0 then -i else i)) st
    | _ => .stuck
  | .int => match x with
    | .int i => .ok (.int i) st
    | .bl k => .ok (.int (if k then 1 else 0)) st
    | _ => .stuck
  | .repr => match x with
    | .tup _ => reprD x st
    | .lst _ => reprD x st
    | .ref _ => reprD x st
    | _ => .stuck
def isTy (t : Ty) (x : D) (st : Store) : Option Bool :=
  match x with
  | .non => some false
  | .bl _ => some (t = .bool || t = .int)
  | .int _ => some (t = .int)
  | .str _ => some (t = .str)
  | .tup _ => some (t = .tuple)
  | .lst _ => some (t = .list)
  | .ref a => match st[a]? with
    | some (.lst _) => some (t = .list)
    | some (.dct _) => some (t = .dict)
    | none => none
def blsD : List D → Option (List Bool)
  | [] => some []
  | .bl b :: ds => (blsD ds).map (b :: ·)
  | _ => none
def allD (ds : List D) : Option Bool := (blsD ds).map fun bs => bs.all id
def anyD (ds : List D) : Option Bool := (blsD ds).map fun bs => bs.any id
def intsD : List D → Option (List Int)
  | [] => some []
  | .int i :: ds => (intsD ds).map (i :: ·)
  | _ => none
def seeAll (st : Store) (ds : List D) : Option (List D) := ds.mapM (see st depthL)
def alikeD (ds : List D) : Bool := ds.all fun a => ds.all fun b => PySem.W.alike a.py b.py
def sortableD (ds : List D) : Bool :=
  (ds.all fun d => match d with | .tup (_ :: _) => true | _ => false) || (ds.all fun d => match d with | .tup _ => false | .non => false | .ref _ => false | .lst _ => false | _ => true)
/-- no list within, not too deep -/
def D.flat (d : D) : Bool := d.pure && decide (d.py.depth ≤ 40)
/-- sorted, of data without lists -/
def sortD (ds : List D) : Option (List D) :=
  if ds.all D.flat && alikeD ds && sortableD ds && small ds.length then some (ds.mergeSort (PySem.W.dataLe false D.py)) else none
/-- ints, each once, ascending -/
def insU (x : Int) : List Int → List Int
  | [] => [x]
  | y :: l => if x < y then x :: y :: l else if x = y then y :: l else y :: insU x l
def usort : List Int → List Int
  | [] => []
  | x :: l => insU x (usort l)
/-- the greatest, the least -/
def mnxI (g : Bool) (n : Int) (ns : List Int) : Int := if g then ns.foldl max n else ns.foldl min n
/-- pairs of small ints, each as one int -/
def prsD : List D → Option (List Int)
  | [] => some []
  | .tup [.int x, .int y] :: ds => if decide (0 ≤ x) && decide (x < 64) && decide (0 ≤ y) && decide (y < 64) then (prsD ds).map ((x * 64 + y) :: ·) else none
  | _ => none
def prD (c : Int) : D := .tup [.int (c / 64), .int (c % 64)]
def findIx (p : D → Bool) : List D → Option Nat
  | [] => none
  | d :: ds => if p d then some 0 else (findIx p ds).map (· + 1)
def forL (J : It) (as : D → Env → Store → R Env) (body : Env → Store → R (Fl × Env)) : Nat → Nat → Env → Store → R (Fl × Env)
  | 0, _, _, _ => .stuck
  | n + 1, i, env, st => match J.next i st with
    | none => .stuck
    | some none => .ok (.nx, env) st
    | some (some d) => (as d env st).bind fun env1 st1 => (body env1 st1).bind fun r st2 =>
      match r with
      | (.nx, env2) => forL J as body n (i + 1) env2 st2
      | (.ct, env2) => forL J as body n (i + 1) env2 st2
      | (.bk, env2) => .ok (.nx, env2) st2
      | (.rt d, env2) => .ok (.rt d, env2) st2
def noExc {α : Type} : R α → R α
  | .exc _ _ => .stuck
  | r => r
/-- elt: what a turn makes of the items so far -/
def compL (J : It) (as : D → Env → Store → R Env) (elt : Env → List D → Store → R (List D)) (env : Env) : Nat → Nat → List D → Store → R (List D)
  | 0, _, _, _ => .stuck
  | n + 1, i, acc, st => match J.next i st with
    | none => .stuck
    | some none => .ok acc st
    | some (some d) => (as d env st).bind fun env1 st1 => (elt env1 acc st1).bind fun acc2 st2 => compL J as elt env n (i + 1) acc2 st2
def pushD (acc : List D) (d : D) (st : Store) : R (List D) := if small (acc.length + 1) then .ok (acc ++ [d]) st else .stuck
def whileL (c : Env → Store → R D) (body : Env → Store → R (Fl × Env)) : Nat → Env → Store → R (Fl × Env)
  | 0, _, _ => .stuck
  | n + 1, env, st => (c env st).bind fun b st1 =>
    match b with
    | .bl true => (body env st1).bind fun r st2 =>
      match r with
      | (.nx, env2) => whileL c body n env2 st2
      | (.ct, env2) => whileL c body n env2 st2
      | (.bk, env2) => .ok (.nx, env2) st2
      | (.rt d, env2) => .ok (.rt d, env2) st2
    | .bl false => .ok (.nx, env) st1
    | _ => .stuck
def catR (x y : Bool × List D) (st : Store) : R (Bool × List D) :=
  if x.1 && y.1 && small (x.2.length + y.2.length) then .ok (true, x.2 ++ y.2) st else .stuck
def fuelW : Nat := 1000000
def dctOf : List Str → List D → Option (List ((Int ⊕ Str) × D))
  | [], [] => some []
  | k :: ks, d :: ds => (dctOf ks ds).map fun r => (.inr k, d) :: r
  | _, _ => none
abbrev Cal := Nat → List D → Store → R D
/-- the values picked -/
def sel {α : Type} (perm : List Nat) (xs : List α) : List α := perm.filterMap fun i => xs[i]?
mutual
def evE (cal : Cal) : E → Env → Store → R D
  | .never, _, _ => .stuck
  | .c d, _, st => .ok d st
  | .v i, env, st => match env[i]? with
    | some (some d) => .ok d st
    | _ => .stuck
  | .g _ d, _, st => .ok d st
  | .neg a, env, st => (evE cal a env st).bind fun x st1 => match x with
    | .int i => .ok (.int (-i)) st1
    | _ => .stuck
  | .tup es, env, st => (evEs cal es env st).bind fun ds st1 => if small ds.length then .ok (.tup ds) st1 else .stuck
  | .ls l, env, st => (evL cal l env st).bind fun r st1 => if r.1 then .ok (.ref st1.length) (st1 ++ [.lst r.2]) else .stuck
  | .fz l, env, st => (evL cal l env st).bind fun r st1 => if r.1 then .ok (.lst r.2) st1 else .stuck
  | .dct ks es, env, st => (evEs cal es env st).bind fun ds st1 => match dctOf ks ds with
    | some kvs => .ok (.ref st1.length) (st1 ++ [.dct kvs])
    | none => .stuck
  | .bin o a b, env, st => (evE cal a env st).bind fun x st1 => (evE cal b env st1).bind fun y st2 => binD o x y st2
  | .cmp o a b, env, st => (evE cal a env st).bind fun x st1 => (evE cal b env st1).bind fun y st2 => cmpD o x y st2
  | .chain o p a b c, env, st => (evE cal a env st).bind fun x st1 => (evE cal b env st1).bind fun y st2 => (cmpD o x y st2).bind fun t st3 => match t with
    | .bl true => (evE cal c env st3).bind fun z st4 => cmpD p y z st4
    | .bl false => okB false st3
    | _ => .stuck
  | .isN a, env, st => (evE cal a env st).bind fun x st1 => okB (!x.notNone) st1
  | .notN a, env, st => (evE cal a env st).bind fun x st1 => okB x.notNone st1
  | .isB k a, env, st => (evE cal a env st).bind fun x st1 => match x with
    | .bl b => okB (b == k) st1
    | _ => .stuck
  | .notB k a, env, st => (evE cal a env st).bind fun x st1 => match x with
    | .bl b => okB (!(b == k)) st1
    | _ => .stuck
  | .bools k es, env, st => evB cal k es env st
  | .not a, env, st => (evE cal a env st).bind fun x st1 => match x with
    | .bl b => okB (!b) st1
    | _ => .stuck
  | .ite c a b, env, st => (evE cal c env st).bind fun x st1 => match x with
    | .bl true => evE cal a env st1
    | .bl false => evE cal b env st1
    | _ => .stuck
  | .ix a i, env, st => (evE cal a env st).bind fun x st1 => (evE cal i env st1).bind fun y st2 => ixD x y st2
  | .sl a lo hi, env, st => (evE cal a env st).bind fun x st1 => (evO cal lo env st1).bind fun l st2 => (evO cal hi env st2).bind fun h st3 => match items x st3 with
    | some (false, ds) => .ok (.tup (cutL ds l h)) st3
    | some (true, ds) => .ok (.lst (cutL ds l h)) st3
    | none => .stuck
  | .call f es, env, st => (evEs cal es env st).bind fun ds st1 => cal f ds st1
  | .callk f es zs perm, env, st => (evEs cal es env st).bind fun ds st1 => (evEs cal zs env st1).bind fun ws st2 => cal f (sel perm (ds ++ ws)) st2
  | .b1 b a, env, st => (evE cal a env st).bind fun x st1 => b1D b x st1
  | .isi t a, env, st => (evE cal a env st).bind fun x st1 => match isTy t x st1 with
    | some b => okB b st1
    | none => .stuck
  | .dvm a b, env, st => (evE cal a env st).bind fun x st1 => (evE cal b env st1).bind fun y st2 => match x, y with
    | .int i, .int j => if decide (0 < j) && decide (j < 1073741824) then .ok (.tup [.int (i / j), .int (i % j)]) st2 else .stuck
    | _, _ => .stuck
  | .tupOf l, env, st => (evL cal l env st).bind fun r st1 => .ok (.tup r.2) st1
  | .allOf l, env, st => (evL cal l env st).bind fun r st1 => match r.1, allD r.2 with
    | true, some b => okB b st1
    | _, _ => .stuck
  | .anyOf l, env, st => (evL cal l env st).bind fun r st1 => match r.1, anyD r.2 with
    | true, some b => okB b st1
    | _, _ => .stuck
  | .sumOf l, env, st => (evL cal l env st).bind fun r st1 => match r.1, intsD r.2 with
    | true, some ns => .ok (.int ns.sum) st1
    | _, _ => .stuck
  | .mnx g l, env, st => (evL cal l env st).bind fun r st1 => match intsD r.2 with
    | some (n :: ns) => .ok (.int (mnxI g n ns)) st1
    | _ => .stuck
  | .mnx2 g a b, env, st => (evE cal a env st).bind fun x st1 => (evE cal b env st1).bind fun y st2 => match x, y with
    | .int i, .int j => .ok (.int (mnxI g i [j])) st2
    | _, _ => .stuck
  | .tupR a, env, st => (evE cal a env st).bind fun x st1 => match x with
    | .int j => if smallI (4 * j) && small j.toNat then .ok (.tup ((List.range j.toNat).map fun i => .int (i : Nat))) st1 else .stuck
    | _ => .stuck
  | .lenSet l, env, st => (evL cal l env st).bind fun r st1 => match intsD r.2 with
    | some ns => if decide (ns.length < 64) then .ok (.int (usort ns).length) st1 else .stuck
    | none => .stuck
  | .app a e, env, st => (evE cal a env st).bind fun x st1 => match items x st1 with
    | some (true, _) => (evE cal e env st1).bind fun y st2 => match x with
      | .ref i => match st2[i]? with
        | some (.lst ds) => if small (ds.length + 1) then .ok .non (st2.set i (.lst (ds ++ [y]))) else .stuck
        | _ => .stuck
      | _ => .stuck
    | _ => .stuck
  | .ext a l, env, st => (evE cal a env st).bind fun x st1 => match items x st1 with
    | some (true, _) => (evL cal l env st1).bind fun r st2 => match x with
      | .ref i => match st2[i]? with
        | some (.lst ds) => if small (ds.length + r.2.length) then .ok .non (st2.set i (.lst (ds ++ r.2))) else .stuck
        | _ => .stuck
      | _ => .stuck
    | _ => .stuck
  | .pop a, env, st => (evE cal a env st).bind fun x st1 => match x with
    | .ref i => match st1[i]? with
      | some (.lst ds) => match ds[ds.length - 1]? with
        | some d => .ok d (st1.set i (.lst ds.dropLast))
        | none => .stuck
      | _ => .stuck
    | _ => .stuck
  | .popi a e, env, st => (evE cal a env st).bind fun x st1 => match items x st1 with
    | some (true, _) => (evE cal e env st1).bind fun y st2 => match x, y with
      | .ref i, .int k => match st2[i]? with
        | some (.lst ds) => if decide (0 ≤ k) && decide (k < ds.length) && small ds.length then (match ds[k.toNat]? with
          | some d => .ok d (st2.set i (.lst (ds.eraseIdx k.toNat)))
          | none => .stuck) else .stuck
        | _ => .stuck
      | _, _ => .stuck
    | _ => .stuck
  | .idx a e, env, st => (evE cal a env st).bind fun x st1 => match items x st1 with
    | some (b, _) => (evE cal e env st1).bind fun y st2 => match items x st2 with
      | some (b', ds) => if (b == b') && ds.all D.flat && y.flat && small ds.length then (match findIx (fun z => D.eqv z y) ds with
        | some j => .ok (.int j) st2
        | none => .stuck) else .stuck
      | none => .stuck
    | none => .stuck
def evEs (cal : Cal) : Es → Env → Store → R (List D)
  | .nil, _, st => .ok [] st
  | .cons e es, env, st => (evE cal e env st).bind fun x st1 => (evEs cal es env st1).bind fun xs st2 => .ok (x :: xs) st2
  | .star l es, env, st => (evL cal l env st).bind fun r st1 => (evEs cal es env st1).bind fun xs st2 => .ok (r.2 ++ xs) st2
/-- and (k true), or: truths alone -/
def evB (cal : Cal) (k : Bool) : Es → Env → Store → R D
  | .nil, _, _ => .stuck
  | .cons e es, env, st => (evE cal e env st).bind fun x st1 => match x with
    | .bl b => if Es.isNil es then okB b st1 else if b == k then evB cal k es env st1 else okB b st1
    | _ => .stuck
  | .star _ _, _, _ => .stuck
def evO (cal : Cal) : O → Env → Store → R (Option Int)
  | .no, _, st => .ok none st
  | .at e, env, st => (evE cal e env st).bind fun x st1 => match x with
    | .int i => .ok (some i) st1
    | _ => .stuck
def evL (cal : Cal) : L → Env → Store → R (Bool × List D)
  | .of e, env, st => (evE cal e env st).bind fun x st1 => match items x st1 with
    | some r => .ok r st1
    | none => .stuck
  | .disp es, env, st => (evEs cal es env st).bind fun ds st1 => if small ds.length then .ok (true, ds) st1 else .stuck
  | .comp own t i cs elt, env, st => noExc ((evI cal i env st).bind fun J st1 =>
      (compL J (fun d env st => asT cal t d env st) (fun env acc st => (evC cal cs env st).bind fun b st2 =>
        if b then (evE cal elt env st2).bind fun d st3 => pushD acc d st3 else .ok acc st2) (wipeE env (own.map (·.2))) (J.len st1 + 1) 0 [] st1).bind fun ds st2 => .ok (true, ds) st2)
  | .comp2 own vs1 t i t2 i2 cs elt, env, st => noExc ((evI cal i env st).bind fun J st1 =>
      (compL J (fun d env st => asT cal t d env st) (fun env acc st => (evI cal i2 env st).bind fun J2 st2 =>
        compL J2 (fun d env st => asT cal t2 d env st) (fun env acc st => (evC cal cs env st).bind fun b st3 =>
          if b then (evE cal elt env st3).bind fun d st4 => pushD acc d st4 else .ok acc st3) (wipeE env vs1) (J2.len st2 + 1) 0 acc st2) (wipeE env (own.map (·.2))) (J.len st1 + 1) 0 [] st1).bind fun ds st2 => .ok (true, ds) st2)
  | .cat a b, env, st => match a with
    | .of e => (evE cal e env st).bind fun x st1 => (evL cal b env st1).bind fun y st2 => match items x st2 with
      | some r => catR r y st2
      | none => .stuck
    | a => (evL cal a env st).bind fun x st1 => (evL cal b env st1).bind fun y st2 => catR x y st2
  | .sl a lo hi, env, st => match a with
    | .of e => (evE cal e env st).bind fun x st1 => (evO cal lo env st1).bind fun l st2 => (evO cal hi env st2).bind fun h st3 => match items x st3 with
      | some r => .ok (r.1, cutL r.2 l h) st3
      | none => .stuck
    | a => (evL cal a env st).bind fun x st1 => (evO cal lo env st1).bind fun l st2 => (evO cal hi env st2).bind fun h st3 => .ok (x.1, cutL x.2 l h) st3
  | .listOf l, env, st => (evL cal l env st).bind fun r st1 => .ok (true, r.2) st1
  | .listR a, env, st => (evE cal a env st).bind fun x st1 => match x with
    | .int j => if smallI (4 * j) && small j.toNat then .ok (true, (List.range j.toNat).map fun i => .int (i : Nat)) st1 else .stuck
    | _ => .stuck
  | .sorted l, env, st => (evL cal l env st).bind fun r st1 => match r.1, sortD r.2 with
    | true, some ds => .ok (true, ds) st1
    | _, _ => .stuck
  | .sortedSet l, env, st => (evL cal l env st).bind fun r st1 => match intsD r.2 with
    | some ns => if decide (ns.length < 64) then .ok (true, (usort ns).map .int) st1 else .stuck
    | none => match r.1, prsD r.2 with
      | true, some cs => if decide (cs.length < 64) then .ok (true, (usort cs).map prD) st1 else .stuck
      | _, _ => .stuck
  | .rep a e, env, st => (evL cal a env st).bind fun r st1 => (evE cal e env st1).bind fun x st2 => match x with
    | .int j => if r.1 && decide (0 ≤ j) && decide (j ≤ 1000) && small (r.2.length * j.toNat) then .ok (true, (List.replicate j.toNat r.2).flatten) st2 else .stuck
    | _ => .stuck
def evC (cal : Cal) : Es → Env → Store → R Bool
  | .nil, _, st => .ok true st
  | .cons e es, env, st => (evE cal e env st).bind fun x st1 => match x with
    | .bl true => evC cal es env st1
    | .bl false => .ok false st1
    | _ => .stuck
  | .star _ _, _, _ => .stuck
def evI (cal : Cal) : I → Env → Store → R It
  | .of l, env, st => match l with
    | .of e => (evE cal e env st).bind fun x st1 => match x with
      | .tup ds => .ok (.ds false ds) st1
      | .lst ds => .ok (.ds true ds) st1
      | .ref a => match lstAt st1 a with
        | some _ => .ok (.lv a) st1
        | none => .stuck
      | _ => .stuck
    | l => (evL cal l env st).bind fun r st1 => .ok (.ds r.1 r.2) st1
  | .rng1 a, env, st => (evE cal a env st).bind fun x st1 => match x with
    | .int j => if smallI (4 * j) then .ok (.rng 0 j.toNat) st1 else .stuck
    | _ => .stuck
  | .rng2 a b, env, st => (evE cal a env st).bind fun x st1 => (evE cal b env st1).bind fun y st2 => match x, y with
    | .int i, .int j => if smallI (4 * i) && smallI (4 * j) then .ok (.rng i (j - i).toNat) st2 else .stuck
    | _, _ => .stuck
  | .enum i, env, st => (evI cal i env st).bind fun J st1 => if J.isL || J.isT then .ok (.enum J) st1 else .stuck
  | .zip a b, env, st => (evI cal a env st).bind fun x st1 => (evI cal b env st1).bind fun y st2 => if (x.its st2).isSome && ((x.isL && y.isL) || (x.isT && y.isT)) then .ok (.zip x y) st2 else .stuck
def asT (cal : Cal) : T → D → Env → Store → R Env
  | .nm i, d, env, st => .ok (env.set i (some d)) st
  | .tp ts, d, env, st => match d with
    | .tup ds => asTs cal ts ds env st
    | _ => .stuck
  | .sub a k, d, env, st => (evE cal a env st).bind fun x st1 => (evE cal k env st1).bind fun y st2 => match x, keyOf y with
    | .ref i, some k => match st2[i]? with
      | some (.dct kvs) => if small (kvs.length + 1) then .ok env (st2.set i (.dct (putK kvs k d))) else .stuck
      | _ => .stuck
    | _, _ => .stuck
def asTs (cal : Cal) : Ts → List D → Env → Store → R Env
  | .nil, ds, env, st => match ds with
    | [] => .ok env st
    | _ => .stuck
  | .cons t ts, ds, env, st => match ds with
    | d :: ds => (asT cal t d env st).bind fun env1 st1 => asTs cal ts ds env1 st1
    | _ => .stuck
end
mutual
def evS (cal : Cal) : S → Env → Store → R (Fl × Env)
  | .pass, env, st => .ok (.nx, env) st
  | .asg t e, env, st => (evE cal e env st).bind fun d st1 => (asT cal t d env st1).bind fun env1 st2 => .ok (.nx, env1) st2
  | .ex e, env, st => (evE cal e env st).bind fun _ st1 => .ok (.nx, env) st1
  | .ret e, env, st => (evE cal e env st).bind fun d st1 => .ok (.rt d, env) st1
  | .retN, env, st => .ok (.rt .non, env) st
  | .ifs c a b, env, st => (evE cal c env st).bind fun x st1 => match x with
    | .bl true => evSs cal a env st1
    | .bl false => evSs cal b env st1
    | _ => .stuck
  | .for t i b, env, st => (evI cal i env st).bind fun J st1 =>
      forL J (fun d env st => asT cal t d env st) (fun env st => evSs cal b env st) (J.len st1 + 1) 0 env st1
  | .whil c b, env, st => whileL (fun env st => evE cal c env st) (fun env st => evSs cal b env st) fuelW env st
  | .never, _, _ => .stuck
def evSs (cal : Cal) : Ss → Env → Store → R (Fl × Env)
  | .nil, env, st => .ok (.nx, env) st
  | .cons s ss, env, st => (evS cal s env st).bind fun r st1 => match r with
    | (.nx, env1) => evSs cal ss env1 st1
    | r => .ok r st1
end
structure FD where
  ps : Nat
  slots : Nat
  body : Ss
/-- the store behind a call: what it made and dropped is forgotten -/
def fin (st0 : Store) : R D → R D
  | .ok v st => if v.pure && stSame (st.take st0.length) st0 then .ok v st0 else
      match v with
      | .ref a => match st[a]? with
        | some (.lst ds) => if D.pures ds && decide (st0.length ≤ a) && stSame (st.take st0.length) st0 then .ok (.ref st0.length) (st0 ++ [.lst ds]) else .ok v st
        | _ => .ok v st
      | _ => .ok v st
  | r => r
/-- what a body's end gives -/
def endD (r : Fl × Env) (st : Store) : R D := match r.1 with
  | .rt d => .ok d st
  | .nx => .ok .non st
  | _ => .stuck
/-- a def's body, its arguments bound -/
def runD (cal : Cal) (fd : FD) (as : List D) (st : Store) : R D :=
  (evSs cal fd.body (as.map some ++ List.replicate (fd.slots - as.length) none) st).bind endD
def callD (Φ : Nat → Option FD) : Nat → Cal
  | 0 => fun _ _ _ => .stuck
  | n + 1 => fun f ds st => match Φ f with
    | none => .stuck
    | some fd => if ds.length = fd.ps then fin st (runD (callD Φ n) fd ds st) else .stuck
end PyD
namespace PyD
open PySem PySem.Spec PyProof.Rows L2
/-- a tuple that has no dict of its own: the object known, or the module's -/
def TupAt (K : PySem.W.Frag) (H : Hp) (p : Addr) (vs : List V) : Prop :=
  (∃ o, H p = some (.frz o (.tup vs)) ∧ o.dict = none) ∨
    ∃ (o : Obj) (its : Array Value) (n : Nat), K.lookup p = some o ∧ o.cls = .type "tuple" ∧ o.dict = none ∧ o.data = .seq its n ∧ its.size ≤ sizeLine ∧ Vals vs its.toList
theorem TupAt.seq {K : PySem.W.Frag} {H : Hp} {p : Addr} {vs : List V} (h : TupAt K H p vs) : SqT K H p vs := by
  rcases h with ⟨o, h, _⟩ | ⟨o, its, n, h1, h2, _, h3, h4, h5⟩
  · exact .inl (.inr ⟨o, h⟩)
  · exact .inr ⟨o, its, n, h1, h2, h3, h4, h5⟩
/-- a list that nothing changes: the object known, or the module's -/
def LstAt (K : PySem.W.Frag) (H : Hp) (p : Addr) (vs : List V) : Prop :=
  (∃ o, H p = some (.frz o (.lst vs))) ∨
    ∃ (o : Obj) (its : Array Value) (n : Nat), K.lookup p = some o ∧ o.cls = .type "list" ∧ o.dict = none ∧ o.data = .seq its n ∧ its.size ≤ sizeLine ∧ Vals vs its.toList
theorem LstAt.seq {K : PySem.W.Frag} {H : Hp} {p : Addr} {vs : List V} (h : LstAt K H p vs) : SqL K H p vs := by
  rcases h with ⟨o, h⟩ | ⟨o, its, n, h1, h2, h3, h4, h5, h6⟩
  · exact .inl (.inr ⟨o, h⟩)
  · exact .inr ⟨o, its, n, h1, h2, h3, h4, h5, h6⟩
section
variable (K : PySem.W.Frag)
mutual
inductive RepV (ρ : List Addr) (H : Hp) : D → V → Prop
  | non : RepV ρ H .non .non
  | bl (b : Bool) : RepV ρ H (.bl b) (.bl b)
  | int (i : Int) : RepV ρ H (.int i) (.int i)
  | str (x : Str) : RepV ρ H (.str x) (.str x)
  | tup {ds : List D} {p : Addr} {vs : List V} : TupAt K H p vs → RepVs ρ H ds vs → RepV ρ H (.tup ds) (.ref p)
  | lst {ds : List D} {p : Addr} {vs : List V} : LstAt K H p vs → RepVs ρ H ds vs → RepV ρ H (.lst ds) (.ref p)
  | ref {a : Nat} {p : Addr} : ρ[a]? = some p → RepV ρ H (.ref a) (.ref p)
inductive RepVs (ρ : List Addr) (H : Hp) : List D → List V → Prop
  | nil : RepVs ρ H [] []
  | cons {d : D} {v : V} {ds : List D} {vs : List V} : RepV ρ H d v → RepVs ρ H ds vs → RepVs ρ H (d :: ds) (v :: vs)
end
def RepK (ρ : List Addr) (H : Hp) : List ((Int ⊕ Str) × D) → List (Key × V) → Prop := Paired fun p q => p.1 = q.1 ∧ RepV K ρ H p.2 q.2
inductive RepO (ρ : List Addr) (H : Hp) : MO → HO → Prop
  | lst {ds : List D} {vs : List V} : RepVs K ρ H ds vs → RepO ρ H (.lst ds) (.lst vs)
  | dct {kvs : List ((Int ⊕ Str) × D)} {vs : List (Key × V)} : RepK K ρ H kvs vs → RepO ρ H (.dct kvs) (.dK vs)
structure Rel (ρ : List Addr) (st : Store) (H : Hp) : Prop where
  len : ρ.length = st.length
  nd : ρ.Nodup
  obj : ∀ (i : Nat) o p, st[i]? = some o → ρ[i]? = some p → ∃ ho, H p = some ho ∧ RepO K ρ H o ho
def RelE (ρ : List Addr) (H : Hp) (env : Env) (σ : L2.St) : Prop := env.length = σ.length ∧ ∀ (i : Nat) d, env[i]? = some (some d) → ∃ v, σ[i]? = some (some v) ∧ RepV K ρ H d v
end
/-- what stays, from one state to a later one -/
structure Kp (ρ ρ' : List Addr) (H H' : Hp) : Prop where
  pre : ∀ (i : Nat) p, ρ[i]? = some p → ρ'[i]? = some p
  frz : ∀ a o u, H a = some (.frz o u) → H' a = some (.frz o u)
  old : ∀ b o, H b = some o → b ∉ ρ → b ∉ ρ' ∧ H' b = some o
/-- the same, of what came behind Hs alone -/
structure KpS (Hs : Hp) (ρ ρ' : List Addr) (H H' : Hp) : Prop where
  pre : ∀ (i : Nat) p, ρ[i]? = some p → ρ'[i]? = some p
  frz : ∀ a o u, H a = some (.frz o u) → H' a = some (.frz o u)
  old : ∀ b o, Hs b = none → H b = some o → b ∉ ρ → b ∉ ρ' ∧ H' b = some o
section
variable {K : PySem.W.Frag} {ρ ρ' ρ1 ρ2 : List Addr} {H H' H1 H2 : Hp} {st : Store} {d : D} {v : V} {ds : List D} {vs : List V} {env : Env} {σ : L2.St}
theorem Kp.refl : Kp ρ ρ H H := ⟨fun _ _ h => h, fun _ _ _ h => h, fun _ _ h n => ⟨n, h⟩⟩
theorem Kp.trans (a : Kp ρ ρ1 H H1) (b : Kp ρ1 ρ2 H1 H2) : Kp ρ ρ2 H H2 :=
  ⟨fun i p h => b.pre i p (a.pre i p h), fun c o u h => b.frz c o u (a.frz c o u h), fun c o h n => by
    obtain ⟨n1, h1⟩ := a.old c o h n
    exact b.old c o h1 n1⟩
theorem TupAt.kp {a : Addr} {xs : List V} (k : Kp ρ ρ' H H') (h : TupAt K H a xs) : TupAt K H' a xs := by
  rcases h with ⟨o, h, d⟩ | h
  · exact .inl ⟨o, k.frz a o _ h, d⟩
  · exact .inr h
theorem LstAt.kp {a : Addr} {xs : List V} (k : Kp ρ ρ' H H') (h : LstAt K H a xs) : LstAt K H' a xs := h.imp (fun ⟨o, h⟩ => ⟨o, k.frz a o _ h⟩) id
mutual
theorem RepV.kp (k : Kp ρ ρ' H H') : ∀ {d : D} {v : V}, RepV K ρ H d v → RepV K ρ' H' d v
  | _, _, .non => .non
  | _, _, .bl b => .bl b
  | _, _, .int i => .int i
  | _, _, .str x => .str x
  | _, _, .tup h hs => .tup (TupAt.kp k h) (RepVs.kp k hs)
  | _, _, .lst h hs => .lst (LstAt.kp k h) (RepVs.kp k hs)
  | _, _, .ref h => .ref (k.pre _ _ h)
theorem RepVs.kp (k : Kp ρ ρ' H H') : ∀ {ds : List D} {vs : List V}, RepVs K ρ H ds vs → RepVs K ρ' H' ds vs
  | _, _, .nil => .nil
  | _, _, .cons h hs => .cons (RepV.kp k h) (RepVs.kp k hs)
end
theorem RepVs.pre (pre : ∀ (i : Nat) p, ρ[i]? = some p → ρ'[i]? = some p) (h : RepVs K ρ H ds vs) : RepVs K ρ' H ds vs :=
  RepVs.rec (motive_1 := fun d v _ => RepV K ρ' H d v) (motive_2 := fun ds vs _ => RepVs K ρ' H ds vs)
    .non .bl .int .str (fun h _ ih => .tup h ih) (fun h _ ih => .lst h ih) (fun h => .ref (pre _ _ h)) .nil (fun _ _ a b => .cons a b) h
theorem RepV.pre (pre : ∀ (i : Nat) p, ρ[i]? = some p → ρ'[i]? = some p) (h : RepV K ρ H d v) : RepV K ρ' H d v := by
  have := RepVs.pre pre (.cons h .nil)
  cases this with
  | cons a _ => exact a
theorem RepVs.mono (f : ∀ a o u, H a = some (.frz o u) → H' a = some (.frz o u)) (h : RepVs K ρ H ds vs) : RepVs K ρ H' ds vs :=
  RepVs.rec (motive_1 := fun d v _ => RepV K ρ H' d v) (motive_2 := fun ds vs _ => RepVs K ρ H' ds vs)
    .non .bl .int .str (fun h _ ih => .tup (h.imp (fun ⟨o, e, z⟩ => ⟨o, f _ _ _ e, z⟩) id) ih) (fun h _ ih => .lst (h.imp (fun ⟨o, e⟩ => ⟨o, f _ _ _ e⟩) id) ih) (fun h => .ref h) .nil (fun _ _ a b => .cons a b) h
theorem RepV.mono (f : ∀ a o u, H a = some (.frz o u) → H' a = some (.frz o u)) (h : RepV K ρ H d v) : RepV K ρ H' d v := by
  have := RepVs.mono f (.cons h .nil)
  cases this with
  | cons a _ => exact a
theorem KpS.of {Hs : Hp} (k : Kp ρ ρ' H H') : KpS Hs ρ ρ' H H' := ⟨k.pre, k.frz, fun b o _ h n => k.old b o h n⟩
theorem TupAt.kpS {Hs : Hp} {a : Addr} {xs : List V} (k : KpS Hs ρ ρ' H H') (h : TupAt K H a xs) : TupAt K H' a xs := h.imp (fun ⟨o, e, z⟩ => ⟨o, k.frz _ _ _ e, z⟩) id
theorem RepVs.kpS {Hs : Hp} (k : KpS Hs ρ ρ' H H') (h : RepVs K ρ H ds vs) : RepVs K ρ' H' ds vs := (h.mono k.frz).pre k.pre
theorem RepK.kp (k : Kp ρ ρ' H H') {kvs : List ((Int ⊕ Str) × D)} {vs : List (Key × V)} (h : RepK K ρ H kvs vs) : RepK K ρ' H' kvs vs :=
  Paired.mapP h fun _ _ q => ⟨q.1, q.2.kp k⟩
theorem RepO.kp (k : Kp ρ ρ' H H') {o : MO} {ho : HO} (h : RepO K ρ H o ho) : RepO K ρ' H' o ho := by
  cases h with
  | lst h => exact .lst (h.kp k)
  | dct h => exact .dct (h.kp k)
theorem RelE.kp (k : Kp ρ ρ' H H') (h : RelE K ρ H env σ) : RelE K ρ' H' env σ :=
  ⟨h.1, fun i d e => by
    obtain ⟨v, h1, h2⟩ := h.2 i d e
    exact ⟨v, h1, h2.kp k⟩⟩
theorem RepVs.length : ∀ {ds : List D} {vs : List V}, RepVs K ρ H ds vs → ds.length = vs.length
  | _, _, .nil => rfl
  | _, _, .cons _ hs => congrArg (· + 1) hs.length
theorem RepVs.get : ∀ {ds : List D} {vs : List V} {i : Nat} {d : D}, RepVs K ρ H ds vs → ds[i]? = some d → ∃ v, vs[i]? = some v ∧ RepV K ρ H d v
  | _, _, _, _, .nil, e => by simp at e
  | _, _, 0, _, .cons h _, e => by simp at e; subst e; exact ⟨_, rfl, h⟩
  | _, _, i + 1, d, .cons _ hs, e => by
    obtain ⟨v, h1, h2⟩ := RepVs.get (i := i) (d := d) hs (by simpa using e)
    exact ⟨v, by simpa using h1, h2⟩
theorem RepVs.get' : ∀ {ds : List D} {vs : List V} {i : Nat} {v : V}, RepVs K ρ H ds vs → vs[i]? = some v → ∃ d, ds[i]? = some d ∧ RepV K ρ H d v
  | _, _, _, _, .nil, e => by simp at e
  | _, _, 0, _, .cons h _, e => by simp at e; subst e; exact ⟨_, rfl, h⟩
  | _, _, i + 1, d, .cons _ hs, e => by
    obtain ⟨v, h1, h2⟩ := RepVs.get' (i := i) (v := d) hs (by simpa using e)
    exact ⟨v, by simpa using h1, h2⟩
theorem RepVs.append : ∀ {as bs : List D} {us ws : List V}, RepVs K ρ H as us → RepVs K ρ H bs ws → RepVs K ρ H (as ++ bs) (us ++ ws)
  | _, _, _, _, .nil, h => h
  | _, _, _, _, .cons a t, h => .cons a (RepVs.append t h)
theorem RepVs.take : ∀ {ds : List D} {vs : List V} (n : Nat), RepVs K ρ H ds vs → RepVs K ρ H (ds.take n) (vs.take n)
  | _, _, 0, _ => .nil
  | _, _, _ + 1, .nil => .nil
  | _, _, n + 1, .cons a t => .cons a (RepVs.take n t)
theorem RepVs.drop : ∀ {ds : List D} {vs : List V} (n : Nat), RepVs K ρ H ds vs → RepVs K ρ H (ds.drop n) (vs.drop n)
  | _, _, 0, h => h
  | _, _, _ + 1, .nil => .nil
  | _, _, n + 1, .cons _ t => RepVs.drop n t
theorem RepVs.dropLast : ∀ {ds : List D} {vs : List V}, RepVs K ρ H ds vs → RepVs K ρ H ds.dropLast vs.dropLast
  | _, _, .nil => .nil
  | _, _, .cons a .nil => .nil
  | _, _, .cons a (.cons b t) => .cons a (RepVs.dropLast (.cons b t))
theorem RepVs.eraseIdx : ∀ {ds : List D} {vs : List V} (n : Nat), RepVs K ρ H ds vs → RepVs K ρ H (ds.eraseIdx n) (vs.eraseIdx n)
  | _, _, _, .nil => .nil
  | _, _, 0, .cons _ t => t
  | _, _, n + 1, .cons a t => .cons a (RepVs.eraseIdx n t)
theorem RepVs.one {d : D} {vs : List V} (h : RepVs K ρ H [d] vs) : ∃ v, vs = [v] ∧ RepV K ρ H d v := by
  cases h with
  | cons a t => cases t; exact ⟨_, rfl, a⟩
theorem RepVs.of_get : ∀ {ds : List D} {vs : List V}, ds.length = vs.length → (∀ (i : Nat) d v, ds[i]? = some d → vs[i]? = some v → RepV K ρ H d v) → RepVs K ρ H ds vs
  | [], [], _, _ => .nil
  | [], _ :: _, e, _ => by simp at e
  | _ :: _, [], e, _ => by simp at e
  | d :: ds, v :: vs, e, h => .cons (h 0 d v rfl rfl) (RepVs.of_get (by simpa using e) fun i d' v' h1 h2 => h (i + 1) d' v' (by simpa using h1) (by simpa using h2))
theorem Rel.at (r : Rel K ρ st H) {a : Nat} {o : MO} {p : Addr} (h : st[a]? = some o) (hp : ρ[a]? = some p) : ∃ ho, H p = some ho ∧ RepO K ρ H o ho := r.obj a o p h hp
theorem Rel.mem (r : Rel K ρ st H) {p : Addr} (h : p ∈ ρ) : ∃ ho, H p = some ho := by
  obtain ⟨i, hi, e⟩ := List.mem_iff_getElem.mp h
  have h1 : ρ[i]? = some p := by rw [List.getElem?_eq_getElem hi, e]
  obtain ⟨o, hO⟩ : ∃ o, st[i]? = some o := ⟨_, List.getElem?_eq_getElem (show i < st.length by rw [← r.len]; exact hi)⟩
  obtain ⟨ho, h2, h3⟩ := r.obj i o p hO h1
  exact ⟨ho, h2⟩
theorem Rel.fresh (r : Rel K ρ st H) {p : Addr} (h : H p = none) : p ∉ ρ := fun hm => by
  obtain ⟨ho, e⟩ := r.mem hm
  rw [h] at e
  cases e
theorem Rel.inj (r : Rel K ρ st H) {i j : Nat} {p : Addr} (h1 : ρ[i]? = some p) (h2 : ρ[j]? = some p) : i = j := by
  obtain ⟨a1, e1⟩ := List.getElem?_eq_some_iff.mp h1
  obtain ⟨a2, e2⟩ := List.getElem?_eq_some_iff.mp h2
  exact (List.getElem_inj r.nd).mp (e1.trans e2.symm)
/-- a new thing that is not in the store -/
theorem Kp.upd {p : Addr} {o : HO} (hn : H p = none) : Kp ρ ρ H (upd H p o) := by
  refine ⟨fun _ _ h => h, fun a o u h => ?_, fun b u h n => ⟨n, ?_⟩⟩
  · rw [upd_ne (ne_of_none h hn)]; exact h
  · rw [upd_ne (ne_of_none h hn)]; exact h
theorem Rel.kp (r : Rel K ρ st H) (k : Kp ρ ρ H H') (h : ∀ p ∈ ρ, H' p = H p) : Rel K ρ st H' :=
  ⟨r.len, r.nd, fun i o p h1 h2 => by
    obtain ⟨ho, h3, h4⟩ := r.obj i o p h1 h2
    exact ⟨ho, by rw [h p (List.mem_of_getElem? h2)]; exact h3, h4.kp k⟩⟩
theorem Rel.upd (r : Rel K ρ st H) {p : Addr} {o : HO} (hn : H p = none) : Rel K ρ st (upd H p o) :=
  r.kp (Kp.upd hn) fun q hq => upd_ne fun e => r.fresh hn (e ▸ hq)
/-- an untracked thing comes into the store -/
theorem Rel.push (r : Rel K ρ st H) {p : Addr} {o : MO} {ho : HO} (hp : H p = some ho) (hn : p ∉ ρ) (h : RepO K ρ H o ho) : Rel K (ρ ++ [p]) (st ++ [o]) H := by
  have k : Kp ρ (ρ ++ [p]) H H → True := fun _ => trivial
  have pre : ∀ i q, ρ[i]? = some q → (ρ ++ [p])[i]? = some q := fun i q h => by
    rw [List.getElem?_append_left (List.getElem?_eq_some_iff.mp h).1]; exact h
  have lift : ∀ {o : MO} {ho : HO}, RepO K ρ H o ho → RepO K (ρ ++ [p]) H o ho := by
    intro o ho h
    have lv : ∀ {ds : List D} {vs : List V}, RepVs K ρ H ds vs → RepVs K (ρ ++ [p]) H ds vs := fun {ds vs} h => by
      have rec1 : ∀ {ds : List D} {vs : List V}, RepVs K ρ H ds vs → RepVs K (ρ ++ [p]) H ds vs :=
        fun h => RepVs.rec (motive_1 := fun d v _ => RepV K (ρ ++ [p]) H d v) (motive_2 := fun ds vs _ => RepVs K (ρ ++ [p]) H ds vs)
          .non .bl .int .str (fun h _ ih => .tup h ih) (fun h _ ih => .lst h ih) (fun h => .ref (pre _ _ h)) .nil (fun _ _ a b => .cons a b) h
      exact rec1 h
    have lv1 : ∀ {d : D} {v : V}, RepV K ρ H d v → RepV K (ρ ++ [p]) H d v := fun h => by
      have := lv (.cons h .nil)
      cases this with
      | cons a _ => exact a
    cases h with
    | lst h => exact .lst (lv h)
    | dct h => exact .dct (Paired.mapP h fun _ _ q => ⟨q.1, lv1 q.2⟩)
  refine ⟨by simp [r.len], List.nodup_append.mpr ⟨r.nd, by simp, fun a ha b hb => by simp at hb; subst hb; exact fun e => hn (e ▸ ha)⟩, fun i u q h1 h2 => ?_⟩
  by_cases hi : i < st.length
  · rw [List.getElem?_append_left hi] at h1
    rw [List.getElem?_append_left (by rw [r.len]; exact hi)] at h2
    obtain ⟨ho', h3, h4⟩ := r.obj i u q h1 h2
    exact ⟨ho', h3, lift h4⟩
  · rw [List.getElem?_append_right (by omega)] at h1
    rw [List.getElem?_append_right (by rw [r.len]; omega)] at h2
    have e : i - st.length = 0 := by
      by_cases e : i - st.length = 0
      · exact e
      · rw [List.getElem?_eq_none (by simp; omega)] at h1; cases h1
    have e2 : i - ρ.length = 0 := by rw [r.len]; exact e
    rw [e] at h1
    rw [e2] at h2
    simp at h1 h2
    subst h1 h2
    exact ⟨ho, hp, lift h⟩
/-- what stood before, when a new one (untracked at the start's heap) comes in -/
theorem Kp.push (k : Kp ρ ρ1 H H1) {p : Addr} (hn : H p = none) : Kp ρ (ρ1 ++ [p]) H H1 :=
  ⟨fun i q h => by
    have h1 := k.pre i q h
    rw [List.getElem?_append_left (List.getElem?_eq_some_iff.mp h1).1]; exact h1, k.frz, fun b o h n => by
    obtain ⟨n1, h1⟩ := k.old b o h n
    refine ⟨fun hm => ?_, h1⟩
    rcases List.mem_append.mp hm with hm | hm
    · exact n1 hm
    · simp at hm; subst hm; rw [hn] at h; cases h⟩
/-- a thing of the store is changed -/
theorem Kp.write (r : Rel K ρ st H) {p : Addr} {a : Nat} {ho : HO} (hp : ρ[a]? = some p) (hm : ∀ o u, H p ≠ some (.frz o u)) : Kp ρ ρ H (L2.upd H p ho) := by
  refine ⟨fun _ _ h => h, fun b o u h => ?_, fun b u h n => ⟨n, ?_⟩⟩
  · have ne : b ≠ p := fun e => hm o u (e ▸ h)
    rw [upd_ne ne]; exact h
  · have ne : b ≠ p := fun e => n (e ▸ List.mem_of_getElem? hp)
    rw [upd_ne ne]; exact h
theorem Rel.write (r : Rel K ρ st H) {p : Addr} {a : Nat} {o : MO} {ho : HO} (hp : ρ[a]? = some p) (hm : ∀ o u, H p ≠ some (.frz o u)) (h : RepO K ρ H o ho) : Rel K ρ (st.set a o) (L2.upd H p ho) := by
  have k : Kp ρ ρ H (L2.upd H p ho) := Kp.write r hp hm
  refine ⟨by simp [r.len], r.nd, fun i u q h1 h2 => ?_⟩
  by_cases e : i = a
  · subst e
    rw [hp] at h2
    cases h2
    have hi : i < st.length := by rw [← r.len]; exact (List.getElem?_eq_some_iff.mp hp).1
    rw [List.getElem?_set_self hi] at h1
    cases h1
    exact ⟨ho, upd_same, h.kp k⟩
  · rw [List.getElem?_set_ne (Ne.symm e)] at h1
    obtain ⟨ho', h3, h4⟩ := r.obj i u q h1 h2
    have ne : q ≠ p := fun z => e (r.inj (z ▸ h2) hp)
    exact ⟨ho', by rw [upd_ne ne]; exact h3, h4.kp k⟩
/-- a fresh tuple -/
theorem RepV.newTup {p : Addr} {o : Obj} (hn : H p = none) (hd : o.dict = none) (h : RepVs K ρ H ds vs) : RepV K ρ (L2.upd H p (.frz o (.tup vs))) (.tup ds) (.ref p) :=
  .tup (.inl ⟨o, upd_same, hd⟩) (h.kp (Kp.upd hn))
/-- a list of the store, seen -/
theorem Rel.items (r : Rel K ρ st H) {a : Nat} {p : Addr} (hp : ρ[a]? = some p) {ds : List D} (h : st[a]? = some (.lst ds)) : ∃ vs, SqL K H p vs ∧ RepVs K ρ H ds vs := by
  obtain ⟨ho, e, q⟩ := r.at h hp
  cases q with
  | lst q => exact ⟨_, .inl (.inl e), q⟩
/-- an untracked thing is changed -/
theorem Rel.out (r : Rel K ρ st H) {p : Addr} {o : HO} (hn : p ∉ ρ) (hm : ∀ o u, H p ≠ some (.frz o u)) : Rel K ρ st (L2.upd H p o) := by
  have f : ∀ a o' u, H a = some (.frz o' u) → L2.upd H p o a = some (.frz o' u) := fun a o' u e => by
    have ne : a ≠ p := fun z => hm o' u (z ▸ e)
    rw [upd_ne ne]; exact e
  refine ⟨r.len, r.nd, fun i o' q h1 h2 => ?_⟩
  obtain ⟨ho, h3, h4⟩ := r.obj i o' q h1 h2
  have ne : q ≠ p := fun z => hn (z ▸ List.mem_of_getElem? h2)
  refine ⟨ho, by rw [upd_ne ne]; exact h3, ?_⟩
  cases h4 with
  | lst h => exact .lst (h.mono f)
  | dct h => exact .dct (Paired.mapP h fun _ _ z => ⟨z.1, z.2.mono f⟩)
theorem Kp.out {ρ0 : List Addr} {H0 : Hp} (k : Kp ρ0 ρ H0 H) {p : Addr} {o : HO} (hn : H0 p = none) : Kp ρ0 ρ H0 (L2.upd H p o) :=
  ⟨k.pre, fun a o' u h => by
    rw [upd_ne (ne_of_none h hn)]; exact k.frz a o' u h, fun b u h n => by
    obtain ⟨h1, h2⟩ := k.old b u h n
    exact ⟨h1, by rw [upd_ne (ne_of_none h hn)]; exact h2⟩⟩
end
end PyD
namespace PyD
open PySem PySem.Spec PyProof.Rows L2
/-- room, and no repr under way -/
structure RoomG (k : Nat) (A : Around) : Prop where
  r : Room k A
  g : A.guards = some []
theorem RoomG.deeper {k : Nat} {A : Around} (r : RoomG (k + 1) A) (env : L2.St → PySem.Env) (σ : L2.St) : RoomG k (A.deeper (env σ)) := ⟨r.r.deeper _, r.g⟩
theorem RoomG.mono {j k : Nat} {A : Around} (r : RoomG k A) (h : j ≤ k) : RoomG j A := ⟨r.r.mono h, r.g⟩
structure FnG (P : Program) (w : World) (K : PySem.W.Frag) (mg : Str → Option Value) (base : Heap)
    (C : CXT) (k : Nat) (f : Addr) (fd : FuncData) (ps : List Str) (sp : Sp) : Prop where
  len : ∀ vs H Q E, sp vs H Q E → vs.length = ps.length
  run : ∀ (A : Around) (outer : List PySem.Env) (s : Shared) (H : Hp) (args : Args) (us : List Value) (vs : List V) (Q : VK) (E : XK),
    RoomG k A → Env0 P w K mg base A outer s H → BindsTo s fd args (ps.zip us) → Vals vs us → sp vs H Q E →
    codeAny (model P w) A (.call (.ref f) args) (CR C outer P w H s Q E) s
section
variable {X : Cx} {C : CXT} {k : Nat} {f : Addr} {fd : FuncData} {ps : List Str} {sp : Sp} {E : XK}
/-- the callee runs, its arguments bound as bz says -/
theorem run_fnG {pins : List (Addr × Obj)} {σ : L2.St} {H : Hp} {s : Shared} {Q : VK} {args : Args} {us : List Value} {vs : List V}
    (F : FnG X.prog X.w X.K X.mg X.base C k f fd ps sp) (hr : RoomG k X.A) (hx : Passes C X E) (I : Inv X pins σ H s)
    (hb : BindsTo s fd args (ps.zip us)) (r : Vals vs us) (h : sp vs H Q E) :
    wpAny (model X.prog X.w) X.A (PySem.call (.ref f) args.pos args.kw) (EP X pins σ Q) X.xe s := by
  refine wpAny_call (codeAny_mono (F.run X.A X.stack s H args us vs Q E hr I.env0 hb r h) fun q t hq => ?_)
  cases q with
  | error e =>
    exact hx pins σ H s e t I hq
  | ok fl =>
    cases fl with
    | ret u =>
      exact I.after hq
    | next => cases hq
    | brk => cases hq
    | cont => cases hq
end
/-- the rule for a def by its body -/
theorem fn_ofG {C : CXT} {P : Program} {w : World} {K : PySem.W.Frag} {mg : Str → Option Value} {base : Heap} {k : Nat} {f : Addr}
    {name qual : Str} {params : Arguments} {body : List Stmt} {scope : Scope} {dV kV doc pm cdv ct oc : Value} {an od : Option Addr}
    {osl : Array (Option Value)} {N ps : List Str} {sp : Sp}
    (lk : K.lookup f = some ⟨oc, od, .func (PySem.W.fnOf name qual params body scope dV kV doc pm an cdv ct), osl⟩)
    (hcd : PySem.W.codeIn K cdv qual = true) (S : FnScope N ps scope) (len : ∀ vs H Q E, sp vs H Q E → vs.length = ps.length)
    (hbody : ∀ (A : Around) (outer : List PySem.Env) (s : Shared) (H : Hp) (vs : List V) (Q : VK) (E : XK),
      RoomG k (A.deeper (envOfC qual scope s.heap.objs.size f cdv)) → sp vs H Q E →
      ∃ t, PSs (cxOf C P w K mg base N qual scope f cdv A outer s H E) body t ∧ t { nx := fun _ H' => Q .non H', rt := Q } (L2.start N vs) H) :
    FnG P w K mg base C (k + 1) f (PySem.W.fnOf name qual params body scope dV kV doc pm an cdv ct) ps sp := by
  refine ⟨len, fun A outer s H args us vs Q E hr e0 hb r hsp => ?_⟩
  have hl : vs.length = ps.length := len _ _ _ _ hsp
  have up : ∀ b o, base.get? b = some o → s.heap.get? b = some o := fun b o e => (e0.bs b o e).1
  have KX : K.In s.heap := e0.mod.kin.keeps up
  have hkind : ∀ y ∈ ps.zip us, scope.names.lookup y.1 = some .local ∨
      (scope.names.lookup y.1 = some .cell ∧ ((cellsFrom (s.heap.objs.size + 1) scope.names []).lookup y.1).isSome = true) := by
    rintro ⟨n, v⟩ hy
    refine (S.par n (List.of_mem_zip hy).1).imp id fun q => ⟨q, ?_⟩
    exact PySem.W.cellsFrom_some _ _ _ (.inl q)
  refine codeAny_call_function hr.r.depth (KX _ _ lk) rfl S.co S.gen rfl (PySem.W.codeRec_of KX hcd) (hb _ _ _ _ ?_)
  refine wpAny_newFunctionEnv_cells S.kind hkind fun env he t x => ?_
  subst he
  refine ⟨(e0.mod.nolimit.keeps up).keeps x.toInCall.keep, codeAny_func ?_⟩
  obtain ⟨tt, ht, hq⟩ := hbody A outer s H vs Q E ⟨hr.r.deeper _, hr.g⟩ hsp
  have I : Inv (cxOf C P w K mg base N qual scope f cdv A outer s H E) [] (L2.start N vs) H t := inv_start S hr.r.hd e0 hl r x
  refine wpAny_mono (ht.run [] t (L2.start N vs) H _ I hq) (fun fl u hs => ?_) (fun e u hs => hs)
  cases fl with
  | ret z =>
    obtain ⟨v, σ', H', J, rv, q⟩ := hs
    exact ⟨v, H', J.os, J.bare, J.base, J.hok, rv, q⟩
  | next =>
    obtain ⟨σ', H', J, q⟩ := hs
    exact ⟨.non, H', J.os, J.bare, J.base, J.hok, rfl, q⟩
  | brk =>
    obtain ⟨_, _, _, q⟩ := hs
    cases q
  | cont =>
    obtain ⟨_, _, _, q⟩ := hs
    cases q
theorem law_callG {P : Program} {w : World} {K : PySem.W.Frag} {mg mb : Str → Option Value} {C : CXT} {k : Nat} {fa a : Addr} {fd : FuncData}
    {x : Str} {sp : Sp} {s : Shared} {vs : List Value} {ns : List Int} (KX : K.In s.heap) (hns : s.heap.Ns mainGlobals mg)
    (hb : s.heap.Ns builtinsNs mb) (hbb : ∀ x : Str, x ≠ "__name__" → mb x = bootBuiltins x) (hlim : s.heap.NoLimit) (hg : s.gens = #[])
    (ha : s.heap.get? a = some { cls := .type "list", data := .seq vs.toArray }) (hi : IntsAre vs ns) (hl : ns.length ≤ sizeLine)
    (hr : RoomG k callerA) (F : ∀ base : Heap, K.In base → base.Ns mainGlobals mg → FnG P w K mg base C k fa fd [x] sp)
    (hbind : ∀ (s : Shared) (u : Value), K.In s.heap → BindsTo s fd ⟨[u], []⟩ [(x, u)])
    (hsp : ∀ H : Hp, Only H → SqL K H a (ns.map V.int) → sp [.ref a] H (fun v _ => v = .bl true) fun _ _ _ => False)
    (hC : ∀ H e t, C [] H s (fun _ _ _ => False) e t → False) :
    codeAny (model P w) callerA (.call (.ref fa) ⟨[.ref a], []⟩)
      (fun r t => r = .ok (.ret (.bool true)) ∧ OldK s.heap t.heap ∧ t.os = s.os ∧ AllBare t.gens) s := by
  have rv := vals_ints hi
  have core : ∀ H : Hp, Only H → SqL K H a (ns.map V.int) → HOk P w H s.heap → (∀ b, H b ≠ none → b = a ∧ K.lookup b = none) →
      codeAny (model P w) callerA (.call (.ref fa) ⟨[.ref a], []⟩)
        (fun r t => r = .ok (.ret (.bool true)) ∧ OldK s.heap t.heap ∧ t.os = s.os ∧ AllBare t.gens) s := by
    intro H hO hS hok hA
    have free : ∀ {b : Addr}, ¬ (b = a ∧ K.lookup b = none) → H b = none := fun {b} n => by
      by_cases q : H b = none
      · exact q
      · exact absurd (hA b q) n
    have nsK : ∀ {b : Addr} {m : Str → Option Value}, s.heap.Ns b m → (hidT s.heap H).Ns b m := by
      rintro b m ⟨o, es, ep, e, d, r⟩
      refine ⟨o, es, ep, hidT_get e (free ?_), d, r⟩
      rintro ⟨rfl, _⟩
      rw [ha] at e
      cases e
      cases d
    have hKb : K.In (hidT s.heap H) := fun b o e => hidT_get (KX b o e) (free fun z => by
      rw [z.2] at e
      cases e)
    obtain ⟨mc, h1, h2⟩ := hlim
    have hM : Mod K mg (hidT s.heap H) := ⟨hKb, nsK hns, ⟨mb, nsK hb, hbb⟩, ⟨mc, nsK h1, h2⟩⟩
    have e0 : Env0 P w K mg (hidT s.heap H) callerA [] s H :=
      ⟨rfl, hM, fun b o e => of_hidT e, Nat.le_of_eq (hidT_size _ _), trivial, fun b hb => absurd hb (by simp [frs]), hok, .of_eq hg⟩
    have go := (F _ hKb (nsK hns)).run callerA [] s H ⟨[.ref a], []⟩ [.ref a] [.ref a] _ _ hr e0 (hbind s (.ref a) KX) (.cons rfl .nil) (hsp H hO hS)
    refine codeAny_mono go fun r t h => ?_
    cases r with
    | error e => exact (hC H e t h).elim
    | ok fl =>
      cases fl with
      | next => cases h
      | brk => cases h
      | cont => cases h
      | ret u =>
        obtain ⟨v, H', os, bare, un, hok', r', q⟩ := h
        have q' : v = .bl true := q
        subst q'
        have r2 : u = Value.bool true := r'
        subst r2
        refine ⟨rfl, OldK.of_keep fun b o e => ?_, os, bare⟩
        rcases hO b with q | ⟨ob, xs, z⟩
        · exact un.keep b o e q (by simp [frs]) (by simp)
        · obtain ⟨e1, _⟩ := hok b _ z
          obtain ⟨e2, _⟩ := hok' b _ (un.frzs b ob _ z)
          exact e2.trans (e1.symm.trans e)
  by_cases hk : K.lookup a = none
  · let ob : Obj := { cls := .type "list", data := .seq vs.toArray }
    refine core (fun b => if b = a then some (.frz ob (.lst (ns.map V.int))) else none) (fun b => ?_) (.inl (.inr ⟨ob, if_pos rfl⟩)) (fun b u z => ?_) (fun b z => ?_)
    · by_cases e : b = a
      · exact .inr ⟨_, _, if_pos e⟩
      · exact .inl (if_neg e)
    · by_cases e : b = a
      · have z2 := (if_pos e).symm.trans z
        cases z2
        subst e
        exact ⟨ha, by rw [List.length_map]; exact hl, vs, _, rv, ha⟩
      · have z2 := (if_neg e).symm.trans z
        cases z2
    · by_cases e : b = a
      · exact ⟨e, by rw [e]; exact hk⟩
      · exact absurd (if_neg e) z
  · obtain ⟨o, hk⟩ := Option.ne_none_iff_exists'.mp hk
    have e := KX a o hk
    rw [ha] at e
    cases e
    refine core (fun _ => none) (fun _ => .inl rfl) (.inr ⟨_, vs.toArray, _, hk, rfl, rfl, rfl, ?_, by simpa using rv⟩) (fun b u z => nomatch z) (fun b z => absurd rfl z)
    rw [List.size_toArray, hi.length]
    exact hl
/-- a law, by facts read at the head -/
theorem walk_ofG {l : PySem.W.OpenLaw} {n k : Nat} {q : Program} {loose : List Str} {XP : (Str → Option Value) → Heap → Prop}
    {YP : World → Heap → Prop} {d : DefRec} {C : CXT} {x : Str} (hn : l.most = some n) (hn2 : n ≤ sizeLine)
    (hdf : d.params.defaults = []) (hr : RoomG k callerA)
    (F : ∀ (w : World) (mg : Str → Option Value) (fa : Addr) (h : Heap), YP w h → h.Ns mainGlobals mg → mg d.name = some (.ref fa) →
      ∃ (K : PySem.W.Frag) (fd : FuncData) (sp : Sp), K.In h ∧ (∀ (s : Shared) (u : Value), K.In s.heap → BindsTo s fd ⟨[u], []⟩ [(x, u)]) ∧
        (∀ (H : Hp) (a : Addr) (ns : List Int), ns.length ≤ n → Only H → SqL K H a (ns.map V.int) →
          sp [.ref a] H (fun v _ => v = .bl true) fun _ _ _ => False) ∧
        ∀ base : Heap, K.In base → base.Ns mainGlobals mg → FnG l.prog w K mg base C k fa fd [x] sp)
    (hC : ∀ (H : Hp) (s : Shared) (e : Value) (t : Shared), C [] H s (fun _ _ _ => False) e t → False) :
    PySem.W.WalkO q loose XP YP l.row.toRowW d [] (fun f vs => PySem.call f vs) := by
  refine Att.attach_call hn hdf fun w s0 s1 mg mb fa o pm cd doc a vs ns G Y ho hd hcd hmg hobj hints hlen hg => ?_
  obtain ⟨K, fd, sp, KX, hb, hsp, hF⟩ := F w mg fa _ Y G.T.g hmg
  exact law_callG KX G.T.g G.T.b G.T.builtins G.T.nolimit hg hobj hints (Nat.le_trans hlen hn2) hr hF hb
    (fun H hO hS => hsp H a ns hlen hO hS) fun H e t => hC H s1 e t
end PyD
namespace PyD
open PySem PySem.Spec PyProof.Rows L2
theorem int_beq (i j : Int) : (i == j) = decide (i = j) := by
  by_cases h : i = j
  · subst h; simp
  · rw [decide_eq_false h]; exact beq_eq_false_iff_ne.mpr h
theorem str_beq (i j : Str) : (i == j) = decide (i = j) := by
  by_cases h : i = j
  · subst h; simp
  · rw [decide_eq_false h]; exact beq_eq_false_iff_ne.mpr h
mutual
theorem eqv_py : ∀ a b : D, PyData.eqv a.py b.py = D.eqv a b
  | .non, b => by cases b <;> simp [D.py, PyData.eqv, D.eqv]
  | .bl a, b => by cases b <;> simp [D.py, PyData.eqv, D.eqv, int_beq]
  | .int a, b => by cases b <;> simp [D.py, PyData.eqv, D.eqv, int_beq]
  | .str a, b => by cases b <;> simp [D.py, PyData.eqv, D.eqv, str_beq]
  | .tup a, b => by
    cases b with
    | tup b => simp only [D.py, PyData.eqv, D.eqv]; exact eqvs_pys a b
    | _ => simp [D.py, PyData.eqv, D.eqv]
  | .lst a, b => by
    cases b with
    | lst b => simp only [D.py, PyData.eqv, D.eqv]; exact eqvs_pys a b
    | _ => simp [D.py, PyData.eqv, D.eqv]
  | .ref a, b => by cases b <;> simp [D.py, PyData.eqv, D.eqv]
theorem eqvs_pys : ∀ a b : List D, PyData.eqvAll (D.pys a) (D.pys b) = D.eqvs a b
  | [], [] => by simp [D.pys, PyData.eqvAll, D.eqvs]
  | [], _ :: _ => by simp [D.pys, PyData.eqvAll, D.eqvs]
  | _ :: _, [] => by simp [D.pys, PyData.eqvAll, D.eqvs]
  | a :: as, b :: bs => by
    simp only [D.pys, PyData.eqvAll, D.eqvs]
    rw [eqv_py a b, eqvs_pys as bs]
end
mutual
theorem plain_py : ∀ a : D, a.py.plain = true
  | .non => rfl
  | .bl _ => rfl
  | .int _ => rfl
  | .str _ => rfl
  | .tup a => by simp only [D.py, PyData.plain]; exact plains_py a
  | .lst a => by simp only [D.py, PyData.plain]; exact plains_py a
  | .ref _ => rfl
theorem plains_py : ∀ a : List D, PyData.plainAll (D.pys a) = true
  | [] => rfl
  | a :: as => by simp only [D.pys, PyData.plainAll, plain_py a, plains_py as, Bool.and_self]
end
mutual
theorem noDict_py : ∀ a : D, a.py.hasDict = false
  | .non => rfl
  | .bl _ => rfl
  | .int _ => rfl
  | .str _ => rfl
  | .tup a => by simp only [D.py, PyData.hasDict]; exact noDicts_py a
  | .lst a => by simp only [D.py, PyData.hasDict]; exact noDicts_py a
  | .ref _ => rfl
theorem noDicts_py : ∀ a : List D, PyData.hasDictAll (D.pys a) = false
  | [] => rfl
  | a :: as => by simp only [D.pys, PyData.hasDictAll, noDict_py a, noDicts_py as, Bool.or_self]
end
theorem mapM_cons_some {α β : Type} {f : α → Option β} {a : α} {as : List α} {bs : List β} (h : (a :: as).mapM f = some bs) : ∃ b cs, f a = some b ∧ as.mapM f = some cs ∧ bs = b :: cs := by
  rw [List.mapM_cons] at h
  cases e1 : f a with
  | none => rw [e1] at h; cases h
  | some b =>
    rw [e1] at h
    cases e2 : as.mapM f with
    | none => rw [e2] at h; cases h
    | some cs => rw [e2] at h; cases h; exact ⟨b, cs, rfl, rfl, rfl⟩
section
variable {X : Cx} {pins : List (Addr × Obj)} {σ : L2.St} {H : Hp} {s : Shared} {ρ : List Addr} {st : Store}
/-- what is seen of the store is read of the heap -/
theorem reads_see (I : Inv X pins σ H s) (r : Rel X.K ρ st H) : ∀ (n : Nat) (d : D) (v : V) (u : Value) (e : D), RepV X.K ρ H d v → RelV v u → see st n d = some e → ∃ as, Reads s.heap u e.py as ∧ e.py.depth ≤ n
  | 0, _, _, _, _, _, _, h => by simp [see] at h
  | n + 1, d, v, u, e, rv, ru, h => by
    have each : ∀ (ds : List D) (vs : List V) (us : List Value) (es : List D), RepVs X.K ρ H ds vs → Vals vs us → ds.mapM (see st n) = some es → ∃ as, ReadsAll s.heap us (D.pys es) as ∧ PyData.depthAll (D.pys es) ≤ n := by
      intro ds
      induction ds with
      | nil =>
        intro vs us es a b c
        cases a
        cases b
        rw [List.mapM_nil] at c
        cases c
        exact ⟨[], .nil, by simp [D.pys, PyData.depthAll]⟩
      | cons d ds ih =>
        intro vs us es a b c
        cases a with
        | cons a1 a2 =>
          cases b with
          | cons b1 b2 =>
            obtain ⟨e1, es1, c1, c2, rfl⟩ := mapM_cons_some c
            obtain ⟨as1, h1, k1⟩ := reads_see I r n d _ _ e1 a1 b1 c1
            obtain ⟨as2, h2, k2⟩ := ih _ _ _ a2 b2 c2
            refine ⟨as1 ++ as2, by simp only [D.pys]; exact .cons h1 h2, ?_⟩
            simp only [D.pys, PyData.depthAll]
            exact Nat.max_le.mpr ⟨k1, k2⟩
    cases rv with
    | non => cases ru; simp only [see, Option.some.injEq] at h; subst h; exact ⟨_, .none, by simp [D.py, PyData.depth]⟩
    | bl b => cases ru; simp only [see, Option.some.injEq] at h; subst h; exact ⟨_, .bool b, by simp [D.py, PyData.depth]⟩
    | int i => obtain ⟨t, rfl⟩ := ru; simp only [see, Option.some.injEq] at h; subst h; exact ⟨_, .int i t, by simp [D.py, PyData.depth]⟩
    | str x => obtain ⟨t, rfl⟩ := ru; simp only [see, Option.some.injEq] at h; subst h; exact ⟨_, .str x t, by simp [D.py, PyData.depth]⟩
    | tup hp hs =>
      cases ru
      simp only [see] at h
      rename_i ds p vs
      cases e1 : ds.mapM (see st n) with
      | none => rw [e1] at h; cases h
      | some es =>
        rw [e1] at h
        cases h
        obtain ⟨its, rv, ⟨o, ho, hc, m, hd⟩, _⟩ := I.tuple hp.seq
        obtain ⟨as, h1, h2⟩ := each _ _ _ _ hs rv e1
        exact ⟨as, by simp only [D.py]; exact .tuple ho hc hd (by simpa using h1), by simp only [D.py, PyData.depth]; omega⟩
    | lst hp hs =>
      cases ru
      simp only [see] at h
      rename_i ds p vs
      cases e1 : ds.mapM (see st n) with
      | none => rw [e1] at h; cases h
      | some es =>
        rw [e1] at h
        cases h
        obtain ⟨its, rv, ⟨o, m, ho, hc, _, hd⟩, _⟩ := I.list hp.seq
        obtain ⟨as, h1, h2⟩ := each _ _ _ _ hs rv e1
        exact ⟨p :: as, by simp only [D.py]; exact .list ho hc hd (by simpa using h1), by simp only [D.py, PyData.depth]; omega⟩
    | ref ha =>
      cases ru
      simp only [see] at h
      rename_i a p
      split at h
      · rename_i ds hst
        cases e1 : ds.mapM (see st n) with
        | none => rw [e1] at h; cases h
        | some es =>
          rw [e1] at h
          cases h
          obtain ⟨vs, hL, hs⟩ := r.items ha hst
          obtain ⟨its, rv, ⟨o, m, ho, hc, _, hd⟩, _⟩ := I.list hL
          obtain ⟨as, h1, h2⟩ := each _ _ _ _ hs rv e1
          exact ⟨p :: as, by simp only [D.py]; exact .list ho hc hd (by simpa using h1), by simp only [D.py, PyData.depth]; omega⟩
      · cases h
end
section
variable {X : Cx}
/-- two values, seen -/
def Seen2 (K : PySem.W.Frag) (x y : V) (H : Hp) (a b : D) : Prop :=
  ∃ ρ st d e, Rel K ρ st H ∧ RepV K ρ H d x ∧ RepV K ρ H e y ∧ see st depthL d = some a ∧ see st depthL e = some b
def Seen1 (K : PySem.W.Frag) (x : V) (H : Hp) (a : D) : Prop := ∃ ρ st d, Rel K ρ st H ∧ RepV K ρ H d x ∧ see st depthL d = some a
theorem Seen1.reads {K : PySem.W.Frag} {pins : List (Addr × Obj)} {σ : L2.St} {H : Hp} {s : Shared} {x : V} {u : Value} {a : D} (I : Inv X pins σ H s) (hK : X.K = K) (z : Seen1 K x H a) (ru : RelV x u) : ∃ as, Reads s.heap u a.py as ∧ a.py.depth ≤ depthL := by
  subst hK
  obtain ⟨ρ, st, d, r, rv, e⟩ := z
  exact reads_see I r _ _ _ _ _ rv ru e
theorem Seen2.reads {K : PySem.W.Frag} {pins : List (Addr × Obj)} {σ : L2.St} {H : Hp} {s : Shared} {x y : V} {u v : Value} {a b : D} (I : Inv X pins σ H s) (hK : X.K = K) (z : Seen2 K x y H a b) (ru : RelV x u) (rv : RelV y v) :
    ∃ as bs, Reads s.heap u a.py as ∧ Reads s.heap v b.py bs ∧ a.py.depth ≤ depthL ∧ b.py.depth ≤ depthL := by
  obtain ⟨ρ, st, d, e, r, h1, h2, h3, h4⟩ := z
  obtain ⟨as, k1, k2⟩ := Seen1.reads I hK ⟨ρ, st, d, r, h1, h3⟩ ru
  obtain ⟨bs, k3, k4⟩ := Seen1.reads I hK ⟨ρ, st, e, r, h2, h4⟩ rv
  exact ⟨as, bs, k1, k3, k2, k4⟩
theorem roomD {A : Around} {k a b : Nat} (hu : A.units + 64 < cLine) (ha : a ≤ depthL) (hk : k ≤ 2) : A.units + k + min a b < cLine := by
  have : depthL = 40 := rfl
  omega
theorem op_eqD (hu : X.A.units + 64 < cLine) : OpR X (compareOp .Eq) (fun x y H Q => ∃ a b, Seen2 X.K x y H a b ∧ Q (.bl (D.eqv a b)) H) := by
  intro pins s σ H x y v u Q I rx ry h
  obtain ⟨a, b, z, q⟩ := h
  obtain ⟨as, bs, h1, h2, k1, k2⟩ := z.reads I rfl rx ry
  refine PySem.SeqAt.eq_plain h1 h2 (plain_py a) (plain_py b) (roomD (k := 0) hu k1 (by decide)) ?_
  exact ⟨.bl _, H, I, by rw [eqv_py]; rfl, q⟩
theorem op_neD (hu : X.A.units + 64 < cLine) : OpR X (compareOp .NotEq) (fun x y H Q => ∃ a b, Seen2 X.K x y H a b ∧ Q (.bl (!D.eqv a b)) H) := by
  intro pins s σ H x y v u Q I rx ry h
  obtain ⟨a, b, z, q⟩ := h
  obtain ⟨as, bs, h1, h2, k1, k2⟩ := z.reads I rfl rx ry
  refine PySem.SeqAt.ne_plain h1 h2 (plain_py a) (plain_py b) (roomD (k := 0) hu k1 (by decide)) ?_
  exact ⟨.bl _, H, I, by rw [eqv_py]; rfl, q⟩
theorem notNone_py {a : D} (h : a.py = .none → False) : True := trivial
/-- an order of two values -/
def rOrd (K : PySem.W.Frag) (f : PyData → PyData → Bool) : R2 := fun x y H Q => ∃ a b, Seen2 K x y H a b ∧ PySem.W.alike a.py b.py = true ∧ a.py ≠ .none ∧ Q (.bl (f a.py b.py)) H
theorem op_ltD (hu : X.A.units + 64 < cLine) : OpR X (compareOp .Lt) (rOrd X.K fun a b => PySem.W.dataLt a b) := by
  intro pins s σ H x y v u Q I rx ry h
  obtain ⟨a, b, z, al, nn, q⟩ := h
  obtain ⟨as, bs, h1, h2, k1, k2⟩ := z.reads I rfl rx ry
  exact PySem.W.lt_data h1 h2 al nn (roomD (k := 0) hu k1 (by decide)) ⟨.bl _, H, I, rfl, q⟩
theorem op_gtD (hu : X.A.units + 64 < cLine) : OpR X (compareOp .Gt) (rOrd X.K fun a b => PySem.W.dataLt b a) := by
  intro pins s σ H x y v u Q I rx ry h
  obtain ⟨a, b, z, al, nn, q⟩ := h
  obtain ⟨as, bs, h1, h2, k1, k2⟩ := z.reads I rfl rx ry
  exact PySem.W.gt_data h1 h2 al nn (roomD (k := 0) hu k1 (by decide)) ⟨.bl _, H, I, rfl, q⟩
theorem op_leD (hu : X.A.units + 64 < cLine) : OpR X (compareOp .LtE) (rOrd X.K fun a b => !PySem.W.dataLt b a) := by
  intro pins s σ H x y v u Q I rx ry h
  obtain ⟨a, b, z, al, nn, q⟩ := h
  obtain ⟨as, bs, h1, h2, k1, k2⟩ := z.reads I rfl rx ry
  exact PySem.W.le_data h1 h2 al nn (roomD (k := 0) hu k1 (by decide)) ⟨.bl _, H, I, rfl, q⟩
theorem op_geD (hu : X.A.units + 64 < cLine) : OpR X (compareOp .GtE) (rOrd X.K fun a b => !PySem.W.dataLt a b) := by
  intro pins s σ H x y v u Q I rx ry h
  obtain ⟨a, b, z, al, nn, q⟩ := h
  obtain ⟨as, bs, h1, h2, k1, k2⟩ := z.reads I rfl rx ry
  exact PySem.W.ge_data h1 h2 al nn (roomD (k := 0) hu k1 (by decide)) ⟨.bl _, H, I, rfl, q⟩
theorem any_py (d : D) (ds : List D) : ((D.pys ds).any fun z => PyData.eqv z d.py) = ds.any fun z => D.eqv z d := by
  rw [D.pys_map, List.any_map]
  congr 1
  funext z
  exact eqv_py z d
/-- in, for lists and tuples -/
def rInD (K : PySem.W.Frag) (neg : Bool) : R2 := fun x y H Q => ∃ a ds, (Seen2 K x y H a (.lst ds) ∨ Seen2 K x y H a (.tup ds)) ∧ Q (.bl (if neg then !(ds.any fun z => D.eqv z a) else ds.any fun z => D.eqv z a)) H
theorem op_inD (hu : X.A.units + 64 < cLine) : OpR X (compareOp .In) (rInD X.K false) := by
  intro pins s σ H x y v u Q I rx ry h
  obtain ⟨a, ds, z, q⟩ := h
  rcases z with z | z
  · obtain ⟨as, bs, h1, h2, k1, k2⟩ := z.reads I rfl rx ry
    simp only [D.py] at h2
    refine PySem.SeqAt.in_list_data h2 h1 (plains_py ds) (plain_py a) (by rw [Nat.min_comm]; exact roomD hu k1 (by decide)) ?_
    exact ⟨.bl _, H, I, by rw [any_py]; rfl, q⟩
  · obtain ⟨as, bs, h1, h2, k1, k2⟩ := z.reads I rfl rx ry
    simp only [D.py] at h2
    refine PySem.SeqAt.in_tuple_data h2 h1 (plains_py ds) (plain_py a) (by rw [Nat.min_comm]; exact roomD hu k1 (by decide)) ?_
    exact ⟨.bl _, H, I, by rw [any_py]; rfl, q⟩
theorem op_notinD (hu : X.A.units + 64 < cLine) : OpR X (compareOp .NotIn) (rInD X.K true) := by
  intro pins s σ H x y v u Q I rx ry h
  obtain ⟨a, ds, z, q⟩ := h
  rcases z with z | z
  · obtain ⟨as, bs, h1, h2, k1, k2⟩ := z.reads I rfl rx ry
    simp only [D.py] at h2
    refine PySem.SeqAt.notIn_list_data h2 h1 (plains_py ds) (plain_py a) (by rw [Nat.min_comm]; exact roomD hu k1 (by decide)) ?_
    exact ⟨.bl _, H, I, by rw [any_py]; rfl, q⟩
  · obtain ⟨as, bs, h1, h2, k1, k2⟩ := z.reads I rfl rx ry
    simp only [D.py] at h2
    refine PySem.SeqAt.notIn_tuple_data h2 h1 (plains_py ds) (plain_py a) (by rw [Nat.min_comm]; exact roomD hu k1 (by decide)) ?_
    exact ⟨.bl _, H, I, by rw [any_py]; rfl, q⟩
/-- in, for dicts -/
def rInK (neg : Bool) : R2 := fun x y H Q => ∃ a o, y = .ref a ∧ DGet H a x o ∧ Q (.bl (if neg then !o.isSome else o.isSome)) H
theorem op_inK (hu : X.A.units + 64 < cLine) : OpR X (compareOp .In) (rInK false) := by
  intro pins s σ H x y v u Q I rx ry h
  obtain ⟨a, o, rfl, g, q⟩ := h
  cases ry
  exact d_in (by omega) I g rx fun s' I' => ⟨.bl _, H, I', rfl, q⟩
theorem op_notinK (hu : X.A.units + 64 < cLine) : OpR X (compareOp .NotIn) (rInK true) := by
  intro pins s σ H x y v u Q I rx ry h
  obtain ⟨a, o, rfl, g, q⟩ := h
  cases ry
  exact d_notIn (by omega) I g rx fun s' I' => ⟨.bl _, H, I', rfl, q⟩
end
end PyD
namespace PyD
open PySem PySem.Spec PyProof.Rows L2
/-- a tuple's object as it is made -/
abbrev tupO (its : List Value) : Obj := { cls := .type "tuple", data := .seq its.toArray }
section
variable {X : Cx} {pins : List (Addr × Obj)} {σ : L2.St} {H : Hp} {s : Shared}
theorem laidT {h' : Heap} {tk : Nat} {its : List Value} {ys : List V} (I : Inv X pins σ H s) (e : h' = s.heap.push (tupO its)) (r : Vals ys its) (hz : ys.length ≤ sizeLine) :
    Inv X pins σ (upd H s.heap.objs.size (.frz (tupO its) (.tup ys))) { s with heap := h', toks := tk } := by
  subst e
  refine I.laid (fun b o q => Heap.get?_push_of_some _ q) (Nat.le_refl _) ⟨Heap.get?_push_size _ rfl, ?_⟩
  exact ⟨hz, its, r, IsTup.new _ _⟩
/-- what is wanted of a new tuple -/
def NewT (H : Hp) (Q : VK) (ys : List V) : Prop := ∀ p o, H p = none → o.dict = none → Q (.ref p) (upd H p (.frz o (.tup ys)))
theorem NewT.fin {h' : Heap} {tk : Nat} {Q : VK} {its : List Value} {ys : List V} (I : Inv X pins σ H s) (e : h' = s.heap.push (tupO its)) (r : Vals ys its) (hz : ys.length ≤ sizeLine) (q : NewT H Q ys) :
    EP X pins σ Q (.ref s.heap.objs.size) { s with heap := h', toks := tk } :=
  ⟨.ref s.heap.objs.size, _, laidT I e r hz, rfl, q _ _ (I.hok.fresh (Nat.le_refl _)) rfl⟩
end
section
variable {X : Cx}
/-- a tuple's display -/
theorem pe_tupF {es : List Expr} {t : TA} {pos : Pos} {x1} (h : PA X es t) : PE X (.Tuple es x1 pos) (fun σ H Q => t σ H fun xs H1 => xs.length ≤ sizeLine ∧ NewT H1 Q xs) := by
  refine ⟨fun pins s σ H Q I hq => wpAny_Tuple_spliced (thn (h.run pos pins s σ H _ I hq) fun us s1 ⟨xs, H1, I1, r, z, q⟩ => ?_)⟩
  exact ⟨by rw [← r.length]; exact z, q.fin (tk := s1.toks) I1 rfl r z⟩
/-- tuple(x) -/
theorem call_tupleF : CallR X (.type "tuple") (fun xs H Q => ∃ p ys, xs = [.ref p] ∧ ((SqL X.K H p ys ∧ NewT H Q ys) ∨ (SqT X.K H p ys ∧ Q (.ref p) H))) := by
  intro pins s σ H xs us Q I r h
  obtain ⟨p, ys, rfl, h⟩ := h
  obtain ⟨u, rfl, rx⟩ := vals1 r
  cases rx
  rcases h with ⟨hq, q⟩ | ⟨hq, q⟩
  · obtain ⟨its, r', pl, hz⟩ := I.list hq
    refine call_tuple_list pl.isList (fun h' kp => ?_) (by rw [List.size_toArray, ← r'.length]; exact hz)
    have I1 : Inv X pins σ H { s with heap := h' } := I.kept (t' := s.toks) kp
    exact q.fin (s := { s with heap := h' }) (tk := s.toks) I1 rfl r' hz
  · obtain ⟨its, r', pl, hz⟩ := I.tuple hq
    exact call_tuple_same pl ⟨.ref p, H, I, rfl, q⟩
/-- t[lo:hi] -/
theorem sl_tupF : SlR X (fun x lo hi H Q => ∃ a xs, x = .ref a ∧ SqT X.K H a xs ∧
    (HT.sIx xs.length 0 lo = 0 ∧ HT.sIx xs.length xs.length hi = xs.length → Q (.ref a) H) ∧
    (¬ (HT.sIx xs.length 0 lo = 0 ∧ HT.sIx xs.length xs.length hi = xs.length) → NewT H Q (cutV xs lo hi))) := by
  intro pins s σ H x v vl vu lo hi sl Q I rx hs pl pu h
  obtain ⟨a, xs, rfl, hx, q1, q2⟩ := h
  cases rx
  obtain ⟨its, r, ht, hz⟩ := I.tuple hx
  have hlen : its.toArray.size = xs.length := by rw [List.size_toArray]; exact r.length.symm
  refine ⟨"tuple", _, PyProof.Rows.slot_tuple_getitem.lookup, ht.typeIs, ?_⟩
  by_cases hw : HT.sIx xs.length 0 lo = 0 ∧ HT.sIx xs.length xs.length hi = xs.length
  · exact getItem_tuple_whole ht hs pl pu (by rw [hlen]; exact hw) ⟨.ref a, H, I, rfl, q1 hw⟩
  · refine HT.getItem_tuple_cut ht hs pl pu (by rw [hlen]; exact hw) ?_ (by rw [hlen]; exact hz)
    rw [hlen]
    exact (q2 hw).fin (tk := s.toks) I rfl ((r.drop (HT.sIx xs.length 0 lo)).take (HT.sIx xs.length xs.length hi - HT.sIx xs.length 0 lo)) (Nat.le_trans (cutV_length xs lo hi) hz)
/-- t + u -/
theorem op_catF : OpR X (binaryOp .Add) (fun x y H Q => ∃ a b xs ys, x = .ref a ∧ y = .ref b ∧ SqT X.K H a xs ∧ SqT X.K H b ys ∧ xs.length + ys.length ≤ sizeLine ∧
    (xs = [] → Q (.ref b) H) ∧ (xs ≠ [] → ys = [] → Q (.ref a) H) ∧ (xs ≠ [] → ys ≠ [] → NewT H Q (xs ++ ys))) := by
  intro pins s σ H x y v u Q I rx ry h
  obtain ⟨a, b, xs, ys, rfl, rfl, ha, hb, hz, q0, q1, q2⟩ := h
  cases rx
  cases ry
  obtain ⟨its, r1, p1, _⟩ := I.tuple ha
  obtain ⟨its2, r2, p2, _⟩ := I.tuple hb
  by_cases hx : xs = []
  · subst hx
    cases r1
    exact cat_tup0 p1 p2 ⟨.ref b, H, I, rfl, q0 rfl⟩
  · refine HT.cat_tup p1 p2 (fun z => hx (r1.nil_iff.mp z)) (fun z => ⟨.ref a, H, I, rfl, q1 hx (r2.nil_iff.mp z)⟩) (fun z => ?_) (by rw [← r1.length, ← r2.length]; exact hz)
    exact (q2 hx fun w => z (r2.nil_iff.mpr w)).fin (tk := s.toks) I rfl (r1.append r2) (by rw [List.length_append]; exact hz)
/-- divmod -/
theorem call_divmodF : CallR X (.builtin "divmod") (fun xs H Q => ∃ i j, xs = [.int i, .int j] ∧ CDiv i j ∧ NewT H Q [.int (i / j), .int (i % j)]) := by
  intro pins s σ H xs us Q I r h
  obtain ⟨i, j, rfl, ⟨h1, h2⟩, q⟩ := h
  obtain ⟨u, w', rfl, ⟨t, rfl⟩, ⟨t', rfl⟩⟩ := vals2 r
  refine divmod_int (by omega) ?_ (.inl (PyProof.noPylong_small (by omega)))
  rw [Int.fdiv_eq_ediv_of_nonneg i (by omega), Int.fmod_eq_emod_of_nonneg i (by omega)]
  exact q.fin (its := [.int (i / j) s.toks, .int (i % j) (s.toks + 1)]) I rfl (.cons (show RelV (.int (i / j)) (.int (i / j) s.toks) from ⟨_, rfl⟩) (.cons (show RelV (.int (i % j)) (.int (i % j) (s.toks + 1)) from ⟨_, rfl⟩) .nil)) (by show 2 ≤ sizeLine; decide)
/-- repr of data, no repr under way -/
theorem call_reprD (hg : X.A.guards = some []) (hu : X.A.units + 64 < cLine) : CallR X (.builtin "repr") (fun xs H Q => ∃ p a, xs = [.ref p] ∧ Seen1 X.K (.ref p) H a ∧ a.py.showable = true ∧ a.py.shown.length ≤ sizeLine ∧ Q (.str a.py.shown) H) := by
  intro pins s σ H xs us Q I r h
  obtain ⟨p, a, rfl, z, hs, hz, q⟩ := h
  obtain ⟨u, rfl, rx⟩ := vals1 r
  obtain ⟨as, h1, k1⟩ := z.reads I rfl rx
  cases rx
  have : depthL = 40 := rfl
  refine repr_of_reads' h1 hs (fun e => by rw [noDict_py] at e; cases e) hg (by omega) (fun _ _ e => e) (fun h' u tk hk => ?_) hz
  exact ⟨.str _, H, I.kept hk, ⟨_, rfl⟩, q⟩
/-- isinstance, a built-in class -/
theorem call_isiF : CallR X (.builtin "isinstance") (fun xs H Q => ∃ (x : V) (T c : String) (b : Bool), xs = [x, .ty c] ∧ TyX X.K H x (.type T) ∧ kitB T c = some b ∧ Q (.bl b) H) := by
  intro pins s σ H xs us Q I r h
  obtain ⟨x, T, c, b, rfl, ty, e, q⟩ := h
  exact call_isi pins s σ H _ us Q I r ⟨x, .ty c, _, _, b, rfl, .ty c, ty, kit_ty e, q⟩
theorem vals_bls {bs : List Bool} {us : List Value} (r : Vals (bs.map V.bl) us) : us = bs.map Value.bool := Vals.bls r
theorem readsAll_bls (h : Heap) : ∀ bs : List Bool, ReadsAll h (bs.map Value.bool) (bs.map PyData.bool) []
  | [] => .nil
  | b :: bs => .cons (.bool b) (readsAll_bls h bs)
theorem plain_bls : ∀ bs : List Bool, PyData.plainAll (bs.map PyData.bool) = true
  | [] => rfl
  | b :: bs => by simp only [List.map_cons, PyData.plainAll, PyData.plain, plain_bls bs, Bool.and_self]
/-- all, any, of a list of truths -/
theorem call_allB (hc : X.calm = true) : CallR X (.builtin "all") (fun xs H Q => ∃ (p : Addr) (bs : List Bool), xs = [.ref p] ∧ SqL X.K H p (bs.map V.bl) ∧ Q (.bl (bs.all id)) H) := by
  intro pins s σ H xs us Q I r h
  obtain ⟨p, bs, rfl, hq, q⟩ := h
  obtain ⟨u, rfl, rx⟩ := vals1 r
  cases rx
  obtain ⟨its, rv, pl, hz⟩ := I.list hq
  have e := vals_bls rv
  subst e
  refine PySem.W.all_list_data (xs := bs.map PyData.bool) (as := []) (I.ok.hd hc) pl.isList (by simpa using readsAll_bls s.heap bs) (plain_bls bs) (fun x hx => ?_) fun h' tk hk => ?_
  · obtain ⟨b, _, rfl⟩ := List.mem_map.mp hx
    trivial
  · refine ⟨.bl _, H, I.kept hk, ?_, q⟩
    show Value.bool _ = Value.bool _
    rw [List.all_map]
    rfl
theorem call_anyB (hc : X.calm = true) : CallR X (.builtin "any") (fun xs H Q => ∃ (p : Addr) (bs : List Bool), xs = [.ref p] ∧ SqL X.K H p (bs.map V.bl) ∧ Q (.bl (bs.any id)) H) := by
  intro pins s σ H xs us Q I r h
  obtain ⟨p, bs, rfl, hq, q⟩ := h
  obtain ⟨u, rfl, rx⟩ := vals1 r
  cases rx
  obtain ⟨its, rv, pl, hz⟩ := I.list hq
  have e := vals_bls rv
  subst e
  refine PySem.W.any_list_data (xs := bs.map PyData.bool) (as := []) (I.ok.hd hc) pl.isList (by simpa using readsAll_bls s.heap bs) (plain_bls bs) (fun x hx => ?_) fun h' tk hk => ?_
  · obtain ⟨b, _, rfl⟩ := List.mem_map.mp hx
    trivial
  · refine ⟨.bl _, H, I.kept hk, ?_, q⟩
    show Value.bool _ = Value.bool _
    rw [List.any_map]
    rfl
end
end PyD
namespace PyD
open PySem PySem.Spec PyProof.Rows L2
section
variable {X : Cx} {pins : List (Addr × Obj)} {σ : L2.St} {H : Hp} {s : Shared} {ρ : List Addr} {st : Store}
mutual
theorem reads_pure (I : Inv X pins σ H s) : ∀ {d : D} {v : V} {u : Value}, RepV X.K ρ H d v → d.pure = true → RelV v u → ∃ as, Reads s.heap u d.py as
  | _, _, _, .non, _, r => by cases r; exact ⟨_, .none⟩
  | _, _, _, .bl b, _, r => by cases r; exact ⟨_, .bool b⟩
  | _, _, _, .int i, _, r => by obtain ⟨t, rfl⟩ := r; exact ⟨_, .int i t⟩
  | _, _, _, .str x, _, r => by obtain ⟨t, rfl⟩ := r; exact ⟨_, .str x t⟩
  | _, _, _, .tup hp hs, h, r => by
    cases r
    obtain ⟨its, rv, ⟨o, ho, hc, m, hd⟩, _⟩ := I.tuple hp.seq
    obtain ⟨as, h1⟩ := readsAll_pure I hs (by simpa only [D.pure] using h) rv
    exact ⟨as, by simp only [D.py]; exact .tuple ho hc hd (by simpa using h1)⟩
  | _, _, _, .lst hp hs, h, r => by
    cases r
    obtain ⟨its, rv, ⟨o, m, ho, hc, _, hd⟩, _⟩ := I.list hp.seq
    obtain ⟨as, h1⟩ := readsAll_pure I hs (by simpa only [D.pure] using h) rv
    exact ⟨_, by simp only [D.py]; exact .list ho hc hd (by simpa using h1)⟩
  | _, _, _, .ref _, h, _ => by simp [D.pure] at h
theorem readsAll_pure (I : Inv X pins σ H s) : ∀ {ds : List D} {vs : List V} {us : List Value}, RepVs X.K ρ H ds vs → D.pures ds = true → Vals vs us → ∃ as, ReadsAll s.heap us (D.pys ds) as
  | _, _, _, .nil, _, r => by cases r; exact ⟨_, .nil⟩
  | _, _, _, .cons a t, h, r => by
    simp only [D.pures, Bool.and_eq_true] at h
    cases r with
    | cons r1 r2 =>
      obtain ⟨as, h1⟩ := reads_pure I a h.1 r1
      obtain ⟨bs, h2⟩ := readsAll_pure I t h.2 r2
      exact ⟨as ++ bs, by simp only [D.pys]; exact .cons h1 h2⟩
end
/-- what a machine value stands for -/
def Stands (K : PySem.W.Frag) (ρ : List Addr) (H : Hp) (u : Value) (d : D) : Prop := ∃ v, RelV v u ∧ RepV K ρ H d v
theorem stands_of {K : PySem.W.Frag} : ∀ {ds : List D} {vs : List V} {us : List Value}, RepVs K ρ H ds vs → Vals vs us → PySem.W.EachIs (Stands K ρ H) us ds
  | _, _, _, .nil, r => by cases r; exact .nil
  | _, _, _, .cons a t, r => by
    cases r with
    | cons r1 r2 => exact .cons ⟨_, r1, a⟩ (stands_of t r2)
theorem of_stands {K : PySem.W.Frag} : ∀ {us : List Value} {ds : List D}, PySem.W.EachIs (Stands K ρ H) us ds → ∃ vs, RepVs K ρ H ds vs ∧ Vals vs us
  | _, _, .nil => ⟨[], .nil, .nil⟩
  | _, _, .cons ⟨v, r, a⟩ t => by
    obtain ⟨vs, h1, h2⟩ := of_stands t
    exact ⟨v :: vs, .cons a h1, .cons r h2⟩
theorem stands_reads {us : List Value} {ds : List D} (I : Inv X pins σ H s) (e : PySem.W.EachIs (Stands X.K ρ H) us ds) (hp : ∀ d ∈ ds, d.pure = true) : PySem.W.EachIs (fun u d => ∃ as, Reads s.heap u d.py as) us ds := by
  induction e with
  | nil => exact .nil
  | cons h t ih =>
    obtain ⟨v, r, a⟩ := h
    exact .cons (reads_pure I a (hp _ List.mem_cons_self) r) (ih fun d hd => hp d (List.mem_cons_of_mem _ hd))
theorem alikeD_iff {ds : List D} (h : alikeD ds = true) : PySem.W.AllAlike (ds.map D.py) := by
  intro d hd d' hd'
  obtain ⟨a, ha, rfl⟩ := List.mem_map.mp hd
  obtain ⟨b, hb, rfl⟩ := List.mem_map.mp hd'
  unfold alikeD at h
  exact List.all_eq_true.mp (List.all_eq_true.mp h a ha) b hb
theorem sortableD_iff {ds : List D} (h : sortableD ds = true) : PySem.W.Sortable (ds.map D.py) := by
  unfold sortableD at h
  rw [Bool.or_eq_true] at h
  rcases h with h | h
  · refine .inl fun d hd => ?_
    obtain ⟨a, ha, rfl⟩ := List.mem_map.mp hd
    have q := List.all_eq_true.mp h a ha
    cases a with
    | tup es =>
      cases es with
      | nil => simp at q
      | cons e es => exact ⟨e.py, D.pys es, by simp only [D.py, D.pys]⟩
    | _ => simp at q
  · refine .inr fun d hd => ?_
    obtain ⟨a, ha, rfl⟩ := List.mem_map.mp hd
    have q := List.all_eq_true.mp h a ha
    cases a <;> simp [D.py] at q ⊢
theorem flat_pure {d : D} (h : d.flat = true) : d.pure = true := by unfold D.flat at h; exact (Bool.and_eq_true_iff.mp h).1
theorem flat_depth {d : D} (h : d.flat = true) : d.py.depth ≤ 40 := by unfold D.flat at h; exact of_decide_eq_true (Bool.and_eq_true_iff.mp h).2
end
section
variable {X : Cx}
/-- sorted(list) -/
theorem cr_sortD (hu : X.A.units + 64 < cLine) : CallR X (.builtin "sorted") (fun xs H Q => ∃ p ρ ds es vs, xs = [.ref p] ∧ SqL X.K H p vs ∧ RepVs X.K ρ H ds vs ∧ sortD ds = some es ∧
    ∀ l ws, H l = none → RepVs X.K ρ H es ws → Q (.ref l) (upd H l (.lst ws))) := by
  intro pins s σ H xs us Q I r h
  obtain ⟨p, ρ, ds, es, vs, rfl, hq, hr, e, q⟩ := h
  obtain ⟨u, rfl, rx⟩ := vals1 r
  cases rx
  obtain ⟨its, rv, pl, hz⟩ := I.list hq
  unfold sortD at e
  split at e
  · rename_i hc
    cases e
    simp only [Bool.and_eq_true] at hc
    obtain ⟨⟨⟨c1, c2⟩, c3⟩, c4⟩ := hc
    have fl : ∀ d ∈ ds, d.flat = true := fun d hd => List.all_eq_true.mp c1 d hd
    have S0 := stands_of hr rv
    refine PySem.W.sorted_data (enc := D.py) pl.isList S0 (stands_reads I S0 fun d hd => flat_pure (fl d hd)) (alikeD_iff c2) (sortableD_iff c3) (by rw [hr.length]; exact hz) (fun d hd => ?_) fun out hl S1 => ?_
    · have := flat_depth (fl d hd)
      omega
    · obtain ⟨ws, h1, h2⟩ := of_stands S1
      obtain ⟨ep, he'⟩ := PyProof.Rows.sortedAll_at s.heap its (List.toArray out)
      refine ⟨.ref _, upd H (s.heap.objs.size + 1) (.lst ws), I.laid (t' := s.toks) (fun _ _ => PyProof.Rows.sortedAll_old) (Nat.le_succ _) ⟨?_, out, ep, h2, he'⟩, rfl, q _ ws (I.hok.fresh (Nat.le_succ _)) h1⟩
      rw [← h1.length, List.length_mergeSort, hr.length]
      exact hz
  · cases e
theorem findIx_idx (p : D → Bool) : ∀ {ds : List D} {j : Nat}, findIx p ds = some j → (ds.map p).idxOf true = j ∧ true ∈ ds.map p
  | [], _, h => by simp [findIx] at h
  | d :: ds, j, h => by
    unfold findIx at h
    by_cases e : p d = true
    · rw [if_pos e] at h
      cases h
      rw [List.map_cons, e]
      exact ⟨by simp, by simp⟩
    · rw [if_neg e] at h
      cases q : findIx p ds with
      | none => rw [q] at h; cases h
      | some k =>
        rw [q] at h
        cases h
        obtain ⟨h1, h2⟩ := findIx_idx p q
        have e' : p d = false := by simpa using e
        rw [List.map_cons, e']
        exact ⟨by rw [List.idxOf_cons]; simp [h1], by simp [h2]⟩
theorem itemsEqD {A : Around} {pins : List (Addr × Obj)} {σ : L2.St} {H : Hp} {s : Shared} {ρ : List Addr} {ds : List D} {vs : List V} {its : List Value} {d : D} {v : V} {u : Value} (I : Inv X pins σ H s) (hr : RepVs X.K ρ H ds vs) (rv : Vals vs its)
    (hd : RepV X.K ρ H d v) (ru : RelV v u) (fl : ds.all D.flat = true) (fd : d.flat = true) (hu : A.units + 64 < cLine) : PySem.SeqAt.ItemsEq A s its (ds.map fun z => D.eqv z d) u true := by
  refine ⟨by rw [List.length_map, hr.length, rv.length], fun j h1 h2 => ?_⟩
  obtain ⟨bs, r2⟩ := reads_pure I hd (flat_pure fd) ru
  have hj : j < ds.length := by rw [hr.length, rv.length]; exact h1
  obtain ⟨v', hv, rd⟩ := hr.get (List.getElem?_eq_getElem hj)
  obtain ⟨u', hu', ru'⟩ := rv.get hv
  rw [List.getElem?_eq_getElem h1] at hu'
  cases hu'
  have fj := List.all_eq_true.mp fl _ (List.getElem_mem hj)
  obtain ⟨as, r1⟩ := reads_pure I rd (flat_pure fj) ru'
  have hx := PySem.SeqAt.eqAt_plain _ _ A s _ _ _ _ r1 r2 (plain_py _) (plain_py _) (by have := flat_depth fj; omega)
  rw [eqv_py] at hx
  rw [List.getElem_map]
  rw [show decide (D.eqv ds[j] d = true) = D.eqv ds[j] d by cases D.eqv ds[j] d <;> rfl]
  exact hx
/-- xs.index(y), a list -/
def rIdx (K : PySem.W.Frag) (isL : Bool) : V → List V → Hp → VK → Prop := fun x xs H Q => ∃ p y ρ ds vs d j, x = .ref p ∧ xs = [y] ∧ (if isL then SqL K H p vs else SqT K H p vs) ∧ RepVs K ρ H ds vs ∧ RepV K ρ H d y ∧ ds.all D.flat = true ∧ d.flat = true ∧
    findIx (fun z => D.eqv z d) ds = some j ∧ Q (.int j) H
theorem mt_idxL (hu : X.A.units + 65 < cLine) : MtR X "list.index" (rIdx X.K true) := by
  intro pins s σ H x xs v us Q I rx rxs h
  obtain ⟨p, y, ρ, ds, vs, d, j, rfl, rfl, hq, hr, hd, fl, fd, e, q⟩ := h
  cases rx
  obtain ⟨u, rfl, ru⟩ := vals1 rxs
  obtain ⟨its, rv, pl, hz⟩ := I.list hq
  obtain ⟨e1, e2⟩ := findIx_idx _ e
  refine PySem.SeqAt.call_list_index pl.isList (itemsEqD I hr rv hd ru fl fd (by show X.A.units + 1 + 64 < cLine; omega)) (by rw [List.length_map, hr.length]; exact hz) e2 ?_
  rw [e1]
  exact ⟨.int j, H, I.tok _, ⟨_, rfl⟩, q⟩
theorem mt_idxT (hu : X.A.units + 65 < cLine) : MtR X "tuple.index" (rIdx X.K false) := by
  intro pins s σ H x xs v us Q I rx rxs h
  obtain ⟨p, y, ρ, ds, vs, d, j, rfl, rfl, hq, hr, hd, fl, fd, e, q⟩ := h
  cases rx
  obtain ⟨u, rfl, ru⟩ := vals1 rxs
  obtain ⟨its, rv, pl, hz⟩ := I.tuple hq
  obtain ⟨e1, e2⟩ := findIx_idx _ e
  refine PySem.SeqAt.call_tuple_index pl (itemsEqD I hr rv hd ru fl fd (by show X.A.units + 1 + 64 < cLine; omega)) e2 ?_
  rw [e1]
  exact ⟨.int j, H, I.tok _, ⟨_, rfl⟩, q⟩
end
end PyD
set_option maxHeartbeats 4000000
namespace PyD
open PySem PySem.Spec PyProof.Rows L2
section
variable {P : Program} {w : World} {A : Around} {E : Value → Shared → Prop} {s : Shared}
theorem call_set_lstI {l : Addr} {items : Array Value} (ns : List Int) {Q : Value → Shared → Prop} (hh : A.handled = none) (hl : s.heap.IsList l items) (hit : IntsAre items.toList ns) (hb : ns.length + 1 < scanBound)
    (h : ∀ (h' : Heap) (tk c : Nat), SetR w h' s.heap.objs.size (fun j => decide (j ∈ ns)) c → c ≤ ns.length → (∀ b o, s.heap.get? b = some o → h'.get? b = some o) → Q (.ref s.heap.objs.size) { s with heap := h', toks := tk }) :
    wpAny (model P w) A (call (.type "set") [.ref l]) Q E s := by
  have hsizeN : items.size = ns.length := by
    have q := IntsAre.length hit
    rw [Array.length_toList] at q
    exact q
  obtain ⟨c, tl, hmroN⟩ := F.called_set.mro
  have madeN := F.called_set.made
  have subN := F.called_set.sub
  refine wpAny_call (codeAny_of_tree ?_)
  show wpAny _ _ (callAny (.type "set") _) _ _ _
  refine wpAny_pure ⟨Code.quiet_builtin _ (by decide +kernel), codeAny_builtin F.entry_type_call ?_⟩
  rw [Around.under_plain (weight_type_call_type "set" [.ref l] []) rfl]
  have h1 := F.called_set.notType
  have h2 := F.called_set.canCreate
  have tcN := F.typeCall_set_1 (.ref l)
  repeat any_goals first | assumption | wp_step
  refine codeAny_mono (code_set_led1 (.ref l) (E := E) (Q₁ := fun obj s₁ => obj = .ref s.heap.objs.size ∧ s₁ = { s with heap := s.heap.push { cls := .type "set", dict := none, data := .set #[] 0 (.fresh 0 0 (!w.params.followText "set-order")) } }) ⟨rfl, rfl⟩) fun r s₁ rN => ?_
  cases r with
  | error e => exact rN
  | ok fl =>
    cases fl with
    | ret obj =>
      obtain ⟨rfl, rfl⟩ := rN
      have sN : (s.heap.push { cls := .type "set", dict := none, data := .set #[] 0 (.fresh 0 0 (!w.params.followText "set-order")) }).get? s.heap.objs.size = some { cls := .type "set", dict := none, data := .set #[] 0 (.fresh 0 0 (!w.params.followText "set-order")) } := Heap.get?_push_size _ rfl
      have tyN : Shared.TypeIs { s with heap := s.heap.push { cls := .type "set", dict := none, data := .set #[] 0 (.fresh 0 0 (!w.params.followText "set-order")) } } (.ref s.heap.objs.size) "set" := ⟨_, sN, rfl⟩
      have liN := F.called_set.init.lookup
      have biN := F.called_set.init.bind (.ref s.heap.objs.size)
      repeat any_goals first | assumption | wp_step
      refine codeAny_mono (codeAny_call_builtin (R := wants (fun r s₂ => r = .none ∧ ∃ h' tk c, s₂ = { s with heap := h', toks := tk } ∧ SetR w h' s.heap.objs.size (fun j => decide (j ∈ ns)) c ∧ c ≤ ns.length ∧
          (∀ b o, s.heap.get? b = some o → h'.get? b = some o)) E) F.called_set.init.plain F.entry_set_init (check_set_init_1 tyN ?_)) fun r₂ s₂ rN2 => ?_
      · obtain ⟨oN, obN, clN, nN, dlN⟩ := hl
        obtain ⟨clsN, dictN, dataN, slotsN⟩ := oN
        simp only at clN dlN
        subst clN; subst dlN
        have obN' : (s.heap.push { cls := .type "set", dict := none, data := .set #[] 0 (.fresh 0 0 (!w.params.followText "set-order")) }).get? l = some { cls := .type "list", dict := dictN, data := .seq items nN, slots := slotsN } := Heap.get?_push_of_some _ obN
        have slN := F.sub_list_set
        have sfN := F.sub_list_frozenset
        have neN : (Value.type "list" == Value.type "dict") = false := by decide
        have lN : (s.heap.push { cls := .type "set", dict := none, data := .set #[] 0 (.fresh 0 0 (!w.params.followText "set-order")) }).IsList l items := ⟨_, obN', rfl, nN, rfl⟩
        unfold Builtin.«set.__init__» noKeywords Builtin.Frozenset.updateFrom
        generalize hPI : pyIter = PI
        wp_walk
        subst hPI
        refine wpAny_pyIter_list lN ?_
        refine wpAny_bind (wpAny_runValue ?_)
        have ltN : l < s.heap.objs.size := Heap.lt_size obN
        have h3N : A.in1.in1.in1.handled = none := by simp [hh]
        have z1N : (s.heap.push { cls := .type "set", dict := none, data := .set #[] 0 (.fresh 0 0 (!w.params.followText "set-order")) }).objs.size = s.heap.objs.size + 1 := Heap.size_push ..
        have neIN : l ≠ (s.heap.push { cls := .type "set", dict := none, data := .set #[] 0 (.fresh 0 0 (!w.params.followText "set-order")) }).objs.size := by
          rw [Heap.size_push]; exact Nat.ne_of_lt (Nat.lt_succ_of_lt ltN)
        have sfpN : s.heap.objs.size ∉ [(s.heap.push { cls := .type "set", dict := none, data := .set #[] 0 (.fresh 0 0 (!w.params.followText "set-order")) }).objs.size, l] := by
          rw [Heap.size_push]; simp only [List.mem_cons, List.mem_singleton, List.not_mem_nil, or_false, not_or]
          exact ⟨Nat.ne_of_lt (Nat.lt_succ_self _), Nat.ne_of_gt ltN⟩
        have valN : ∀ (i : Nat) (v : Value), items[i]? = some v → ∃ k t, ns[i]? = some k ∧ v = .int k t := fun i v hv => by
          have hi : i < ns.length := by rw [← hsizeN]; exact (Array.getElem?_eq_some_iff.mp hv).1
          obtain ⟨t, e⟩ := PyProof.Rows.IntsAre.int_at hit i v (by rw [Array.getElem?_toList]; exact hv)
          refine ⟨ns[i], t, List.getElem?_eq_getElem hi, ?_⟩
          rw [e, List.getD_eq_getElem?_getD, List.getElem?_eq_getElem hi] <;> rfl
        refine set_update_ints ((Walks.list h3N _ l neIN items).toS) s.heap.objs.size
          sfpN ns hsizeN hb valN (items.size - 0) 0 _ (by omega) (Nat.zero_le _)
          ⟨⟨_, Heap.get?_push_size _ rfl, rfl, rfl⟩, (lN.push _)⟩ ?hS0 ?hR
        case hS0 =>
          have getN : ((s.heap.push { cls := .type "set", dict := none, data := .set #[] 0 (.fresh 0 0 (!w.params.followText "set-order")) }).push { cls := .type "list_iterator", data := .fields #[.ref l, .int 0 0] }).get? s.heap.objs.size
              = some { cls := .type "set", dict := none, data := .set #[] 0 (.fresh 0 0 (!w.params.followText "set-order")) } := Heap.get?_push_of_some _ sN
          exact ⟨0, Nat.le_refl 0, setR_new_at getN⟩
        case hR =>
          intro s' c' hm hc' hS'
          obtain ⟨h', g2, d', tkN, osN⟩ := s'
          have egN : g2 = s.gens := hm.gens
          have edN : d' = s.drawn := hm.drawn
          have eoN : osN = s.os := hm.os
          subst egN; subst edN; subst eoN
          show wpAny _ _ _ _ _ _
          refine wpAny_pure ?_
          show wpAny _ _ (ret Value.none) _ _ _
          rw [hsizeN] at hc'
          refine wpAny_pure ⟨rfl, h', tkN, c', rfl, hS', hc', fun b o e => ?_⟩
          have b0N : b < s.heap.objs.size := Heap.lt_size e
          have b1N : b ≠ s.heap.objs.size := Nat.ne_of_lt b0N
          have b2N : b ≠ (s.heap.push { cls := .type "set", dict := none, data := .set #[] 0 (.fresh 0 0 (!w.params.followText "set-order")) }).objs.size := by
            rw [Heap.size_push]; exact Nat.ne_of_lt (Nat.lt_succ_of_lt b0N)
          exact hm.heap b o (by simp only [List.mem_cons, List.mem_singleton, List.not_mem_nil, or_false, not_or]; exact ⟨b1N, b2N⟩) (Heap.get?_push_of_some _ (Heap.get?_push_of_some _ e))
      · cases r₂ with
        | error e => exact rN2
        | ok fl₂ =>
          cases fl₂ with
          | ret r =>
            obtain ⟨rfl, h', tk, c', rfl, hS', hc', hk'⟩ := rN2
            repeat any_goals first | assumption | wp_step
            exact h _ _ _ hS' hc' hk'
          | _ => exact rN2.elim
    | _ => exact rN.elim
end
theorem insU_mem {x y : Int} : ∀ {l : List Int}, y ∈ insU x l ↔ y = x ∨ y ∈ l
  | [] => by simp [insU]
  | z :: l => by
    unfold insU
    split
    · simp
    · split
      · rename_i h; subst h; simp
      · simp only [List.mem_cons, insU_mem (l := l)]
        constructor
        · rintro (h | h | h)
          · exact .inr (.inl h)
          · exact .inl h
          · exact .inr (.inr h)
        · rintro (h | h | h)
          · exact .inr (.inl h)
          · exact .inl h
          · exact .inr (.inr h)
theorem insU_lt {x : Int} : ∀ {l : List Int}, l.Pairwise (· < ·) → (insU x l).Pairwise (· < ·)
  | [], _ => by simp [insU]
  | z :: l, h => by
    obtain ⟨h1, h2⟩ := List.pairwise_cons.mp h
    unfold insU
    split
    · rename_i hx
      refine List.pairwise_cons.mpr ⟨fun y hy => ?_, h⟩
      rcases List.mem_cons.mp hy with rfl | hy
      · exact hx
      · exact Int.lt_trans hx (h1 y hy)
    · split
      · exact h
      · rename_i h3 h4
        refine List.pairwise_cons.mpr ⟨fun y hy => ?_, insU_lt h2⟩
        rcases insU_mem.mp hy with rfl | hy
        · omega
        · exact h1 y hy
theorem usort_mem {y : Int} : ∀ {l : List Int}, y ∈ usort l ↔ y ∈ l
  | [] => by simp [usort]
  | x :: l => by
    show y ∈ insU x (usort l) ↔ _
    rw [insU_mem, usort_mem (l := l), List.mem_cons]
theorem usort_lt : ∀ l : List Int, (usort l).Pairwise (· < ·)
  | [] => .nil
  | x :: l => insU_lt (usort_lt l)
theorem insU_len (x : Int) : ∀ l : List Int, (insU x l).length ≤ l.length + 1
  | [] => by simp [insU]
  | y :: l => by
    unfold insU
    have := insU_len x l
    split
    · simp
    · split
      · simp
      · simp only [List.length_cons]; omega
theorem usort_len : ∀ l : List Int, (usort l).length ≤ l.length
  | [] => Nat.le_refl _
  | x :: l => by
    have h1 := insU_len x (usort l)
    have h2 := usort_len l
    show (insU x (usort l)).length ≤ _
    rw [List.length_cons]; omega
/-- two ascending rows of the same ints are one -/
theorem asc_ext : ∀ {as bs : List Int}, as.Pairwise (· < ·) → bs.Pairwise (· < ·) → (∀ k, k ∈ as ↔ k ∈ bs) → as = bs
  | [], [], _, _, _ => rfl
  | [], b :: bs, _, _, h => by have := (h b).mpr List.mem_cons_self; cases this
  | a :: as, [], _, _, h => by have := (h a).mp List.mem_cons_self; cases this
  | a :: as, b :: bs, ha, hb, h => by
    obtain ⟨a1, a2⟩ := List.pairwise_cons.mp ha
    obtain ⟨b1, b2⟩ := List.pairwise_cons.mp hb
    have e : a = b := by
      rcases List.mem_cons.mp ((h a).mp List.mem_cons_self) with e | e
      · exact e
      · rcases List.mem_cons.mp ((h b).mpr List.mem_cons_self) with e' | e'
        · exact e'.symm
        · have := b1 a e; have := a1 b e'; omega
    subst e
    rw [asc_ext a2 b2 fun k => ?_]
    constructor
    · intro hk
      rcases List.mem_cons.mp ((h k).mp (List.mem_cons_of_mem _ hk)) with e | e
      · have := a1 k hk; omega
      · exact e
    · intro hk
      rcases List.mem_cons.mp ((h k).mpr (List.mem_cons_of_mem _ hk)) with e | e
      · have := b1 k hk; omega
      · exact e
theorem nodup_of_lt {l : List Int} (h : l.Pairwise (· < ·)) : l.Nodup := h.imp fun h e => by omega
theorem setR_count {w : World} {h : Heap} {a : Addr} {ns : List Int} {n : Nat} (R : SetR w h a (fun j => decide (j ∈ ns)) n) : n = (usort ns).length := by
  obtain ⟨o, es, ep, t, _, _, _, _, nd, hm, _, _, hn, _, _⟩ := R
  have p : (es.toList.map L2.keyOf).Perm (usort ns) := (List.perm_ext_iff_of_nodup nd (nodup_of_lt (usort_lt ns))).mpr fun k => by
    rw [usort_mem, ← hm k]
    simp
  have := p.length_eq
  rw [List.length_map, Array.length_toList] at this
  omega
section
variable {X : Cx}
/-- set(xs) of ints -/
theorem cr_setI (hc : X.calm = true) : CallR X (.type "set") (fun xs H Q => ∃ p ns, xs = [.ref p] ∧ (SqL X.K H p (ns.map V.int) ∨ SqT X.K H p (ns.map V.int)) ∧ ns.length < 64 ∧
    ∀ a, H a = none → Q (.ref a) (L2.upd H a (SetO X.w a (fun j => decide (j ∈ ns)) (usort ns).length))) := by
  intro pins s σ H xs us Q I r h
  obtain ⟨p, ns, rfl, hq, hz, q⟩ := h
  obtain ⟨u, rfl, rx⟩ := vals1 r
  cases rx
  have fin : ∀ (h' : Heap) (tk c : Nat), SetR X.w h' s.heap.objs.size (fun j => decide (j ∈ ns)) c → (∀ b o, s.heap.get? b = some o → h'.get? b = some o) → EP X pins σ Q (.ref s.heap.objs.size) { s with heap := h', toks := tk } := fun h' tk c R k => by
    have e := setR_count R
    subst e
    exact ⟨.ref s.heap.objs.size, _, I.laid (t' := tk) k (Nat.le_refl _) (setO_new R), rfl, q _ (I.hok.fresh (Nat.le_refl _))⟩
  rcases hq with hq | hq
  · obtain ⟨its, rv, pl, _⟩ := I.list hq
    exact call_set_lstI ns (I.ok.hd hc) pl.isList (by simpa using rv.ints) (by unfold scanBound; omega) fun h' tk c R _ k => fin h' tk c R k
  · obtain ⟨its, rv, pl, _⟩ := I.tuple hq
    exact call_set_tupI ns (I.ok.hd hc) (show s.heap.IsTuple p its.toArray from pl) (by simpa using rv.ints) (by unfold scanBound; omega) fun h' tk c R _ k => fin h' tk c R k
/-- len(a set of ints) -/
theorem cr_lenSetO : CallR X (.builtin "len") (fun xs H Q => ∃ (p : Addr) (S : Int → Bool) (n : Nat), xs = [.ref p] ∧ H p = some (SetO X.w p S n) ∧ Q (.int n) H) := by
  intro pins s σ H xs us Q I r h
  obtain ⟨p, S, n, rfl, hp, q⟩ := h
  obtain ⟨u, rfl, rx⟩ := vals1 r
  cases rx
  obtain ⟨o, es, ep, t, ho, hex, hd, _, _, _, hb, hf, hn, _, _⟩ := setO_get I hp
  refine call_len_set ho hex hd hf (by have : es.size < scanBound := hb; unfold scanBound at this; omega) ⟨.int n, H, I.tok _, ⟨_, by rw [hn]⟩, q⟩
end
end PyD
namespace PyD
open PySem PySem.Spec PyProof.Rows L2
structure CC where
  N : List Str
  fns : Nat → Option Str
  con : List (Str × D)
  kbs : Nat → List (Nat × List Str × List Nat)
def visB (sc : Scope) (x : Str) : Bool := match sc.names.lookup x with
  | some .local => true
  | some .cell => true
  | some .free => true
  | _ => false
def glB (sc : Scope) (x : Str) : Bool := match sc.names.lookup x with
  | some .globalImplicit => true
  | _ => false
def locB (sc : Scope) (x : Str) : Bool := match sc.names.lookup x with
  | some .local => true
  | some .cell => true
  | _ => false
def isLocal (sc : Scope) (x : Str) : Bool := match sc.names.lookup x with
  | some .local => true
  | _ => false
def nameOk (x : Str) : Bool := !(x == ("__debug__" : Str)) && !(x == ("__classdict__" : Str)) && decide (x ≠ "__name__")
def isStar : Expr → Bool
  | .Starred _ _ => true
  | _ => false
def isSlice : Expr → Bool
  | .Slice _ _ _ _ => true
  | _ => false
def isSet : Expr → Bool
  | .Set _ _ _ => true
  | _ => false
/-- its test is its value's -/
def isPlainT : Expr → Bool
  | .List _ _ => true
  | .ListComp _ _ _ _ => true
  | .BinOp _ _ _ _ => true
  | .Subscript _ _ _ => true
  | .Call _ _ _ _ => true
  | _ => false
def isTupE : Expr → Bool
  | .Tuple _ _ _ => true
  | _ => false
def isBareCall : Expr → Bool
  | .Call (.Name _ _) [] [] _ => true
  | _ => false
/-- a comprehension -/
def isComp : Expr → Bool
  | .ListComp _ _ _ _ => true
  | .SetComp _ _ _ _ => true
  | .DictComp _ _ _ _ _ => true
  | _ => false
def call1 (sc : Scope) (f : Str) : Expr → Option Expr
  | .Call (.Name id _) [a] [] _ => if decide (id = f) && glB sc f && !isStar a then some a else none
  | _ => none
def call2 (sc : Scope) (f : Str) : Expr → Option (Expr × Expr)
  | .Call (.Name id _) [a, b] [] _ => if decide (id = f) && glB sc f && !isStar a && !isStar b then some (a, b) else none
  | _ => none
def meth0 (f : Str) : Expr → Option Expr
  | .Call (.Attribute o id apos) [] [] cpos => if decide (id = f) && (apos.endLine == cpos.line) && !isBareCall o then some o else none
  | _ => none
def meth1 (f : Str) : Expr → Option (Expr × Expr)
  | .Call (.Attribute o id apos) [e] [] cpos => if decide (id = f) && (apos.endLine == cpos.line) && !isBareCall o && !isStar e then some (o, e) else none
  | _ => none
def constOk : D → Const → Bool
  | .non, .none => true
  | .bl a, .bool b => a == b
  | .int a, .int b => decide (a = b)
  | .str a, .str b => decide (a = b)
  | _, _ => false
def opOk : Op → Operator → Bool
  | .add, .Add => true | .sub, .Sub => true | .mul, .Mult => true | .fdiv, .FloorDiv => true | .mod, .Mod => true | .pow, .Pow => true
  | .shl, .LShift => true | .shr, .RShift => true | .band, .BitAnd => true | .bor, .BitOr => true | .bxor, .BitXor => true
  | _, _ => false
def copOk : Cop → CmpOp → Bool
  | .eq, .Eq => true | .ne, .NotEq => true | .lt, .Lt => true | .le, .LtE => true | .gt, .Gt => true | .ge, .GtE => true | .isin, .In => true | .notin, .NotIn => true
  | _, _ => false
def b1name : B1 → Str
  | .len => "len" | .abs => "abs" | .int => "int" | .repr => "repr"
def tyname : Ty → String
  | .int => "int" | .bool => "bool" | .str => "str" | .tuple => "tuple" | .list => "list" | .dict => "dict"
def L.fresh : L → Bool
  | .of _ => false
  | _ => true
def Es.noStar : Es → Bool
  | .nil => true
  | .cons _ es => es.noStar
  | .star _ _ => false
def Es.len : Es → Nat
  | .nil => 0
  | .cons _ es => es.len + 1
  | .star _ es => es.len + 1
mutual
def T.slots : T → List Nat
  | .nm i => [i]
  | .tp ts => Ts.slots ts
  | .sub _ _ => []
def Ts.slots : Ts → List Nat
  | .nil => []
  | .cons t ts => T.slots t ++ Ts.slots ts
end
def T.isTp : T → Bool
  | .tp _ => true
  | _ => false
def subL (a b : List Nat) : Bool := a.all fun i => b.contains i
def keysOk : List Str → List (Option Expr) → Bool
  | [], [] => true
  | k :: ks, some (.Constant (.str x) _ _) :: xs => decide (k = x) && keysOk ks xs
  | _, _ => false
/-- is the comprehension v stored by name at once -/
def swB (sc : Scope) (v : Expr) (x : Str) (p : Pos) : Bool := match v with
  | .ListComp _ _ s _ => isLocal sc x && (p.line == v.pos.line) && !(s.names.any fun (n, k) => n == x && (k == .local || k == .cell))
  | _ => false
/-- t = v, both tuples: which names are stored from the right (none: from the left); outer none: not followed -/
def swapF (sc : Scope) (ts vs : List Expr) : Option (Option (List Str)) :=
  if !(ts.length == 2 || ts.length == 3) || vs.length != ts.length then some none else
  if vs.any fun | .Starred .. => true | _ => false then some none else
  let line := (ts.head?.map (·.pos.line)).getD 0
  let names := ts.filterMap fun
    | .Name id pos => if sc.names.lookup id == some .local && pos.line == line then some id else none
    | _ => none
  if names.length != ts.length || names.eraseDups.length != names.length then some none else
  if vs.all (foldedForSure 8) then some none else
  if vs.all (constantsAlone 8) then none else some (some names)
mutual
def chkE (c : CC) : E → Scope → Expr → Bool
  | .never, _, _ => true
  | .c d, _, x => match x with
    | .Constant k _ _ => constOk d k
    | _ => false
  | .v i, sc, x => match x with
    | .Name id _ => decide (c.N[i]? = some id) && visB sc id && nameOk id
    | _ => false
  | .g z d, sc, x => match x with
    | .Name id _ => decide (id = z) && glB sc id && nameOk id && c.con.any fun p => decide (p.1 = z) && D.same p.2 d
    | _ => false
  | .neg a, sc, x => match x with
    | .UnaryOp .USub y _ => chkE c a sc y
    | _ => false
  | .tup es, sc, x => match x with
    | .Tuple ys _ _ => chkEs c es sc ys
    | _ => false
  | .ls l, sc, x => chkL c l sc x && l.fresh && isPlainT x
  | .fz l, sc, x => chkL c l sc x && l.fresh && isPlainT x
  | .dct ks es, sc, x => match x with
    | .Dict keys vals _ => keysOk ks keys && chkEs c es sc vals && es.noStar && decide (ks.length ≤ 15) && decide (ks.length = es.len) && decide (ks.Nodup) && decide (ks ≠ [])
    | _ => false
  | .bin o a b, sc, x => match x with
    | .BinOp p op q _ => opOk o op && chkE c a sc p && chkE c b sc q
    | _ => false
  | .cmp o a b, sc, x => match x with
    | .Compare p [op] [q] _ => copOk o op && !behindInMarks op q && chkE c a sc p && chkE c b sc q
    | _ => false
  | .chain o p a b d, sc, x => match x with
    | .Compare x1 [op, op'] [x2, x3] _ => copOk o op && copOk p op' && !lastMarks [op, op'] [x2, x3] && chkE c a sc x1 && chkE c b sc x2 && chkE c d sc x3
    | _ => false
  | .isN a, sc, x => match x with
    | .Compare p [.Is] [.Constant .none _ _] _ => chkE c a sc p
    | _ => false
  | .notN a, sc, x => match x with
    | .Compare p [.IsNot] [.Constant .none _ _] _ => chkE c a sc p
    | _ => false
  | .isB k a, sc, x => match x with
    | .Compare p [.Is] [.Constant (.bool j) _ _] _ => (k == j) && chkE c a sc p
    | _ => false
  | .notB k a, sc, x => match x with
    | .Compare p [.IsNot] [.Constant (.bool j) _ _] _ => (k == j) && chkE c a sc p
    | _ => false
  | .bools k es, sc, x => match x with
    | .BoolOp .And xs _ => k && chkEs c es sc xs && es.noStar && decide (0 < es.len)
    | .BoolOp .Or xs _ => !k && chkEs c es sc xs && es.noStar && decide (0 < es.len)
    | _ => false
  | .not a, sc, x => match x with
    | .UnaryOp .Not y _ => chkE c a sc y
    | _ => false
  | .ite t a b, sc, x => match x with
    | .IfExp y p q _ => chkE c t sc y && chkE c a sc p && chkE c b sc q
    | _ => false
  | .ix a i, sc, x => match x with
    | .Subscript p q _ => !isSlice q && chkE c a sc p && chkE c i sc q
    | _ => false
  | .sl a lo hi, sc, x => match x with
    | .Subscript p (.Slice l h none _) _ => chkE c a sc p && chkO c lo sc l && chkO c hi sc h
    | _ => false
  | .call f es, sc, x => match x with
    | .Call (.Name id _) xs [] _ => decide (c.fns f = some id) && glB sc id && nameOk id && chkEs c es sc xs && es.noStar
    | _ => false
  | .callk f es zs perm, sc, x => match x with
    | .Call (.Name id _) xs kws _ => decide (c.fns f = some id) && glB sc id && nameOk id && chkEs c es sc xs && es.noStar && chkEs c zs sc (kws.map (·.value)) && zs.noStar && decide (zs.len = kws.length) &&
        (c.kbs f).any fun q => decide (q.1 = es.len) && decide (kws.map (·.arg) = q.2.1.map some) && decide (q.2.2 = perm)
    | _ => false
  | .b1 b a, sc, x => match call1 sc (b1name b) x with
    | some y => chkE c a sc y
    | none => false
  | .isi t a, sc, x => match call2 sc "isinstance" x with
    | some (y, .Name id _) => chkE c a sc y && decide (id = Str.ofString (tyname t)) && glB sc id
    | _ => false
  | .dvm a b, sc, x => match call2 sc "divmod" x with
    | some (y, z) => chkE c a sc y && chkE c b sc z
    | none => false
  | .tupOf l, sc, x => match call1 sc "tuple" x with
    | some y => chkL c l sc y
    | none => false
  | .allOf l, sc, x => match call1 sc "all" x with
    | some y => chkL c l sc y
    | none => false
  | .anyOf l, sc, x => match call1 sc "any" x with
    | some y => chkL c l sc y
    | none => false
  | .sumOf l, sc, x => match call1 sc "sum" x with
    | some y => chkL c l sc y
    | none => false
  | .mnx g l, sc, x => match call1 sc (if g then "max" else "min") x with
    | some y => chkL c l sc y
    | none => false
  | .mnx2 g a b, sc, x => match call2 sc (if g then "max" else "min") x with
    | some (y, z) => chkE c a sc y && chkE c b sc z
    | none => false
  | .tupR a, sc, x => match call1 sc "tuple" x with
    | some y => match call1 sc "range" y with
      | some z => chkE c a sc z
      | none => false
    | none => false
  | .lenSet l, sc, x => match call1 sc "len" x with
    | some y => match call1 sc "set" y with
      | some z => chkL c l sc z
      | none => false
    | none => false
  | .app a e, sc, x => match meth1 "append" x with
    | some (o, y) => chkE c a sc o && chkE c e sc y
    | none => false
  | .ext a l, sc, x => match meth1 "extend" x with
    | some (o, y) => chkE c a sc o && chkL c l sc y
    | none => false
  | .pop a, sc, x => match meth0 "pop" x with
    | some o => chkE c a sc o
    | none => false
  | .popi a i, sc, x => match meth1 "pop" x with
    | some (o, y) => chkE c a sc o && chkE c i sc y
    | none => false
  | .idx a e, sc, x => match meth1 "index" x with
    | some (o, y) => chkE c a sc o && chkE c e sc y
    | none => false
def chkEs (c : CC) : Es → Scope → List Expr → Bool
  | .nil, _, xs => match xs with
    | [] => true
    | _ => false
  | .cons e es, sc, xs => match xs with
    | x :: xs => !isStar x && chkE c e sc x && chkEs c es sc xs
    | [] => false
  | .star l es, sc, xs => match xs with
    | .Starred y _ :: xs => chkL c l sc y && chkEs c es sc xs
    | _ => false
def chkO (c : CC) : O → Scope → Option Expr → Bool
  | .no, _, x => match x with
    | none => true
    | _ => false
  | .at e, sc, x => match x with
    | some y => chkE c e sc y
    | none => false
def chkL (c : CC) : L → Scope → Expr → Bool
  | .of e, sc, x => chkE c e sc x
  | .disp es, sc, x => match x with
    | .List ys _ => chkEs c es sc ys
    | _ => false
  | .comp own t i cs elt, sc, x => match x with
    | .ListComp y [⟨tg, it, ifs, 0⟩] scope _ => blkC c.N sc scope own && chkI c i sc tg it && !isSet it && chkT c t scope (relS scope sc) tg && subL t.slots (own.map (·.2)) &&
        chkEs c cs (relS scope sc) ifs && cs.noStar && decide (cs.len ≤ 1) && chkE c elt (relS scope sc) y
    | _ => false
  | .comp2 own vs1 t i t2 i2 cs elt, sc, x => match x with
    | .ListComp y [⟨tg, it, [], 0⟩, ⟨tg2, it2, ifs, 0⟩] scope _ => blkC c.N sc scope own && chkI c i sc tg it && !isSet it && chkT c t scope (relS scope sc) tg && subL t.slots (own.map (·.2)) &&
        chkI c i2 (relS scope sc) tg2 it2 && !isSet it2 && chkT c t2 scope (relS scope sc) tg2 && subL t2.slots vs1 && subL vs1 (own.map (·.2)) &&
        chkEs c cs (relS scope sc) ifs && cs.noStar && decide (cs.len ≤ 1) && chkE c elt (relS scope sc) y
    | _ => false
  | .cat a b, sc, x => match x with
    | .BinOp p .Add q _ => chkL c a sc p && chkL c b sc q
    | _ => false
  | .sl a lo hi, sc, x => match x with
    | .Subscript p (.Slice l h none _) _ => chkL c a sc p && chkO c lo sc l && chkO c hi sc h
    | _ => false
  | .listOf l, sc, x => match call1 sc "list" x with
    | some y => chkL c l sc y
    | none => false
  | .listR a, sc, x => match call1 sc "list" x with
    | some y => match call1 sc "range" y with
      | some z => chkE c a sc z
      | none => false
    | none => false
  | .sorted l, sc, x => match call1 sc "sorted" x with
    | some y => chkL c l sc y
    | none => false
  | .sortedSet l, sc, x => match call1 sc "sorted" x with
    | some y => match call1 sc "set" y with
      | some z => chkL c l sc z
      | none => false
    | none => false
  | .rep a e, sc, x => match x with
    | .BinOp p .Mult q _ => chkL c a sc p && a.fresh && chkE c e sc q
    | _ => false
def chkI (c : CC) : I → Scope → Expr → Expr → Bool
  | .of l, sc, _, x => chkL c l sc x
  | .rng1 a, sc, _, x => match call1 sc "range" x with
    | some y => chkE c a sc y
    | none => false
  | .rng2 a b, sc, _, x => match call2 sc "range" x with
    | some (y, z) => chkE c a sc y && chkE c b sc z
    | none => false
  | .enum i, sc, tg, x => match call1 sc "enumerate" x with
    | some y => isTupE tg && (match i with | .of l => chkL c l sc y | _ => false)
    | none => false
  | .zip a b, sc, tg, x => match call2 sc "zip" x with
    | some (y, z) => isTupE tg && (match a with | .of l => chkL c l sc y | _ => false) && (match b with | .of l => chkL c l sc z | _ => false)
    | none => false
/-- tsc: the scope that says what a name stored is (a block's own, as it is written) -/
def chkT (c : CC) : T → Scope → Scope → Expr → Bool
  | .nm i, tsc, _, x => match x with
    | .Name id _ => decide (c.N[i]? = some id) && locB tsc id
    | _ => false
  | .tp ts, tsc, sc, x => match x with
    | .Tuple ys _ _ => chkTs c ts tsc sc ys
    | _ => false
  | .sub a k, _, sc, x => match x with
    | .Subscript p q _ => !isSlice q && chkE c a sc p && chkE c k sc q
    | _ => false
def chkTs (c : CC) : Ts → Scope → Scope → List Expr → Bool
  | .nil, _, _, xs => match xs with
    | [] => true
    | _ => false
  | .cons t ts, tsc, sc, xs => match xs with
    | x :: xs => !isStar x && chkT c t tsc sc x && chkTs c ts tsc sc xs
    | [] => false
end
/-- how an assignment goes -/
def isListComp : Expr → Bool
  | .ListComp _ _ _ _ => true
  | _ => false
def isCompE : E → Bool
  | .fz (.comp _ _ _ _ _) => true
  | .fz (.comp2 _ _ _ _ _ _ _ _) => true
  | .ls (.comp _ _ _ _ _) => true
  | .ls (.comp2 _ _ _ _ _ _ _ _) => true
  | _ => false
def isTupI : E → Bool
  | .tup _ => true
  | _ => false
def isTuple : Expr → Option (List Expr)
  | .Tuple vs _ _ => some vs
  | _ => none
def parOk (sc : Scope) (e : E) (ns : List Str) (ts vs : List Expr) : Bool := isTupI e && (match ts, vs with
  | [.Name x _, .Name y _], [_, _] => isLocal sc x && isLocal sc y && decide (ns = [x, y]) && decide (x ≠ y)
  | [.Name x _, .Name y _, .Name z _], [_, _, _] => isLocal sc x && isLocal sc y && isLocal sc z && decide (ns = [x, y, z]) && decide (x ≠ y) && decide (x ≠ z) && decide (y ≠ z)
  | _, _ => false)
def asgOk (sc : Scope) (e : E) (tg v : Expr) : Bool := match tg with
  | .Name _ _ => if isListComp v then isCompE e else !isComp v
  | .Tuple ts _ _ => match isTuple v with
    | some vs => (match swapF sc ts vs with
      | some none => true
      | some (some ns) => parOk sc e ns ts vs
      | none => false)
    | none => true
  | .Subscript _ _ _ => true
  | _ => false
mutual
def chkS (c : CC) : S → Scope → Stmt → Bool
  | .pass, _, x => match x with
    | .Pass _ => true
    | _ => false
  | .asg t e, sc, x => match x with
    | .Assign [tg] v _ => chkT c t sc sc tg && chkE c e sc v && asgOk sc e tg v
    | _ => false
  | .ex e, sc, x => match x with
    | .Expr v _ => chkE c e sc v && !isComp v
    | _ => false
  | .ret e, sc, x => match x with
    | .Return (some v) _ => chkE c e sc v
    | _ => false
  | .retN, _, x => match x with
    | .Return none _ => true
    | _ => false
  | .ifs e a b, sc, x => match x with
    | .If y p q _ => chkE c e sc y && chkSs c a sc p && chkSs c b sc q
    | _ => false
  | .for t i b, sc, x => match x with
    | .For tg it body [] _ => chkI c i sc tg it && !isSet it && chkT c t sc sc tg && chkSs c b sc body && (match i with | .enum _ => t.isTp | .zip _ _ => t.isTp | _ => true)
    | _ => false
  | .whil e b, sc, x => match x with
    | .While y body [] _ => chkE c e sc y && chkSs c b sc body
    | _ => false
  | .never, _, _ => true
def chkSs (c : CC) : Ss → Scope → List Stmt → Bool
  | .nil, _, xs => match xs with
    | [] => true
    | _ => false
  | .cons s ss, sc, xs => match xs with
    | x :: xs => chkS c s sc x && chkSs c ss sc xs
    | [] => false
end
end PyD
namespace PyD
open PySem PySem.Spec PyProof.Rows L2
abbrev EXT := X → Store → Prop
def Post {α : Type} (EX : EXT) (r : R α) (P : α → Store → Prop) : Prop := match r with
  | .stuck => False
  | .ok a s => P a s
  | .exc x s => EX x s
theorem Post.bind {α β : Type} {EX : EXT} {r : R α} {f : α → Store → R β} {P : β → Store → Prop} (h : Post EX (r.bind f) P) : Post EX r fun a s => Post EX (f a s) P := by
  cases r with
  | stuck => exact h
  | ok a s => exact h
  | exc x s => exact h
theorem Post.mono {α : Type} {EX : EXT} {r : R α} {P P' : α → Store → Prop} (h : Post EX r P) (hp : ∀ a s, P a s → P' a s) : Post EX r P' := by
  cases r with
  | stuck => exact h
  | ok a s => exact hp a s h
  | exc x s => exact h
theorem Post.stuck {α : Type} {EX : EXT} {P : α → Store → Prop} (h : Post EX (R.stuck : R α) P) : False := h
section
variable (K : PySem.W.Frag) (cal : Cal) (EX : EXT)
/-- the state: the store in the heap, the slots -/
structure Sta (ρ : List Addr) (st : Store) (env : Env) (σ : L2.St) (H : Hp) : Prop where
  r : Rel K ρ st H
  e : RelE K ρ H env σ
def WE (ρ : List Addr) (H : Hp) (Q : VK) : D → Store → Prop := fun d st' => ∀ ρ' H' v, Rel K ρ' st' H' → Kp ρ ρ' H H' → RepV K ρ' H' d v → Q v H'
def tE (e : E) : TE := fun σ H Q => ∃ ρ st env, Sta K ρ st env σ H ∧ Post EX (evE cal e env st) (WE K ρ H Q)
def WEs (ρ : List Addr) (H : Hp) (Q : List V → Hp → Prop) : List D → Store → Prop := fun ds st' => ∀ ρ' H' vs, Rel K ρ' st' H' → Kp ρ ρ' H H' → RepVs K ρ' H' ds vs → Q vs H'
def tEs (es : Es) : TA := fun σ H Q => ∃ ρ st env, Sta K ρ st env σ H ∧ Post EX (evEs cal es env st) (WEs K ρ H Q)
def tO (o : O) : TO := fun σ H Q => ∃ ρ st env, Sta K ρ st env σ H ∧ Post EX (evO cal o env st) fun i st' => ∀ ρ' H', Rel K ρ' st' H' → Kp ρ ρ' H H' → Q i H'
/-- a list, a tuple as it comes: a list by its items in the layer's heap -/
def WL (fr : Bool) (ρ : List Addr) (H : Hp) (Q : VK) : Bool × List D → Store → Prop := fun r st' => ∀ ρ' H' p vs, Rel K ρ' st' H' → Kp ρ ρ' H H' → RepVs K ρ' H' r.2 vs →
  (r.1 = true → SqL K H' p vs) → (r.1 = false → TupAt K H' p vs) → (fr = true → r.1 = true → H p = none ∧ p ∉ ρ' ∧ H' p = some (.lst vs)) → Q (.ref p) H'
def tL (l : L) : TE := fun σ H Q => ∃ ρ st env, Sta K ρ st env σ H ∧ Post EX (evL cal l env st) (WL K l.fresh ρ H Q)
def tC (es : Es) : TT := fun σ H Q => ∃ ρ st env, Sta K ρ st env σ H ∧ Post EX (evC cal es env st) fun b st' => ∀ ρ' H', Rel K ρ' st' H' → Kp ρ ρ' H H' → Q b H'
def tBs (k : Bool) (es : Es) : TE := fun σ H Q => ∃ ρ st env, Sta K ρ st env σ H ∧ Post EX (evB cal k es env st) (WE K ρ H Q)
/-- the items of a walk as tuples of a pair alone -/
def It.pairs : It → Bool
  | .enum _ => true
  | .zip _ _ => true
  | _ => false
/-- what may be unpacked -/
def RepU (ρ : List Addr) (H : Hp) (d : D) (v : V) : Prop := ∃ ds p vs, d = .tup ds ∧ v = .ref p ∧ SqT K H p vs ∧ RepVs K ρ H ds vs
def RepI (J : It) (ρ : List Addr) (H : Hp) (d : D) (v : V) : Prop := if J.pairs then RepU K ρ H d v else RepV K ρ H d v
/-- a walk of the layer goes as the walk of the store -/
structure ItAt (Hs : Hp) (ρ : List Addr) (H : Hp) (J : It) (JJ : L2.It) : Prop where
  w : ∃ W : List Addr → Hp → Prop, W ρ H ∧ (∀ ρ ρ' H H', W ρ H → KpS Hs ρ ρ' H H' → W ρ' H') ∧
    (∀ ρ st H i d, W ρ H → Rel K ρ st H → J.next i st = some (some d) → JJ.go i H ∧ ∀ x H', JJ.yld i H x H' → Rel K ρ st H' ∧ Kp ρ ρ H H' ∧ RepI K J ρ H' d x) ∧
    (∀ ρ st H i, W ρ H → Rel K ρ st H → J.next i st = some none → JJ.stop i H)
def tI (i : I) : TI := fun σ H R => ∃ ρ st env, Sta K ρ st env σ H ∧ Post EX (evI cal i env st) fun J st' => ∀ ρ' H' JJ, Rel K ρ' st' H' → Kp ρ ρ' H H' → ItAt K H ρ' H' J JJ → R JJ H'
def WT (sl : List Nat) (ρ : List Addr) (H : Hp) (σ : L2.St) (Q : L2.St → Hp → Prop) : Env → Store → Prop := fun env' st' => ∀ ρ' H' σ', Rel K ρ' st' H' → Kp ρ ρ' H H' → RelE K ρ' H' env' σ' →
  (∀ own, subL sl own = true → wipe σ' own = wipe σ own) → Q σ' H'
def tT (t : T) : TG := fun v σ H Q => ∃ ρ st env d, Sta K ρ st env σ H ∧ (RepV K ρ H d v ∨ (t.isTp = true ∧ RepU K ρ H d v)) ∧ Post EX (asT cal t d env st) (WT K t.slots ρ H σ Q)
def tTs (ts : Ts) : TGs := fun vs σ H Q => ∃ ρ st env ds, Sta K ρ st env σ H ∧ RepVs K ρ H ds vs ∧ Post EX (asTs cal ts ds env st) (WT K ts.slots ρ H σ Q)
def Fl.to (K : PySem.W.Frag) (D : Ends) (ρ : List Addr) (f : Fl) (σ : L2.St) (H : Hp) : Prop := match f with
  | .nx => D.nx σ H
  | .rt d => ∀ v, RepV K ρ H d v → D.rt v H
  | .bk => D.bk σ H
  | .ct => D.ct σ H
def WS (D : Ends) (ρ : List Addr) (H : Hp) : Fl × Env → Store → Prop := fun r st' => ∀ ρ' H' σ', Rel K ρ' st' H' → Kp ρ ρ' H H' → RelE K ρ' H' r.2 σ' → r.1.to K D ρ' σ' H'
def tS (s : S) : TS := fun D σ H => ∃ ρ st env, Sta K ρ st env σ H ∧ Post EX (evS cal s env st) (WS K D ρ H)
def tSs (s : Ss) : TS := fun D σ H => ∃ ρ st env, Sta K ρ st env σ H ∧ Post EX (evSs cal s env st) (WS K D ρ H)
/-- a def's promise: it gives what cal gives -/
def spD (f : Nat) (n : Nat) : Sp := fun vs H Q _ => vs.length = n ∧ ∃ ρ st ds, Rel K ρ st H ∧ RepVs K ρ H ds vs ∧ Post (fun _ _ => False) (cal f ds st) (WE K ρ H Q)
end
section
variable {X : Cx}
theorem PE.imp {e : Expr} {t t' : TE} (h : PE X e t) (w : ∀ σ H Q, t' σ H Q → t σ H Q) : PE X e t' := ⟨fun pins s σ H Q I q => h.run pins s σ H Q I (w σ H Q q)⟩
theorem PT.imp {e : Expr} {t t' : TT} (h : PT X e t) (w : ∀ σ H Q, t' σ H Q → t σ H Q) : PT X e t' := ⟨fun pins s σ H Q I q => h.run pins s σ H Q I (w σ H Q q)⟩
theorem PW.imp {e : Expr} {t t' : TT} (h : PW X e t) (w : ∀ σ H Q, t' σ H Q → t σ H Q) : PW X e t' := ⟨fun wh pins s σ H Q I q => h.run wh pins s σ H Q I (w σ H Q q)⟩
theorem PTs.imp {e : List Expr} {t t' : TT} (h : PTs X e t) (w : ∀ σ H Q, t' σ H Q → t σ H Q) : PTs X e t' := ⟨fun pins s σ H Q I q => h.run pins s σ H Q I (w σ H Q q)⟩
theorem PA.imp {es : List Expr} {t t' : TA} (h : PA X es t) (w : ∀ σ H Q, t' σ H Q → t σ H Q) : PA X es t' := ⟨fun pos pins s σ H Q I q => h.run pos pins s σ H Q I (w σ H Q q)⟩
theorem PS.imp {st : Stmt} {t t' : TS} (h : PS X st t) (w : ∀ D σ H, t' D σ H → t D σ H) : PS X st t' := ⟨fun pins s σ H D I q => h.run pins s σ H D I (w D σ H q)⟩
theorem PSs.imp {st : List Stmt} {t t' : TS} (h : PSs X st t) (w : ∀ D σ H, t' D σ H → t D σ H) : PSs X st t' := ⟨fun pins s σ H D I q => h.run pins s σ H D I (w D σ H q)⟩
theorem PI.imp {tg it : Expr} {t t' : TI} (h : PI X tg it t) (w : ∀ σ H R, t' σ H R → t σ H R) : PI X tg it t' := ⟨fun pins s σ H R I q => h.run pins s σ H R I (w σ H R q)⟩
theorem PG.imp {tg : Expr} {t t' : TG} (h : PG X tg t) (w : ∀ v σ H Q, t' v σ H Q → t v σ H Q) : PG X tg t' := ⟨fun pins s σ H v u Q I r q => h.run pins s σ H v u Q I r (w v σ H Q q)⟩
theorem PGs.imp {tg : List Expr} {t t' : TGs} (h : PGs X tg t) (w : ∀ v σ H Q, t' v σ H Q → t v σ H Q) : PGs X tg t' := ⟨fun pins s σ H v u Q I r q => h.run pins s σ H v u Q I r (w v σ H Q q)⟩
theorem PO.imp {e : Option Expr} {t t' : TO} (h : PO X e t) (w : ∀ σ H Q, t' σ H Q → t σ H Q) : PO X e t' := ⟨fun pins s σ H Q I q => h.run pins s σ H Q I (w σ H Q q)⟩
theorem PE.or {e : Expr} {t t' : TE} (h : PE X e t) (h' : PE X e t') : PE X e fun σ H Q => t σ H Q ∨ t' σ H Q :=
  ⟨fun pins s σ H Q I q => q.elim (h.run pins s σ H Q I) (h'.run pins s σ H Q I)⟩
theorem PI.or {tg it : Expr} {t t' : TI} (h : PI X tg it t) (h' : PI X tg it t') : PI X tg it fun σ H Q => t σ H Q ∨ t' σ H Q :=
  ⟨fun pins s σ H Q I q => q.elim (h.run pins s σ H Q I) (h'.run pins s σ H Q I)⟩
end
def builtinNames : List Str := ["len", "abs", "int", "repr", "isinstance", "tuple", "list", "all", "any", "sum", "sorted", "min", "max", "range", "enumerate", "zip", "divmod", "bool", "str", "dict", "set"]
/-- a def of the text, called -/
structure Callee (P : Program) (w : World) (K : PySem.W.Frag) (mg : Str → Option Value) (base : Heap) (C : CXT) (k : Nat) (cal : Cal) (kbs : Nat → List (Nat × List Str × List Nat)) (f : Nat) (x : Str) : Prop where
  ex : ∃ (a : Addr) (fd : FuncData) (ps : List Str), mg x = some (.ref a) ∧ PySem.W.keepIn K (.ref a) = true ∧ FnG P w K mg base C k a fd ps (spD K cal f ps.length) ∧
    (∀ (s : Shared) (us : List Value), K.In s.heap → us.length = ps.length → BindsTo s fd ⟨us, []⟩ (ps.zip us)) ∧
    (∀ ds st, ds.length ≠ ps.length → cal f ds st = .stuck) ∧
    (∀ n ks perm, (n, ks, perm) ∈ kbs f → ∀ (s : Shared) (us ws : List Value), K.In s.heap → us.length = n → ws.length = ks.length → BindsTo s fd ⟨us, ks.zip ws⟩ (ps.zip (sel perm (us ++ ws))))
structure Good (c : CC) (C : CXT) (cal : Cal) (k : Nat) (X : Cx) : Prop where
  N : X.N = c.N
  nd : c.N.Nodup
  calm : X.calm = true
  kind : X.env.scope.kind = .function
  room : RoomG k X.A
  bn : ∀ x ∈ builtinNames, X.mg x = none
  con : ∀ p ∈ c.con, ∃ u v, X.mg p.1 = some u ∧ RelV v u ∧ ∀ ρ H, RepV X.K ρ H p.2 v
  fn : ∀ f x, c.fns f = some x → Callee X.prog X.w X.K X.mg X.base C k cal c.kbs f x
  pa : ∀ st H s e t, C st H s (fun _ _ _ => False) e t → False
theorem Good.hu {c : CC} {C : CXT} {cal : Cal} {k : Nat} {X : Cx} (g : Good c C cal k X) : X.A.units + 65 < cLine := by
  have := g.room.r.un
  omega
section
variable {K : PySem.W.Frag} {cal : Cal} {EX : EXT} {ρ ρ' : List Addr} {st st' : Store} {env : Env} {σ : L2.St} {H H' : Hp} {Q : VK} {e : E}
/-- a part read: what comes next stands at a later state -/
theorem tE.mk (S : Sta K ρ st env σ H) (h : Post EX (evE cal e env st) fun d s => ∀ ρ' H' v, Sta K ρ' s env σ H' → Kp ρ ρ' H H' → RepV K ρ' H' d v → Q v H') : tE K cal EX e σ H Q :=
  ⟨ρ, st, env, S, h.mono fun d s q ρ' H' v r k rv => q ρ' H' v ⟨r, S.e.kp k⟩ k rv⟩
theorem Sta.next (S : Sta K ρ st env σ H) (r : Rel K ρ' st' H') (k : Kp ρ ρ' H H') : Sta K ρ' st' env σ H' := ⟨r, S.e.kp k⟩
end
end PyD
namespace PyD
open PySem PySem.Spec PyProof.Rows L2
abbrev NoX : EXT := fun _ _ => False
abbrev DE (X : Cx) (cal : Cal) (e : E) (x : Expr) : Prop := PE X x (tE X.K cal NoX e) ∧ PT X x (tB (tE X.K cal NoX e))
theorem small_le {n : Nat} (h : small n = true) : n ≤ sizeLine := by
  rw [sizeLine_eq]; exact of_decide_eq_true h
section
variable {K : PySem.W.Frag} {cal : Cal} {ρ ρ' ρ2 : List Addr} {st st' : Store} {env : Env} {σ : L2.St} {H H' H2 : Hp} {Q : VK}
theorem WE.kp {d : D} {s : Store} (w : WE K ρ H Q d s) (k : Kp ρ ρ2 H H2) : WE K ρ2 H2 Q d s := fun ρ' H' v r k2 rv => w ρ' H' v r (k.trans k2) rv
theorem WE.now {d : D} {v : V} (w : WE K ρ H Q d st) (r : Rel K ρ st H) (rv : RepV K ρ H d v) : Q v H := w ρ H v r .refl rv
theorem WEs.kp {ds : List D} {s : Store} {Q : List V → Hp → Prop} (w : WEs K ρ H Q ds s) (k : Kp ρ ρ2 H H2) : WEs K ρ2 H2 Q ds s := fun ρ' H' v r k2 rv => w ρ' H' v r (k.trans k2) rv
theorem WL.kp {fr : Bool} {r0 : Bool × List D} {s : Store} (w : WL K fr ρ H Q r0 s) (k : Kp ρ ρ2 H H2) (hf : fr = true → ∀ p, H2 p = none → H p = none) : WL K fr ρ2 H2 Q r0 s :=
  fun ρ' H' p vs r k2 rv a b c => w ρ' H' p vs r (k.trans k2) rv a b fun h1 h2 => ⟨hf h1 p (c h1 h2).1, (c h1 h2).2⟩
theorem Kp.free (k : Kp ρ ρ2 H H2) (r : Rel K ρ2 st' H2) {p : Addr} (h : H2 p = none) : H p = none := by
  cases e : H p with
  | none => rfl
  | some o =>
    by_cases hm : p ∈ ρ
    · obtain ⟨i, hi, ei⟩ := List.mem_iff_getElem.mp hm
      have h1 := k.pre i p (by rw [List.getElem?_eq_getElem hi, ei])
      obtain ⟨ho, e2⟩ := r.mem (List.mem_of_getElem? h1)
      rw [h] at e2; cases e2
    · have := (k.old p o e hm).2
      rw [h] at this; cases this
/-- one part, then the rest -/
theorem tE.of {e : E} {α : Type} {f : D → Store → R α} {P : α → Store → Prop} (S : Sta K ρ st env σ H) (h : Post NoX ((evE cal e env st).bind f) P)
    (go : ∀ d s ρ' H' v, Sta K ρ' s env σ H' → Kp ρ ρ' H H' → RepV K ρ' H' d v → Post NoX (f d s) P → Q v H') : tE K cal NoX e σ H Q :=
  tE.mk S (h.bind.mono fun d s q ρ' H' v S' k rv => go d s ρ' H' v S' k rv q)
theorem tEs.of {es : Es} {α : Type} {f : List D → Store → R α} {P : α → Store → Prop} {Q : List V → Hp → Prop} (S : Sta K ρ st env σ H) (h : Post NoX ((evEs cal es env st).bind f) P)
    (go : ∀ d s ρ' H' v, Sta K ρ' s env σ H' → Kp ρ ρ' H H' → RepVs K ρ' H' d v → Post NoX (f d s) P → Q v H') : tEs K cal NoX es σ H Q :=
  ⟨ρ, st, env, S, h.bind.mono fun d s q ρ' H' v r k rv => go d s ρ' H' v (S.next r k) k rv q⟩
theorem tL.of {l : L} {α : Type} {f : Bool × List D → Store → R α} {P : α → Store → Prop} (S : Sta K ρ st env σ H) (h : Post NoX ((evL cal l env st).bind f) P)
    (go : ∀ (r : Bool × List D) s ρ' H' p vs, Sta K ρ' s env σ H' → Kp ρ ρ' H H' → RepVs K ρ' H' r.2 vs → (r.1 = true → SqL K H' p vs) → (r.1 = false → TupAt K H' p vs) →
      (l.fresh = true → r.1 = true → H p = none ∧ p ∉ ρ' ∧ H' p = some (.lst vs)) → Post NoX (f r s) P → Q (.ref p) H') : tL K cal NoX l σ H Q :=
  ⟨ρ, st, env, S, h.bind.mono fun r s q ρ' H' p vs rr k rv a b c => go r s ρ' H' p vs (S.next rr k) k rv a b c q⟩
theorem tO.of {o : O} {α : Type} {f : Option Int → Store → R α} {P : α → Store → Prop} {Q : Option Int → Hp → Prop} (S : Sta K ρ st env σ H) (h : Post NoX ((evO cal o env st).bind f) P)
    (go : ∀ i s ρ' H', Sta K ρ' s env σ H' → Kp ρ ρ' H H' → Post NoX (f i s) P → Q i H') : tO K cal NoX o σ H Q :=
  ⟨ρ, st, env, S, h.bind.mono fun r s q ρ' H' rr k => go r s ρ' H' (S.next rr k) k q⟩
end
section
variable {X : Cx} {cal : Cal} {C : CXT} {k : Nat} {c : CC}
/-- a value's rule gives the test's -/
theorem de_of {e : E} {x : Expr} (h : PE X x (tE X.K cal NoX e)) (he : ∀ whole, isTrue x X.env whole = (do let v ← whole; standAt x.pos; holding [v] (truthy v)) := by intro _; rfl) : DE X cal e x := ⟨h, pt_val h he⟩
theorem de_c {d : D} {q : Const} {j : Nat} {pos : Pos} (h : constOk d q = true) : DE X cal (.c d) (.Constant q j pos) := by
  refine de_of ?_
  cases d <;> cases q <;> simp [constOk] at h
  · exact PE.imp pe_non fun σ H Q ⟨ρ, st, env, S, p⟩ => WE.now p S.r .non
  · subst h; exact PE.imp pe_bl fun σ H Q ⟨ρ, st, env, S, p⟩ => WE.now p S.r (.bl _)
  · subst h; exact PE.imp pe_int fun σ H Q ⟨ρ, st, env, S, p⟩ => WE.now p S.r (.int _)
  · subst h; exact PE.imp pe_str fun σ H Q ⟨ρ, st, env, S, p⟩ => WE.now p S.r (.str _)
theorem vis_of {sc : Scope} {x : Str} (h : visB sc x = true) : Vis sc x := by
  unfold visB at h
  split at h
  · exact .inl (by assumption)
  · exact .inr (.inl (by assumption))
  · exact .inr (.inr (by assumption))
  · cases h
theorem gl_of {x : Str} (h : glB X.env.scope x = true) : Gl X x := by
  unfold glB at h
  show X.env.scope.names.lookup x = _
  split at h
  · assumption
  · cases h
theorem loc_of {sc : Scope} {x : Str} (h : locB sc x = true) : Loc sc x := by
  unfold locB at h
  split at h
  · exact .inl (by assumption)
  · exact .inr (by assumption)
  · cases h
theorem local_of {sc : Scope} {x : Str} (h : isLocal sc x = true) : sc.names.lookup x = some .local := by
  unfold isLocal at h
  split at h
  · assumption
  · cases h
theorem nameOk_of {x : Str} (h : nameOk x = true) : (x == ("__debug__" : Str)) = false ∧ (x == ("__classdict__" : Str)) = false ∧ x ≠ "__name__" := by
  unfold nameOk at h
  simp only [Bool.and_eq_true, Bool.not_eq_true', decide_eq_true_eq] at h
  exact ⟨h.1.1, h.1.2, h.2⟩
theorem de_v {i : Nat} {x : Str} {pos : Pos} (hN : X.N[i]? = some x) (hv : visB X.env.scope x = true) (hx : nameOk x = true) : DE X cal (.v i) (.Name x pos) := by
  obtain ⟨h1, h2, _⟩ := nameOk_of hx
  refine de_of (PE.imp (pe_var hN (vis_of hv) h1 h2) fun σ H Q ⟨ρ, st, env, S, p⟩ => ?_)
  simp only [evE] at p
  split at p
  · rename_i d e
    obtain ⟨v, h1, h2⟩ := S.e.2 i d e
    exact ⟨v, h1, WE.now p S.r h2⟩
  · exact p.elim
theorem de_g {z : Str} {d : D} {pos : Pos} (hg : glB X.env.scope z = true) (hx : nameOk z = true) (hc : ∃ u v, X.mg z = some u ∧ RelV v u ∧ ∀ ρ H, RepV X.K ρ H d v) : DE X cal (.g z d) (.Name z pos) := by
  obtain ⟨u, v, h1, h2, h3⟩ := hc
  exact de_of (PE.imp (pe_glob (gl_of hg) h1 h2 (nameOk_of hx).1) fun σ H Q ⟨ρ, st, env, S, p⟩ => WE.now p S.r (h3 _ _))
theorem repV_int {K : PySem.W.Frag} {ρ : List Addr} {H : Hp} {i : Int} {v : V} (h : RepV K ρ H (.int i) v) : v = .int i := by cases h; rfl
theorem repV_bl {K : PySem.W.Frag} {ρ : List Addr} {H : Hp} {i : Bool} {v : V} (h : RepV K ρ H (.bl i) v) : v = .bl i := by cases h; rfl
theorem repV_str {K : PySem.W.Frag} {ρ : List Addr} {H : Hp} {i : Str} {v : V} (h : RepV K ρ H (.str i) v) : v = .str i := by cases h; rfl
theorem repV_tup {K : PySem.W.Frag} {ρ : List Addr} {H : Hp} {ds : List D} {v : V} (h : RepV K ρ H (.tup ds) v) : ∃ p vs, v = .ref p ∧ TupAt K H p vs ∧ RepVs K ρ H ds vs := by cases h; exact ⟨_, _, rfl, by assumption, by assumption⟩
theorem repV_lst {K : PySem.W.Frag} {ρ : List Addr} {H : Hp} {ds : List D} {v : V} (h : RepV K ρ H (.lst ds) v) : ∃ p vs, v = .ref p ∧ LstAt K H p vs ∧ RepVs K ρ H ds vs := by cases h; exact ⟨_, _, rfl, by assumption, by assumption⟩
theorem repV_ref {K : PySem.W.Frag} {ρ : List Addr} {H : Hp} {a : Nat} {v : V} (h : RepV K ρ H (.ref a) v) : ∃ p, v = .ref p ∧ ρ[a]? = some p := by cases h; exact ⟨_, rfl, by assumption⟩
theorem de_neg {a : E} {y : Expr} {pos : Pos} (ha : DE X cal a y) : DE X cal (.neg a) (.UnaryOp .USub y pos) := by
  refine de_of (PE.imp (pe_un un_neg ha.1) fun σ H Q ⟨ρ, st, env, S, p⟩ => tE.of S (by simpa only [evE] using p) fun d s ρ' H' v S' k rv q => ?_)
  split at q
  · rw [repV_int rv]
    exact ⟨_, rfl, (WE.kp q k).now S'.r (.int _)⟩
  · exact q.elim
theorem de_not {a : E} {y : Expr} {pos : Pos} (ha : DE X cal a y) : DE X cal (.not a) (.UnaryOp .Not y pos) := by
  have key : ∀ σ H Q, tE X.K cal NoX (.not a) σ H Q → tE X.K cal NoX a σ H fun x H1 => ∃ b, x = .bl b ∧ Q (.bl (!b)) H1 := fun σ H Q ⟨ρ, st, env, S, p⟩ => tE.of S (by simpa only [evE] using p) fun d s ρ' H' v S' k rv q => by
    split at q
    · exact ⟨_, repV_bl rv, (WE.kp q k).now S'.r (.bl _)⟩
    · exact q.elim
  refine ⟨PE.imp (pe_not ha.1) fun σ H Q h => key σ H Q h, PT.imp (pt_not ha.2) fun σ H Q h => ?_⟩
  obtain ⟨ρ, st, env, S, p⟩ := key _ _ _ h
  exact ⟨ρ, st, env, S, p.mono fun d s q ρ' H' v r k rv => by
    obtain ⟨b, e, b', e', q⟩ := q ρ' H' v r k rv
    cases e'
    exact ⟨b, e, q⟩⟩
theorem bin_seq {o : Op} {a b : E} {r : R2} {σ : L2.St} {H : Hp} {Q : VK} (h : tE X.K cal NoX (.bin o a b) σ H Q)
    (fin : ∀ x y v w ρ st H, Rel X.K ρ st H → RepV X.K ρ H x v → RepV X.K ρ H y w → Post NoX (binD o x y st) (WE X.K ρ H Q) → r v w H Q) : tOp r (tE X.K cal NoX a) (tE X.K cal NoX b) σ H Q := by
  obtain ⟨ρ, st, env, S, p⟩ := h
  refine tE.of S (by simpa only [evE] using p) fun x s ρ1 H1 v S1 k1 rx q1 => ?_
  refine tE.of S1 q1 fun y s2 ρ2 H2 w S2 k2 ry q2 => ?_
  exact fin x y v w ρ2 s2 H2 S2.r (rx.kp k2) ry (q2.mono fun d s h => WE.kp h (k1.trans k2))
theorem smallI_mul {i j : Int} (h : (smallI i || smallI j) = true) : CMul i j := by
  simp only [smallI, Bool.or_eq_true, Bool.and_eq_true, decide_eq_true_eq] at h
  exact h
theorem smallI_abs {i : Int} (h : smallI i = true) : i.natAbs < 2 ^ 64 := by
  simp only [smallI, Bool.and_eq_true, decide_eq_true_eq] at h
  omega
end
end PyD
namespace PyD
open PySem PySem.Spec PyProof.Rows L2
section
variable {X : Cx} {cal : Cal} {C : CXT} {k : Nat} {c : CC}
theorem seen2 {K : PySem.W.Frag} {ρ : List Addr} {st : Store} {H : Hp} {x y a b : D} {v w : V} (r : Rel K ρ st H) (rx : RepV K ρ H x v) (ry : RepV K ρ H y w) (h1 : see st depthL x = some a) (h2 : see st depthL y = some b) : Seen2 K v w H a b :=
  ⟨ρ, st, x, y, r, rx, ry, h1, h2⟩
theorem notNone_ne {a : D} (h : a.notNone = true) (hr : ∀ i, a ≠ .ref i) : a.py ≠ .none := by
  cases a <;> simp [D.notNone, D.py] at h hr ⊢
/-- what is seen holds no reference -/
theorem see_noref : ∀ {n : Nat} {st : Store} {d e : D}, see st n d = some e → ∀ i, e ≠ .ref i
  | 0, _, _, _, h, _ => by simp [see] at h
  | n + 1, st, d, e, h, i => by
    cases d with
    | ref a =>
      simp only [see] at h
      split at h
      · rename_i ds _
        cases q : ds.mapM (see st n) with
        | none => rw [q] at h; cases h
        | some es => rw [q] at h; cases h; exact fun z => by cases z
      · cases h
    | tup ds =>
      simp only [see] at h
      cases q : ds.mapM (see st n) with
      | none => rw [q] at h; cases h
      | some es => rw [q] at h; cases h; exact fun z => by cases z
    | lst ds =>
      simp only [see] at h
      cases q : ds.mapM (see st n) with
      | none => rw [q] at h; cases h
      | some es => rw [q] at h; cases h; exact fun z => by cases z
    | _ => simp only [see, Option.some.injEq] at h; subst h; exact fun z => by cases z
theorem ord_fin {f : PyData → PyData → Bool} {x y : D} {v w : V} {ρ : List Addr} {st : Store} {H : Hp} {Q : VK} (r : Rel X.K ρ st H) (rx : RepV X.K ρ H x v) (ry : RepV X.K ρ H y w) (h : Post NoX (ordD f x y st) (WE X.K ρ H Q)) : rOrd X.K f v w H Q := by
  unfold ordD at h
  split at h
  · rename_i a b e1 e2
    split at h
    · rename_i hc
      simp only [Bool.and_eq_true] at hc
      exact ⟨a, b, seen2 r rx ry e1 e2, hc.1, notNone_ne hc.2 (see_noref e1), WE.now h r (.bl _)⟩
    · exact h.elim
  · exact h.elim
theorem getK_val {K : PySem.W.Frag} {ρ : List Addr} {H : Hp} : ∀ {kvs : List ((Int ⊕ Str) × D)} {vs : List (Key × V)} {j : Int ⊕ Str}, RepK K ρ H kvs vs →
    match getK kvs j with
    | some d => ∃ v, valV vs j = some v ∧ RepV K ρ H d v
    | none => valV vs j = none
  | _, _, j, .nil => rfl
  | (k1, d1) :: kr, (k2, v2) :: vr, j, .cons h t => by
    obtain ⟨e, hv⟩ := h
    simp only at e
    subst e
    by_cases hj : k1 = j
    · have e1 : getK ((k1, d1) :: kr) j = some d1 := by unfold getK; rw [List.find?_cons]; simp [hj]
      rw [e1]
      exact ⟨v2, valV_pos hj, hv⟩
    · have e1 : ∀ r, getK ((k1, d1) :: r) j = getK r j := fun r => by unfold getK; rw [List.find?_cons]; simp [hj]
      rw [e1, valV_neg (p := (k1, v2)) hj]
      exact getK_val t
theorem keyOf_kV {K : PySem.W.Frag} {ρ : List Addr} {H : Hp} {x : D} {v : V} {j : Int ⊕ Str} (h : keyOf x = some j) (r : RepV K ρ H x v) : v = kV j := by
  cases r <;> simp [keyOf] at h <;> subst h <;> rfl
/-- in -/
theorem in_fin {neg : Bool} {x y : D} {v w : V} {ρ : List Addr} {st : Store} {H : Hp} {Q : VK} {b : Bool} (r : Rel X.K ρ st H) (rx : RepV X.K ρ H x v) (ry : RepV X.K ρ H y w) (h : inD x y st = some b) (q : Q (.bl (if neg then !b else b)) H) :
    ((∃ i j, v = .str i ∧ w = .str j ∧ Q (.bl (if neg then !(!(Builtin.Str.occurrences j i 0 j.length 1).isEmpty) else !(Builtin.Str.occurrences j i 0 j.length 1).isEmpty)) H) ∨ rInD X.K neg v w H Q) ∨ rInK neg v w H Q := by
  unfold inD at h
  split at h
  · split at h
    · cases h
      exact .inl (.inl ⟨_, _, repV_str rx, repV_str ry, q⟩)
    · cases h
  · rename_i a
    split at h
    · rename_i kvs hst
      cases e : keyOf x with
      | none => rw [e] at h; cases h
      | some j =>
        rw [e] at h
        cases h
        obtain ⟨p, rfl, hp⟩ := repV_ref ry
        obtain ⟨ho, h1, h2⟩ := r.at hst hp
        cases h2 with
        | dct rk =>
          rw [keyOf_kV e rx]
          refine .inr ⟨p, _, rfl, DGet.k h1, ?_⟩
          have z := getK_val (j := j) rk
          simp only at q
          cases e2 : getK kvs j with
          | none => rw [e2] at z q; rw [z]; exact q
          | some d => rw [e2] at z q; obtain ⟨v', hv, _⟩ := z; rw [hv]; exact q
    · split at h
      · rename_i d ds e1 e2
        cases h
        exact .inl (.inr ⟨d, ds, .inl (seen2 r rx ry e1 e2), q⟩)
      · cases h
  · split at h
    · rename_i d ds e1 e2
      cases h
      exact .inl (.inr ⟨d, ds, .inr (seen2 r rx ry e1 e2), q⟩)
    · cases h
  · split at h
    · rename_i d ds e1 e2
      cases h
      exact .inl (.inr ⟨d, ds, .inl (seen2 r rx ry e1 e2), q⟩)
    · cases h
  · cases h
theorem cop_rule {o : Cop} {op : CmpOp} (ho : copOk o op = true) (hu : X.A.units + 65 < cLine) : ∃ r, OpR X (compareOp op) r ∧
    ∀ x y v w ρ st H Q, Rel X.K ρ st H → RepV X.K ρ H x v → RepV X.K ρ H y w → Post NoX (cmpD o x y st) (WE X.K ρ H Q) → r v w H Q := by
  have hu' : X.A.units + 64 < cLine := by omega
  cases o <;> cases op <;> simp [copOk] at ho
  · refine ⟨_, op_eqD hu', fun x y v w ρ st H Q r rx ry h => ?_⟩
    simp only [cmpD] at h
    split at h
    · rename_i a b e1 e2
      exact ⟨a, b, seen2 r rx ry e1 e2, WE.now h r (.bl _)⟩
    · exact h.elim
  · refine ⟨_, op_neD hu', fun x y v w ρ st H Q r rx ry h => ?_⟩
    simp only [cmpD] at h
    split at h
    · rename_i a b e1 e2
      exact ⟨a, b, seen2 r rx ry e1 e2, WE.now h r (.bl _)⟩
    · exact h.elim
  · exact ⟨_, op_ltD hu', fun x y v w ρ st H Q r rx ry h => ord_fin r rx ry h⟩
  · exact ⟨_, op_leD hu', fun x y v w ρ st H Q r rx ry h => ord_fin r rx ry h⟩
  · exact ⟨_, op_gtD hu', fun x y v w ρ st H Q r rx ry h => ord_fin r rx ry h⟩
  · exact ⟨_, op_geD hu', fun x y v w ρ st H Q r rx ry h => ord_fin r rx ry h⟩
  · refine ⟨_, (op_in_str.or (op_inD hu')).or (op_inK hu'), fun x y v w ρ st H Q r rx ry h => ?_⟩
    simp only [cmpD] at h
    split at h
    · rename_i b e
      exact in_fin (neg := false) r rx ry e (WE.now h r (.bl _))
    · exact h.elim
  · refine ⟨_, (op_notin_str.or (op_notinD hu')).or (op_notinK hu'), fun x y v w ρ st H Q r rx ry h => ?_⟩
    simp only [cmpD] at h
    split at h
    · rename_i b e
      exact in_fin (neg := true) r rx ry e (WE.now h r (.bl _))
    · exact h.elim
theorem de_cmp {o : Cop} {op : CmpOp} {a b : E} {p q : Expr} {pos : Pos} (ho : copOk o op = true) (hm : behindInMarks op q = false) (hu : X.A.units + 65 < cLine) (ha : DE X cal a p) (hb : DE X cal b q) : DE X cal (.cmp o a b) (.Compare p [op] [q] pos) := by
  obtain ⟨r, hr, fin⟩ := cop_rule ho hu
  have key : ∀ σ H Q, tE X.K cal NoX (.cmp o a b) σ H Q → tOp r (tE X.K cal NoX a) (tE X.K cal NoX b) σ H Q := fun σ H Q ⟨ρ, st, env, S, z⟩ => by
    refine tE.of S (by simpa only [evE] using z) fun x s ρ1 H1 v S1 k1 rx q1 => ?_
    refine tE.of S1 q1 fun y s2 ρ2 H2 w S2 k2 ry q2 => ?_
    exact fin x y v w ρ2 s2 H2 _ S2.r (rx.kp k2) ry (q2.mono fun d s h => WE.kp h (k1.trans k2))
  exact ⟨PE.imp (pe_cmpR hr ha.1 hb.1 hm) key, PT.imp (pt_cmpR hr ha.1 hb.1 hm) fun σ H Q h => key _ _ _ h⟩
theorem de_chain {o o' : Cop} {op op' : CmpOp} {a b d : E} {p q z : Expr} {pos : Pos} (ho : copOk o op = true) (ho' : copOk o' op' = true) (hm : lastMarks [op, op'] [q, z] = false) (hu : X.A.units + 65 < cLine)
    (ha : DE X cal a p) (hb : DE X cal b q) (hd : DE X cal d z) : DE X cal (.chain o o' a b d) (.Compare p [op, op'] [q, z] pos) := by
  obtain ⟨r, hr, fin⟩ := cop_rule ho hu
  obtain ⟨r', hr', fin'⟩ := cop_rule ho' hu
  have key : ∀ σ H Q, tE X.K cal NoX (.chain o o' a b d) σ H Q → tChain r r' (tE X.K cal NoX a) (tE X.K cal NoX b) (tE X.K cal NoX d) σ H Q := fun σ H Q ⟨ρ, st, env, S, w⟩ => by
    refine tE.of S (by simpa only [evE] using w) fun x s ρ1 H1 v S1 k1 rx q1 => ?_
    refine tE.of S1 q1 fun y s2 ρ2 H2 w S2 k2 ry q2 => ?_
    refine fin x y v w ρ2 s2 H2 _ S2.r (rx.kp k2) ry (q2.bind.mono fun t s3 h3 ρ3 H3 v3 r3 k3 rv3 => ?_)
    split at h3
    · refine ⟨true, repV_bl rv3, ?_⟩
      rw [if_pos rfl]
      refine tE.of (S2.next r3 k3) h3 fun u s4 ρ4 H4 v4 S4 k4 rv4 q4 => ?_
      exact fin' y u w v4 ρ4 s4 H4 _ S4.r ((ry.kp k3).kp k4) rv4 (q4.mono fun d s h => WE.kp h (k1.trans (k2.trans (k3.trans k4))))
    · refine ⟨false, repV_bl rv3, ?_⟩
      rw [if_neg Bool.false_ne_true]
      exact WE.now (WE.kp h3 (k1.trans (k2.trans k3))) r3 (.bl _)
    · exact h3.elim
  exact ⟨PE.imp (pe_chain hr hr' ha.1 hb.1 hd.1 hm) key, PT.imp (pt_chain hr hr' ha.1 hb.1 hd.1 hm) fun σ H Q h => key _ _ _ h⟩
theorem notNone_iff {K : PySem.W.Frag} {ρ : List Addr} {H : Hp} {x : D} {v : V} (h : RepV K ρ H x v) : decide (v = .non) = !x.notNone := by
  cases h <;> simp [D.notNone]
theorem de_isN {a : E} {p : Expr} {j : Nat} {pos pos' : Pos} (ha : DE X cal a p) : DE X cal (.isN a) (.Compare p [.Is] [.Constant .none j pos'] pos) := by
  have key : ∀ σ H Q, tE X.K cal NoX (.isN a) σ H Q → tIsN (tE X.K cal NoX a) σ H Q := fun σ H Q ⟨ρ, st, env, S, w⟩ =>
    tE.of S (by simpa only [evE] using w) fun x s ρ1 H1 v S1 k1 rx q1 => by
      show Q (.bl (decide (v = .non))) H1
      rw [notNone_iff rx]
      exact WE.now (WE.kp q1 k1) S1.r (.bl _)
  exact ⟨PE.imp (pe_cmp (pc_isN ha.1)) key, PT.imp (pt_cmp (pc_isN ha.1)) fun σ H Q h => key _ _ _ h⟩
theorem de_notN {a : E} {p : Expr} {j : Nat} {pos pos' : Pos} (ha : DE X cal a p) : DE X cal (.notN a) (.Compare p [.IsNot] [.Constant .none j pos'] pos) := by
  have key : ∀ σ H Q, tE X.K cal NoX (.notN a) σ H Q → tNotN (tE X.K cal NoX a) σ H Q := fun σ H Q ⟨ρ, st, env, S, w⟩ =>
    tE.of S (by simpa only [evE] using w) fun x s ρ1 H1 v S1 k1 rx q1 => by
      show Q (.bl (!decide (v = .non))) H1
      rw [notNone_iff rx, Bool.not_not]
      exact WE.now (WE.kp q1 k1) S1.r (.bl _)
  exact ⟨PE.imp (pe_cmp (pc_notN ha.1)) key, PT.imp (pt_cmp (pc_notN ha.1)) fun σ H Q h => key _ _ _ h⟩
theorem dec_beq (a b : Bool) : decide (a = b) = (a == b) := by cases a <;> cases b <;> rfl
theorem de_isB {b : Bool} {a : E} {p : Expr} {j : Nat} {pos pos' : Pos} (ha : DE X cal a p) : DE X cal (.isB b a) (.Compare p [.Is] [.Constant (.bool b) j pos'] pos) := by
  have key : ∀ σ H Q, tE X.K cal NoX (.isB b a) σ H Q → tOp rIsB (tE X.K cal NoX a) (L2.tC (.bl b)) σ H Q := fun σ H Q ⟨ρ, st, env, S, w⟩ =>
    tE.of S (by simpa only [evE] using w) fun x s ρ1 H1 v S1 k1 rx q1 => by
      split at q1
      · refine ⟨_, _, repV_bl rx, rfl, ?_⟩
        rw [dec_beq]
        exact WE.now (WE.kp q1 k1) S1.r (.bl _)
      · exact q1.elim
  exact ⟨PE.imp (pe_cmpR op_isBl ha.1 pe_bl (nomark _)) key, PT.imp (pt_cmpR op_isBl ha.1 pe_bl (nomark _)) fun σ H Q h => key _ _ _ h⟩
theorem de_notB {b : Bool} {a : E} {p : Expr} {j : Nat} {pos pos' : Pos} (ha : DE X cal a p) : DE X cal (.notB b a) (.Compare p [.IsNot] [.Constant (.bool b) j pos'] pos) := by
  have key : ∀ σ H Q, tE X.K cal NoX (.notB b a) σ H Q → tOp rNotB (tE X.K cal NoX a) (L2.tC (.bl b)) σ H Q := fun σ H Q ⟨ρ, st, env, S, w⟩ =>
    tE.of S (by simpa only [evE] using w) fun x s ρ1 H1 v S1 k1 rx q1 => by
      split at q1
      · refine ⟨_, _, repV_bl rx, rfl, ?_⟩
        rw [dec_beq]
        exact WE.now (WE.kp q1 k1) S1.r (.bl _)
      · exact q1.elim
  exact ⟨PE.imp (pe_cmpR op_notBl ha.1 pe_bl (nomark _)) key, PT.imp (pt_cmpR op_notBl ha.1 pe_bl (nomark _)) fun σ H Q h => key _ _ _ h⟩
theorem pt_ifE {t a b : Expr} {pos : Pos} {tt ta tb : TT} (ht : PT X t tt) (ha : PT X a ta) (hb : PT X b tb) : PT X (.IfExp t a b pos) fun σ H Q => tt σ H fun k H1 => if k = true then ta σ H1 Q else tb σ H1 Q := by
  refine ⟨fun pins s σ H Q I h => ?_⟩
  show wpAny _ _ (do if ← isTrue t X.env (eval t X.env) then isTrue a X.env (eval a X.env) else isTrue b X.env (eval b X.env)) _ _ s
  refine wpAny_bind (thn (ht.run pins s σ H _ I h) fun k s1 ⟨H1, I1, q⟩ => ?_)
  cases k with
  | true => exact ha.run pins s1 σ H1 Q I1 q
  | false => exact hb.run pins s1 σ H1 Q I1 q
theorem de_ite {t a b : E} {x p q : Expr} {pos : Pos} (ht : DE X cal t x) (ha : DE X cal a p) (hb : DE X cal b q) : DE X cal (.ite t a b) (.IfExp x p q pos) := by
  have key : ∀ σ H Q, tE X.K cal NoX (.ite t a b) σ H Q → tB (tE X.K cal NoX t) σ H fun k H1 => if k = true then tE X.K cal NoX a σ H1 Q else tE X.K cal NoX b σ H1 Q := fun σ H Q ⟨ρ, st, env, S, w⟩ =>
    tE.of S (by simpa only [evE] using w) fun x s ρ1 H1 v S1 k1 rx q1 => by
      split at q1
      · exact ⟨true, repV_bl rx, ρ1, s, env, S1, q1.mono fun d s h => WE.kp h k1⟩
      · exact ⟨false, repV_bl rx, ρ1, s, env, S1, q1.mono fun d s h => WE.kp h k1⟩
      · exact q1.elim
  refine ⟨PE.imp (pe_ifExp ht.2 ha.1 hb.1) key, PT.imp (pt_ifE ht.2 ha.2 hb.2) fun σ H Q h => ?_⟩
  obtain ⟨ρ, st, env, S, w⟩ := key _ _ _ h
  exact ⟨ρ, st, env, S, w.mono fun d s h ρ' H' v r k rv => h ρ' H' v r k rv⟩
end
end PyD
namespace PyD
open PySem PySem.Spec PyProof.Rows L2
section
variable {X : Cx} {cal : Cal} {C : CXT} {k : Nat} {c : CC}
/-- each of a row -/
def DEs (X : Cx) (cal : Cal) : Es → List Expr → Prop
  | .nil, xs => xs = []
  | .cons e es, xs => ∃ x r, xs = x :: r ∧ isStar x = false ∧ DE X cal e x ∧ DEs X cal es r
  | .star l es, xs => ∃ y p r, xs = .Starred y p :: r ∧ PE X y (tL X.K cal NoX l) ∧ DEs X cal es r
theorem starEach_cons {x : Expr} {xs : List Expr} {env : PySem.Env} (h : isStar x = false) : starEach (x :: xs) env = (false, eval x env) :: starEach xs env := by
  cases x <;> first | rfl | simp [isStar] at h
theorem star_seqF {P : Program} {w : World} {A : Around} {E : Value → Shared → Prop} {s : Shared} {a : Addr} {o : Obj} {T : String} {its : Array Value} {n : Nat} {Q : List Value → Shared → Prop} (ha : s.heap.get? a = some o) (hc : o.cls = .type T) (hd : o.data = .seq its n)
    (hT : T = "list" ∨ T = "tuple") (hz : its.size ≤ sizeLine) (h : ∀ h', (∀ b o', s.heap.get? b = some o' → h'.get? b = some o') → Q its.toList { s with heap := h' }) : PySem.W.StarOf (model P w) A E (.ref a) Q s := by
  have hT' : s.TypeIs (.ref a) T := ⟨o, ha, hc⟩
  have z : wpAny (model P w) A (collect (.ref a)) Q E s := wpAny_collect_seq a hT ha hc hd h hz
  unfold PySem.W.StarOf notIterableAtAll
  rcases hT with rfl | rfl
  · exact wpAny_bind (wpAny_specialOf hT' PySem.F.slot_list_iter.lookup (wpAny_pure ⟨rfl, z⟩))
  · exact wpAny_bind (wpAny_specialOf hT' PySem.F.slot_tuple_iter.lookup (wpAny_pure ⟨rfl, z⟩))
/-- *x, in a row -/
theorem pa_star {y : Expr} {p : Pos} {xs : List Expr} {te : TE} {t : TA} (hy : PE X y te) (hr : PA X xs t) :
    PA X (.Starred y p :: xs) fun σ H Q => te σ H fun v H1 => ∃ a vs, v = .ref a ∧ (SqL X.K H1 a vs ∨ SqT X.K H1 a vs) ∧ t σ H1 fun ws H2 => Q (vs ++ ws) H2 := by
  refine ⟨fun pos pins s σ H Q I h => PySem.W.items_star (thn (hy.run pins s σ H _ I h) fun v s1 ⟨x, H1, I1, r1, a, vs, e, hq, q⟩ => ?_)⟩
  subst e
  cases r1
  have fin : ∀ (its : List Value) (h' : Heap), Vals vs its → (∀ b o', s1.heap.get? b = some o' → h'.get? b = some o') →
      wpAny (model X.prog X.w) X.A (spliced (backTo pos (starEach xs X.env))) (fun us s3 => AP X pins σ Q (its ++ us) s3) X.xe { s1 with heap := h' } := fun its h' rv hk =>
    thn (hr.run pos pins _ σ H1 _ (I1.kept (t' := s1.toks) hk) q) fun us s3 ⟨ws, H2, I2, r2, q2⟩ => ⟨vs ++ ws, H2, I2, rv.append r2, q2⟩
  rcases hq with hq | hq
  · obtain ⟨its, rv, pl, hz⟩ := I1.list hq
    obtain ⟨o, n, e1, e2, e3, e4⟩ := pl
    refine star_seqF e1 e2 e4 (.inl rfl) (by rw [List.size_toArray, ← rv.length]; exact hz) fun h' hk => ?_
    exact fin its h' rv hk
  · obtain ⟨its, rv, ⟨o, e1, e2, n, e4⟩, hz⟩ := I1.tuple hq
    refine star_seqF e1 e2 e4 (.inr rfl) (by rw [List.size_toArray, ← rv.length]; exact hz) fun h' hk => ?_
    exact fin its h' rv hk
theorem pa_of : ∀ {es : Es} {xs : List Expr}, DEs X cal es xs → PA X xs (tEs X.K cal NoX es)
  | .nil, xs, h => by
    obtain rfl : xs = [] := h
    exact PA.imp pa_nil fun σ H Q ⟨ρ, st, env, S, p⟩ => (show WEs X.K ρ H Q [] st from p) ρ H [] S.r .refl .nil
  | .cons e es, xs, h => by
    obtain ⟨x, r, rfl, hs, hx, hr⟩ := h
    refine PA.imp (pa_cons hx.1 (pa_of hr) (starEach_cons hs)) fun σ H Q ⟨ρ, st, env, S, p⟩ => ?_
    refine tE.of S (by simpa only [evEs] using p) fun d s ρ1 H1 v S1 k1 rv q1 => ?_
    refine tEs.of S1 q1 fun ds s2 ρ2 H2 vs S2 k2 rvs q2 => ?_
    exact (show WEs X.K ρ H Q (d :: ds) s2 from q2) ρ2 H2 _ S2.r (k1.trans k2) (.cons (rv.kp k2) rvs)
  | .star l es, xs, h => by
    obtain ⟨y, p, r, rfl, hy, hr⟩ := h
    refine PA.imp (pa_star hy (pa_of hr)) fun σ H Q ⟨ρ, st, env, S, p⟩ => ?_
    refine tL.of S (by simpa only [evEs] using p) fun r0 s ρ1 H1 p1 vs S1 k1 rv hl ht _ q1 => ?_
    refine ⟨p1, vs, rfl, ?_, ?_⟩
    · cases e : r0.1 with
      | true => exact .inl (hl e)
      | false => exact .inr (ht e).seq
    · refine tEs.of S1 q1 fun ds s2 ρ2 H2 ws S2 k2 rvs q2 => ?_
      exact (show WEs X.K ρ H Q (r0.2 ++ ds) s2 from q2) ρ2 H2 _ S2.r (k1.trans k2) ((rv.kp k2).append rvs)
theorem evB_post {kk : Bool} {es : Es} {ρ : List Addr} {st : Store} {env : Env} {H : Hp} {σ : L2.St} {Q : VK} (S : Sta X.K ρ st env σ H) (p : Post NoX (evB cal kk es env st) (WE X.K ρ H Q)) : Post NoX (evB cal kk es env st) (WE X.K ρ H Q) := p
theorem bools_of (kk : Bool) : ∀ {es : Es} {xs : List Expr} {pos : Pos}, DEs X cal es xs → es.noStar = true → 0 < es.len →
    PE X (.BoolOp (if kk then .And else .Or) xs pos) (tBs X.K cal NoX kk es) ∧ PW X (.BoolOp (if kk then .And else .Or) xs pos) (tB (tBs X.K cal NoX kk es))
  | .nil, xs, pos, h, _, hl => by simp [Es.len] at hl
  | .star _ _, xs, pos, _, h, _ => by simp [Es.noStar] at h
  | .cons e .nil, xs, pos, h, _, _ => by
    obtain ⟨x, r, rfl, hs, hx, hr⟩ := h
    obtain rfl : r = [] := hr
    have key : ∀ σ H Q, tBs X.K cal NoX kk (.cons e .nil) σ H Q → tE X.K cal NoX e σ H Q := fun σ H Q ⟨ρ, st, env, S, p⟩ =>
      tE.of S (by simpa only [evB] using p) fun d s ρ1 H1 v S1 k1 rv q1 => by
        split at q1
        · rw [if_pos (by rfl)] at q1
          exact WE.now (WE.kp q1 k1) S1.r rv
        · exact q1.elim
    refine ⟨PE.imp (pe_one hx.1) key, ?_⟩
    cases kk with
    | true => exact PW.imp (pw_and1 hx.2) fun σ H Q h => key _ _ _ h
    | false => exact PW.imp (pw_or1 hx.2) fun σ H Q h => key _ _ _ h
  | .cons e (.star _ _), xs, pos, _, h, _ => by simp [Es.noStar] at h
  | .cons e (.cons e2 es), xs, pos, h, hn, _ => by
    obtain ⟨x, r, rfl, hs, hx, hr⟩ := h
    have hr' := hr
    obtain ⟨x2, r2, rfl, _, _, _⟩ := hr'
    have ih := bools_of kk (pos := pos) hr (by simpa only [Es.noStar] using hn) (by simp only [Es.len]; omega)
    cases kk with
    | true =>
      have key : ∀ σ H Q, tBs X.K cal NoX true (.cons e (.cons e2 es)) σ H Q → tE X.K cal NoX e σ H fun v H1 => ∃ b, v = .bl b ∧ if b = true then tBs X.K cal NoX true (.cons e2 es) σ H1 Q else Q (.bl false) H1 := fun σ H Q ⟨ρ, st, env, S, p⟩ =>
        tE.of S (by rw [evB] at p; exact p) fun d s ρ1 H1 v S1 k1 rv q1 => by
          split at q1
          · rename_i b
            rw [if_neg (by simp [Es.isNil])] at q1
            refine ⟨b, repV_bl rv, ?_⟩
            cases b with
            | true => rw [if_pos rfl]; rw [if_pos (by rfl)] at q1; exact ⟨ρ1, s, env, S1, q1.mono fun d s h => WE.kp h k1⟩
            | false => rw [if_neg Bool.false_ne_true]; rw [if_neg (by decide)] at q1; exact WE.now (WE.kp q1 k1) S1.r (.bl _)
          · exact q1.elim
      refine ⟨PE.imp (pe_and hx.1 ih.1) key, PW.imp (pw_and hx.2 ih.2) fun σ H Q h => ?_⟩
      obtain ⟨ρ, st, env, S, p⟩ := key _ _ _ h
      exact ⟨ρ, st, env, S, p.mono fun d s q ρ' H' v r k rv => by
        obtain ⟨b, e, q⟩ := q ρ' H' v r k rv
        refine ⟨b, e, ?_⟩
        cases b with
        | true => rw [if_pos rfl] at q ⊢; exact q
        | false => rw [if_neg Bool.false_ne_true] at q ⊢; obtain ⟨b', e', q⟩ := q; cases e'; exact q⟩
    | false =>
      have key : ∀ σ H Q, tBs X.K cal NoX false (.cons e (.cons e2 es)) σ H Q → tE X.K cal NoX e σ H fun v H1 => ∃ b, v = .bl b ∧ if b = true then Q (.bl true) H1 else tBs X.K cal NoX false (.cons e2 es) σ H1 Q := fun σ H Q ⟨ρ, st, env, S, p⟩ =>
        tE.of S (by rw [evB] at p; exact p) fun d s ρ1 H1 v S1 k1 rv q1 => by
          split at q1
          · rename_i b
            rw [if_neg (by simp [Es.isNil])] at q1
            refine ⟨b, repV_bl rv, ?_⟩
            cases b with
            | true => rw [if_pos rfl]; rw [if_neg (by decide)] at q1; exact WE.now (WE.kp q1 k1) S1.r (.bl _)
            | false => rw [if_neg Bool.false_ne_true]; rw [if_pos (by rfl)] at q1; exact ⟨ρ1, s, env, S1, q1.mono fun d s h => WE.kp h k1⟩
          · exact q1.elim
      refine ⟨PE.imp (pe_or hx.1 ih.1) key, PW.imp (pw_or hx.2 ih.2) fun σ H Q h => ?_⟩
      obtain ⟨ρ, st, env, S, p⟩ := key _ _ _ h
      exact ⟨ρ, st, env, S, p.mono fun d s q ρ' H' v r k rv => by
        obtain ⟨b, e, q⟩ := q ρ' H' v r k rv
        refine ⟨b, e, ?_⟩
        cases b with
        | true => rw [if_pos rfl] at q ⊢; obtain ⟨b', e', q⟩ := q; cases e'; exact q
        | false => rw [if_neg Bool.false_ne_true] at q ⊢; exact q⟩
theorem de_bools {kk : Bool} {es : Es} {xs : List Expr} {pos : Pos} (h : DEs X cal es xs) (hn : es.noStar = true) (hl : 0 < es.len) : DE X cal (.bools kk es) (.BoolOp (if kk then .And else .Or) xs pos) := by
  obtain ⟨h1, h2⟩ := bools_of (X := X) kk (pos := pos) h hn hl
  exact ⟨PE.imp h1 fun σ H Q ⟨ρ, st, env, S, p⟩ => ⟨ρ, st, env, S, by simpa only [evE] using p⟩, PT.imp (PW.pt h2) fun σ H Q ⟨ρ, st, env, S, p⟩ => ⟨ρ, st, env, S, by simpa only [evE] using p⟩⟩
/-- the tests of a comprehension: none or one -/
theorem pts_of {es : Es} {xs : List Expr} (h : DEs X cal es xs) (hn : es.noStar = true) (hl : es.len ≤ 1) : PTs X xs (tC X.K cal NoX es) := by
  cases es with
  | nil =>
    obtain rfl : xs = [] := h
    exact PTs.imp pts_nil fun σ H Q ⟨ρ, st, env, S, p⟩ => by
      rw [evC] at p
      exact p ρ H S.r .refl
  | star _ _ => simp [Es.noStar] at hn
  | cons e es =>
    obtain ⟨x, r, rfl, hs, hx, hr⟩ := h
    have e0 : es = .nil := by
      cases es with
      | nil => rfl
      | cons _ _ => simp only [Es.len] at hl; omega
      | star _ _ => simp only [Es.len] at hl; omega
    subst e0
    obtain rfl : r = [] := hr
    refine PTs.imp (pts_one hx.2) fun σ H Q ⟨ρ, st, env, S, p⟩ => ?_
    refine tE.of S (by rw [evC] at p; exact p) fun d s ρ1 H1 v S1 k1 rv q1 => ?_
    split at q1
    · rw [evC] at q1
      exact ⟨true, repV_bl rv, q1 ρ1 H1 S1.r k1⟩
    · exact ⟨false, repV_bl rv, q1 ρ1 H1 S1.r k1⟩
    · exact q1.elim
theorem plainIx {b : Expr} (h : isSlice b = false) : PlainIx b := fun o i => by
  cases b <;> first | rfl | simp [isSlice] at h
theorem de_ix {a i : E} {p q : Expr} {pos : Pos} (hq : isSlice q = false) (hu : X.A.units + 65 < cLine) (ha : DE X cal a p) (hi : DE X cal i q) : DE X cal (.ix a i) (.Subscript p q pos) := by
  refine de_of (PE.imp (PE.or (PE.or (pe_ix ix_list ha.1 hi.1 (plainIx hq)) (pe_ix ix_tup ha.1 hi.1 (plainIx hq))) (PE.or (pe_ix ix_str ha.1 hi.1 (plainIx hq)) (pe_dget (by omega) ha.1 hi.1 (plainIx hq)))) fun σ H Q ⟨ρ, st, env, S, p⟩ => ?_)
  rw [evE] at p
  -- which it is: by what the parts come to
  have key : ∀ (R : R2), (∀ x y v w ρ st H, Rel X.K ρ st H → RepV X.K ρ H x v → RepV X.K ρ H y w → ∀ s0 : Store, Post NoX (ixD x y st) (WE X.K ρ H Q) → R v w H Q) → tOp R (tE X.K cal NoX a) (tE X.K cal NoX i) σ H Q := fun R fin => by
    refine tE.of S p fun x s ρ1 H1 v S1 k1 rx q1 => ?_
    refine tE.of S1 q1 fun y s2 ρ2 H2 w S2 k2 ry q2 => ?_
    exact fin x y v w ρ2 s2 H2 S2.r (rx.kp k2) ry s2 (q2.mono fun d s h => WE.kp h (k1.trans k2))
  cases ea : evE cal a env st with
  | stuck => rw [ea] at p; exact p.elim
  | exc x s => rw [ea] at p; exact p.elim
  | ok x s1 =>
    have p' := p
    rw [ea] at p'
    have p1 : Post NoX ((evE cal i env s1).bind fun y st2 => ixD x y st2) (WE X.K ρ H Q) := p'
    cases ei : evE cal i env s1 with
    | stuck => rw [ei] at p1; exact p1.elim
    | exc x s => rw [ei] at p1; exact p1.elim
    | ok y s2 =>
      have p2 : Post NoX (ixD x y s2) (WE X.K ρ H Q) := by rw [ei] at p1; exact p1
      have key2 : ∀ (R : R2), (∀ v w ρ' H', Rel X.K ρ' s2 H' → RepV X.K ρ' H' x v → RepV X.K ρ' H' y w → Post NoX (ixD x y s2) (WE X.K ρ' H' Q) → R v w H' Q) → tOp R (tE X.K cal NoX a) (tE X.K cal NoX i) σ H Q := fun R fin => by
        refine tE.mk S ?_
        rw [ea]
        intro ρ1 H1 v S1 k1 rx
        refine tE.mk S1 ?_
        rw [ei]
        intro ρ2 H2 w S2 k2 ry
        exact fin v w ρ2 H2 S2.r (rx.kp k2) ry (p2.mono fun d s h => WE.kp h (k1.trans k2))
      have ol : ∀ j ds (n : Nat), x = .ref n → y = .int j → s2[n]? = some (.lst ds) → (∀ d, L2.atI ds j = some d → ixD x y s2 = .ok d s2) → (L2.atI ds j = none → ixD x y s2 = .stuck) → tOp (rIxL X.K) (tE X.K cal NoX a) (tE X.K cal NoX i) σ H Q := fun j ds n ex ey hst h1 h2 => by
        subst ex ey
        refine key2 _ fun v w ρ' H' r rx ry z => ?_
        cases e : L2.atI ds j with
        | none => rw [h2 e] at z; exact z.elim
        | some d =>
          rw [h1 d e] at z
          obtain ⟨p, rfl, hp⟩ := repV_ref rx
          obtain ⟨vs, hL, hs⟩ := r.items hp hst
          obtain ⟨jj, hj⟩ : ∃ jj, L2.ixN ds.length j = some jj := by
            cases q : L2.ixN ds.length j with
            | none => unfold L2.atI at e; rw [q] at e; cases e
            | some jj => exact ⟨jj, rfl⟩
          have e' : ds[jj]? = some d := by unfold L2.atI at e; rw [hj] at e; exact e
          obtain ⟨v', hv, rv⟩ := hs.get e'
          exact ⟨p, vs, j, v', rfl, repV_int ry, hL, by unfold L2.atI; rw [← hs.length, hj]; exact hv, WE.now z r rv⟩
      unfold ixD at p2
      split at p2
      · -- a text
        rename_i z j
        refine .inr (.inl (key2 _ fun v w ρ' H' r rx ry q => ?_))
        unfold ixD at q
        simp only at q
        split at q
        · rename_i cc hcc
          split at q
          · rename_i hs
            exact ⟨z, j, cc, repV_str rx, repV_int ry, small_le hs, hcc, WE.now q r (.str _)⟩
          · exact q.elim
        · exact q.elim
      · rename_i j _
        split at p2
        · rename_i n _
          split at p2
          · rename_i kvs hst
            refine .inr (.inr ?_)
            refine key2 (fun v w H Q => ∃ a v', v = .ref a ∧ DGet H a w (some v') ∧ Q v' H) fun v w ρ' H' r rx ry q => ?_
            unfold ixD at q
            simp only [hst] at q
            obtain ⟨p, rfl, hp⟩ := repV_ref rx
            obtain ⟨ho, h1, h2⟩ := r.at hst hp
            cases h2 with
            | dct rk =>
              have zz := getK_val (j := Sum.inl j) rk
              cases e2 : getK kvs (Sum.inl j) with
              | none => rw [e2] at q; exact q.elim
              | some d =>
                rw [e2] at q zz
                obtain ⟨v', hv, rv⟩ := zz
                refine ⟨p, v', rfl, ?_, WE.now q r rv⟩
                have g := DGet.k (k := Sum.inl j) h1
                rw [hv] at g
                rw [repV_int ry]
                exact g
          · rename_i ds hst
            refine .inl (.inl (ol j ds n rfl rfl hst (fun d e => ?_) fun e => ?_)) <;> (unfold ixD; simp only [hst, e])
          · exact p2.elim
        · rename_i ds _
          refine .inl (.inr (key2 _ fun v w ρ' H' r rx ry q => ?_))
          unfold ixD at q
          simp only at q
          obtain ⟨p, vs, rfl, tp, hs⟩ := repV_tup rx
          cases e : L2.atI ds j with
          | none => rw [e] at q; exact q.elim
          | some d =>
            rw [e] at q
            obtain ⟨jj, hj⟩ : ∃ jj, L2.ixN ds.length j = some jj := by
              cases q : L2.ixN ds.length j with
              | none => unfold L2.atI at e; rw [q] at e; cases e
              | some jj => exact ⟨jj, rfl⟩
            have e' : ds[jj]? = some d := by unfold L2.atI at e; rw [hj] at e; exact e
            obtain ⟨v', hv, rv⟩ := hs.get e'
            exact ⟨p, vs, j, v', rfl, repV_int ry, tp.seq, by unfold L2.atI; rw [← hs.length, hj]; exact hv, WE.now q r rv⟩
        · rename_i ds _
          refine .inl (.inl (key2 _ fun v w ρ' H' r rx ry q => ?_))
          unfold ixD at q
          simp only at q
          obtain ⟨p, vs, rfl, tp, hs⟩ := repV_lst rx
          cases e : L2.atI ds j with
          | none => rw [e] at q; exact q.elim
          | some d =>
            rw [e] at q
            obtain ⟨jj, hj⟩ : ∃ jj, L2.ixN ds.length j = some jj := by
              cases q : L2.ixN ds.length j with
              | none => unfold L2.atI at e; rw [q] at e; cases e
              | some jj => exact ⟨jj, rfl⟩
            have e' : ds[jj]? = some d := by unfold L2.atI at e; rw [hj] at e; exact e
            obtain ⟨v', hv, rv⟩ := hs.get e'
            exact ⟨p, vs, j, v', rfl, repV_int ry, tp.seq, by unfold L2.atI; rw [← hs.length, hj]; exact hv, WE.now q r rv⟩
        · exact p2.elim
      · rename_i n kk
        split at p2
        · rename_i kvs hst
          refine .inr (.inr ?_)
          refine key2 (fun v w H Q => ∃ a v', v = .ref a ∧ DGet H a w (some v') ∧ Q v' H) fun v w ρ' H' r rx ry q => ?_
          unfold ixD at q
          simp only [hst] at q
          obtain ⟨p, rfl, hp⟩ := repV_ref rx
          obtain ⟨ho, h1, h2⟩ := r.at hst hp
          cases h2 with
          | dct rk =>
            have zz := getK_val (j := Sum.inr kk) rk
            cases e2 : getK kvs (Sum.inr kk) with
            | none => rw [e2] at q; exact q.elim
            | some d =>
              rw [e2] at q zz
              obtain ⟨v', hv, rv⟩ := zz
              refine ⟨p, v', rfl, ?_, WE.now q r rv⟩
              have g := DGet.k (k := Sum.inr kk) h1
              rw [hv] at g
              rw [repV_str ry]
              exact g
        · exact p2.elim
      · exact p2.elim
end
end PyD
namespace PyD
open PySem PySem.Spec PyProof.Rows L2
section
variable {X : Cx} {cal : Cal} {C : CXT} {k : Nat} {c : CC}
abbrev DL (X : Cx) (cal : Cal) (l : L) (x : Expr) : Prop := PE X x (tL X.K cal NoX l)
abbrev DO (X : Cx) (cal : Cal) (o : O) (x : Option Expr) : Prop := PO X x (tO X.K cal NoX o)
theorem pe_b1 {id : String} {f : Str} {r : List V → Hp → VK → Prop} {a : Expr} {te : TE} {p pos : Pos} (hc : CallR X (.builtin id) r) (hg : Gl X f) (hm : X.mg f = none) (hv : bootBuiltins f = some (.builtin id)) (ha : PE X a te) (hs : isStar a = false)
    (hn : f ≠ "__name__" := by decide) (hdb : (f == ("__debug__" : Str)) = false := by decide) : PE X (.Call (.Name f p) [a] [] pos) (fun σ H Q => te σ H fun x H1 => r [x] H1 Q) :=
  PE.imp (pe_callB hc hg hm hv (pa_cons ha pa_nil (starEach_cons hs)) hn hdb (starEach_cons hs) rfl) fun σ H Q h => h
theorem pe_t1 {id : String} {f : Str} {r : List V → Hp → VK → Prop} {a : Expr} {te : TE} {p pos : Pos} (hc : CallR X (.type id) r) (hg : Gl X f) (hm : X.mg f = none) (hv : bootBuiltins f = some (.type id)) (ha : PE X a te) (hs : isStar a = false)
    (hn : f ≠ "__name__" := by decide) (hdb : (f == ("__debug__" : Str)) = false := by decide) : PE X (.Call (.Name f p) [a] [] pos) (fun σ H Q => te σ H fun x H1 => r [x] H1 Q) :=
  PE.imp (pe_callTy hc hg hm hv (pa_cons ha pa_nil (starEach_cons hs)) hn hdb (starEach_cons hs) rfl) fun σ H Q h => h
theorem pe_b2 {id : String} {f : Str} {r : List V → Hp → VK → Prop} {a b : Expr} {ta tb : TE} {p pos : Pos} (hc : CallR X (.builtin id) r) (hg : Gl X f) (hm : X.mg f = none) (hv : bootBuiltins f = some (.builtin id)) (ha : PE X a ta) (hb : PE X b tb) (hs : isStar a = false) (hs' : isStar b = false)
    (hn : f ≠ "__name__" := by decide) (hdb : (f == ("__debug__" : Str)) = false := by decide) : PE X (.Call (.Name f p) [a, b] [] pos) (fun σ H Q => ta σ H fun x H1 => tb σ H1 fun y H2 => r [x, y] H2 Q) :=
  PE.imp (pe_callB hc hg hm hv (pa_cons ha (pa_cons hb pa_nil (starEach_cons hs')) (starEach_cons hs)) hn hdb (starEach_cons hs) (by rw [starEach_cons hs']; rfl)) fun σ H Q h => h
theorem call1_eq {sc : Scope} {f : Str} {x a : Expr} (h : call1 sc f x = some a) : ∃ p pos, x = .Call (.Name f p) [a] [] pos ∧ glB sc f = true ∧ isStar a = false := by
  unfold call1 at h
  split at h
  · rename_i id p a' pos
    split at h
    · rename_i q
      simp only [Bool.and_eq_true, decide_eq_true_eq, Bool.not_eq_true'] at q
      cases h
      obtain ⟨⟨rfl, q2⟩, q3⟩ := q
      exact ⟨p, pos, rfl, q2, q3⟩
    · cases h
  · cases h
theorem call2_eq {sc : Scope} {f : Str} {x a b : Expr} (h : call2 sc f x = some (a, b)) : ∃ p pos, x = .Call (.Name f p) [a, b] [] pos ∧ glB sc f = true ∧ isStar a = false ∧ isStar b = false := by
  unfold call2 at h
  split at h
  · rename_i id p a' b' pos
    split at h
    · rename_i q
      simp only [Bool.and_eq_true, decide_eq_true_eq, Bool.not_eq_true'] at q
      cases h
      obtain ⟨⟨⟨rfl, q2⟩, q3⟩, q4⟩ := q
      exact ⟨p, pos, rfl, q2, q3, q4⟩
    · cases h
  · cases h
theorem de_never {x : Expr} : DE X cal .never x := ⟨⟨fun pins s σ H Q I ⟨ρ, st, env, S, p⟩ => by rw [evE] at p; exact p.elim⟩, ⟨fun pins s σ H Q I ⟨ρ, st, env, S, p⟩ => by rw [evE] at p; exact p.elim⟩⟩
theorem de_tup {es : Es} {ys : List Expr} {x1} {pos : Pos} (h : DEs X cal es ys) : DE X cal (.tup es) (.Tuple ys x1 pos) := by
  refine de_of (PE.imp (pe_tupF (pa_of h)) fun σ H Q ⟨ρ, st, env, S, p⟩ => tEs.of S (by simpa only [evE] using p) fun ds s ρ1 H1 vs S1 k1 rv q1 => ?_)
  split at q1
  · rename_i hz
    exact ⟨by rw [← rv.length]; exact small_le hz, fun p o hp hd => q1 ρ1 _ _ (S1.r.upd hp) (k1.trans (Kp.upd hp)) (RepV.newTup hp hd rv)⟩
  · exact q1.elim
/-- a list just made that nothing shall change -/
theorem Inv.freeze {pins : List (Addr × Obj)} {σ : L2.St} {H : Hp} {s : Shared} {a : Addr} {vs : List V} (I : Inv X pins σ H s) (h : H a = some (.lst vs)) : ∃ o, Inv X pins σ (upd H a (.frz o (.lst vs))) s := by
  obtain ⟨z, its, n, r, e⟩ := (show ObjOk X.prog X.w H s.heap a (.lst vs) from I.hok a _ h)
  refine ⟨_, I.write (h' := s.heap) (t' := s.toks) (by rw [h]; trivial) (.inl rfl) (fun _ _ _ q => q) ⟨_, e⟩ ⟨e, z, its, n, r, e⟩⟩
def Fz (Q : VK) : VK := fun v H1 => ∃ p vs, v = .ref p ∧ H1 p = some (.lst vs) ∧ ∀ o, Q v (upd H1 p (.frz o (.lst vs)))
theorem ep_fz {pins : List (Addr × Obj)} {σ : L2.St} {Q : VK} {u : Value} {s' : Shared} (h : EP X pins σ (Fz Q) u s') : EP X pins σ Q u s' := by
  obtain ⟨v, H', I, r, p, vs, rfl, e, q⟩ := h
  obtain ⟨o, I'⟩ := Inv.freeze I e
  exact ⟨.ref p, _, I', r, q o⟩
theorem pe_fz {x : Expr} {te : TE} (h : PE X x te) : PE X x (fun σ H Q => te σ H (Fz Q)) := ⟨fun pins s σ H Q I q => thn (h.run pins s σ H _ I q) fun _ _ z => ep_fz z⟩
theorem op_fz {f : Value → Value → Sem Value} {r : R2} (h : OpR X f r) : OpR X f (fun x y H Q => r x y H (Fz Q)) := fun pins s σ H x y v u Q I rx ry q => thn (h pins s σ H x y v u _ I rx ry q) fun _ _ z => ep_fz z
theorem sl_fz {r : V → Option Int → Option Int → Hp → VK → Prop} (h : SlR X r) : SlR X (fun x l u H Q => r x l u H (Fz Q)) := by
  intro pins s σ H x v vl vu lo hi sl Q I rx hs pl pu q
  obtain ⟨T, id, h1, h2, h3⟩ := h pins s σ H x v vl vu lo hi sl _ I rx hs pl pu q
  exact ⟨T, id, h1, h2, thn h3 fun _ _ z => ep_fz z⟩
/-- a fresh list, frozen -/
theorem fz_new {K : PySem.W.Frag} {ρ ρ1 : List Addr} {H H1 : Hp} {Q : VK} {ds : List D} {s : Store} {vs : List V} {p : Addr} (w : WE K ρ H Q (.lst ds) s) (r : Rel K ρ1 s H1) (k : Kp ρ ρ1 H H1) (rv : RepVs K ρ1 H1 ds vs) (h0 : H p = none) (hn : p ∉ ρ1) (hp : H1 p = some (.lst vs)) : Fz Q (.ref p) H1 := by
  refine ⟨p, vs, rfl, hp, fun o => ?_⟩
  have hm : ∀ o u, H1 p ≠ some (.frz o u) := fun o u e => by rw [hp] at e; cases e
  have f : ∀ b o' u, H1 b = some (.frz o' u) → upd H1 p (.frz o (.lst vs)) b = some (.frz o' u) := fun b o' u e => by
    have ne : b ≠ p := fun z => hm o' u (z ▸ e)
    rw [upd_ne ne]; exact e
  refine w ρ1 _ _ (r.out hn hm) (k.out h0) (.lst (.inl ⟨o, upd_same⟩) (rv.mono f))
theorem Post.ok {α : Type} {EX : EXT} {a : α} {s : Store} {P : α → Store → Prop} (h : P a s) : Post EX (.ok a s) P := h
theorem de_ls {l : L} {x : Expr} (h : DL X cal l x) (hf : l.fresh = true) (he : ∀ whole, isTrue x X.env whole = (do let v ← whole; standAt x.pos; holding [v] (truthy v))) : DE X cal (.ls l) x := by
  refine de_of (PE.imp h fun σ H Q ⟨ρ, st, env, S, p⟩ => tL.of S (by simpa only [evE] using p) fun r s ρ1 H1 p1 vs S1 k1 rv h1 h2 h3 q1 => ?_) he
  split at q1
  · rename_i e
    obtain ⟨f1, f2, f3⟩ := h3 hf e
    refine q1 (ρ1 ++ [p1]) H1 _ (S1.r.push f3 f2 (.lst rv)) (k1.push f1) (.ref ?_)
    rw [← S1.r.len, List.getElem?_append_right (Nat.le_refl _)]
    simp
  · exact q1.elim
/-- what items says -/
theorem items_rep {K : PySem.W.Frag} {ρ : List Addr} {st : Store} {H : Hp} {d : D} {v : V} {b : Bool} {ds : List D} (r : Rel K ρ st H) (rv : RepV K ρ H d v) (e : items d st = some (b, ds)) :
    ∃ p vs, v = .ref p ∧ RepVs K ρ H ds vs ∧ (b = true → SqL K H p vs) ∧ (b = false → TupAt K H p vs) := by
  unfold items at e
  split at e
  · cases e
    obtain ⟨p1, vs, rfl, t, rvs⟩ := repV_tup rv
    exact ⟨p1, vs, rfl, rvs, (fun e => nomatch e), fun _ => t⟩
  · cases e
    obtain ⟨p1, vs, rfl, t, rvs⟩ := repV_lst rv
    exact ⟨p1, vs, rfl, rvs, (fun _ => t.seq), fun e => nomatch e⟩
  · split at e
    · rename_i hst
      cases e
      obtain ⟨p1, rfl, hp⟩ := repV_ref rv
      obtain ⟨vs, hq, rvs⟩ := r.items hp hst
      exact ⟨p1, vs, rfl, rvs, (fun _ => hq), fun e => nomatch e⟩
    · cases e
  · cases e
theorem de_fz {l : L} {x : Expr} (h : DL X cal l x) (hf : l.fresh = true) (he : ∀ whole, isTrue x X.env whole = (do let v ← whole; standAt x.pos; holding [v] (truthy v))) : DE X cal (.fz l) x := by
  refine de_of (PE.imp (pe_fz h) fun σ H Q ⟨ρ, st, env, S, p⟩ => tL.of S (by simpa only [evE] using p) fun r s ρ1 H1 p1 vs S1 k1 rv h1 h2 h3 q1 => ?_) he
  split at q1
  · rename_i e
    obtain ⟨f1, f2, f3⟩ := h3 hf e
    exact fz_new q1 S1.r k1 rv f1 f2 f3
  · exact q1.elim
theorem dl_of {e : E} {x : Expr} (h : DE X cal e x) : DL X cal (.of e) x := by
  refine PE.imp h.1 fun σ H Q ⟨ρ, st, env, S, p⟩ => tE.of S (by rw [evL] at p; exact p) fun d s ρ1 H1 v S1 k1 rv q1 => ?_
  split at q1
  · rename_i r e
    obtain ⟨b, ds⟩ := r
    obtain ⟨p1, vs, rfl, rvs, h1, h2⟩ := items_rep S1.r rv e
    exact (show WL X.K (L.of _).fresh ρ H Q (b, ds) s from q1) ρ1 H1 p1 vs S1.r k1 rvs h1 h2 fun e => by cases e
  · exact q1.elim
/-- a fresh list, ready -/
theorem WL.fresh {K : PySem.W.Frag} {ρ ρ1 : List Addr} {H H1 : Hp} {Q : VK} {ds : List D} {s : Store} {vs : List V} {p : Addr} {fr : Bool} (w : WL K fr ρ H Q (true, ds) s) (r : Rel K ρ1 s H1) (k : Kp ρ ρ1 H H1) (rv : RepVs K ρ1 H1 ds vs) (hp : H1 p = none) : Q (.ref p) (upd H1 p (.lst vs)) :=
  w ρ1 _ p vs (r.upd hp) (k.trans (Kp.upd hp)) (rv.kp (Kp.upd (ρ := ρ1) hp)) (fun _ => .inl (.inl upd_same)) (fun e => by cases e) fun _ _ => ⟨k.free r hp, r.fresh hp, upd_same⟩
theorem dl_disp {es : Es} {ys : List Expr} {pos : Pos} (h : DEs X cal es ys) : DL X cal (.disp es) (.List ys pos) := by
  refine PE.imp (pe_lst (pa_of h)) fun σ H Q ⟨ρ, st, env, S, p⟩ => tEs.of S (by rw [evL] at p; exact p) fun ds s ρ1 H1 vs S1 k1 rv q1 => ?_
  split at q1
  · rename_i hz
    exact ⟨by rw [← rv.length]; exact small_le hz, fun p hp => (WL.fresh q1 S1.r k1 rv hp)⟩
  · exact q1.elim
theorem do_no : DO X cal .no none := PO.imp po_none fun σ H Q ⟨ρ, st, env, S, p⟩ => by
  rw [evO] at p
  exact p ρ H S.r .refl
theorem do_at {e : E} {x : Expr} (h : DE X cal e x) : DO X cal (.at e) (some x) := PO.imp (po_some h.1) fun σ H Q ⟨ρ, st, env, S, p⟩ =>
  tE.of S (by rw [evO] at p; exact p) fun d s ρ1 H1 v S1 k1 rv q1 => by
    split at q1
    · rw [repV_int rv]
      exact ⟨_, rfl, q1 ρ1 H1 S1.r k1⟩
    · exact q1.elim
theorem cutL_rep {K : PySem.W.Frag} {ρ : List Addr} {H : Hp} {ds : List D} {vs : List V} (lo hi : Option Int) (h : RepVs K ρ H ds vs) : RepVs K ρ H (cutL ds lo hi) (cutV vs lo hi) := by
  unfold cutL cutV
  rw [h.length]
  exact (h.drop _).take _
/-- a fresh one outlives what comes next -/
theorem fresh_kp {K : PySem.W.Frag} {ρ1 ρ2 : List Addr} {H1 H2 : Hp} {p : Addr} {vs : List V} (k : Kp ρ1 ρ2 H1 H2) (h : p ∉ ρ1) (e : H1 p = some (.lst vs)) : p ∉ ρ2 ∧ H2 p = some (.lst vs) := k.old p _ e h
/-- a cut, done -/
theorem cut_fin {K : PySem.W.Frag} {ρ ρ3 : List Addr} {H H3 : Hp} {Q : VK} {b : Bool} {ds : List D} {s3 : Store} {i1 i2 : Option Int} {p : Addr} {vs : List V} {env : Env} {σ : L2.St}
    (S3 : Sta K ρ3 s3 env σ H3) (kk : Kp ρ ρ3 H H3) (rvs : RepVs K ρ3 H3 ds vs) (h1 : b = true → SqL K H3 p vs) (h2 : b = false → TupAt K H3 p vs)
    (q3 : WL K true ρ H Q (b, cutL ds i1 i2) s3) : rSlL K (.ref p) i1 i2 H3 Q ∨ ∃ a xs, V.ref p = .ref a ∧ SqT K H3 a xs ∧
    (HT.sIx xs.length 0 i1 = 0 ∧ HT.sIx xs.length xs.length i2 = xs.length → Q (.ref a) H3) ∧
    (¬ (HT.sIx xs.length 0 i1 = 0 ∧ HT.sIx xs.length xs.length i2 = xs.length) → NewT H3 Q (cutV xs i1 i2)) := by
  cases b with
  | true => exact .inl ⟨p, vs, rfl, h1 rfl, fun q hq => WL.fresh q3 S3.r kk (cutL_rep i1 i2 rvs) hq⟩
  | false =>
    have t := h2 rfl
    refine .inr ⟨p, vs, rfl, t.seq, fun hw => ?_, fun hw q o hp hd => ?_⟩
    · have e : cutL ds i1 i2 = ds := by
        unfold cutL
        rw [rvs.length, hw.1, hw.2, List.drop_zero, Nat.sub_zero, ← rvs.length, List.take_length]
      rw [e] at q3
      exact q3 ρ3 H3 p vs S3.r kk rvs (fun e => by cases e) (fun _ => t) fun _ e => by cases e
    · refine q3 ρ3 _ q _ (S3.r.upd hp) (kk.trans (Kp.upd hp)) ((cutL_rep i1 i2 rvs).kp (Kp.upd (ρ := ρ3) hp)) (fun e => by cases e) (fun _ => .inl ⟨o, upd_same, hd⟩) fun _ e => by cases e
theorem dl_slV {e : E} {lo hi : O} {p : Expr} {l h : Option Expr} {p2 pos : Pos} (ha : DE X cal e p) (hl : DO X cal lo l) (hh : DO X cal hi h) : DL X cal (.sl (.of e) lo hi) (.Subscript p (.Slice l h none p2) pos) := by
  refine PE.imp (pe_slice (SlR.or sl_list sl_tupF) ha.1 hl hh) fun σ H Q ⟨ρ, st, env, S, p⟩ => ?_
  refine tE.of S (by rw [evL] at p; exact p) fun d s ρ1 H1 v S1 k1 rv q1 => ?_
  refine tO.of S1 q1 fun i1 s2 ρ2 H2 S2 k2 q2 => ?_
  refine tO.of S2 q2 fun i2 s3 ρ3 H3 S3 k3 q3 => ?_
  split at q3
  · rename_i r e
    obtain ⟨b, ds⟩ := r
    obtain ⟨p1, vs, rfl, rvs, h1, h2⟩ := items_rep S3.r ((rv.kp k2).kp k3) e
    exact cut_fin S3 ((k1.trans k2).trans k3) rvs h1 h2 q3
  · exact q3.elim
theorem dl_slL {a : L} {lo hi : O} {p : Expr} {l h : Option Expr} {p2 pos : Pos} (hf : a.fresh = true) (ha : DL X cal a p) (hl : DO X cal lo l) (hh : DO X cal hi h) : DL X cal (.sl a lo hi) (.Subscript p (.Slice l h none p2) pos) := by
  refine PE.imp (pe_slice (SlR.or sl_list sl_tupF) ha hl hh) fun σ H Q ⟨ρ, st, env, S, p⟩ => ?_
  have p' : Post NoX ((evL cal a env st).bind fun x st1 => (evO cal lo env st1).bind fun l st2 => (evO cal hi env st2).bind fun h st3 => .ok (x.1, cutL x.2 l h) st3) (WL X.K true ρ H Q) := by
    cases a with
    | of e => cases hf
    | _ => rw [evL] at p <;> first | exact p | (intro e h; cases h)
  refine tL.of S p' fun d s ρ1 H1 p1 vs S1 k1 rv h1 h2 h3 q1 => ?_
  refine tO.of S1 q1 fun i1 s2 ρ2 H2 S2 k2 q2 => ?_
  refine tO.of S2 q2 fun i2 s3 ρ3 H3 S3 k3 q3 => ?_
  obtain ⟨isL, ds⟩ := d
  have kk := k2.trans k3
  refine cut_fin S3 (k1.trans kk) (rv.kp kk) (fun e => ?_) (fun e => (h2 e).kp kk) q3
  obtain ⟨_, f2, f3⟩ := h3 hf e
  exact .inl (.inl (fresh_kp (K := X.K) kk f2 f3).2)
theorem de_sl {a : E} {lo hi : O} {p : Expr} {l h : Option Expr} {p2 pos : Pos} (ha : DE X cal a p) (hl : DO X cal lo l) (hh : DO X cal hi h) : DE X cal (.sl a lo hi) (.Subscript p (.Slice l h none p2) pos) := by
  refine de_of (PE.imp (pe_slice (SlR.or (sl_fz sl_list) sl_tupF) ha.1 hl hh) fun σ H Q ⟨ρ, st, env, S, p⟩ => ?_)
  refine tE.of S (by rw [evE] at p; exact p) fun d s ρ1 H1 v S1 k1 rv q1 => ?_
  refine tO.of S1 q1 fun i1 s2 ρ2 H2 S2 k2 q2 => ?_
  refine tO.of S2 q2 fun i2 s3 ρ3 H3 S3 k3 q3 => ?_
  have kk := (k1.trans k2).trans k3
  split at q3
  · rename_i ds e
    obtain ⟨p1, vs, rfl, rvs, _, h2⟩ := items_rep S3.r ((rv.kp k2).kp k3) e
    have t := h2 rfl
    refine .inr ⟨p1, vs, rfl, t.seq, fun hw => ?_, fun hw p o hp hd => ?_⟩
    · have e : cutL ds i1 i2 = ds := by
        unfold cutL
        rw [rvs.length, hw.1, hw.2, List.drop_zero, Nat.sub_zero, ← rvs.length, List.take_length]
      rw [e] at q3
      exact q3 ρ3 H3 _ S3.r kk (.tup t rvs)
    · exact q3 ρ3 _ _ (S3.r.upd hp) (kk.trans (Kp.upd hp)) (RepV.newTup hp hd (cutL_rep i1 i2 rvs))
  · rename_i ds e
    obtain ⟨p1, vs, rfl, rvs, h1, _⟩ := items_rep S3.r ((rv.kp k2).kp k3) e
    refine .inl ⟨p1, vs, rfl, h1 rfl, fun q hq => ?_⟩
    have k := Kp.upd (ρ := ρ3) (o := .lst (cutV vs i1 i2)) hq
    exact fz_new q3 (S3.r.upd hq) (kk.trans k) ((cutL_rep i1 i2 rvs).kp k) (kk.free S3.r hq) (S3.r.fresh hq) upd_same
  · exact q3.elim
/-- list + list, tracked or not -/
theorem op_catL : OpR X (binaryOp .Add) (fun x y H Q => ∃ l b xs zs, x = .ref l ∧ y = .ref b ∧ SqL X.K H l xs ∧ SqL X.K H b zs ∧ xs.length + zs.length ≤ sizeLine ∧ ∀ p, H p = none → Q (.ref p) (upd H p (.lst (xs ++ zs)))) := by
  intro pins s σ H x y v u Q I rx ry h
  obtain ⟨l, b, xs, zs, rfl, rfl, hH, hB, hz, q⟩ := h
  cases rx
  cases ry
  obtain ⟨its, r, pl, z⟩ := I.list hH
  obtain ⟨its2, r2, pl2, z2⟩ := I.list hB
  obtain ⟨⟨cls, dd, data, sl⟩, ho, hc, n, hd⟩ := pl.isList
  obtain ⟨⟨cls2, dd2, data2, sl2⟩, ho2, hc2, n2, hd2⟩ := pl2.isList
  simp only at hc hd hc2 hd2
  subst hc hd hc2 hd2
  have e : its.toArray ++ its2.toArray = (its ++ its2).toArray := by simp
  refine concat_meets ⟨_, ho, rfl⟩ ⟨_, ho2, rfl⟩ noFill_list_add seq_list_add PySem.F.slot_list_add PySem.F.entry_list_add (PySem.F.args_list_add_2 _ _)
    (PyProof.Rows.list_addW l b its.toArray its2.toArray n n2 dd dd2 sl sl2 (by rw [List.size_toArray, List.size_toArray, ← r.length, ← r2.length]; exact hz)) ⟨ho, ho2, ?_⟩
  rw [e]
  exact ⟨.ref _, _, I.lnew (t' := s.toks) (r.append r2) (by rw [List.length_append]; omega), rfl, q _ I.fresh⟩
theorem de_bin {o : Op} {op : Operator} {a b : E} {p q : Expr} {pos : Pos} (ho : opOk o op = true) (ha : DE X cal a p) (hb : DE X cal b q) : DE X cal (.bin o a b) (.BinOp p op q pos) := by
  refine de_of ?_
  cases o <;> cases op <;> simp [opOk] at ho
  · refine PE.imp (pe_op (((op_add.or op_add_str).or op_catF).or (op_fz op_catL)) ha.1 hb.1) fun σ H Q h => bin_seq h fun x y v w ρ st H r rx ry z => ?_
    have z : Post NoX (addD x y st) (WE X.K ρ H Q) := z
    unfold addD at z
    split at z
    · rw [repV_int rx, repV_int ry]; exact .inl (.inl (.inl ⟨_, _, rfl, rfl, WE.now z r (.int _)⟩))
    · split at z
      · rename_i hs
        rw [repV_str rx, repV_str ry]; exact .inl (.inl (.inr ⟨_, _, rfl, rfl, small_le hs, WE.now z r (.str _)⟩))
      · exact z.elim
    · split at z
      · rename_i hs
        obtain ⟨p1, vs, rfl, t1, r1⟩ := repV_tup rx
        obtain ⟨p2, ws, rfl, t2, r2⟩ := repV_tup ry
        refine .inl (.inr ⟨p1, p2, vs, ws, rfl, rfl, t1.seq, t2.seq, by rw [← r1.length, ← r2.length]; exact small_le hs, fun e => ?_, fun _ e => ?_, fun _ _ p o hp hd => ?_⟩)
        · subst e; cases r1; exact WE.now z r ry
        · subst e; cases r2; rw [List.append_nil] at z; exact WE.now z r rx
        · exact z ρ _ _ (r.upd hp) (Kp.upd hp) (RepV.newTup hp hd (r1.append r2))
      · exact z.elim
    · unfold catD at z
      split at z
      · rename_i xs ys e1 e2
        split at z
        · rename_i hs
          obtain ⟨p1, vs, rfl, r1, h1, _⟩ := items_rep r rx e1
          obtain ⟨p2, ws, rfl, r2, h2, _⟩ := items_rep r ry e2
          refine .inr ⟨p1, p2, vs, ws, rfl, rfl, h1 rfl, h2 rfl, by rw [← r1.length, ← r2.length]; exact small_le hs, fun p hp => ?_⟩
          exact fz_new z (r.upd hp) (Kp.upd hp) ((r1.append r2).kp (Kp.upd (ρ := ρ) hp)) hp (r.fresh hp) upd_same
        · exact z.elim
      · exact z.elim
  · refine PE.imp (pe_op op_sub ha.1 hb.1) fun σ H Q h => bin_seq h fun x y v w ρ st H r rx ry z => ?_
    unfold binD at z
    split at z <;> first | exact z.elim | skip
    all_goals (rename_i e; cases e)
    rw [repV_int rx, repV_int ry]; exact ⟨_, _, rfl, rfl, WE.now z r (.int _)⟩
  · refine PE.imp (pe_op op_mul ha.1 hb.1) fun σ H Q h => bin_seq h fun x y v w ρ st H r rx ry z => ?_
    unfold binD at z
    split at z <;> first | exact z.elim | skip
    all_goals (rename_i e; cases e)
    split at z
    · rename_i hs
      rw [repV_int rx, repV_int ry]; exact ⟨_, _, rfl, rfl, smallI_mul hs, WE.now z r (.int _)⟩
    · exact z.elim
  · refine PE.imp (pe_op op_fdiv ha.1 hb.1) fun σ H Q h => bin_seq h fun x y v w ρ st H r rx ry z => ?_
    unfold binD at z
    split at z <;> first | exact z.elim | skip
    all_goals (rename_i e; cases e)
    split at z
    · rename_i hs
      simp only [Bool.and_eq_true, decide_eq_true_eq] at hs
      rw [repV_int rx, repV_int ry]; exact ⟨_, _, rfl, rfl, hs, WE.now z r (.int _)⟩
    · exact z.elim
  · refine PE.imp (pe_op op_mod ha.1 hb.1) fun σ H Q h => bin_seq h fun x y v w ρ st H r rx ry z => ?_
    unfold binD at z
    split at z <;> first | exact z.elim | skip
    all_goals (rename_i e; cases e)
    split at z
    · rename_i hs
      rw [repV_int rx, repV_int ry]; exact ⟨_, _, rfl, rfl, of_decide_eq_true hs, WE.now z r (.int _)⟩
    · exact z.elim
  · refine PE.imp (pe_op op_pow ha.1 hb.1) fun σ H Q h => bin_seq h fun x y v w ρ st H r rx ry z => ?_
    unfold binD at z
    split at z <;> first | exact z.elim | skip
    all_goals (rename_i e; cases e)
    split at z
    · rename_i hs
      simp only [Bool.and_eq_true, decide_eq_true_eq] at hs
      rw [repV_int rx, repV_int ry]; exact ⟨_, _, rfl, rfl, ⟨hs.1.1, by omega, smallI_abs hs.2⟩, WE.now z r (.int _)⟩
    · exact z.elim
  · refine PE.imp (pe_op op_shl ha.1 hb.1) fun σ H Q h => bin_seq h fun x y v w ρ st H r rx ry z => ?_
    unfold binD at z
    split at z <;> first | exact z.elim | skip
    all_goals (rename_i e; cases e)
    split at z
    · rename_i hs
      simp only [Bool.and_eq_true, decide_eq_true_eq] at hs
      rw [repV_int rx, repV_int ry]; exact ⟨_, _, rfl, rfl, ⟨hs.1.1, by omega, smallI_abs hs.2⟩, WE.now z r (.int _)⟩
    · exact z.elim
  · refine PE.imp (pe_op op_shr ha.1 hb.1) fun σ H Q h => bin_seq h fun x y v w ρ st H r rx ry z => ?_
    unfold binD at z
    split at z <;> first | exact z.elim | skip
    all_goals (rename_i e; cases e)
    split at z
    · rename_i hs
      rw [repV_int rx, repV_int ry]; exact ⟨_, _, rfl, rfl, of_decide_eq_true hs, WE.now z r (.int _)⟩
    · exact z.elim
  · refine PE.imp (pe_op op_and ha.1 hb.1) fun σ H Q h => bin_seq h fun x y v w ρ st H r rx ry z => ?_
    unfold binD at z
    split at z <;> first | exact z.elim | skip
    all_goals (rename_i e; cases e)
    rw [repV_int rx, repV_int ry]; exact ⟨_, _, rfl, rfl, WE.now z r (.int _)⟩
  · refine PE.imp (pe_op op_or ha.1 hb.1) fun σ H Q h => bin_seq h fun x y v w ρ st H r rx ry z => ?_
    unfold binD at z
    split at z <;> first | exact z.elim | skip
    all_goals (rename_i e; cases e)
    rw [repV_int rx, repV_int ry]; exact ⟨_, _, rfl, rfl, WE.now z r (.int _)⟩
  · refine PE.imp (pe_op op_xor ha.1 hb.1) fun σ H Q h => bin_seq h fun x y v w ρ st H r rx ry z => ?_
    unfold binD at z
    split at z <;> first | exact z.elim | skip
    all_goals (rename_i e; cases e)
    rw [repV_int rx, repV_int ry]; exact ⟨_, _, rfl, rfl, WE.now z r (.int _)⟩
theorem catR_fin {K : PySem.W.Frag} {ρ ρ2 : List Addr} {H H2 : Hp} {Q : VK} {x y : Bool × List D} {s2 : Store} {p1 p2 : Addr} {vs ws : List V} {env : Env} {σ : L2.St}
    (S2 : Sta K ρ2 s2 env σ H2) (kk : Kp ρ ρ2 H H2) (rv : RepVs K ρ2 H2 x.2 vs) (rw' : RepVs K ρ2 H2 y.2 ws) (h1 : x.1 = true → SqL K H2 p1 vs) (h2 : y.1 = true → SqL K H2 p2 ws)
    (q : Post NoX (catR x y s2) (WL K true ρ H Q)) : ∃ l b xs zs, V.ref p1 = .ref l ∧ V.ref p2 = .ref b ∧ SqL K H2 l xs ∧ SqL K H2 b zs ∧ xs.length + zs.length ≤ sizeLine ∧ ∀ p, H2 p = none → Q (.ref p) (upd H2 p (.lst (xs ++ zs))) := by
  unfold catR at q
  split at q
  · rename_i hc
    simp only [Bool.and_eq_true] at hc
    exact ⟨p1, p2, vs, ws, rfl, rfl, h1 hc.1.1, h2 hc.1.2, by rw [← rv.length, ← rw'.length]; exact small_le hc.2, fun p hp => WL.fresh q S2.r kk (rv.append rw') hp⟩
  · exact q.elim
theorem dl_catV {e : E} {b : L} {p q : Expr} {pos : Pos} (ha : DE X cal e p) (hb : DL X cal b q) : DL X cal (.cat (.of e) b) (.BinOp p .Add q pos) := by
  refine PE.imp (pe_op op_catL ha.1 hb) fun σ H Q ⟨ρ, st, env, S, p⟩ => ?_
  refine tE.of S (by rw [evL] at p; exact p) fun d s ρ1 H1 v S1 k1 rv q1 => ?_
  refine tL.of S1 q1 fun y s2 ρ2 H2 p2 ws S2 k2 rw' g1 g2 g3 q2 => ?_
  split at q2
  · rename_i r e
    obtain ⟨b, ds⟩ := r
    obtain ⟨p1, vs, rfl, rvs, h1, h2⟩ := items_rep S2.r (rv.kp k2) e
    exact catR_fin S2 (k1.trans k2) rvs rw' h1 g1 q2
  · exact q2.elim
theorem dl_catL {a b : L} {p q : Expr} {pos : Pos} (hf : a.fresh = true) (ha : DL X cal a p) (hb : DL X cal b q) : DL X cal (.cat a b) (.BinOp p .Add q pos) := by
  refine PE.imp (pe_op op_catL ha hb) fun σ H Q ⟨ρ, st, env, S, p⟩ => ?_
  have p' : Post NoX ((evL cal a env st).bind fun x st1 => (evL cal b env st1).bind fun y st2 => catR x y st2) (WL X.K true ρ H Q) := by
    cases a with
    | of e => cases hf
    | _ => rw [evL] at p <;> first | exact p | (intro e h; cases h)
  refine tL.of S p' fun d s ρ1 H1 p1 vs S1 k1 rv h1 h2 h3 q1 => ?_
  refine tL.of S1 q1 fun y s2 ρ2 H2 p2 ws S2 k2 rw' g1 g2 g3 q2 => ?_
  refine catR_fin S2 (k1.trans k2) (rv.kp k2) rw' (fun e => ?_) g1 q2
  obtain ⟨_, f2, f3⟩ := h3 hf e
  exact .inl (.inl (fresh_kp (K := X.K) k2 f2 f3).2)
end
end PyD
namespace PyD
open PySem PySem.Spec PyProof.Rows L2
theorem bt_len : bootBuiltins "len" = some (.builtin "len") := by decide +kernel
theorem bt_abs : bootBuiltins "abs" = some (.builtin "abs") := by decide +kernel
theorem bt_repr : bootBuiltins "repr" = some (.builtin "repr") := by decide +kernel
theorem bt_int : bootBuiltins "int" = some (.type "int") := by decide +kernel
theorem bt_isi : bootBuiltins "isinstance" = some (.builtin "isinstance") := by decide +kernel
theorem bt_divmod : bootBuiltins "divmod" = some (.builtin "divmod") := by decide +kernel
theorem bt_tuple : bootBuiltins "tuple" = some (.type "tuple") := by decide +kernel
theorem bt_list : bootBuiltins "list" = some (.type "list") := by decide +kernel
theorem bt_all : bootBuiltins "all" = some (.builtin "all") := by decide +kernel
theorem bt_any : bootBuiltins "any" = some (.builtin "any") := by decide +kernel
theorem bt_sum : bootBuiltins "sum" = some (.builtin "sum") := by decide +kernel
theorem bt_sorted : bootBuiltins "sorted" = some (.builtin "sorted") := by decide +kernel
theorem bt_ty (t : Ty) : bootBuiltins (Str.ofString (tyname t)) = some (.type (tyname t)) := by cases t <;> decide +kernel
theorem mem_bn {x : Str} (h : decide (x ∈ builtinNames) = true) : x ∈ builtinNames := of_decide_eq_true h
def tyOf (d : D) (st : Store) : String := match d with
  | .non => "NoneType" | .bl _ => "bool" | .int _ => "int" | .str _ => "str" | .tup _ => "tuple" | .lst _ => "list"
  | .ref a => match st[a]? with
    | some (.dct _) => "dict"
    | _ => "list"
theorem kit_tab (t : Ty) : kitB "NoneType" (tyname t) = some false ∧ kitB "bool" (tyname t) = some (t = .bool || t = .int) ∧ kitB "int" (tyname t) = some (decide (t = .int)) ∧ kitB "str" (tyname t) = some (decide (t = .str)) ∧
    kitB "tuple" (tyname t) = some (decide (t = .tuple)) ∧ kitB "list" (tyname t) = some (decide (t = .list)) ∧ kitB "dict" (tyname t) = some (decide (t = .dict)) := by
  cases t <;> refine ⟨?_, ?_, ?_, ?_, ?_, ?_, ?_⟩ <;> decide +kernel
section
variable {X : Cx} {cal : Cal} {C : CXT} {k : Nat} {c : CC}
theorem de_b1 {b : B1} {a : E} {p pos : Pos} {y : Expr} (G : Good c C cal k X) (hg : glB X.env.scope (b1name b) = true) (hs : isStar y = false) (ha : DE X cal a y) : DE X cal (.b1 b a) (.Call (.Name (b1name b) p) [y] [] pos) := by
  have hu := G.hu
  cases b with
  | len =>
    refine de_of (PE.imp (pe_b1 (CallR.or call_len call_lenD) (gl_of hg) (G.bn _ (mem_bn (by decide))) bt_len ha.1 hs) fun σ H Q ⟨ρ, st, env, S, p⟩ => tE.of S (by rw [evE] at p; exact p) fun d s ρ1 H1 v S1 k1 rv q1 => ?_)
    simp only [b1D] at q1
    split at q1
    · split at q1
      · rename_i hz
        rw [repV_str rv]
        exact .inl ⟨_, _, rfl, ⟨small_le hz, rfl⟩, (WE.kp q1 k1).now S1.r (.int _)⟩
      · exact q1.elim
    · obtain ⟨p1, rfl, hp⟩ := repV_ref rv
      split at q1
      · rename_i hst
        obtain ⟨vs, hq, rvs⟩ := S1.r.items hp hst
        rw [rvs.length] at q1
        exact .inl ⟨_, _, rfl, .inl ⟨vs, hq, rfl⟩, (WE.kp q1 k1).now S1.r (.int _)⟩
      · rename_i hst
        obtain ⟨ho, h1, h2⟩ := S1.r.at hst hp
        cases h2 with
        | @dct kvs2 vs rk =>
          have e := Paired.length rk
          rw [e] at q1
          exact .inr ⟨p1, vs, rfl, h1, (WE.kp q1 k1).now S1.r (.int _)⟩
      · exact q1.elim
    · obtain ⟨p1, vs, rfl, t, rvs⟩ := repV_tup rv
      rw [rvs.length] at q1
      exact .inl ⟨_, _, rfl, .inr ⟨vs, t.seq, rfl⟩, (WE.kp q1 k1).now S1.r (.int _)⟩
    · obtain ⟨p1, vs, rfl, t, rvs⟩ := repV_lst rv
      rw [rvs.length] at q1
      exact .inl ⟨_, _, rfl, .inl ⟨vs, t.seq, rfl⟩, (WE.kp q1 k1).now S1.r (.int _)⟩
    · exact q1.elim
  | abs =>
    refine de_of (PE.imp (pe_b1 call_abs (gl_of hg) (G.bn _ (mem_bn (by decide))) bt_abs ha.1 hs) fun σ H Q ⟨ρ, st, env, S, p⟩ => tE.of S (by rw [evE] at p; exact p) fun d s ρ1 H1 v S1 k1 rv q1 => ?_)
    simp only [b1D] at q1
    split at q1
    · rw [repV_int rv]
      exact ⟨_, rfl, (WE.kp q1 k1).now S1.r (.int _)⟩
    · exact q1.elim
  | int =>
    refine de_of (PE.imp (pe_t1 call_int1 (gl_of hg) (G.bn _ (mem_bn (by decide))) bt_int ha.1 hs) fun σ H Q ⟨ρ, st, env, S, p⟩ => tE.of S (by rw [evE] at p; exact p) fun d s ρ1 H1 v S1 k1 rv q1 => ?_)
    simp only [b1D] at q1
    split at q1
    · rw [repV_int rv]
      exact .inl ⟨_, rfl, (WE.kp q1 k1).now S1.r (.int _)⟩
    · rw [repV_bl rv]
      exact .inr ⟨_, rfl, (WE.kp q1 k1).now S1.r (.int _)⟩
    · exact q1.elim
  | repr =>
    refine de_of (PE.imp (pe_b1 (call_reprD G.room.g (by omega)) (gl_of hg) (G.bn _ (mem_bn (by decide))) bt_repr ha.1 hs) fun σ H Q ⟨ρ, st, env, S, p⟩ => tE.of S (by rw [evE] at p; exact p) fun d s ρ1 H1 v S1 k1 rv q1 => ?_)
    have key : ∀ p1, v = .ref p1 → Post NoX (reprD d s) (WE X.K ρ H Q) → ∃ p a, [v] = [V.ref p] ∧ Seen1 X.K (.ref p) H1 a ∧ a.py.showable = true ∧ a.py.shown.length ≤ sizeLine ∧ Q (.str a.py.shown) H1 := fun p1 e q => by
      subst e
      unfold reprD at q
      split at q
      · rename_i a ea
        split at q
        · rename_i hz
          simp only [Bool.and_eq_true] at hz
          exact ⟨p1, a, rfl, ⟨ρ1, s, d, S1.r, rv, ea⟩, hz.1, small_le hz.2, (WE.kp q k1).now S1.r (.str _)⟩
        · exact q.elim
      · exact q.elim
    simp only [b1D] at q1
    split at q1
    · obtain ⟨p1, vs, e, _, _⟩ := repV_tup rv
      exact key p1 e q1
    · obtain ⟨p1, vs, e, _, _⟩ := repV_lst rv
      exact key p1 e q1
    · obtain ⟨p1, e, _⟩ := repV_ref rv
      exact key p1 e q1
    · exact q1.elim
/-- a built-in class by name -/
theorem pe_bty {t : Ty} {pos : Pos} (hg : glB X.env.scope (Str.ofString (tyname t)) = true) (hm : X.mg (Str.ofString (tyname t)) = none) : PE X (.Name (Str.ofString (tyname t)) pos) (L2.tC (.ty (tyname t))) :=
  ⟨fun _ _ _ H _ I h => ld_blt I (gl_of hg) hm (bt_ty t) ⟨.ty (tyname t), H, I, rfl, h⟩ (by cases t <;> decide) (by cases t <;> decide)⟩
theorem tyX_of {K : PySem.W.Frag} {ρ : List Addr} {st : Store} {H : Hp} {d : D} {v : V} {t : Ty} {b : Bool} (r : Rel K ρ st H) (rv : RepV K ρ H d v) (e : isTy t d st = some b) : ∃ T, TyX K H v (.type T) ∧ kitB T (tyname t) = some b := by
  obtain ⟨k1, k2, k3, k4, k5, k6, k7⟩ := kit_tab t
  cases rv with
  | non => simp only [isTy] at e; cases e; exact ⟨_, .base .non, k1⟩
  | bl x => simp only [isTy] at e; cases e; exact ⟨_, .base (.bl x), k2⟩
  | int i => simp only [isTy] at e; cases e; exact ⟨_, .base (.int i), k3⟩
  | str x => simp only [isTy] at e; cases e; exact ⟨_, .base (.str x), k4⟩
  | tup h hs =>
    simp only [isTy] at e
    cases e
    rcases h with ⟨o, h, _⟩ | ⟨o, its, n, h1, h2, _⟩
    · exact ⟨_, .fTuple h, k5⟩
    · exact ⟨_, .kTuple h1 h2, k5⟩
  | lst h hs =>
    simp only [isTy] at e
    cases e
    rcases h with ⟨o, h⟩ | ⟨o, its, n, h1, h2, _⟩
    · exact ⟨_, .base (.frz h), k6⟩
    · exact ⟨_, .kList h1 h2, k6⟩
  | @ref a p hp =>
    simp only [isTy] at e
    split at e
    · rename_i hst
      cases e
      obtain ⟨ho, h1, h2⟩ := r.at hst hp
      cases h2
      exact ⟨_, .base (.lst h1), k6⟩
    · rename_i hst
      cases e
      obtain ⟨ho, h1, h2⟩ := r.at hst hp
      cases h2
      exact ⟨_, .base (.dK h1), k7⟩
    · cases e
theorem tyname_mem (t : Ty) : Str.ofString (tyname t) ∈ builtinNames := by cases t <;> exact mem_bn (by decide)
theorem de_isi {t : Ty} {a : E} {p p2 pos : Pos} {y : Expr} (G : Good c C cal k X) (hg : glB X.env.scope "isinstance" = true) (hg2 : glB X.env.scope (Str.ofString (tyname t)) = true) (hs : isStar y = false) (ha : DE X cal a y) :
    DE X cal (.isi t a) (.Call (.Name "isinstance" p) [y, .Name (Str.ofString (tyname t)) p2] [] pos) := by
  refine de_of (PE.imp (pe_b2 call_isiF (gl_of hg) (G.bn _ (mem_bn (by decide))) bt_isi ha.1 (pe_bty hg2 (G.bn _ (tyname_mem t))) hs rfl) fun σ H Q ⟨ρ, st, env, S, p⟩ => tE.of S (by rw [evE] at p; exact p) fun d s ρ1 H1 v S1 k1 rv q1 => ?_)
  split at q1
  · rename_i b e
    obtain ⟨T, h1, h2⟩ := tyX_of S1.r rv e
    exact ⟨v, T, tyname t, b, rfl, h1, h2, (WE.kp q1 k1).now S1.r (.bl _)⟩
  · exact q1.elim
theorem de_dvm {a b : E} {p pos : Pos} {y z : Expr} (G : Good c C cal k X) (hg : glB X.env.scope "divmod" = true) (hs : isStar y = false) (hs2 : isStar z = false) (ha : DE X cal a y) (hb : DE X cal b z) : DE X cal (.dvm a b) (.Call (.Name "divmod" p) [y, z] [] pos) := by
  refine de_of (PE.imp (pe_b2 call_divmodF (gl_of hg) (G.bn _ (mem_bn (by decide))) bt_divmod ha.1 hb.1 hs hs2) fun σ H Q ⟨ρ, st, env, S, p⟩ => ?_)
  refine tE.of S (by rw [evE] at p; exact p) fun d s ρ1 H1 v S1 k1 rv q1 => ?_
  refine tE.of S1 q1 fun d2 s2 ρ2 H2 w S2 k2 rw' q2 => ?_
  split at q2
  · split at q2
    · rename_i hz
      simp only [Bool.and_eq_true, decide_eq_true_eq] at hz
      rw [repV_int rv, repV_int rw']
      exact ⟨_, _, rfl, hz, fun p o hp hd => q2 ρ2 _ _ (S2.r.upd hp) ((k1.trans k2).trans (Kp.upd hp)) (RepV.newTup hp hd (.cons (.int _) (.cons (.int _) .nil)))⟩
    · exact q2.elim
  · exact q2.elim
theorem de_tupOf {l : L} {p pos : Pos} {y : Expr} (G : Good c C cal k X) (hg : glB X.env.scope "tuple" = true) (hs : isStar y = false) (hl : DL X cal l y) : DE X cal (.tupOf l) (.Call (.Name "tuple" p) [y] [] pos) := by
  refine de_of (PE.imp (pe_t1 call_tupleF (gl_of hg) (G.bn _ (mem_bn (by decide))) bt_tuple hl hs) fun σ H Q ⟨ρ, st, env, S, p⟩ => ?_)
  refine tL.of S (by rw [evE] at p; exact p) fun r s ρ1 H1 p1 vs S1 k1 rv h1 h2 _ q1 => ?_
  obtain ⟨b, ds⟩ := r
  refine ⟨p1, vs, rfl, ?_⟩
  cases b with
  | true => exact .inl ⟨h1 rfl, fun q o hp hd => q1 ρ1 _ _ (S1.r.upd hp) (k1.trans (Kp.upd hp)) (RepV.newTup hp hd rv)⟩
  | false => exact .inr ⟨(h2 rfl).seq, q1 ρ1 H1 _ S1.r k1 (.tup (h2 rfl) rv)⟩
theorem bls_rep {K : PySem.W.Frag} {ρ : List Addr} {H : Hp} : ∀ {ds : List D} {vs : List V} {bs : List Bool}, RepVs K ρ H ds vs → blsD ds = some bs → vs = bs.map V.bl
  | _, _, _, .nil, e => by simp [blsD] at e; subst e; rfl
  | _, _, _, .cons (d := d) (ds := ds) h t, e => by
    cases d <;> simp only [blsD] at e <;> try cases e
    cases q : blsD ds with
    | none => rw [q] at e; cases e
    | some cs =>
      rw [q] at e
      cases e
      rw [repV_bl h, bls_rep t q]
      rfl
theorem ints_rep {K : PySem.W.Frag} {ρ : List Addr} {H : Hp} : ∀ {ds : List D} {vs : List V} {ns : List Int}, RepVs K ρ H ds vs → intsD ds = some ns → vs = ns.map V.int
  | _, _, _, .nil, e => by simp [intsD] at e; subst e; rfl
  | _, _, _, .cons (d := d) (ds := ds) h t, e => by
    cases d <;> simp only [intsD] at e <;> try cases e
    cases q : intsD ds with
    | none => rw [q] at e; cases e
    | some cs =>
      rw [q] at e
      cases e
      rw [repV_int h, ints_rep t q]
      rfl
theorem de_allOf {l : L} {p pos : Pos} {y : Expr} (G : Good c C cal k X) (hg : glB X.env.scope "all" = true) (hs : isStar y = false) (hl : DL X cal l y) : DE X cal (.allOf l) (.Call (.Name "all" p) [y] [] pos) := by
  refine de_of (PE.imp (pe_b1 (call_allB G.calm) (gl_of hg) (G.bn _ (mem_bn (by decide))) bt_all hl hs) fun σ H Q ⟨ρ, st, env, S, p⟩ => ?_)
  refine tL.of S (by rw [evE] at p; exact p) fun r s ρ1 H1 p1 vs S1 k1 rv h1 h2 _ q1 => ?_
  split at q1
  · rename_i b e1 e2
    unfold allD at e2
    cases e3 : blsD r.2 with
    | none => rw [e3] at e2; cases e2
    | some bs =>
      rw [e3] at e2
      cases e2
      refine ⟨p1, bs, rfl, ?_, (WE.kp q1 k1).now S1.r (.bl _)⟩
      rw [← bls_rep rv e3]
      exact h1 e1
  · exact q1.elim
theorem de_anyOf {l : L} {p pos : Pos} {y : Expr} (G : Good c C cal k X) (hg : glB X.env.scope "any" = true) (hs : isStar y = false) (hl : DL X cal l y) : DE X cal (.anyOf l) (.Call (.Name "any" p) [y] [] pos) := by
  refine de_of (PE.imp (pe_b1 (call_anyB G.calm) (gl_of hg) (G.bn _ (mem_bn (by decide))) bt_any hl hs) fun σ H Q ⟨ρ, st, env, S, p⟩ => ?_)
  refine tL.of S (by rw [evE] at p; exact p) fun r s ρ1 H1 p1 vs S1 k1 rv h1 h2 _ q1 => ?_
  split at q1
  · rename_i b e1 e2
    unfold anyD at e2
    cases e3 : blsD r.2 with
    | none => rw [e3] at e2; cases e2
    | some bs =>
      rw [e3] at e2
      cases e2
      refine ⟨p1, bs, rfl, ?_, (WE.kp q1 k1).now S1.r (.bl _)⟩
      rw [← bls_rep rv e3]
      exact h1 e1
  · exact q1.elim
theorem de_sumOf {l : L} {p pos : Pos} {y : Expr} (G : Good c C cal k X) (hg : glB X.env.scope "sum" = true) (hs : isStar y = false) (hl : DL X cal l y) : DE X cal (.sumOf l) (.Call (.Name "sum" p) [y] [] pos) := by
  refine de_of (PE.imp (pe_b1 (cr_sum G.calm) (gl_of hg) (G.bn _ (mem_bn (by decide))) bt_sum hl hs) fun σ H Q ⟨ρ, st, env, S, p⟩ => ?_)
  refine tL.of S (by rw [evE] at p; exact p) fun r s ρ1 H1 p1 vs S1 k1 rv h1 h2 _ q1 => ?_
  split at q1
  · rename_i ns e1 e2
    refine ⟨p1, ns, rfl, ?_, (WE.kp q1 k1).now S1.r (.int _)⟩
    rw [← ints_rep rv e2]
    exact h1 e1
  · exact q1.elim
theorem dl_sorted {l : L} {p pos : Pos} {y : Expr} (G : Good c C cal k X) (hg : glB X.env.scope "sorted" = true) (hs : isStar y = false) (hl : DL X cal l y) : DL X cal (.sorted l) (.Call (.Name "sorted" p) [y] [] pos) := by
  have hu := G.hu
  refine PE.imp (pe_b1 (cr_sortD (by omega)) (gl_of hg) (G.bn _ (mem_bn (by decide))) bt_sorted hl hs) fun σ H Q ⟨ρ, st, env, S, p⟩ => ?_
  refine tL.of S (by rw [evL] at p; exact p) fun r s ρ1 H1 p1 vs S1 k1 rv h1 h2 _ q1 => ?_
  split at q1
  · rename_i es e1 e2
    refine ⟨p1, ρ1, r.2, es, vs, rfl, h1 e1, rv, e2, fun q ws hp rw' => ?_⟩
    exact WL.fresh q1 S1.r k1 rw' hp
  · exact q1.elim
theorem bt_set : bootBuiltins "set" = some (.type "set") := by decide +kernel
theorem de_lenSet {l : L} {p pos p2 pos2 : Pos} {y : Expr} (G : Good c C cal k X) (hg : glB X.env.scope "len" = true) (hg2 : glB X.env.scope "set" = true) (hs : isStar y = false) (hl : DL X cal l y) :
    DE X cal (.lenSet l) (.Call (.Name "len" p) [.Call (.Name "set" p2) [y] [] pos2] [] pos) := by
  refine de_of (PE.imp (pe_b1 cr_lenSetO (gl_of hg) (G.bn _ (mem_bn (by decide))) bt_len (pe_t1 (cr_setI G.calm) (gl_of hg2) (G.bn _ (mem_bn (by decide))) bt_set hl hs) rfl) fun σ H Q ⟨ρ, st, env, S, p⟩ => ?_)
  refine tL.of S (by rw [evE] at p; exact p) fun r s ρ1 H1 p1 vs S1 k1 rv h1 h2 _ q1 => ?_
  split at q1
  · rename_i ns e
    split at q1
    · rename_i hz
      have ev := ints_rep rv e
      subst ev
      refine ⟨p1, ns, rfl, ?_, of_decide_eq_true hz, fun a ha => ⟨a, _, _, rfl, upd_same, ?_⟩⟩
      · cases hb : r.1 with
        | true => exact .inl (h1 hb)
        | false => exact .inr (h2 hb).seq
      · exact q1 ρ1 _ _ (S1.r.upd ha) (k1.trans (Kp.upd ha)) (.int _)
    · exact q1.elim
  · exact q1.elim
theorem rep_ints {K : PySem.W.Frag} {ρ : List Addr} {H : Hp} : ∀ ns : List Int, RepVs K ρ H (ns.map D.int) (ns.map V.int)
  | [] => .nil
  | i :: ns => .cons (.int i) (rep_ints ns)
end
end PyD
namespace PyD
open PySem PySem.Spec PyProof.Rows L2
section
variable {X : Cx} {cal : Cal} {C : CXT} {k : Nat} {c : CC}
theorem des_star : ∀ {es : Es} {xs : List Expr}, DEs X cal es xs → es.noStar = true → ∀ x ∈ xs, isStar x = false
  | .nil, xs, h, _ => by obtain rfl : xs = [] := h; exact fun x hx => nomatch hx
  | .cons e es, xs, h, hn => by
    obtain ⟨x, r, rfl, hs, _, hr⟩ := h
    intro y hy
    rcases List.mem_cons.mp hy with rfl | hy
    · exact hs
    · exact des_star hr hn y hy
  | .star _ _, _, _, hn => by cases hn
theorem plain_trees : ∀ {xs : List Expr} {pos : Pos} {env : PySem.Env}, (∀ x ∈ xs, isStar x = false) → (backTo pos (starEach xs env)).any (·.1) = false
  | [], _, _, _ => rfl
  | x :: xs, pos, env, h => by
    rw [starEach_cons (h x List.mem_cons_self)]
    show (false || (backTo pos (starEach xs env)).any (·.1)) = false
    rw [plain_trees fun y hy => h y (List.mem_cons_of_mem _ hy)]
    rfl
theorem run_def {pins : List (Addr × Obj)} {σ : L2.St} {H : Hp} {s : Shared} {Q : VK} {f : Nat} {a : Addr} {fd : FuncData} {ps : List Str} {args : Args} {us : List Value} {vs : List V} {ds : List D} {ρ : List Addr} {st : Store}
    (G : Good c C cal k X) (F : FnG X.prog X.w X.K X.mg X.base C k a fd ps (spD X.K cal f ps.length)) (hst : ∀ ds st, ds.length ≠ ps.length → cal f ds st = .stuck)
    (I : Inv X pins σ H s) (hb : ds.length = ps.length → BindsTo s fd args (ps.zip us)) (r : Vals vs us) (rl : Rel X.K ρ st H) (rv : RepVs X.K ρ H ds vs) (q : Post NoX (cal f ds st) (WE X.K ρ H Q)) :
    wpAny (model X.prog X.w) X.A (PySem.call (.ref a) args.pos args.kw) (EP X pins σ Q) X.xe s := by
  have hl : ds.length = ps.length := by
    refine Classical.byContradiction fun n => ?_
    rw [hst ds st n] at q
    exact q
  exact run_fnG F G.room (E := fun _ _ _ => False) (fun pins σ H s e t _ h => (G.pa _ _ _ _ _ h).elim) I (hb hl) r ⟨by rw [← rv.length]; exact hl, ρ, st, ds, rl, rv, q⟩
theorem de_call {f : Nat} {x : Str} {es : Es} {xs : List Expr} {p pos : Pos} (G : Good c C cal k X) (hf : c.fns f = some x) (hg : glB X.env.scope x = true) (hx : nameOk x = true) (h : DEs X cal es xs) (hn : es.noStar = true) :
    DE X cal (.call f es) (.Call (.Name x p) xs [] pos) := by
  obtain ⟨a, fd, ps, hm, hk, F, hb, hst, _⟩ := (G.fn f x hf).ex
  have hs := des_star h hn
  refine de_of ⟨fun pins s σ H Q I ⟨ρ, st, env, S, pp⟩ => ?_⟩
  rw [evE] at pp
  refine wpAny_Call_Name_kw (ld_glob I (gl_of hg) hm ?_ (nameOk_of hx).1)
  have hA := (pa_of h).run pos pins s σ H _ I ⟨ρ, st, env, S, pp.bind.mono (P' := WEs X.K ρ H fun vs H1 => ∃ ρ1 s1 ds, Rel X.K ρ1 s1 H1 ∧ Kp ρ ρ1 H H1 ∧ RepVs X.K ρ1 H1 ds vs ∧ Post NoX (cal f ds s1) (WE X.K ρ H Q))
    fun ds s1 q ρ1 H1 vs r k1 rv => ⟨ρ1, s1, ds, r, k1, rv, q⟩⟩
  cases xs with
  | nil =>
    have es0 : es = .nil := by
      cases es with
      | nil => rfl
      | cons _ _ => obtain ⟨_, _, e, _⟩ := h; cases e
      | star _ _ => cases hn
    subst es0
    rw [evEs] at pp
    refine PySem.W.callWith_K0 (first := []) I.kIn hk (run_def (args := ⟨[], []⟩) (us := []) (vs := []) (ds := []) G F hst I (fun hl => hb s [] I.kIn hl) .nil S.r .nil pp)
  | cons y ys =>
    have hy := hs y List.mem_cons_self
    refine PySem.W.callWith_K (first := []) (h₀ := X.base) I.ok.mod.kin hk (thn hA fun us s1 ⟨vs, H1, I1, r, ρ1, st1, ds, rl, k1, rv, q⟩ => ⟨I1.kIn, ?_⟩) (starEach_cons hy) (plain_trees fun z hz => hs z (List.mem_cons_of_mem _ hz))
    exact run_def (args := ⟨us, []⟩) G F hst I1 (fun hl => hb s1 us I1.kIn (by rw [← r.length, ← rv.length]; exact hl)) r rl rv (q.mono fun d s w => WE.kp w k1)
theorem RepVs.sel {K : PySem.W.Frag} {ρ : List Addr} {H : Hp} {ds : List D} {vs : List V} (h : RepVs K ρ H ds vs) : ∀ perm : List Nat, RepVs K ρ H (sel perm ds) (sel perm vs)
  | [] => .nil
  | i :: perm => by
    unfold PyD.sel
    rw [List.filterMap_cons, List.filterMap_cons]
    cases e : ds[i]? with
    | none =>
      have e2 : vs[i]? = none := by rw [List.getElem?_eq_none_iff] at e ⊢; rw [← h.length]; exact e
      rw [e2]
      exact RepVs.sel h perm
    | some d =>
      obtain ⟨v, e2, rv⟩ := h.get e
      rw [e2]
      exact .cons rv (RepVs.sel h perm)
theorem vals_sel {vs : List V} {us : List Value} (h : Vals vs us) : ∀ perm : List Nat, Vals (sel perm vs) (sel perm us)
  | [] => .nil
  | i :: perm => by
    unfold sel
    rw [List.filterMap_cons, List.filterMap_cons]
    cases e : vs[i]? with
    | none =>
      have e2 : us[i]? = none := by rw [List.getElem?_eq_none_iff] at e ⊢; rw [← h.length]; exact e
      rw [e2]
      exact vals_sel h perm
    | some d =>
      obtain ⟨v, e2, rv⟩ := h.get e
      rw [e2]
      exact .cons rv (vals_sel h perm)
theorem pk_of : ∀ {es : Es} {kws : List Keyword}, DEs X cal es (kws.map (·.value)) → es.noStar = true → PK X kws (tEs X.K cal NoX es)
  | .nil, kws, h, _ => by
    have e : kws = [] := List.map_eq_nil_iff.mp h
    subst e
    exact ⟨fun pos pins s σ H Q I ⟨ρ, st, env, S, p⟩ => wpAny_evalAll_nil ⟨[], H, I, .nil, (show WEs X.K ρ H Q [] st from p) ρ H [] S.r .refl .nil⟩⟩
  | .cons e es, kws, h, hn => by
    obtain ⟨x, r, e0, hs, hx, hr⟩ := h
    cases kws with
    | nil => cases e0
    | cons kw kws =>
      obtain ⟨nm, v, kp⟩ := kw
      rw [List.map_cons] at e0
      cases e0
      have ih := pk_of (kws := kws) hr hn
      refine ⟨fun pos pins s σ H Q I ⟨ρ, st, env, S, p⟩ => (pk_cons hx.1 ih).run pos pins s σ H Q I ?_⟩
      refine tE.of S (by simpa only [evEs] using p) fun d s ρ1 H1 v S1 k1 rv q1 => ?_
      refine tEs.of S1 q1 fun ds s2 ρ2 H2 vs S2 k2 rvs q2 => ?_
      exact (show WEs X.K ρ H Q (d :: ds) s2 from q2) ρ2 H2 _ S2.r (k1.trans k2) (.cons (rv.kp k2) rvs)
  | .star _ _, _, _, hn => by cases hn
theorem kw_names : ∀ {kws : List Keyword} {ks : List Str} {pos : Pos} {env : PySem.Env}, kws.map (·.arg) = ks.map some → (backToKw pos (keywordEach kws env)).filterMap (·.1) = ks ∧ (backToKw pos (keywordEach kws env)).all (·.1.isSome) = true ∧ (backToKw pos (keywordEach kws env)).any (·.1.isNone) = false
  | [], [], _, _, _ => ⟨rfl, rfl, rfl⟩
  | [], _ :: _, _, _, h => by simp at h
  | _ :: _, [], _, _, h => by simp at h
  | ⟨nm, v, kp⟩ :: kws, k :: ks, pos, env, h => by
    rw [List.map_cons, List.map_cons] at h
    injection h with h1 h2
    obtain ⟨a, b, d⟩ := kw_names (pos := pos) (env := env) h2
    simp only at h1
    subst h1
    refine ⟨?_, ?_, ?_⟩
    · show k :: (backToKw pos (keywordEach kws env)).filterMap (·.1) = _
      rw [a]
    · show (true && (backToKw pos (keywordEach kws env)).all (·.1.isSome)) = true
      rw [b]; rfl
    · show (false || (backToKw pos (keywordEach kws env)).any (·.1.isNone)) = false
      rw [d]; rfl
theorem des_len : ∀ {es : Es} {xs : List Expr}, DEs X cal es xs → xs.length = es.len
  | .nil, xs, h => by obtain rfl : xs = [] := h; rfl
  | .cons e es, xs, h => by obtain ⟨x, r, rfl, _, _, hr⟩ := h; rw [List.length_cons, des_len hr]; rfl
  | .star l es, xs, h => by obtain ⟨x, p, r, rfl, _, hr⟩ := h; rw [List.length_cons, des_len hr]; rfl
theorem evEs_len : ∀ {es : Es} {env : Env} {st : Store} {P : List D → Store → Prop}, es.noStar = true → Post NoX (evEs cal es env st) P → Post NoX (evEs cal es env st) fun ds s => ds.length = es.len ∧ P ds s
  | .nil, env, st, P, _, h => by rw [evEs] at h ⊢; exact ⟨rfl, h⟩
  | .cons e es, env, st, P, hn, h => by
    rw [evEs] at h ⊢
    cases e1 : evE cal e env st with
    | stuck => rw [e1] at h; exact h.elim
    | exc x s => rw [e1] at h; exact h.elim
    | ok d s =>
      rw [e1] at h
      rw [R.bind_ok] at h ⊢
      have h2 := evEs_len (es := es) hn h.bind
      cases e2 : evEs cal es env s with
      | stuck => rw [e2] at h2; exact h2.elim
      | exc x s => rw [e2] at h2; exact h2.elim
      | ok ds s2 =>
        rw [e2] at h2
        rw [R.bind_ok]
        exact ⟨by rw [List.length_cons, h2.1]; rfl, h2.2⟩
  | .star _ _, _, _, _, hn, _ => by cases hn
theorem de_callk {f : Nat} {x : Str} {es zs : Es} {perm : List Nat} {xs : List Expr} {kws : List Keyword} {ks : List Str} {p pos : Pos} (G : Good c C cal k X) (hf : c.fns f = some x) (hg : glB X.env.scope x = true) (hx : nameOk x = true) (h : DEs X cal es xs) (hn : es.noStar = true)
    (hz : DEs X cal zs (kws.map (·.value))) (hzn : zs.noStar = true) (hzl : zs.len = kws.length) (hks : kws.map (·.arg) = ks.map some) (hkb : (es.len, ks, perm) ∈ c.kbs f) : DE X cal (.callk f es zs perm) (.Call (.Name x p) xs kws pos) := by
  obtain ⟨a, fd, ps, hm, hk, F, hb, hst, hkw⟩ := (G.fn f x hf).ex
  have hs := des_star h hn
  refine de_of ⟨fun pins s σ H Q I ⟨ρ, st, env, S, pp⟩ => ?_⟩
  rw [evE] at pp
  refine wpAny_Call_Name_kw (ld_glob I (gl_of hg) hm ?_ (nameOk_of hx).1)
  obtain ⟨n1, n2, n3⟩ := kw_names (pos := pos) (env := X.env) hks
  have hkl : ks.length = zs.len := by
    have e := congrArg List.length hks
    rw [List.length_map, List.length_map] at e
    rw [hzl]; exact e.symm
  -- behind the positional arguments
  have next : ∀ (us : List Value) (vs : List V) (s1 : Shared) (H1 : Hp) (ρ1 : List Addr) (st1 : Store) (ds : List D), Inv X pins σ H1 s1 → Vals vs us → Sta X.K ρ1 st1 env σ H1 → Kp ρ ρ1 H H1 → RepVs X.K ρ1 H1 ds vs → ds.length = es.len →
      Post NoX ((evEs cal zs env st1).bind fun ws st2 => cal f (PyD.sel perm (ds ++ ws)) st2) (WE X.K ρ H Q) →
      wpAny (model X.prog X.w) X.A (evalAll ((backToKw pos (keywordEach kws X.env)).map (·.2))) (fun ws s2 => X.K.In s2.heap ∧ wpAny (model X.prog X.w) X.A (PySem.call (.ref a) ([] ++ us) (((backToKw pos (keywordEach kws X.env)).filterMap (·.1)).zip ws)) (EP X pins σ Q) X.xe s2) X.xe s1 := by
    intro us vs s1 H1 ρ1 st1 ds I1 r S1 k1 rv hl q
    have hz1 := evEs_len hzn q.bind
    refine thn ((pk_of hz hzn).run pos pins s1 σ H1 _ I1 ⟨ρ1, st1, env, S1, hz1.mono (P' := WEs X.K ρ1 H1 fun zs' H2 => ∃ ρ2 s2 ws, Rel X.K ρ2 s2 H2 ∧ Kp ρ1 ρ2 H1 H2 ∧ RepVs X.K ρ2 H2 ws zs' ∧ ws.length = zs.len ∧ Post NoX (cal f (PyD.sel perm (ds ++ ws)) s2) (WE X.K ρ H Q))
      fun ws s2 q ρ2 H2 vs r k2 rv => ⟨ρ2, s2, ws, r, k2, rv, q.1, q.2⟩⟩) fun ws s2 ⟨zs', H2, I2, r2, ρ2, st2, ws', rl, k2, rv2, hl2, q2⟩ => ⟨I2.kIn, ?_⟩
    rw [n1]
    have rvA := (rv.kp k2).append rv2
    refine run_def (args := ⟨us, ks.zip ws⟩) (us := PyD.sel perm (us ++ ws)) (vs := PyD.sel perm (vs ++ zs')) G F hst I2 (fun _ => hkw _ _ _ hkb s2 us ws I2.kIn ?_ ?_) (vals_sel (r.append r2) perm) rl (RepVs.sel rvA perm) (q2.mono fun d s w => WE.kp w (k1.trans k2))
    · rw [← r.length, ← rv.length]; exact hl
    · rw [← r2.length, ← rv2.length, hl2]; exact hkl.symm
  cases xs with
  | nil =>
    have es0 : es = .nil := by
      cases es with
      | nil => rfl
      | cons _ _ => obtain ⟨_, _, e, _⟩ := h; cases e
      | star _ _ => cases hn
    subst es0
    rw [evEs] at pp
    exact PySem.W.callWith_KW0 (first := []) (h₀ := X.base) I.ok.mod.kin hk n2 (next [] [] s H ρ st [] I .nil S .refl .nil rfl pp) (by rw [n3]; rfl)
  | cons y ys =>
    have hy := hs y List.mem_cons_self
    have hA := (pa_of h).run pos pins s σ H _ I ⟨ρ, st, env, S, (evEs_len hn pp.bind).mono (P' := WEs X.K ρ H fun vs H1 => ∃ ρ1 s1 ds, Rel X.K ρ1 s1 H1 ∧ Kp ρ ρ1 H H1 ∧ RepVs X.K ρ1 H1 ds vs ∧ ds.length = es.len ∧ Post NoX ((evEs cal zs env s1).bind fun ws st2 => cal f (PyD.sel perm (ds ++ ws)) st2) (WE X.K ρ H Q))
      fun ds s1 q ρ1 H1 vs r k1 rv => ⟨ρ1, s1, ds, r, k1, rv, q.1, q.2⟩⟩
    refine PySem.W.callWith_KW (first := []) (h₀ := X.base) I.ok.mod.kin hk n2 (thn hA fun us s1 ⟨vs, H1, I1, r, ρ1, st1, ds, rl, k1, rv, hl, q⟩ => next us vs s1 H1 ρ1 st1 ds I1 r (S.next rl k1) k1 rv hl q) (by rw [n3, plain_trees hs]; rfl) (starEach_cons hy)
end
end PyD
namespace PyD
open PySem PySem.Spec PyProof.Rows L2
section
variable {X : Cx} {cal : Cal} {C : CXT} {k : Nat} {c : CC}
def dTrs (K : PySem.W.Frag) (cal : Cal) : List Str → Es → List (TE × TE)
  | k :: ks, .cons e es => (L2.tC (.str k), tE K cal NoX e) :: dTrs K cal ks es
  | _, _ => []
theorem pps_of {pos : Pos} : ∀ {ks : List Str} {es : Es} {keys : List (Option Expr)} {vals : List Expr}, keysOk ks keys = true → DEs X cal es vals → es.noStar = true → ks.length = es.len → PPs X pos keys vals (dTrs X.K cal ks es)
  | [], .nil, keys, vals, hk, h, _, _ => by
    obtain rfl : vals = [] := h
    cases keys with
    | nil => exact pps_nil
    | cons _ _ => simp [keysOk] at hk
  | [], .cons _ _, _, _, _, _, _, hl => by simp [Es.len] at hl
  | _ :: _, .nil, _, _, _, _, _, hl => by simp [Es.len] at hl
  | k :: ks, .cons e es, keys, vals, hk, h, hn, hl => by
    obtain ⟨x, r, rfl, _, hx, hr⟩ := h
    unfold keysOk at hk
    split at hk
    · cases (‹_ :: _ = []› : _)
    · rename_i k' ks' x' j p xs e1
      simp only [Bool.and_eq_true, decide_eq_true_eq] at hk
      cases e1
      obtain ⟨rfl, hk⟩ := hk
      exact pps_cons pe_str hx.1 (pps_of hk hr hn (by simpa [Es.len] using hl))
    · cases hk
  | _, .star _ _, _, _, _, _, hn, _ => by cases hn
theorem pairs_of {K : PySem.W.Frag} : ∀ {ks : List Str} {es : Es} {ρ : List Addr} {st : Store} {env : Env} {σ : L2.St} {H : Hp} {Q : List (V × V) → Hp → Prop}, es.noStar = true → ks.length = es.len → Sta K ρ st env σ H →
    Post NoX (evEs cal es env st) (fun ds s => ∀ ρ' H' vs, Rel K ρ' s H' → Kp ρ ρ' H H' → RepVs K ρ' H' ds vs → Q ((ks.map V.str).zip vs) H') → tPairs (dTrs K cal ks es) σ H Q
  | [], .nil, ρ, st, env, σ, H, Q, _, _, S, p => by
    rw [evEs] at p
    exact p ρ H [] S.r .refl .nil
  | [], .cons _ _, _, _, _, _, _, _, _, hl, _, _ => by simp [Es.len] at hl
  | _ :: _, .nil, _, _, _, _, _, _, _, hl, _, _ => by simp [Es.len] at hl
  | k :: ks, .cons e es, ρ, st, env, σ, H, Q, hn, hl, S, p => by
    rw [evEs] at p
    show tE K cal NoX e σ H fun y H2 => tPairs (dTrs K cal ks es) σ H2 fun ps H3 => Q ((.str k, y) :: ps) H3
    refine tE.of S p fun d s ρ1 H1 v S1 k1 rv q1 => ?_
    refine pairs_of hn (by simpa [Es.len] using hl) S1 (q1.bind.mono fun ds s2 q ρ2 H2 vs r k2 rvs => ?_)
    exact (show ∀ ρ' H' vs, Rel K ρ' s2 H' → Kp ρ ρ' H H' → RepVs K ρ' H' (d :: ds) vs → Q (((k :: ks).map V.str).zip vs) H' from q) ρ2 H2 _ r (k1.trans k2) (.cons (rv.kp k2) rvs)
  | _, .star _ _, _, _, _, _, _, _, hn, _, _, _ => by cases hn
theorem merge_new : ∀ {more acc : List (Key × V)}, (more.map (·.1)).Nodup → (∀ p ∈ more, ∀ q ∈ acc, q.1 ≠ p.1) → mergeK acc more = acc ++ more
  | [], acc, _, _ => by simp [mergeK]
  | p :: more, acc, hn, hd => by
    show mergeK (L2.putK acc p.1 p.2) more = _
    have e : L2.putK acc p.1 p.2 = acc ++ [p] := by
      unfold L2.putK
      rw [if_neg]
      intro h
      obtain ⟨q, hq, e⟩ := List.any_eq_true.mp h
      exact hd p List.mem_cons_self q hq (of_decide_eq_true e)
    rw [e]
    rw [List.map_cons, List.nodup_cons] at hn
    rw [merge_new hn.2 fun q hq r hr => ?_, List.append_assoc]
    · rfl
    · rcases List.mem_append.mp hr with hr | hr
      · exact hd q (List.mem_cons_of_mem _ hq) r hr
      · simp only [List.mem_singleton] at hr
        subst hr
        exact fun e => hn.1 (e ▸ List.mem_map_of_mem hq)
theorem dctOf_rep {K : PySem.W.Frag} {ρ : List Addr} {H : Hp} : ∀ {ks : List Str} {ds : List D} {vs : List V} {kvs : List ((Int ⊕ Str) × D)}, dctOf ks ds = some kvs → RepVs K ρ H ds vs →
    RepK K ρ H kvs ((ks.map fun k => (Sum.inr k : Key)).zip vs) ∧ (ks.map V.str).zip vs = ((ks.map fun k => (Sum.inr k : Key)).zip vs).map (fun kv => (kV kv.1, kv.2)) ∧ ((ks.map fun k => (Sum.inr k : Key)).zip vs).map (·.1) = ks.map Sum.inr
  | [], [], vs, kvs, e, r => by simp only [dctOf] at e; cases e; cases r; exact ⟨.nil, rfl, rfl⟩
  | [], _ :: _, _, _, e, _ => by simp [dctOf] at e
  | _ :: _, [], _, _, e, _ => by simp [dctOf] at e
  | k :: ks, d :: ds, vs, kvs, e, r => by
    simp only [dctOf] at e
    cases q : dctOf ks ds with
    | none => rw [q] at e; cases e
    | some z =>
      rw [q] at e
      cases e
      cases r with
      | cons a t =>
        obtain ⟨h1, h2, h3⟩ := dctOf_rep q t
        refine ⟨.cons ⟨rfl, a⟩ h1, ?_, ?_⟩
        · simp only [List.map_cons, List.zip_cons_cons, h2]; rfl
        · simp only [List.map_cons, List.zip_cons_cons, h3]
theorem keysOk_all : ∀ {ks : List Str} {keys : List (Option Expr)}, keysOk ks keys = true → keys.all (·.isSome) = true ∧ keys.length = ks.length
  | [], [], _ => ⟨rfl, rfl⟩
  | [], _ :: _, h => by simp [keysOk] at h
  | k :: ks, keys, h => by
    unfold keysOk at h
    split at h
    · cases (‹_ :: _ = []› : _)
    · rename_i e1
      simp only [Bool.and_eq_true] at h
      cases e1
      obtain ⟨a, b⟩ := keysOk_all h.2
      exact ⟨by simp only [List.all_cons, a]; rfl, by simp [b]⟩
    · cases h
theorem de_dct {ks : List Str} {es : Es} {keys : List (Option Expr)} {vals : List Expr} {pos : Pos} (hk : keysOk ks keys = true) (h : DEs X cal es vals) (hn : es.noStar = true) (h15 : ks.length ≤ 15) (hl : ks.length = es.len) (hd : ks.Nodup) (h0 : ks ≠ []) :
    DE X cal (.dct ks es) (.Dict keys vals pos) := by
  obtain ⟨a1, a2⟩ := keysOk_all hk
  refine de_of (PE.imp (pe_disp (pps_of hk h hn hl) a1 (by rw [a2, hl, ← des_len h]) (fun e => h0 (by rw [e] at a2; exact List.length_eq_zero_iff.mp a2.symm)) (by rw [a2]; exact h15)) fun σ H Q ⟨ρ, st, env, S, p⟩ => ?_)
  intro pa hpa
  rw [evE] at p
  have S0 : Sta X.K ρ st env σ (upd H pa (.dK [])) := ⟨S.r.upd hpa, S.e.kp (Kp.upd hpa)⟩
  refine pairs_of hn hl S0 ((evEs_len hn p.bind).mono fun ds s ⟨el, q⟩ ρ1 H1 vs r k1 rvs => ?_)
  have hold := k1.old pa _ upd_same (S.r.fresh hpa)
  refine ⟨hold.2, ?_⟩
  split at q
  · rename_i kvs e
    obtain ⟨h1, h2, h3⟩ := dctOf_rep e rvs
    refine ⟨_, h2, ?_, ?_⟩
    · have := congrArg List.length h3
      rw [List.length_map, List.length_map] at this
      rw [this]; exact h15
    · rw [merge_new (acc := []) (by rw [h3]; exact List.Pairwise.map _ (fun a b hab e => hab (by injection e)) hd) (fun p _ q hq => nomatch hq), List.nil_append]
      have r1 := r.push hold.2 hold.1 (.dct .nil)
      have kk : Kp ρ (ρ1 ++ [pa]) H H1 := ((Kp.upd hpa).trans k1).push hpa
      have hidx : (ρ1 ++ [pa])[s.length]? = some pa := by rw [← r.len, List.getElem?_append_right (Nat.le_refl _)]; simp
      have hm : ∀ o u, H1 pa ≠ some (.frz o u) := fun o u e => by rw [hold.2] at e; cases e
      have kp0 : Kp ρ1 (ρ1 ++ [pa]) H1 H1 → True := fun _ => trivial
      have rk : RepK X.K (ρ1 ++ [pa]) H1 kvs ((ks.map fun k => (Sum.inr k : Key)).zip vs) := by
        refine Paired.mapP h1 fun _ _ z => ⟨z.1, ?_⟩
        exact RepV.pre (fun i q hq => by rw [List.getElem?_append_left (List.getElem?_eq_some_iff.mp hq).1]; exact hq) z.2
      have r2 := r1.write hidx hm (.dct rk)
      have e2 : (s ++ [MO.dct []]).set s.length (.dct kvs) = s ++ [.dct kvs] := by
        rw [List.set_append_right _ _ (Nat.le_refl _)]
        simp
      rw [e2] at r2
      exact q _ _ _ r2 (kk.trans (Kp.write r1 hidx hm)) (.ref hidx)
  · exact q.elim
theorem base_of {o : Expr} {m : Str} {env : PySem.Env} {w : Sem Value} (h : isBareCall o = false) : attributeBase o m env w = w := by
  unfold attributeBase
  split
  · simp [isBareCall] at h
  · rfl
/-- of which class, at which heap -/
def TyD (K : PySem.W.Frag) (T : String) (x : V) (H : Hp) : Prop := ∃ p, x = .ref p ∧ ((T = "list" ∧ ∃ xs, SqL K H p xs) ∨ (T = "tuple" ∧ ∃ xs, TupAt K H p xs))
theorem tyD_is {pins : List (Addr × Obj)} {σ : L2.St} {H : Hp} {s : Shared} {T : String} {x : V} {v : Value} (I : Inv X pins σ H s) (r : RelV x v) (ty : TyD X.K T x H) :
    s.TypeIs v T ∧ ∀ a, v = .ref a → ∃ ob, s.heap.get? a = some ob ∧ ob.dict = none := by
  obtain ⟨p, rfl, h⟩ := ty
  rcases h with ⟨rfl, xs, h⟩ | ⟨rfl, xs, h⟩
  · exact tyV_is I r (.inl ⟨rfl, xs, h⟩)
  · cases r
    rcases h with ⟨o, h, hd⟩ | ⟨o, its, n, h1, h2, h3, _⟩
    · obtain ⟨e, z, its, rv, o', h1, h2, _⟩ := (show ObjOk X.prog X.w H s.heap p (.frz o (.tup xs)) from I.hok p _ h)
      refine ⟨⟨o', h1, h2⟩, fun a e2 => ?_⟩
      cases e2
      exact ⟨o, e, hd⟩
    · refine ⟨⟨o, I.kIn p o h1, h2⟩, fun a e2 => ?_⟩
      cases e2
      exact ⟨o, I.kIn _ o h1, h3⟩
structure BM (X : Cx) (name : Str) (T id : String) (r : V → List V → Hp → VK → Prop) : Prop where
  pa : PlainAttrs T
  slot : Slot T name id
  ty : typeOf (.builtin id) = pure (.type "method_descriptor")
  m : MtR X id r
theorem pe_mD1 {o e : Expr} {name : Str} {apos cpos : Pos} {to te : TE} (ho : PE X o to) (he : PE X e te) (hb : isBareCall o = false) (hs : isStar e = false) (hl : (apos.endLine == cpos.line) = true) :
    PE X (.Call (.Attribute o name apos) [e] [] cpos) (fun σ H Q => to σ H fun x H1 => ∃ T id r, BM X name T id r ∧ TyD X.K T x H1 ∧ te σ H1 fun y H2 => r x [y] H2 Q) := by
  have hst : starEach [e] X.env = (false, eval e X.env) :: starEach [] X.env := starEach_cons hs
  refine ⟨fun pins s σ H Q I h => ?_⟩
  refine wpAny_Call_method_late (base_of hb) (by rw [hst]; rfl) hl rfl (thn (ho.run pins s σ H _ I h) fun v s1 ⟨x, H1, I1, r1, T, id, r, B, ty, q1⟩ => ?_)
  obtain ⟨h1, h2⟩ := tyD_is I1 r1 ty
  refine ⟨T, id, B.pa, B.slot, B.ty, h1, h2, ?_⟩
  have hA := (pa_cons he pa_nil hst).run cpos pins s1 σ H1 (fun xs H2 => r x xs H2 Q) I1 q1
  rw [hst] at hA ⊢
  refine Calls.callWith_builtin rfl (Calls.evalArgs_plain ?_)
  exact thn hA fun us s2 ⟨vs, H2, I2, r2, q2⟩ => B.m pins s2 σ H2 x vs v us Q I2 r1 r2 q2
theorem pe_mD0 {o : Expr} {name : Str} {apos cpos : Pos} {to : TE} (ho : PE X o to) (hb : isBareCall o = false) (hl : (apos.endLine == cpos.line) = true) :
    PE X (.Call (.Attribute o name apos) [] [] cpos) (fun σ H Q => to σ H fun x H1 => ∃ T id r, BM X name T id r ∧ TyD X.K T x H1 ∧ r x [] H1 Q) := by
  refine ⟨fun pins s σ H Q I h => ?_⟩
  refine wpAny_Call_method0_late (base_of hb) hl (thn (ho.run pins s σ H _ I h) fun v s1 ⟨x, H1, I1, r1, T, id, r, B, ty, q1⟩ => ?_)
  obtain ⟨h1, h2⟩ := tyD_is I1 r1 ty
  exact ⟨T, id, B.pa, B.slot, B.ty, h1, h2, Calls.callWith_builtin rfl (PySem.evalArgs_none (B.m pins s1 σ H1 x [] v [] Q I1 r1 .nil q1))⟩
theorem bm_append : BM X "append" "list" "list.append" rAppend := ⟨F.plainAttrs_list, F.slot_list_append, F.type_list_append, mt_append⟩
theorem bm_pop : BM X "pop" "list" "list.pop" rPop := ⟨F.plainAttrs_list, F.slot_list_pop, F.type_list_pop, mt_pop⟩
theorem bm_popAt : BM X "pop" "list" "list.pop" rPopAt := ⟨F.plainAttrs_list, F.slot_list_pop, F.type_list_pop, mt_popAt⟩
theorem bm_idxL (hu : X.A.units + 65 < cLine) : BM X "index" "list" "list.index" (rIdx X.K true) := ⟨F.plainAttrs_list, F.slot_list_index, F.type_list_index, mt_idxL hu⟩
theorem bm_idxT (hu : X.A.units + 65 < cLine) : BM X "index" "tuple" "tuple.index" (rIdx X.K false) := ⟨F.plainAttrs_tuple, F.slot_tuple_index, F.type_tuple_index, mt_idxT hu⟩
/-- extend by a list, tracked or not -/
def rExtL (K : PySem.W.Frag) : V → List V → Hp → VK → Prop := fun x vs H Q => ∃ l b xs zs, x = .ref l ∧ vs = [.ref b] ∧ H l = some (.lst xs) ∧ (SqL K H b zs ∨ SqT K H b zs) ∧ xs.length + zs.length ≤ sizeLine ∧ Q .non (upd H l (.lst (xs ++ zs)))
theorem list_extendW (l b : Addr) (items items2 : Array Value) (n n2 : Nat) (dd2 : Option Addr) (sl2 : Array (Option Value)) (hlong : ¬ (!items.isEmpty && Builtin.List.listTooLong (items.size + items2.size)) = true) (h1 : items.size ≤ sizeLine) (h2 : items2.size ≤ sizeLine) (hsz : items.size + items2.size ≤ sizeLine) :
    Meets (Builtin.«list.extend» ⟨[.ref l, .ref b], []⟩) (fun _ R s => s.heap.get? l = some { cls := .type "list", data := .seq items n } ∧ s.heap.get? b = some { cls := .type "list", dict := dd2, data := .seq items2 n2, slots := sl2 } ∧ R (.ok (.ret Value.none)) { s with heap := s.heap.update l (Obj.mapSeq fun x => x ++ items2), toks := s.toks }) :=
  .of_wp fun prog w A R s h => by obtain ⟨hp, g, d, tk, os⟩ := s; obtain ⟨hl, hb, h⟩ := h; have f1 := AutoSeq1.idx_int; have f2 := AutoSeq1.sub_tuple_tuple; have f3 := AutoSeq1.sub_list_list; have f4 := AutoSeq1.sub_tuple_list; have f5 := AutoSeq1.sub_list_tuple; have hz' : (items ++ items2).size ≤ sizeLine + 1 := by { rw [Array.size_append]; omega }; wp_walk using (wpAny_updateSeq hl rfl (hz := h1) (_hz' := hz')), AutoSeq1.wpAny_loadPart' hl, AutoSeq1.wpAny_loadPart' hb; exact ⟨_, rfl, h⟩
theorem list_extendT (l b : Addr) (items items2 : Array Value) (n n2 : Nat) (dd2 : Option Addr) (sl2 : Array (Option Value)) (hlong : ¬ (!items.isEmpty && Builtin.List.listTooLong (items.size + items2.size)) = true) (h1 : items.size ≤ sizeLine) (h2 : items2.size ≤ sizeLine) (hsz : items.size + items2.size ≤ sizeLine) :
    Meets (Builtin.«list.extend» ⟨[.ref l, .ref b], []⟩) (fun _ R s => s.heap.get? l = some { cls := .type "list", data := .seq items n } ∧ s.heap.get? b = some { cls := .type "tuple", dict := dd2, data := .seq items2 n2, slots := sl2 } ∧ R (.ok (.ret Value.none)) { s with heap := s.heap.update l (Obj.mapSeq fun x => x ++ items2), toks := s.toks }) :=
  .of_wp fun prog w A R s h => by obtain ⟨hp, g, d, tk, os⟩ := s; obtain ⟨hl, hb, h⟩ := h; have f1 := AutoSeq1.idx_int; have f2 := AutoSeq1.sub_tuple_tuple; have f3 := AutoSeq1.sub_list_list; have f4 := AutoSeq1.sub_tuple_list; have f5 := AutoSeq1.sub_list_tuple; have hz' : (items ++ items2).size ≤ sizeLine + 1 := by { rw [Array.size_append]; omega }; wp_walk using (wpAny_updateSeq hl rfl (hz := h1) (_hz' := hz')), AutoSeq1.wpAny_loadPart' hl, AutoSeq1.wpAny_loadPart' hb; exact ⟨_, rfl, h⟩
theorem mt_extL : MtR X "list.extend" (rExtL X.K) := by
  intro pins s σ H x vs v us Q I rx rv h
  obtain ⟨l, b, xs, zs, rfl, rfl, hH, hB, hz, q⟩ := h
  cases rx
  obtain ⟨u, rfl, ru⟩ := vals1 rv
  cases ru
  obtain ⟨z, its, n, r, hl, e⟩ := I.lstM hH
  have el := r.length
  have fits : ∀ its2 : List Value, zs.length = its2.length → its.toArray.size + its2.toArray.size ≤ sizeLine ∧ ¬ (!its.toArray.isEmpty && Builtin.List.listTooLong (its.toArray.size + its2.toArray.size)) = true := fun its2 el2 => by
    have hsz : its.toArray.size + its2.toArray.size ≤ sizeLine := by rw [List.size_toArray, List.size_toArray]; omega
    refine ⟨hsz, ?_⟩
    have : Builtin.List.listTooLong (its.toArray.size + its2.toArray.size) = false := by
      unfold Builtin.List.listTooLong
      exact decide_eq_false (by omega)
    rw [this, Bool.and_false]
    exact Bool.false_ne_true
  rcases hB with hB | hB
  · obtain ⟨its2, r2, pl2, z2⟩ := I.list hB
    obtain ⟨⟨cls2, dd2, data2, sl2⟩, ho2, hc2, n2, hd2⟩ := pl2.isList
    simp only at hc2 hd2
    subst hc2 hd2
    obtain ⟨hsz, hlong⟩ := fits its2 r2.length
    refine call_meets F.slot_list_extend ⟨_, e, rfl⟩ F.entry_list_extend (F.args_list_extend_2 _ _)
      (list_extendW l b its.toArray its2.toArray n n2 dd2 sl2 hlong (by omega) (by omega) hsz) ⟨e, ho2, ?_⟩
    refine ⟨.non, _, I.lset (its' := its ++ its2) hH e (by simp) (r.append r2) ?_, rfl, q⟩
    rw [List.length_append]
    omega
  · obtain ⟨its2, r2, pl2, z2⟩ := I.tuple hB
    obtain ⟨⟨cls2, dd2, data2, sl2⟩, ho2, hc2, n2, hd2⟩ := pl2
    simp only at hc2 hd2
    subst hc2 hd2
    obtain ⟨hsz, hlong⟩ := fits its2 r2.length
    refine call_meets F.slot_list_extend ⟨_, e, rfl⟩ F.entry_list_extend (F.args_list_extend_2 _ _)
      (list_extendT l b its.toArray its2.toArray n n2 dd2 sl2 hlong (by omega) (by omega) hsz) ⟨e, ho2, ?_⟩
    refine ⟨.non, _, I.lset (its' := its ++ its2) hH e (by simp) (r.append r2) ?_, rfl, q⟩
    rw [List.length_append]
    omega
theorem bm_extL : BM X "extend" "list" "list.extend" (rExtL X.K) := ⟨F.plainAttrs_list, F.slot_list_extend, F.type_list_extend, mt_extL⟩
theorem meth1_eq {f : Str} {x o e : Expr} (h : meth1 f x = some (o, e)) : ∃ apos cpos, x = .Call (.Attribute o f apos) [e] [] cpos ∧ (apos.endLine == cpos.line) = true ∧ isBareCall o = false ∧ isStar e = false := by
  unfold meth1 at h
  split at h
  · rename_i o' id apos e' cpos
    split at h
    · rename_i q
      simp only [Bool.and_eq_true, decide_eq_true_eq, Bool.not_eq_true'] at q
      cases h
      obtain ⟨⟨⟨rfl, q2⟩, q3⟩, q4⟩ := q
      exact ⟨apos, cpos, rfl, q2, q3, q4⟩
    · cases h
  · cases h
theorem meth0_eq {f : Str} {x o : Expr} (h : meth0 f x = some o) : ∃ apos cpos, x = .Call (.Attribute o f apos) [] [] cpos ∧ (apos.endLine == cpos.line) = true ∧ isBareCall o = false := by
  unfold meth0 at h
  split at h
  · rename_i o' id apos cpos
    split at h
    · rename_i q
      simp only [Bool.and_eq_true, decide_eq_true_eq, Bool.not_eq_true'] at q
      cases h
      obtain ⟨⟨rfl, q2⟩, q3⟩ := q
      exact ⟨apos, cpos, rfl, q2, q3⟩
    · cases h
  · cases h
theorem tyD_items {ρ : List Addr} {st : Store} {H : Hp} {d : D} {v : V} {b : Bool} {ds : List D} (r : Rel X.K ρ st H) (rv : RepV X.K ρ H d v) (e : items d st = some (b, ds)) : TyD X.K (if b then "list" else "tuple") v H := by
  obtain ⟨p, vs, rfl, _, h1, h2⟩ := items_rep r rv e
  cases b with
  | true => exact ⟨p, rfl, .inl ⟨rfl, vs, h1 rfl⟩⟩
  | false => exact ⟨p, rfl, .inr ⟨rfl, vs, h2 rfl⟩⟩
/-- a list of the store that may change -/
theorem lst_at {K : PySem.W.Frag} {ρ : List Addr} {st : Store} {H : Hp} {a : Nat} {v : V} {ds : List D} (r : Rel K ρ st H) (rv : RepV K ρ H (.ref a) v) (e : st[a]? = some (.lst ds)) :
    ∃ p vs, v = .ref p ∧ ρ[a]? = some p ∧ H p = some (.lst vs) ∧ RepVs K ρ H ds vs ∧ ∀ o u, H p ≠ some (.frz o u) := by
  obtain ⟨p, rfl, hp⟩ := repV_ref rv
  obtain ⟨ho, h1, h2⟩ := r.at e hp
  cases h2 with
  | lst h => exact ⟨p, _, rfl, hp, h1, h, fun o u z => by rw [h1] at z; cases z⟩
theorem de_app {a e : E} {o y : Expr} {apos cpos : Pos} (hl : (apos.endLine == cpos.line) = true) (hb : isBareCall o = false) (hs : isStar y = false) (ha : DE X cal a o) (he : DE X cal e y) : DE X cal (.app a e) (.Call (.Attribute o "append" apos) [y] [] cpos) := by
  refine de_of (PE.imp (pe_mD1 ha.1 he.1 hb hs hl) fun σ H Q ⟨ρ, st, env, S, p⟩ => tE.of S (by rw [evE] at p; exact p) fun d s ρ1 H1 v S1 k1 rv q1 => ?_)
  split at q1
  · rename_i ds0 e0
    refine ⟨"list", _, _, bm_append, tyD_items S1.r rv e0, tE.of S1 q1 fun d2 s2 ρ2 H2 w S2 k2 rw' q2 => ?_⟩
    split at q2
    · split at q2
      · rename_i ds hst
        split at q2
        · rename_i hz
          obtain ⟨p1, vs, rfl, hp, h1, rvs, hm⟩ := lst_at S2.r (rv.kp k2) hst
          refine ⟨p1, vs, w, rfl, rfl, h1, by have := small_le hz; rw [← rvs.length]; omega, ?_⟩
          have kw := Kp.write (ho := .lst (vs ++ [w])) S2.r hp hm
          exact q2 ρ2 _ _ (S2.r.write hp hm (.lst (rvs.append (.cons rw' .nil)))) ((k1.trans k2).trans kw) .non
        · exact q2.elim
      · exact q2.elim
    · exact q2.elim
  · exact q1.elim
theorem de_ext {a : E} {l : L} {o y : Expr} {apos cpos : Pos} (hl : (apos.endLine == cpos.line) = true) (hb : isBareCall o = false) (hs : isStar y = false) (ha : DE X cal a o) (he : DL X cal l y) : DE X cal (.ext a l) (.Call (.Attribute o "extend" apos) [y] [] cpos) := by
  refine de_of (PE.imp (pe_mD1 ha.1 he hb hs hl) fun σ H Q ⟨ρ, st, env, S, p⟩ => tE.of S (by rw [evE] at p; exact p) fun d s ρ1 H1 v S1 k1 rv q1 => ?_)
  split at q1
  · rename_i ds0 e0
    refine ⟨"list", _, _, bm_extL, tyD_items S1.r rv e0, tL.of S1 q1 fun r s2 ρ2 H2 p2 ws S2 k2 rw' g1 g2 g3 q2 => ?_⟩
    split at q2
    · split at q2
      · rename_i ds hst
        split at q2
        · rename_i hz
          obtain ⟨p1, vs, rfl, hp, h1, rvs, hm⟩ := lst_at S2.r (rv.kp k2) hst
          have hsrc : SqL X.K H2 p2 ws ∨ SqT X.K H2 p2 ws := by
            cases hb : r.1 with
            | true => exact .inl (g1 hb)
            | false => exact .inr (g2 hb).seq
          refine ⟨p1, p2, vs, ws, rfl, rfl, h1, hsrc, by rw [← rvs.length, ← rw'.length]; exact small_le hz, ?_⟩
          have kw := Kp.write (ho := .lst (vs ++ ws)) S2.r hp hm
          exact q2 ρ2 _ _ (S2.r.write hp hm (.lst (rvs.append rw'))) ((k1.trans k2).trans kw) .non
        · exact q2.elim
      · exact q2.elim
    · exact q2.elim
  · exact q1.elim
theorem de_pop {a : E} {o : Expr} {apos cpos : Pos} (hl : (apos.endLine == cpos.line) = true) (hb : isBareCall o = false) (ha : DE X cal a o) : DE X cal (.pop a) (.Call (.Attribute o "pop" apos) [] [] cpos) := by
  refine de_of (PE.imp (pe_mD0 ha.1 hb hl) fun σ H Q ⟨ρ, st, env, S, p⟩ => tE.of S (by rw [evE] at p; exact p) fun d s ρ1 H1 v S1 k1 rv q1 => ?_)
  split at q1
  · split at q1
    · rename_i ds hst
      split at q1
      · rename_i d' hd
        obtain ⟨p1, vs, rfl, hp, h1, rvs, hm⟩ := lst_at S1.r rv hst
        obtain ⟨w, hw, rw'⟩ := rvs.get hd
        rw [rvs.length] at hw
        have kw := Kp.write (ho := .lst vs.dropLast) S1.r hp hm
        exact ⟨"list", _, _, bm_pop, ⟨p1, rfl, .inl ⟨rfl, vs, .inl (.inl h1)⟩⟩, p1, vs, w, rfl, rfl, h1, hw, q1 ρ1 _ _ (S1.r.write hp hm (.lst rvs.dropLast)) (k1.trans kw) (rw'.kp kw)⟩
      · exact q1.elim
    · exact q1.elim
  · exact q1.elim
theorem de_popi {a e : E} {o y : Expr} {apos cpos : Pos} (hl : (apos.endLine == cpos.line) = true) (hb : isBareCall o = false) (hs : isStar y = false) (ha : DE X cal a o) (he : DE X cal e y) : DE X cal (.popi a e) (.Call (.Attribute o "pop" apos) [y] [] cpos) := by
  refine de_of (PE.imp (pe_mD1 ha.1 he.1 hb hs hl) fun σ H Q ⟨ρ, st, env, S, p⟩ => tE.of S (by rw [evE] at p; exact p) fun d s ρ1 H1 v S1 k1 rv q1 => ?_)
  split at q1
  · rename_i ds0 e0
    refine ⟨"list", _, _, bm_popAt, tyD_items S1.r rv e0, tE.of S1 q1 fun d2 s2 ρ2 H2 w S2 k2 rw' q2 => ?_⟩
    split at q2
    · split at q2
      · rename_i j _ ds hst
        split at q2
        · rename_i hz
          simp only [Bool.and_eq_true, decide_eq_true_eq] at hz
          split at q2
          · rename_i d' hd
            obtain ⟨p1, vs, rfl, hp, h1, rvs, hm⟩ := lst_at S2.r (rv.kp k2) hst
            obtain ⟨w', hw, rw2⟩ := rvs.get hd
            have hz2 := small_le hz.2
            have hsl : sizeLine = 16777216 := sizeLine_eq
            have kw := Kp.write (ho := .lst (vs.eraseIdx j.toNat)) S2.r hp hm
            rw [repV_int rw']
            refine ⟨p1, vs, j, j.toNat, w', rfl, rfl, h1, by omega, by omega, ?_, hw, q2 ρ2 _ _ (S2.r.write hp hm (.lst (rvs.eraseIdx _))) ((k1.trans k2).trans kw) (rw2.kp kw)⟩
            exact seqIndex_of hz.1.1 (by rw [← rvs.length]; exact hz.1.2)
          · exact q2.elim
        · exact q2.elim
      · exact q2.elim
    · exact q2.elim
  · exact q1.elim
theorem de_idx {a e : E} {o y : Expr} {apos cpos : Pos} (hu : X.A.units + 65 < cLine) (hl : (apos.endLine == cpos.line) = true) (hb : isBareCall o = false) (hs : isStar y = false) (ha : DE X cal a o) (he : DE X cal e y) : DE X cal (.idx a e) (.Call (.Attribute o "index" apos) [y] [] cpos) := by
  refine de_of (PE.imp (pe_mD1 ha.1 he.1 hb hs hl) fun σ H Q ⟨ρ, st, env, S, p⟩ => tE.of S (by rw [evE] at p; exact p) fun d s ρ1 H1 v S1 k1 rv q1 => ?_)
  split at q1
  · rename_i b ds0 e0
    have fin : ∀ (y' : D) s2 ρ2 H2 w, Sta X.K ρ2 s2 env σ H2 → Kp ρ1 ρ2 H1 H2 → RepV X.K ρ2 H2 y' w → Post NoX (match items d s2 with
      | some (b', ds) => if (b == b') && ds.all D.flat && y'.flat && small ds.length then (match findIx (fun z => D.eqv z y') ds with
        | some j => .ok (.int j) s2
        | none => .stuck) else .stuck
      | none => .stuck) (WE X.K ρ H Q) → rIdx X.K b v [w] H2 Q := fun y' s2 ρ2 H2 w S2 k2 rw' q2 => by
      split at q2
      · rename_i b' ds e2
        split at q2
        · rename_i hz
          simp only [Bool.and_eq_true, beq_iff_eq] at hz
          obtain ⟨⟨⟨hb', hf⟩, hy⟩, hsz⟩ := hz
          subst hb'
          split at q2
          · rename_i j hj
            obtain ⟨p1, vs, rfl, rvs, h1, h2⟩ := items_rep S2.r (rv.kp k2) e2
            refine ⟨p1, w, ρ2, ds, vs, y', j, rfl, rfl, ?_, rvs, rw', hf, hy, hj, q2 ρ2 H2 _ S2.r (k1.trans k2) (.int _)⟩
            cases b with
            | true => rw [if_pos rfl]; exact h1 rfl
            | false => rw [if_neg Bool.false_ne_true]; exact (h2 rfl).seq
          · exact q2.elim
        · exact q2.elim
      · exact q2.elim
    cases b with
    | true => exact ⟨"list", _, _, bm_idxL hu, tyD_items S1.r rv e0, tE.of S1 q1 fun d2 s2 ρ2 H2 w S2 k2 rw' q2 => fin d2 s2 ρ2 H2 w S2 k2 rw' q2⟩
    | false => exact ⟨"tuple", _, _, bm_idxT hu, tyD_items S1.r rv e0, tE.of S1 q1 fun d2 s2 ρ2 H2 w S2 k2 rw' q2 => fin d2 s2 ρ2 H2 w S2 k2 rw' q2⟩
  · exact q1.elim
theorem dl_listOf {l : L} {p pos : Pos} {y : Expr} (G : Good c C cal k X) (hg : glB X.env.scope "list" = true) (hs : isStar y = false) (hl : DL X cal l y) : DL X cal (.listOf l) (.Call (.Name "list" p) [y] [] pos) := by
  refine PE.imp (pe_t1 call_list_of (gl_of hg) (G.bn _ (mem_bn (by decide))) bt_list hl hs) fun σ H Q ⟨ρ, st, env, S, p⟩ => ?_
  refine tL.of S (by rw [evL] at p; exact p) fun r s ρ1 H1 p1 vs S1 k1 rv h1 h2 _ q1 => ?_
  refine ⟨p1, vs, rfl, ?_, fun q hq => WL.fresh q1 S1.r k1 rv hq⟩
  obtain ⟨b, ds⟩ := r
  cases b with
  | true => exact .inl (h1 rfl)
  | false => exact .inr (h2 rfl).seq
theorem rg_rep {K : PySem.W.Frag} {ρ : List Addr} {H : Hp} (f g : Nat → Int) (h : ∀ i, f i = g i) : ∀ l : List Nat, RepVs K ρ H (l.map fun i => D.int (f i)) (l.map fun i => V.int (g i))
  | [] => .nil
  | i :: l => by
    rw [List.map_cons, List.map_cons, h i]
    exact .cons (.int _) (rg_rep f g h l)
theorem dl_listR {a : E} {p pos p2 pos2 : Pos} {y : Expr} (G : Good c C cal k X) (hg : glB X.env.scope "list" = true) (hg2 : glB X.env.scope "range" = true) (hs : isStar y = false) (ha : DE X cal a y) : DL X cal (.listR a) (.Call (.Name "list" p) [.Call (.Name "range" p2) [y] [] pos2] [] pos) := by
  refine PE.imp (pe_listRg G.calm (gl_of hg) (G.bn _ (mem_bn (by decide))) (prg_1 (gl_of hg2) (G.bn _ (mem_bn (by decide))) ha.1 (starEach_cons hs)) rfl) fun σ H Q ⟨ρ, st, env, S, p⟩ => ?_
  refine tE.of S (by rw [evL] at p; exact p) fun d s ρ1 H1 v S1 k1 rv q1 => ?_
  split at q1
  · rename_i j
    split at q1
    · rename_i hz
      simp only [Bool.and_eq_true, smallI, decide_eq_true_eq] at hz
      have hz2 := small_le hz.2
      have hsl : sizeLine = 16777216 := sizeLine_eq
      refine ⟨j, repV_int rv, ⟨by omega, by omega, by omega, by omega, by omega⟩, fun q hq => WL.fresh q1 S1.r k1 ?_ hq⟩
      unfold rgV
      rw [Int.sub_zero]
      exact rg_rep (fun i => (i : Int)) (fun i => 0 + (i : Int)) (fun i => by omega) _
    · exact q1.elim
  · exact q1.elim
end
end PyD
namespace PyD
open PySem PySem.Spec PyProof.Rows L2
theorem reads_ints {h : Heap} : ∀ {ns : List Int} {us : List Value}, Vals (ns.map V.int) us → ReadsAll h us (ns.map PyData.int) []
  | [], _, .nil => .nil
  | n :: ns, _, .cons r t => by
    obtain ⟨t', rfl⟩ := r
    exact ReadsAll.cons (as := []) (bs := []) (.int n t') (reads_ints t)
theorem deep_ints : ∀ l : List Int, PyData.depthAll (l.map PyData.int) ≤ 1
  | [] => by simp [PyData.depthAll]
  | i :: l => by have := deep_ints l; simp only [List.map_cons, PyData.depthAll, PyData.depth]; omega
theorem ints_alike (n : Int) (ns : List Int) : PySem.W.AlikeAll (PyData.int n :: ns.map PyData.int) := by
  have h : ∀ x ∈ PyData.int n :: ns.map PyData.int, ∃ i, x = .int i := fun x hx => by
    rcases List.mem_cons.mp hx with rfl | hx
    · exact ⟨_, rfl⟩
    · obtain ⟨i, _, rfl⟩ := List.mem_map.mp hx
      exact ⟨_, rfl⟩
  refine ⟨fun x hx y hy => ?_, fun x hx e => ?_⟩
  · obtain ⟨i, rfl⟩ := h x hx
    obtain ⟨j, rfl⟩ := h y hy
    rfl
  · obtain ⟨i, rfl⟩ := h x hx
    cases e
section
variable {X : Cx}
theorem call_mxI (hc : X.calm = true) (hu : X.A.units + 65 < cLine) : CallR X (.builtin "max") (fun xs H Q => ∃ p n ns, xs = [.ref p] ∧ (SqL X.K H p ((n :: ns).map V.int) ∨ SqT X.K H p ((n :: ns).map V.int)) ∧ Q (.int (ns.foldl max n)) H) := by
  intro pins s σ H xs us Q I r h
  obtain ⟨p, n, ns, rfl, hq, q⟩ := h
  obtain ⟨u, rfl, rx⟩ := vals1 r
  cases rx
  have hd := deep_ints (n :: ns)
  rw [List.map_cons] at hd
  have fin : ∀ (v : Value) (h' : Heap) (tk : Nat) (bs : List Addr), Reads h' v (PySem.W.maxD (.int n) (ns.map .int)) bs → (∀ b o, s.heap.get? b = some o → h'.get? b = some o) → EP X pins σ Q v { s with heap := h', toks := tk } := fun v h' tk bs rd k => by
    rw [PySem.W.maxD_ints] at rd
    cases rd
    exact ⟨.int _, H, I.kept k, ⟨_, rfl⟩, q⟩
  rcases hq with hq | hq
  · obtain ⟨its, rv, pl, hz⟩ := I.list hq
    exact PySem.W.max_list_data (as := []) (I.ok.hd hc) pl.isList (by simpa using reads_ints rv) (ints_alike n ns) (by omega) fun i v h' tk bs _ rd k => fin v h' tk bs rd k
  · obtain ⟨its, rv, pl, hz⟩ := I.tuple hq
    exact PySem.W.max_tuple_data (as := []) (I.ok.hd hc) (show s.heap.IsTuple p its.toArray from pl) (by simpa using reads_ints rv) (ints_alike n ns) (by omega) fun i v h' tk bs _ rd k => fin v h' tk bs rd k
theorem call_mnI (hc : X.calm = true) (hu : X.A.units + 65 < cLine) : CallR X (.builtin "min") (fun xs H Q => ∃ p n ns, xs = [.ref p] ∧ (SqL X.K H p ((n :: ns).map V.int) ∨ SqT X.K H p ((n :: ns).map V.int)) ∧ Q (.int (ns.foldl min n)) H) := by
  intro pins s σ H xs us Q I r h
  obtain ⟨p, n, ns, rfl, hq, q⟩ := h
  obtain ⟨u, rfl, rx⟩ := vals1 r
  cases rx
  have hd := deep_ints (n :: ns)
  rw [List.map_cons] at hd
  have fin : ∀ (v : Value) (h' : Heap) (tk : Nat) (bs : List Addr), Reads h' v (PySem.W.minD (.int n) (ns.map .int)) bs → (∀ b o, s.heap.get? b = some o → h'.get? b = some o) → EP X pins σ Q v { s with heap := h', toks := tk } := fun v h' tk bs rd k => by
    rw [PySem.W.minD_ints] at rd
    cases rd
    exact ⟨.int _, H, I.kept k, ⟨_, rfl⟩, q⟩
  rcases hq with hq | hq
  · obtain ⟨its, rv, pl, hz⟩ := I.list hq
    exact PySem.W.min_list_data (as := []) (I.ok.hd hc) pl.isList (by simpa using reads_ints rv) (ints_alike n ns) (by omega) fun i v h' tk bs _ rd k => fin v h' tk bs rd k
  · obtain ⟨its, rv, pl, hz⟩ := I.tuple hq
    exact PySem.W.min_tuple_data (as := []) (I.ok.hd hc) (show s.heap.IsTuple p its.toArray from pl) (by simpa using reads_ints rv) (ints_alike n ns) (by omega) fun i v h' tk bs _ rd k => fin v h' tk bs rd k
/-- tuple(range(..)) -/
theorem pe_tupRgF {e : Expr} {te : L2.St → Hp → (Int → Int → Hp → Prop) → Prop} {p pos : Pos} (hc : X.calm = true) (hg : Gl X "tuple") (hm : X.mg "tuple" = none) (he : PRg X e te) (na : starEach [e] X.env = (false, eval e X.env) :: starEach [] X.env := by rfl) :
    PE X (.Call (.Name "tuple" p) [e] [] pos) (fun σ H Q => te σ H fun a b H1 => RgOk a b ∧ NewT H1 Q (rgV a b)) := by
  refine ⟨fun pins s σ H Q I h => ?_⟩
  refine Call_ (ld_blt I hg hm boot_tuple (PyProof.Rows.callWith_type1 (args_cons (thn (he pins s σ H _ I h) fun x s1 ⟨r, a, b, t, u, v, H1, ex, hr, I1, ok, q⟩ => args_nil ?_) na) na))
  subst ex
  obtain ⟨b1, b2, b3, b4, b5⟩ := ok
  refine call_tuple_range (n := (b - a).toNat) (I1.ok.hd hc) hr (small_one b1 b2 b3 b4) (rangeSize_nat a b) b5 fun h' tk acc hk hi => ?_
  have I2 : Inv X pins σ H1 { s1 with heap := h', toks := tk } := I1.kept hk
  exact q.fin (s := { s1 with heap := h', toks := tk }) (tk := tk) (its := acc.toList) I2 rfl (vals_rg hi) (by rw [rgV_length, sizeLine_eq]; omega)
end
section
variable {K : PySem.W.Frag} {ρ : List Addr} {H : Hp}
theorem prs_rep : ∀ {ds : List D} {vs : List V} {cs : List Int}, RepVs K ρ H ds vs → prsD ds = some cs →
    ∃ ks : List (Addr × List Int), vs = ks.map (fun p => V.ref p.1) ∧ (∀ p ∈ ks, TupAt K H p.1 (p.2.map V.int)) ∧ ks.map (·.2) = cs.map (fun c => [c / 64, c % 64]) ∧ (∀ c ∈ cs, 0 ≤ c ∧ c < 4096)
  | [], _, cs, .nil, e => by
    simp only [prsD, Option.some.injEq] at e
    subst e
    exact ⟨[], rfl, (fun p hp => nomatch hp), rfl, (fun c hc => nomatch hc)⟩
  | d :: ds, _, cs, .cons h t, e => by
    unfold prsD at e
    split at e
    · rename_i e1; cases e1
    · rename_i x y ds' e1
      cases e1
      split at e
      · rename_i hb
        simp only [Bool.and_eq_true, decide_eq_true_eq] at hb
        cases e2 : prsD ds with
        | none => rw [e2] at e; cases e
        | some cs' =>
          rw [e2] at e
          cases e
          obtain ⟨ks, h1, h2, h3, h4⟩ := prs_rep t e2
          cases h with
          | tup ha hs =>
            rename_i p vs'
            cases hs with
            | cons hx hs =>
              cases hs with
              | cons hy hs =>
                cases hs
                cases hx
                cases hy
                refine ⟨(p, [x, y]) :: ks, by rw [h1]; rfl, fun q hq => ?_, ?_, fun c hc => ?_⟩
                · rcases List.mem_cons.mp hq with rfl | hq
                  · exact ha
                  · exact h2 q hq
                · rw [List.map_cons, List.map_cons, h3]
                  have e1 : (x * 64 + y) / 64 = x := by omega
                  have e2 : (x * 64 + y) % 64 = y := by omega
                  rw [e1, e2]
                · rcases List.mem_cons.mp hc with rfl | hc
                  · omega
                  · exact h4 c hc
      · cases e
    · cases e
theorem code_two (x y : Int) : TS.code 64 [x, y] = x * 64 + y := by
  have e1 : (64 : Int) ^ 1 = 64 := by decide
  have e0 : (64 : Int) ^ 0 = 1 := by decide
  show x * 64 ^ 1 + (y * 64 ^ 0 + 0) = x * 64 + y
  rw [e1, e0, Int.mul_one, Int.add_zero]
end
section
variable {X : Cx} {C : CXT} {cal : Cal} {k : Nat} {c : CC}
theorem bt_max : bootBuiltins "max" = some (.builtin "max") := by decide +kernel
theorem bt_min : bootBuiltins "min" = some (.builtin "min") := by decide +kernel
theorem de_mnx {g : Bool} {l : L} {p pos : Pos} {y : Expr} (G : Good c C cal k X) (hg : glB X.env.scope (if g then "max" else "min") = true) (hs : isStar y = false) (hl : DL X cal l y) : DE X cal (.mnx g l) (.Call (.Name (if g then "max" else "min") p) [y] [] pos) := by
  have hu := G.hu
  cases g with
  | true =>
    refine de_of (PE.imp (pe_b1 (call_mxI G.calm hu) (gl_of hg) (G.bn _ (mem_bn (by decide))) bt_max hl hs) fun σ H Q ⟨ρ, st, env, S, p⟩ => ?_)
    refine tL.of S (by rw [evE] at p; exact p) fun r s ρ1 H1 p1 vs S1 k1 rv h1 h2 _ q1 => ?_
    split at q1
    · rename_i n ns e2
      have ev := ints_rep rv e2
      subst ev
      refine ⟨p1, n, ns, rfl, ?_, (WE.kp q1 k1).now S1.r (.int _)⟩
      cases hb : r.1 with
      | true => exact .inl (h1 hb)
      | false => exact .inr (h2 hb).seq
    · exact q1.elim
  | false =>
    refine de_of (PE.imp (pe_b1 (call_mnI G.calm hu) (gl_of hg) (G.bn _ (mem_bn (by decide))) bt_min hl hs) fun σ H Q ⟨ρ, st, env, S, p⟩ => ?_)
    refine tL.of S (by rw [evE] at p; exact p) fun r s ρ1 H1 p1 vs S1 k1 rv h1 h2 _ q1 => ?_
    split at q1
    · rename_i n ns e2
      have ev := ints_rep rv e2
      subst ev
      refine ⟨p1, n, ns, rfl, ?_, (WE.kp q1 k1).now S1.r (.int _)⟩
      cases hb : r.1 with
      | true => exact .inl (h1 hb)
      | false => exact .inr (h2 hb).seq
    · exact q1.elim
theorem de_mnx2 {g : Bool} {a b : E} {p pos : Pos} {y z : Expr} (G : Good c C cal k X) (hg : glB X.env.scope (if g then "max" else "min") = true) (hs : isStar y = false) (hs2 : isStar z = false) (ha : DE X cal a y) (hb : DE X cal b z) : DE X cal (.mnx2 g a b) (.Call (.Name (if g then "max" else "min") p) [y, z] [] pos) := by
  cases g with
  | true =>
    refine de_of (PE.imp (pe_b2 (call_max2 G.calm) (gl_of hg) (G.bn _ (mem_bn (by decide))) bt_max ha.1 hb.1 hs hs2) fun σ H Q ⟨ρ, st, env, S, p⟩ => ?_)
    refine tE.of S (by rw [evE] at p; exact p) fun d s ρ1 H1 v S1 k1 rv q1 => ?_
    refine tE.of S1 q1 fun d2 s2 ρ2 H2 w S2 k2 rw' q2 => ?_
    split at q2
    · rename_i i j
      rw [repV_int rv, repV_int rw']
      refine ⟨_, _, rfl, ?_⟩
      have e : (if j > i then j else i) = mnxI true i [j] := by
        show _ = max i j
        split <;> omega
      rw [e]
      exact (WE.kp q2 (k1.trans k2)).now S2.r (.int _)
    · exact q2.elim
  | false =>
    refine de_of (PE.imp (pe_b2 (call_min2 G.calm) (gl_of hg) (G.bn _ (mem_bn (by decide))) bt_min ha.1 hb.1 hs hs2) fun σ H Q ⟨ρ, st, env, S, p⟩ => ?_)
    refine tE.of S (by rw [evE] at p; exact p) fun d s ρ1 H1 v S1 k1 rv q1 => ?_
    refine tE.of S1 q1 fun d2 s2 ρ2 H2 w S2 k2 rw' q2 => ?_
    split at q2
    · rename_i i j
      rw [repV_int rv, repV_int rw']
      refine ⟨_, _, rfl, ?_⟩
      have e : (if j < i then j else i) = mnxI false i [j] := by
        show _ = min i j
        split <;> omega
      rw [e]
      exact (WE.kp q2 (k1.trans k2)).now S2.r (.int _)
    · exact q2.elim
theorem de_tupR {a : E} {p pos p2 pos2 : Pos} {y : Expr} (G : Good c C cal k X) (hg : glB X.env.scope "tuple" = true) (hg2 : glB X.env.scope "range" = true) (hs : isStar y = false) (ha : DE X cal a y) : DE X cal (.tupR a) (.Call (.Name "tuple" p) [.Call (.Name "range" p2) [y] [] pos2] [] pos) := by
  refine de_of (PE.imp (pe_tupRgF G.calm (gl_of hg) (G.bn _ (mem_bn (by decide))) (prg_1 (gl_of hg2) (G.bn _ (mem_bn (by decide))) ha.1 (starEach_cons hs)) rfl) fun σ H Q ⟨ρ, st, env, S, p⟩ => ?_)
  refine tE.of S (by rw [evE] at p; exact p) fun d s ρ1 H1 v S1 k1 rv q1 => ?_
  split at q1
  · rename_i j
    split at q1
    · rename_i hz
      simp only [Bool.and_eq_true, smallI, decide_eq_true_eq] at hz
      have hz2 := small_le hz.2
      have hsl : sizeLine = 16777216 := sizeLine_eq
      refine ⟨j, repV_int rv, ⟨by omega, by omega, by omega, by omega, by omega⟩, fun q o hp hd => q1 ρ1 _ _ (S1.r.upd hp) (k1.trans (Kp.upd hp)) (RepV.newTup hp hd ?_)⟩
      unfold rgV
      rw [Int.sub_zero]
      exact rg_rep (fun i => (i : Int)) (fun i => 0 + (i : Int)) (fun i => by omega) _
    · exact q1.elim
  · exact q1.elim
theorem dl_sortedSet {l : L} {p pos p2 pos2 : Pos} {y : Expr} (G : Good c C cal k X) (hg : glB X.env.scope "sorted" = true) (hg2 : glB X.env.scope "set" = true) (hs : isStar y = false) (hl : DL X cal l y) :
    DL X cal (.sortedSet l) (.Call (.Name "sorted" p) [.Call (.Name "set" p2) [y] [] pos2] [] pos) := by
  have hu := G.hu
  refine PE.imp (pe_b1 (CallR.or (cr_sortedSet G.calm) (cr_sortedT G.calm)) (gl_of hg) (G.bn _ (mem_bn (by decide))) bt_sorted (pe_t1 (CallR.or (cr_setI G.calm) (cr_setOfT G.calm (by omega))) (gl_of hg2) (G.bn _ (mem_bn (by decide))) bt_set hl hs) rfl) fun σ H Q ⟨ρ, st, env, S, p⟩ => ?_
  refine tL.of S (by rw [evL] at p; exact p) fun r s ρ1 H1 p1 vs S1 k1 rv h1 h2 _ q1 => ?_
  split at q1
  · rename_i ns e
    split at q1
    · rename_i hz
      have hz := of_decide_eq_true hz
      have ev := ints_rep rv e
      subst ev
      have hlen := usort_len ns
      refine .inl ⟨p1, ns, rfl, ?_, hz, fun a ha => .inl ⟨a, _, _, rfl, upd_same, by omega, fun ns' q hlt hm _ hq => ?_⟩⟩
      · cases hb : r.1 with
        | true => exact .inl (h1 hb)
        | false => exact .inr (h2 hb).seq
      · have e2 : ns' = usort ns := asc_ext hlt (usort_lt ns) fun k => by
          rw [hm k, usort_mem]
          simp
        subst e2
        exact WL.fresh q1 (S1.r.upd ha) (k1.trans (Kp.upd ha)) (rep_ints _) hq
    · exact q1.elim
  · split at q1
    · rename_i cs e1 e2
      split at q1
      · rename_i hz
        have hz := of_decide_eq_true hz
        obtain ⟨ks, rfl, hT, hc, hB⟩ := prs_rep rv e2
        have hkl : ks.length = cs.length := by
          have := congrArg List.length hc
          rwa [List.length_map, List.length_map] at this
        have hof : ∀ q ∈ ks, ∃ c ∈ cs, q.2 = [c / 64, c % 64] ∧ TS.code 64 q.2 = c := fun q hq => by
          have : q.2 ∈ ks.map (·.2) := List.mem_map_of_mem hq
          rw [hc] at this
          obtain ⟨c, h3, h4⟩ := List.mem_map.mp this
          refine ⟨c, h3, h4.symm, ?_⟩
          rw [← h4, code_two]
          omega
        refine .inr ⟨p1, ks, rfl, h1 e1, fun q hq => (hT q hq).seq, by omega, fun a L ha hL hall => .inr ⟨a, L, 2, 64, rfl, upd_same, fun q hq => (TupAt.kp (Kp.upd (ρ := ρ1) ha) (hT q (hL q hq))).seq, by decide, fun q hq => ?_, fun L' q hperm hnd h64 hpw hq => ?_⟩⟩
        · obtain ⟨c, hc1, hc2, _⟩ := hof q (hL q hq)
          have hb := hB c hc1
          rw [hc2]
          refine ⟨rfl, fun m hm => ?_⟩
          simp only [List.mem_cons, List.not_mem_nil, or_false] at hm
          omega
        · have hin : ∀ z ∈ L', z ∈ ks := fun z hz => hL z (hperm.mem_iff.mp hz)
          have hlt : (L'.map fun z => TS.code 64 z.2).Pairwise (· < ·) := by
            refine List.pairwise_map.mpr ?_
            have hnd2 := List.pairwise_map.mp hnd
            refine ((List.Pairwise.and_mem.mp (List.Pairwise.and hpw hnd2))).imp ?_
            rintro x z ⟨hx, hz, hle, hne⟩
            obtain ⟨c, _, hx2, hx3⟩ := hof x (hin x hx)
            obtain ⟨d, _, hz2, hz3⟩ := hof z (hin z hz)
            have hle2 : c ≤ d := by rw [← hx3, ← hz3]; exact hle
            have hne2 : c ≠ d := fun e => hne (by rw [hx2, hz2, e])
            show TS.code 64 x.2 < TS.code 64 z.2
            rw [hx3, hz3]
            omega
          have e3 : (L'.map fun z => TS.code 64 z.2) = usort cs := asc_ext hlt (usort_lt cs) fun k => by
            rw [usort_mem]
            constructor
            · intro hk
              obtain ⟨z, hz, rfl⟩ := List.mem_map.mp hk
              obtain ⟨c, hc1, _, hc3⟩ := hof z (hin z hz)
              rw [hc3]; exact hc1
            · intro hk
              have : [k / 64, k % 64] ∈ ks.map (·.2) := by rw [hc]; exact List.mem_map.mpr ⟨k, hk, rfl⟩
              obtain ⟨z, hz, hz2⟩ := List.mem_map.mp this
              obtain ⟨y, hy, hy2⟩ := List.mem_map.mp (hall z hz)
              refine List.mem_map.mpr ⟨y, hperm.mem_iff.mpr hy, ?_⟩
              show TS.code 64 y.2 = k
              have e4 : y.2 = [k / 64, k % 64] := hy2.trans hz2
              rw [e4, code_two]
              omega
          refine WL.fresh q1 (S1.r.upd ha) (k1.trans (Kp.upd ha)) ?_ hq
          show RepVs X.K ρ1 _ ((usort cs).map prD) _
          rw [← e3, List.map_map]
          have rep : ∀ M : List (Addr × List Int), (∀ z ∈ M, z ∈ ks) → RepVs X.K ρ1 (upd H1 a (SetTO X.prog X.w a L)) (M.map (prD ∘ fun z => TS.code 64 z.2)) (M.map fun z => V.ref z.1) := by
            intro M
            induction M with
            | nil => exact fun _ => .nil
            | cons z M ih =>
              intro hM
              obtain ⟨c, _, hc2, hc3⟩ := hof z (hM z List.mem_cons_self)
              have hz := TupAt.kp (Kp.upd (ρ := ρ1) (o := SetTO X.prog X.w a L) ha) (hT z (hM z List.mem_cons_self))
              refine .cons ?_ (ih fun y hy => hM y (List.mem_cons_of_mem _ hy))
              show RepV X.K ρ1 _ (prD (TS.code 64 z.2)) _
              rw [hc3]
              refine .tup (vs := z.2.map V.int) hz ?_
              rw [hc2]
              exact .cons (.int _) (.cons (.int _) .nil)
          exact rep L' hin
      · exact q1.elim
    · exact q1.elim
end
end PyD
namespace PyD
open PySem PySem.Spec PyProof.Rows L2
/-- the tuple at a as it stands, each item in a new pair -/
def IteT (K : PySem.W.Frag) (a : Addr) : L2.It :=
  ⟨fun i H => ∃ (xs : List V) (x : V), SqT K H a xs ∧ xs[i]? = some x, fun i H v H' => ∃ T x, v = .ref T ∧ H T = none ∧ H' = upd H T (.tup [.int (i : Nat), x]) ∧ ∀ xs, SqT K H a xs → xs[i]? = some x, fun i H => ∃ xs : List V, SqT K H a xs ∧ xs.length ≤ i⟩
theorem enumT_end {prog : Program} {w : World} {A : Around} {E : Value → Shared → Prop} {s : Shared} {e it t : Addr} {i : Nat} {j : Int} {items : Array Value} {old : Value} {Q : Option Value → Shared → Prop} (hh : A.in1.handled = none)
    (he : IsEnum s.heap e it j old) (hit : s.heap.IsTupleIter it t i) (ht : s.heap.IsTuple t items) (hi : items.size ≤ i)
    (hQ : ∀ h', Heap.ExtBut it s.heap h' → Q none { s with heap := h' }) : wpAny (model prog w) A (pyNext (.ref e)) Q E s := by
  have hT : s.TypeIs (.ref e) "enumerate" := ⟨_, he, rfl⟩
  unfold pyNext
  refine wpAny_bind (wpAny_attempt (wpAny_callSpecial?_slot (name := Str.ofString "__next__") hT F.slot_enumerate_next
    (wpAny_call_entry F.slot_enumerate_next hT F.entry_enumerate_next ?_ (F.args_enumerate_next_1 _))))
  show wpAny _ _ (field (.ref e) 2 >>= _) _ _ _
  refine wpAny_bind (wpAny_field he rfl (x := .ref it) rfl ?_)
  refine wpAny_bind (wpAny_nextOf_tuple_end hh hit ht (Array.getElem?_eq_none hi) fun h' x he' hx' => ?_)
  obtain ⟨o, ho, hc⟩ := hx'
  refine wpAny_bind (wpAny_isInstance (T := "StopIteration") (b := true) ⟨o, ho, hc⟩ isSubtype_stop ?_)
  exact wpAny_pure (hQ _ he')
theorem turn_enumT {P : Program} {w : World} {K : PySem.W.Frag} {elts : List Expr} {kk : Nat} {tpos : Pos} (a e it : Addr) :
    Turn P w K (.Tuple elts kk tpos) (IteT K a) [e, it] e (fun i h => (∃ old, IsEnum h e it ((i : Nat) : Int) old) ∧ h.IsTupleIter it a i ∧ e ≠ it ∧ a ≠ it ∧ e ≠ a) where
  mem := by simp
  obj := fun i h st b hb => by
    obtain ⟨⟨old, he⟩, ⟨o, ho, hc, hd⟩, _⟩ := st
    have e' : b = e ∨ b = it := by simpa using hb
    rcases e' with z | z
    · rw [z]; exact ⟨_, he, fun v q => nomatch q⟩
    · rw [z]; exact ⟨o, ho, fun v q => by rw [hd] at q; cases q⟩
  keep := fun i h h' st k => let ⟨⟨old, he⟩, hi, hne⟩ := st; ⟨⟨old, k e (by simp) _ he⟩, hi.at fun o q => k it (by simp) o q, hne⟩
  item := by
    intro X hP hw hK hc i pins s σ H E I hf st hg
    subst hP hw hK
    obtain ⟨⟨old, he⟩, hit, hne, hai, hea⟩ := st
    obtain ⟨xs, x, hq, hx⟩ := hg
    obtain ⟨its, rv, p, hz⟩ := I.tuple hq
    obtain ⟨u, hu, ru⟩ := rv.get hx
    have hel : e < s.heap.objs.size := Heap.lt_size he
    have hil : it < s.heap.objs.size := by obtain ⟨_, q, _⟩ := hit; exact Heap.lt_size q
    have hp : s.heap.IsTuple a its.toArray := p
    have hlt : i < its.toArray.size := by
      have := (List.getElem?_eq_some_iff.mp hu).1
      rw [List.size_toArray]; exact this
    refine wpAny_pyNext_enum_itemD (Draws.tuple (A := X.A.in1) (show X.A.in1.handled = none from I.ok.hd hc) it a hai its.toArray) he ⟨hit, hp⟩ hlt hne (by simp [hne, hea]) fun u' h' tk hu' ho st' hT hsz hk => ?_
    have eu : u' = u := by
      have h1 : its.toArray[i]? = some u := by simpa using hu
      rw [h1] at hu'
      exact (Option.some.inj hu').symm
    subst eu
    obtain ⟨hit', _⟩ := st'
    refine ⟨_, rfl, wpAny_letOwnedTupleGo_enum (s := { s with heap := h', toks := tk + 1 }) ho fun h'' he' sb => ?_⟩
    have hT2 : h''.get? s.heap.objs.size = some { cls := .type "tuple", data := .seq #[.int i tk, u'] } := (sb.2 _ (Nat.ne_of_gt hel)).trans hT
    have new : ObjOk X.prog X.w (upd H s.heap.objs.size (.tup [.int (i : Nat), x])) h'' s.heap.objs.size (.tup [.int (i : Nat), x]) :=
      ⟨by show 2 ≤ sizeLine; decide, [.int i tk, u'], .cons ⟨_, rfl⟩ (.cons ru .nil), ⟨_, hT2, rfl, _, rfl⟩⟩
    have I1 : L2.Inv X pins σ (upd H s.heap.objs.size (.tup [.int (i : Nat), x])) { s with heap := h'', toks := tk + 1 } :=
      I.turnedNew (ch := [e, it]) (fun b ob hb q => (sb.2 b (fun z => hb (by simp [z]))).trans (hk b ob (fun z => hb (by simp [z])) (fun z => hb (by simp [z])) q)) hf (Nat.le_refl _) new
    refine ⟨.ref s.heap.objs.size, _, I1, rfl, ⟨_, x, rfl, I.hok.fresh (Nat.le_refl _), rfl, fun ys hy => by rw [I.tuple_inj hy hq]; exact hx⟩, ⟨⟨u', ?_⟩, hit'.at fun o q => (sb.2 it (Ne.symm hne)).trans q, hne, hai, hea⟩, fun b hb => ?_⟩
    · have e1 : ((i + 1 : Nat) : Int) = (i : Int) + 1 := by omega
      rw [e1]; exact he'
    · have hb' : b < s.heap.objs.size := by
        have e' : b = e ∨ b = it := by simpa using hb
        rcases e' with z | z
        · rw [z]; exact hel
        · rw [z]; exact hil
      rw [upd_ne (Nat.ne_of_lt hb')]
      exact (hf b hb).1
  done := by
    intro X hP hw hK hc i pins s σ H E I hf st hg
    subst hP hw hK
    obtain ⟨⟨old, he⟩, hit, hne, hai, hea⟩ := st
    obtain ⟨xs, hq, hx⟩ := hg
    obtain ⟨its, rv, p, hz⟩ := I.tuple hq
    obtain ⟨f0, f1, f2, f3, f4, f5⟩ := hf it (by simp)
    have hl := rv.length
    exact enumT_end (I.ok.hd hc) he hit (show s.heap.IsTuple a its.toArray from p) (by simp; omega) fun h' eb => ⟨rfl, I.turned (t' := s.toks) (fun b o hb q => eb b o hb q) f0 f1 f3 f4 f5⟩
  self := fun A i s Q E st h => let ⟨⟨_, he⟩, _⟩ := st; wpAny_pyIter_enum he h
theorem meets_enumT (t : Addr) (items : Array Value) :
    Meets (Builtin.«enumerate.__new__» ⟨[.type "enumerate", .ref t], []⟩) (fun _ R s => s.heap.IsTuple t items ∧
      R (.ok (.ret (.ref (s.heap.push { cls := .type "tuple_iterator", data := .fields #[.ref t, .int 0 0] }).objs.size))) { s with heap := (s.heap.push { cls := .type "tuple_iterator", data := .fields #[.ref t, .int 0 0] }).push { cls := .type "enumerate", data := .fields #[.none, .bool false, .ref s.heap.objs.size, rawInt 0, .none, .none] } }) :=
  .of_wp fun prog w A R s h => by
    obtain ⟨hp, g, d, tk, os⟩ := s; obtain ⟨h1, h⟩ := h
    have hsub := sub_enumerate
    have q1 : ∀ {A' : Around} {E : Value → Shared → Prop} {Q : Value → Shared → Prop}, Q (.ref hp.objs.size) ⟨hp.push { cls := .type "tuple_iterator", data := .fields #[.ref t, .int 0 0] }, g, d, tk, os⟩ → wpAny (model prog w) A' (pyIter (.ref t)) Q E ⟨hp, g, d, tk, os⟩ :=
      fun q => (begins_tuple t items).iter prog w _ _ ⟨hp, g, d, tk, os⟩ _ h1 q
    wp_walk using q1
    refine wpAny_stack_any fun st => wpAny_pure ?_
    split
    · rename_i c _ _ _ _ _
      cases (c == Value.type "enumerate")
      · wp_walk using q1
        exact ⟨_, rfl, h⟩
      · wp_walk using q1
        exact ⟨_, rfl, h⟩
    · wp_walk using q1
      exact ⟨_, rfl, h⟩
theorem call_enumT {prog : Program} {w : World} {A : Around} {E : Value → Shared → Prop} {s : Shared} {t : Addr} {items : Array Value} {Q : Value → Shared → Prop} (hL : s.heap.IsTuple t items)
    (h : ∀ h', IsEnum h' (s.heap.objs.size + 1) s.heap.objs.size 0 .none → h'.IsTupleIter s.heap.objs.size t 0 → h'.objs.size = s.heap.objs.size + 2 →
      (∀ b o, s.heap.get? b = some o → h'.get? b = some o) → Q (.ref (s.heap.objs.size + 1)) { s with heap := h' }) :
    wpAny (model prog w) A (call (.type "enumerate") [.ref t]) Q E s := by
  refine callType_new F.called_enumerate (by decide) (F.typeCall_enumerate_1 _) (F.newCall_enumerate_1 _) (fun obj => F.args_object_init_2 obj _) F.entry_enumerate_new
    (meets_enumT t items) ⟨hL, ?_⟩
  have hz : (s.heap.push { cls := .type "tuple_iterator", data := .fields #[.ref t, .int 0 0] }).objs.size = s.heap.objs.size + 1 := Heap.size_push ..
  show _ ∧ _
  rw [hz]
  have he : IsEnum ((s.heap.push { cls := .type "tuple_iterator", data := .fields #[.ref t, .int 0 0] }).push
      { cls := .type "enumerate", data := .fields #[.none, .bool false, .ref s.heap.objs.size, rawInt 0, .none, .none] }) (s.heap.objs.size + 1) s.heap.objs.size 0 .none := by
    have := Heap.get?_push_size (s.heap.push { cls := .type "tuple_iterator", data := .fields #[.ref t, .int 0 0] })
      (o := { cls := .type "enumerate", data := .fields #[.none, .bool false, .ref s.heap.objs.size, rawInt 0, .none, .none] }) rfl
    rw [hz] at this; exact this
  refine ⟨⟨_, he, rfl⟩, h _ he ⟨_, Heap.get?_push_of_some _ (Heap.get?_push_size _ rfl), rfl, rfl⟩ (by rw [Heap.size_push, hz]) fun b o x => Heap.get?_push_of_some _ (Heap.get?_push_of_some _ x)⟩
def iEnumA (K : PySem.W.Frag) (ta : TA) : TI := fun σ H R => ta σ H fun vs H1 => ∃ a, vs = [.ref a] ∧ ((∃ xs, SqL K H1 a xs ∧ R (Ite K a) H1) ∨ ∃ xs, SqT K H1 a xs ∧ R (IteT K a) H1)
theorem pi_enumA {X : Cx} {e : Expr} {ta : TA} {p pos tpos : Pos} {elts : List Expr} {kk : Nat} (hg : Gl X "enumerate") (hm : X.mg "enumerate" = none) (ha : PA X [e] ta) (hs : starEach [e] X.env = [(false, eval e X.env)] := by rfl) :
    PI X (.Tuple elts kk tpos) (.Call (.Name "enumerate" p) [e] [] pos) (iEnumA X.K ta) := by
  refine ⟨fun pins s σ H R I h => ?_⟩
  refine Call_ (ld_blt I hg hm boot_enumerate (PyProof.Rows.callWith_type1 (thn (ha.run pos pins s σ H _ I h) fun us s1 ⟨vs, H1, I1, r1, q1⟩ => ?_) hs rfl))
  obtain ⟨a, ex, q⟩ := q1
  subst ex
  cases r1 with
  | cons r rr =>
    cases rr
    cases r
    have fr : ∀ b : Addr, b ∈ [s1.heap.objs.size + 1, s1.heap.objs.size] → s1.heap.objs.size ≤ b := fun b hb => by
      have e' : b = s1.heap.objs.size + 1 ∨ b = s1.heap.objs.size := by simpa using hb
      rcases e' with z | z
      · rw [z]; exact Nat.le_add_right _ _
      · rw [z]; exact Nat.le_refl _
    rcases q with ⟨xs, hq, q⟩ | ⟨xs, hq, q⟩
    · obtain ⟨its, rv, p', hz⟩ := I1.list hq
      refine call_enumerate_list p'.isList fun h' he hit hsz hk => wpAny_pyIter_enum he ?_
      have I2 : L2.Inv X pins σ H1 { s1 with heap := h' } := I1.kept (t' := s1.toks) hk
      exact ⟨s1.heap.objs.size + 1, [s1.heap.objs.size + 1, s1.heap.objs.size], _, _, H1, rfl, I2, turn_enum a (s1.heap.objs.size + 1) s1.heap.objs.size, ⟨⟨.none, he⟩, hit, Nat.succ_ne_self _⟩, fun b hb => I1.fpOk (fr b hb) (I1.hok.fresh (fr b hb)), q⟩
    · obtain ⟨its, rv, p', hz⟩ := I1.tuple hq
      have hp : s1.heap.IsTuple a its.toArray := p'
      have hal : a < s1.heap.objs.size := by obtain ⟨o, ho, _⟩ := hp; exact Heap.lt_size ho
      refine call_enumT hp fun h' he hit hsz hk => wpAny_pyIter_enum he ?_
      have I2 : L2.Inv X pins σ H1 { s1 with heap := h' } := I1.kept (t' := s1.toks) hk
      exact ⟨s1.heap.objs.size + 1, [s1.heap.objs.size + 1, s1.heap.objs.size], _, _, H1, rfl, I2, turn_enumT a (s1.heap.objs.size + 1) s1.heap.objs.size, ⟨⟨.none, he⟩, hit, Nat.succ_ne_self _, Nat.ne_of_lt hal, fun e => absurd (e ▸ hal) (Nat.not_lt.mpr (Nat.le_succ _))⟩, fun b hb => I1.fpOk (fr b hb) (I1.hok.fresh (fr b hb)), q⟩
theorem RepVs.rep {K : PySem.W.Frag} {ρ : List Addr} {H : Hp} {ds : List D} {vs : List V} (h : RepVs K ρ H ds vs) : ∀ n : Nat, RepVs K ρ H (List.replicate n ds).flatten (List.replicate n vs).flatten
  | 0 => .nil
  | n + 1 => by
    rw [List.replicate_succ, List.replicate_succ, List.flatten_cons, List.flatten_cons]
    exact h.append (RepVs.rep h n)
section
variable {X : Cx} {C : CXT} {cal : Cal} {k : Nat} {c : CC}
theorem dl_rep {a : L} {e : E} {p q : Expr} {pos : Pos} (hf : a.fresh = true) (ha : DL X cal a p) (hb : DE X cal e q) : DL X cal (.rep a e) (.BinOp p .Mult q pos) := by
  refine PE.imp (pe_op op_rep ha hb.1) fun σ H Q ⟨ρ, st, env, S, p⟩ => ?_
  refine tL.of S (by rw [evL] at p; exact p) fun r s ρ1 H1 p1 vs S1 k1 rv h1 h2 h3 q1 => ?_
  refine tE.of S1 q1 fun d s2 ρ2 H2 w S2 k2 rw' q2 => ?_
  split at q2
  · rename_i j
    split at q2
    · rename_i hz
      simp only [Bool.and_eq_true, decide_eq_true_eq] at hz
      obtain ⟨⟨⟨z1, z2⟩, z3⟩, z4⟩ := hz
      obtain ⟨hn, hno, hl⟩ := h3 hf z1
      obtain ⟨_, hl2⟩ := k2.old p1 _ hl hno
      exact ⟨p1, j, vs, rfl, repV_int rw', hl2, by omega, by omega, by rw [← rv.length]; exact small_le z4, fun q hq => WL.fresh q2 S2.r (k1.trans k2) ((rv.kp k2).rep _) hq⟩
    · exact q2.elim
  · exact q2.elim
end
end PyD
namespace PyD
open PySem PySem.Spec PyProof.Rows L2
/-- a walk's list or tuple, at p -/
def SrcAt (K : PySem.W.Frag) (Hs : Hp) (ρ : List Addr) (H : Hp) (J : It) (p : Addr) : Prop := (J.isL = true ∨ J.isT = true) ∧ ∃ W : List Addr → Hp → Prop, W ρ H ∧ (∀ ρ ρ' H H', W ρ H → KpS Hs ρ ρ' H H' → W ρ' H') ∧
  ∀ ρ st H, W ρ H → Rel K ρ st H → ∀ xs, J.its st = some xs → ∃ vs, (J.isL = true → SqL K H p vs) ∧ (J.isT = true → SqT K H p vs) ∧ RepVs K ρ H xs vs
section
variable {K : PySem.W.Frag} {Hs : Hp} {ρ : List Addr} {st : Store} {H : Hp} {J J2 : It} {p q : Addr}
theorem next_its (h : J.isL = true ∨ J.isT = true) (i : Nat) (st : Store) : J.next i st = (J.its st).map fun xs => xs[i]? := by
  cases J <;> simp [It.isL, It.isT] at h <;> simp [It.next, It.its]
theorem src_lv {a : Nat} (h : ρ[a]? = some p) : SrcAt K Hs ρ H (.lv a) p :=
  ⟨.inl rfl, fun ρ _ => ρ[a]? = some p, h, fun ρ ρ' H H' h k => k.pre a p h, fun ρ st H h r xs e => by
    simp only [It.its] at e
    unfold lstAt at e
    split at e
    · rename_i hst
      cases e
      obtain ⟨vs, h1, h2⟩ := r.items h hst
      exact ⟨vs, fun _ => h1, (fun e => nomatch e), h2⟩
    · cases e⟩
theorem src_tup {ds : List D} {vs : List V} (h : TupAt K H p vs) (r : RepVs K ρ H ds vs) : SrcAt K Hs ρ H (.ds false ds) p :=
  ⟨.inr rfl, fun ρ H => TupAt K H p vs ∧ RepVs K ρ H ds vs, ⟨h, r⟩, fun ρ ρ' H H' h k => ⟨h.1.kpS k, h.2.kpS k⟩, fun ρ st H h r xs e => by
    simp only [It.its] at e
    cases e
    exact ⟨vs, (fun e => nomatch e), fun _ => h.1.seq, h.2⟩⟩
theorem src_lst {ds : List D} {vs : List V} (h : LstAt K H p vs) (r : RepVs K ρ H ds vs) : SrcAt K Hs ρ H (.ds true ds) p :=
  ⟨.inl rfl, fun ρ H => LstAt K H p vs ∧ RepVs K ρ H ds vs, ⟨h, r⟩, fun ρ ρ' H H' h k => ⟨h.1.imp (fun ⟨o, e⟩ => ⟨o, k.frz _ _ _ e⟩) id, h.2.kpS k⟩, fun ρ st H h r xs e => by
    simp only [It.its] at e
    cases e
    exact ⟨vs, fun _ => h.1.seq, (fun e => nomatch e), h.2⟩⟩
theorem src_new {ds : List D} {vs : List V} (h0 : Hs p = none) (hn : p ∉ ρ) (h : H p = some (.lst vs)) (r : RepVs K ρ H ds vs) : SrcAt K Hs ρ H (.ds true ds) p :=
  ⟨.inl rfl, fun ρ H => p ∉ ρ ∧ H p = some (.lst vs) ∧ RepVs K ρ H ds vs, ⟨hn, h, r⟩, fun ρ ρ' H H' h k => by
    obtain ⟨h1, h2⟩ := k.old p _ h0 h.2.1 h.1
    exact ⟨h1, h2, h.2.2.kpS k⟩, fun ρ st H h r xs e => by
    simp only [It.its] at e
    cases e
    exact ⟨vs, fun _ => .inl (.inl h.2.1), fun e => (nomatch e), h.2.2⟩⟩
theorem SrcAt.kp {ρ' : List Addr} {H' : Hp} (s : SrcAt K Hs ρ H J p) (k : Kp ρ ρ' H H') : SrcAt K Hs ρ' H' J p := by
  obtain ⟨h, W, w, st, f⟩ := s
  exact ⟨h, W, st _ _ _ _ w (.of k), st, f⟩
/-- seen from an earlier start -/
theorem SrcAt.base {ρ0 : List Addr} {Hs' : Hp} (s : SrcAt K Hs ρ H J p) (h : ∀ b, Hs b = none → Hs' b = none) : SrcAt K Hs' ρ H J p := by
  obtain ⟨a, W, w, st, f⟩ := s
  exact ⟨a, W, w, fun ρ ρ' H H' w k => st ρ ρ' H H' w ⟨k.pre, k.frz, fun b o e => k.old b o (h b e)⟩, f⟩
theorem map_some {xs? : Option (List D)} {i : Nat} {o : Option D} (h : xs?.map (fun xs => xs[i]?) = some o) : ∃ xs, xs? = some xs ∧ xs[i]? = o := by
  cases xs? with
  | none => cases h
  | some xs => simp at h; exact ⟨xs, rfl, h⟩
theorem base_pairs (h : J.isL = true ∨ J.isT = true) : J.pairs = false := by cases J <;> simp [It.isL, It.isT] at h <;> rfl
theorem RepVs.none_of {ds : List D} {vs : List V} {i : Nat} (r : RepVs K ρ H ds vs) (e : ds[i]? = none) : vs.length ≤ i := by
  rw [List.getElem?_eq_none_iff] at e
  rw [← r.length]; exact e
theorem at_lst (s : SrcAt K Hs ρ H J p) (hL : J.isL = true) : ItAt K Hs ρ H J (Itl K p) := by
  obtain ⟨hb, W, w, stb, f⟩ := s
  refine ⟨W, w, stb, fun ρ st H i d w r e => ?_, fun ρ st H i w r e => ?_⟩
  · rw [next_its hb] at e
    obtain ⟨xs, e1, e2⟩ := map_some e
    obtain ⟨vs, h1, _, rv⟩ := f ρ st H w r xs e1
    obtain ⟨v, hv, rd⟩ := rv.get e2
    refine ⟨⟨vs, v, h1 hL, hv⟩, fun x H' ⟨hH, hx⟩ => ?_⟩
    subst hH
    have e3 := hx vs (h1 hL)
    rw [hv] at e3
    cases e3
    refine ⟨r, .refl, ?_⟩
    unfold RepI
    rw [base_pairs hb]
    exact rd
  · rw [next_its hb] at e
    obtain ⟨xs, e1, e2⟩ := map_some e
    obtain ⟨vs, h1, _, rv⟩ := f ρ st H w r xs e1
    exact ⟨vs, h1 hL, rv.none_of e2⟩
theorem at_tup (s : SrcAt K Hs ρ H J p) (hT : J.isT = true) : ItAt K Hs ρ H J (Itt K p) := by
  obtain ⟨hb, W, w, stb, f⟩ := s
  refine ⟨W, w, stb, fun ρ st H i d w r e => ?_, fun ρ st H i w r e => ?_⟩
  · rw [next_its hb] at e
    obtain ⟨xs, e1, e2⟩ := map_some e
    obtain ⟨vs, _, h1, rv⟩ := f ρ st H w r xs e1
    obtain ⟨v, hv, rd⟩ := rv.get e2
    refine ⟨⟨vs, v, h1 hT, hv⟩, fun x H' ⟨hH, hx⟩ => ?_⟩
    subst hH
    have e3 := hx vs (h1 hT)
    rw [hv] at e3
    cases e3
    refine ⟨r, .refl, ?_⟩
    unfold RepI
    rw [base_pairs hb]
    exact rd
  · rw [next_its hb] at e
    obtain ⟨xs, e1, e2⟩ := map_some e
    obtain ⟨vs, _, h1, rv⟩ := f ρ st H w r xs e1
    exact ⟨vs, h1 hT, rv.none_of e2⟩
theorem at_rng (lo : Int) (n : Nat) : ItAt K Hs ρ H (.rng lo n) (Itr lo n) := by
  refine ⟨fun _ _ => True, trivial, fun _ _ _ _ _ _ => trivial, fun ρ st H i d _ r e => ?_, fun ρ st H i _ r e => ?_⟩
  · simp only [It.next] at e
    split at e
    · rename_i hi
      cases e
      refine ⟨hi, fun x H' ⟨hH, hx⟩ => ?_⟩
      subst hH hx
      exact ⟨r, .refl, .int _⟩
    · cases e
  · simp only [It.next] at e
    split at e
    · cases e
    · rename_i hi
      exact Nat.le_of_not_lt hi
theorem repU_new {T : Addr} {ds : List D} {vs : List V} (hn : H T = none) (r : RepVs K ρ H ds vs) : RepU K ρ (upd H T (.tup vs)) (.tup ds) (.ref T) :=
  ⟨ds, T, vs, rfl, rfl, .inl (.inl upd_same), r.kp (Kp.upd hn)⟩
theorem at_enum (s : SrcAt K Hs ρ H J p) (hL : J.isL = true) : ItAt K Hs ρ H (.enum J) (Ite K p) := by
  obtain ⟨hb, W, w, stb, f⟩ := s
  refine ⟨W, w, stb, fun ρ st H i d w r e => ?_, fun ρ st H i w r e => ?_⟩
  · simp only [It.next] at e
    rw [next_its hb] at e
    cases q : J.its st with
    | none => rw [q] at e; cases e
    | some xs =>
      rw [q] at e
      simp only [Option.map_some, Option.some.injEq] at e
      cases e2 : xs[i]? with
      | none => rw [e2] at e; cases e
      | some z =>
        rw [e2] at e
        cases e
        obtain ⟨vs, h1, _, rv⟩ := f ρ st H w r xs q
        obtain ⟨v, hv, rd⟩ := rv.get e2
        refine ⟨⟨vs, v, h1 hL, hv⟩, fun x H' ⟨T, x', ex, hT, hH, hx⟩ => ?_⟩
        subst ex hH
        have e3 := hx vs (h1 hL)
        rw [hv] at e3
        cases e3
        exact ⟨r.upd hT, Kp.upd hT, repU_new hT (.cons (.int _) (.cons rd .nil))⟩
  · simp only [It.next] at e
    rw [next_its hb] at e
    cases q : J.its st with
    | none => rw [q] at e; cases e
    | some xs =>
      rw [q] at e
      simp only [Option.map_some, Option.some.injEq] at e
      cases e2 : xs[i]? with
      | some z => rw [e2] at e; cases e
      | none =>
        obtain ⟨vs, h1, _, rv⟩ := f ρ st H w r xs q
        exact ⟨vs, h1 hL, rv.none_of e2⟩
theorem at_enumT (s : SrcAt K Hs ρ H J p) (hL : J.isT = true) : ItAt K Hs ρ H (.enum J) (IteT K p) := by
  obtain ⟨hb, W, w, stb, f⟩ := s
  refine ⟨W, w, stb, fun ρ st H i d w r e => ?_, fun ρ st H i w r e => ?_⟩
  · simp only [It.next] at e
    rw [next_its hb] at e
    cases q : J.its st with
    | none => rw [q] at e; cases e
    | some xs =>
      rw [q] at e
      simp only [Option.map_some, Option.some.injEq] at e
      cases e2 : xs[i]? with
      | none => rw [e2] at e; cases e
      | some z =>
        rw [e2] at e
        cases e
        obtain ⟨vs, _, h1, rv⟩ := f ρ st H w r xs q
        obtain ⟨v, hv, rd⟩ := rv.get e2
        refine ⟨⟨vs, v, h1 hL, hv⟩, fun x H' ⟨T, x', ex, hT, hH, hx⟩ => ?_⟩
        subst ex hH
        have e3 := hx vs (h1 hL)
        rw [hv] at e3
        cases e3
        exact ⟨r.upd hT, Kp.upd hT, repU_new hT (.cons (.int _) (.cons rd .nil))⟩
  · simp only [It.next] at e
    rw [next_its hb] at e
    cases q : J.its st with
    | none => rw [q] at e; cases e
    | some xs =>
      rw [q] at e
      simp only [Option.map_some, Option.some.injEq] at e
      cases e2 : xs[i]? with
      | some z => rw [e2] at e; cases e
      | none =>
        obtain ⟨vs, _, h1, rv⟩ := f ρ st H w r xs q
        exact ⟨vs, h1 hL, rv.none_of e2⟩
theorem zip_next {i : Nat} {st : Store} (hb : J.isL = true ∨ J.isT = true) (hb2 : J2.isL = true ∨ J2.isT = true) {o : Option D} (e : (It.zip J J2).next i st = some o) :
    ∃ xs ys, J.its st = some xs ∧ J2.its st = some ys ∧ ((∃ x y, xs[i]? = some x ∧ ys[i]? = some y ∧ o = some (.tup [x, y])) ∨ ((xs[i]? = none ∨ ys[i]? = none) ∧ o = none)) := by
  simp only [It.next, next_its hb, next_its hb2] at e
  cases q : J.its st with
  | none => rw [q] at e; simp at e
  | some xs =>
    cases q2 : J2.its st with
    | none => rw [q, q2] at e; simp at e
    | some ys =>
      rw [q, q2] at e
      simp only [Option.map_some] at e
      refine ⟨xs, ys, rfl, rfl, ?_⟩
      cases e1 : xs[i]? with
      | none =>
        rw [e1] at e
        simp only [Option.some.injEq] at e
        exact .inr ⟨.inl rfl, e.symm⟩
      | some x =>
        cases e2 : ys[i]? with
        | none =>
          rw [e1, e2] at e
          simp only [Option.some.injEq] at e
          exact .inr ⟨.inr rfl, e.symm⟩
        | some y =>
          rw [e1, e2] at e
          simp only [Option.some.injEq] at e
          exact .inl ⟨x, y, rfl, rfl, e.symm⟩
theorem at_zip (s : SrcAt K Hs ρ H J p) (s2 : SrcAt K Hs ρ H J2 q) (hL : J.isL = true) (hL2 : J2.isL = true) : ItAt K Hs ρ H (.zip J J2) (Itz K p q) := by
  obtain ⟨hb, W, w, stb, f⟩ := s
  obtain ⟨hb2, W2, w2, stb2, f2⟩ := s2
  refine ⟨fun ρ H => W ρ H ∧ W2 ρ H, ⟨w, w2⟩, fun ρ ρ' H H' h k => ⟨stb _ _ _ _ h.1 k, stb2 _ _ _ _ h.2 k⟩, fun ρ st H i d w r e => ?_, fun ρ st H i w r e => ?_⟩
  · obtain ⟨xs, ys, q1, q2, h⟩ := zip_next hb hb2 e
    obtain ⟨vs, h1, _, rv⟩ := f ρ st H w.1 r xs q1
    obtain ⟨ws, h2, _, rw'⟩ := f2 ρ st H w.2 r ys q2
    rcases h with ⟨x, y, e1, e2, e3⟩ | ⟨_, e3⟩
    · cases e3
      obtain ⟨v, hv, rd⟩ := rv.get e1
      obtain ⟨v2, hv2, rd2⟩ := rw'.get e2
      refine ⟨⟨vs, ws, v, v2, h1 hL, h2 hL2, hv, hv2⟩, fun x H' ⟨T, x', y', ex, hT, hH, hx, hy⟩ => ?_⟩
      subst ex hH
      have e3 := hx vs (h1 hL)
      rw [hv] at e3
      cases e3
      have e4 := hy ws (h2 hL2)
      rw [hv2] at e4
      cases e4
      exact ⟨r.upd hT, Kp.upd hT, repU_new hT (.cons rd (.cons rd2 .nil))⟩
    · cases e3
  · obtain ⟨xs, ys, q1, q2, h⟩ := zip_next hb hb2 e
    obtain ⟨vs, h1, _, rv⟩ := f ρ st H w.1 r xs q1
    obtain ⟨ws, h2, _, rw'⟩ := f2 ρ st H w.2 r ys q2
    rcases h with ⟨x, y, e1, e2, e3⟩ | ⟨h, e3⟩
    · cases e3
    · exact ⟨vs, ws, h1 hL, h2 hL2, h.imp rv.none_of rw'.none_of⟩
theorem at_zipT (s : SrcAt K Hs ρ H J p) (s2 : SrcAt K Hs ρ H J2 q) (hL : J.isT = true) (hL2 : J2.isT = true) : ItAt K Hs ρ H (.zip J J2) (RZ.ItzT K p q) := by
  obtain ⟨hb, W, w, stb, f⟩ := s
  obtain ⟨hb2, W2, w2, stb2, f2⟩ := s2
  refine ⟨fun ρ H => W ρ H ∧ W2 ρ H, ⟨w, w2⟩, fun ρ ρ' H H' h k => ⟨stb _ _ _ _ h.1 k, stb2 _ _ _ _ h.2 k⟩, fun ρ st H i d w r e => ?_, fun ρ st H i w r e => ?_⟩
  · obtain ⟨xs, ys, q1, q2, h⟩ := zip_next hb hb2 e
    obtain ⟨vs, _, h1, rv⟩ := f ρ st H w.1 r xs q1
    obtain ⟨ws, _, h2, rw'⟩ := f2 ρ st H w.2 r ys q2
    rcases h with ⟨x, y, e1, e2, e3⟩ | ⟨_, e3⟩
    · cases e3
      obtain ⟨v, hv, rd⟩ := rv.get e1
      obtain ⟨v2, hv2, rd2⟩ := rw'.get e2
      refine ⟨⟨vs, ws, v, v2, h1 hL, h2 hL2, hv, hv2⟩, fun x H' ⟨T, x', y', ex, hT, hH, hx, hy⟩ => ?_⟩
      subst ex hH
      have e3 := hx vs (h1 hL)
      rw [hv] at e3
      cases e3
      have e4 := hy ws (h2 hL2)
      rw [hv2] at e4
      cases e4
      exact ⟨r.upd hT, Kp.upd hT, repU_new hT (.cons rd (.cons rd2 .nil))⟩
    · cases e3
  · obtain ⟨xs, ys, q1, q2, h⟩ := zip_next hb hb2 e
    obtain ⟨vs, _, h1, rv⟩ := f ρ st H w.1 r xs q1
    obtain ⟨ws, _, h2, rw'⟩ := f2 ρ st H w.2 r ys q2
    rcases h with ⟨x, y, e1, e2, e3⟩ | ⟨h, e3⟩
    · cases e3
    · exact ⟨vs, ws, h1 hL, h2 hL2, h.imp rv.none_of rw'.none_of⟩
end
section
variable {X : Cx} {cal : Cal} {C : CXT} {k : Nat} {c : CC} {tg : Expr}
abbrev DI (X : Cx) (cal : Cal) (i : I) (tg x : Expr) : Prop := PI X tg x (tI X.K cal NoX i)
/-- a list's, a tuple's expression, to be gone through -/
def WJ (K : PySem.W.Frag) (ρ : List Addr) (H : Hp) (Q : VK) : It → Store → Prop := fun J st' => ∀ ρ' H' p vs, Rel K ρ' st' H' → Kp ρ ρ' H H' → SrcAt K H ρ' H' J p → (J.isL = true → SqL K H' p vs) → (J.isT = true → SqT K H' p vs) → Q (.ref p) H'
def tJ (K : PySem.W.Frag) (cal : Cal) (l : L) : TE := fun σ H Q => ∃ ρ st env, Sta K ρ st env σ H ∧ Post NoX (evI cal (.of l) env st) (WJ K ρ H Q)
abbrev DJ (X : Cx) (cal : Cal) (l : L) (x : Expr) : Prop := PE X x (tJ X.K cal l)
theorem tJ.of {K : PySem.W.Frag} {ρ : List Addr} {st : Store} {env : Env} {σ : L2.St} {H : Hp} {Q : VK} {l : L} {α : Type} {f : It → Store → R α} {P : α → Store → Prop} (S : Sta K ρ st env σ H) (h : Post NoX ((evI cal (.of l) env st).bind f) P)
    (go : ∀ J s ρ' H' p vs, Sta K ρ' s env σ H' → Kp ρ ρ' H H' → SrcAt K H ρ' H' J p → (J.isL = true → SqL K H' p vs) → (J.isT = true → SqT K H' p vs) → Post NoX (f J s) P → Q (.ref p) H') : tJ K cal l σ H Q :=
  ⟨ρ, st, env, S, h.bind.mono fun J s q ρ' H' p vs r k a b d => go J s ρ' H' p vs (S.next r k) k a b d q⟩
theorem dj_of {e : E} {x : Expr} (h : DE X cal e x) : DJ X cal (.of e) x := by
  refine PE.imp h.1 fun σ H Q ⟨ρ, st, env, S, p⟩ => tE.of S (by rw [evI] at p; exact p) fun d s ρ1 H1 v S1 k1 rv q1 => ?_
  split at q1
  · obtain ⟨p1, vs, rfl, t, rvs⟩ := repV_tup rv
    exact (show WJ X.K ρ H Q (.ds false _) s from q1) ρ1 H1 p1 vs S1.r k1 (src_tup t rvs) (fun e => nomatch e) fun _ => t.seq
  · obtain ⟨p1, vs, rfl, t, rvs⟩ := repV_lst rv
    exact (show WJ X.K ρ H Q (.ds true _) s from q1) ρ1 H1 p1 vs S1.r k1 (src_lst t rvs) (fun _ => t.seq) fun e => nomatch e
  · rename_i a
    split at q1
    · rename_i xs e
      obtain ⟨p1, rfl, hp⟩ := repV_ref rv
      obtain ⟨vs, h1, h2⟩ : ∃ vs, SqL X.K H1 p1 vs ∧ RepVs X.K ρ1 H1 xs vs := by
        unfold lstAt at e
        split at e
        · rename_i hst; cases e; exact S1.r.items hp hst
        · cases e
      exact (show WJ X.K ρ H Q (.lv a) s from q1) ρ1 H1 p1 vs S1.r k1 (src_lv hp) (fun _ => h1) fun e => nomatch e
    · exact q1.elim
  · exact q1.elim
theorem dj_ofL {l : L} {x : Expr} (hf : l.fresh = true) (h : DL X cal l x) : DJ X cal l x := by
  refine PE.imp h fun σ H Q ⟨ρ, st, env, S, p⟩ => ?_
  have p' : Post NoX ((evL cal l env st).bind fun r st1 => .ok (.ds r.1 r.2) st1) (WJ X.K ρ H Q) := by
    cases l with
    | of e => cases hf
    | _ => rw [evI] at p <;> first | exact p | (intro e h; cases h)
  refine tL.of S p' fun r s ρ1 H1 p1 vs S1 k1 rv h1 h2 h3 q1 => ?_
  obtain ⟨b, ds⟩ := r
  have q2 : WJ X.K ρ H Q (.ds b ds) s := q1
  cases b with
  | true =>
    obtain ⟨f1, f2, f3⟩ := h3 hf rfl
    exact q2 ρ1 H1 p1 vs S1.r k1 (src_new f1 f2 f3 rv) (fun _ => h1 rfl) fun e => nomatch e
  | false => exact q2 ρ1 H1 p1 vs S1.r k1 (src_tup (h2 rfl) rv) (fun e => nomatch e) fun _ => (h2 rfl).seq
def iSeq (K : PySem.W.Frag) (tl : TE) : TI := fun σ H R => tl σ H fun x H1 => ∃ a, x = .ref a ∧ (((∃ xs, SqL K H1 a xs) ∧ R (Itl K a) H1) ∨ ((∃ xs, SqT K H1 a xs) ∧ R (Itt K a) H1))
theorem pi_seq {l : Expr} {tl : TE} (hl : PE X l tl) : PI X tg l (iSeq X.K tl) := by
  refine ⟨fun pins s σ H R I h => ?_⟩
  refine thn (hl.run pins s σ H _ I h) fun v s1 ⟨x, H1, I1, r1, a, e, q1⟩ => ?_
  subst e
  cases r1
  rcases q1 with ⟨⟨xs, hq⟩, q⟩ | ⟨⟨xs, hq⟩, q⟩
  · obtain ⟨its, rv, p, hz⟩ := I1.list hq
    refine wpAny_pyIter_list p.isList ?_
    refine ⟨s1.heap.objs.size, [s1.heap.objs.size], _, _, H1, rfl, I1.kept (t' := s1.toks) fun b o e => Heap.get?_push_of_some _ e, turn_list a _, ⟨_, Heap.get?_push_size _ rfl, rfl, rfl⟩, fun b hb => ?_, q⟩
    have e : b = s1.heap.objs.size := by simpa using hb
    subst e
    exact I1.fpOk (Nat.le_refl _) (I1.hok.fresh (Nat.le_refl _))
  · obtain ⟨its, rv, p, hz⟩ := I1.tuple hq
    refine wpAny_pyIter_tuple (show s1.heap.IsTuple a its.toArray from p) ?_
    refine ⟨s1.heap.objs.size, [s1.heap.objs.size], _, _, H1, rfl, I1.kept (t' := s1.toks) fun b o e => Heap.get?_push_of_some _ e, turn_tuple a _, ⟨_, Heap.get?_push_size _ rfl, rfl, rfl⟩, fun b hb => ?_, q⟩
    have e : b = s1.heap.objs.size := by simpa using hb
    subst e
    exact I1.fpOk (Nat.le_refl _) (I1.hok.fresh (Nat.le_refl _))
theorem di_of {l : L} {x : Expr} (h : DJ X cal l x) : DI X cal (.of l) tg x := by
  refine PI.imp (pi_seq h) fun σ H R ⟨ρ, st, env, S, p⟩ => ?_
  refine ⟨ρ, st, env, S, p.mono fun J s q ρ1 H1 p1 vs r k s1 a b => ?_⟩
  refine ⟨p1, rfl, ?_⟩
  rcases s1.1 with hL | hT
  · exact .inl ⟨⟨vs, a hL⟩, q ρ1 H1 _ r k (at_lst s1 hL)⟩
  · exact .inr ⟨⟨vs, b hT⟩, q ρ1 H1 _ r k (at_tup s1 hT)⟩
theorem smallI4 {j : Int} (h : smallI (4 * j) = true) : -(2 ^ 62) ≤ j ∧ j < 2 ^ 62 := by
  simp only [smallI, Bool.and_eq_true, decide_eq_true_eq] at h
  omega
theorem di_rng1 {a : E} {p pos : Pos} {y : Expr} (G : Good c C cal k X) (hg : glB X.env.scope "range" = true) (hs : isStar y = false) (ha : DE X cal a y) : DI X cal (.rng1 a) tg (.Call (.Name "range" p) [y] [] pos) := by
  refine PI.imp (pi_range1 (gl_of hg) (G.bn _ (mem_bn (by decide))) (pa_cons ha.1 pa_nil (starEach_cons hs)) (starEach_cons hs)) fun σ H R ⟨ρ, st, env, S, p⟩ => ?_
  refine tE.of S (by rw [evI] at p; exact p) fun d s ρ1 H1 v S1 k1 rv q1 => ?_
  split at q1
  · split at q1
    · rename_i j hz
      obtain ⟨h1, h2⟩ := smallI4 hz
      rw [repV_int rv]
      exact ⟨j, rfl, h1, h2, q1 ρ1 H1 _ S1.r k1 (at_rng _ _)⟩
    · exact q1.elim
  · exact q1.elim
theorem di_rng2 {a b : E} {p pos : Pos} {y z : Expr} (G : Good c C cal k X) (hg : glB X.env.scope "range" = true) (hs : isStar y = false) (hs2 : isStar z = false) (ha : DE X cal a y) (hb : DE X cal b z) : DI X cal (.rng2 a b) tg (.Call (.Name "range" p) [y, z] [] pos) := by
  refine PI.imp (pi_range2 (gl_of hg) (G.bn _ (mem_bn (by decide))) (pa_cons ha.1 (pa_cons hb.1 pa_nil (starEach_cons hs2)) (starEach_cons hs)) (by rw [starEach_cons hs, starEach_cons hs2]; rfl) (starEach_cons hs2)) fun σ H R ⟨ρ, st, env, S, p⟩ => ?_
  refine tE.of S (by rw [evI] at p; exact p) fun d s ρ1 H1 v S1 k1 rv q1 => ?_
  refine tE.of S1 q1 fun d2 s2 ρ2 H2 w S2 k2 rw' q2 => ?_
  split at q2
  · split at q2
    · rename_i i j hz
      simp only [Bool.and_eq_true] at hz
      obtain ⟨h1, h2⟩ := smallI4 hz.1
      obtain ⟨h3, h4⟩ := smallI4 hz.2
      rw [repV_int rv, repV_int rw']
      exact ⟨i, j, rfl, ⟨h1, h2, h3, h4⟩, q2 ρ2 H2 _ S2.r (k1.trans k2) (at_rng _ _)⟩
    · exact q2.elim
  · exact q2.elim
theorem di_enum {l : L} {p pos : Pos} {y : Expr} (G : Good c C cal k X) (ht : isTupE tg = true) (hg : glB X.env.scope "enumerate" = true) (hs : isStar y = false) (h : DJ X cal l y) : DI X cal (.enum (.of l)) tg (.Call (.Name "enumerate" p) [y] [] pos) := by
  cases tg with
  | Tuple elts kk tpos =>
    refine PI.imp (pi_enumA (gl_of hg) (G.bn _ (mem_bn (by decide))) (pa_cons h pa_nil (starEach_cons hs)) (starEach_cons hs)) fun σ H R ⟨ρ, st, env, S, p⟩ => ?_
    refine tJ.of S (by rw [evI] at p; exact p) fun J s ρ1 H1 p1 vs S1 k1 s1 a b q1 => ?_
    split at q1
    · rename_i hL
      rw [Bool.or_eq_true] at hL
      rcases hL with hL | hL
      · exact ⟨p1, rfl, .inl ⟨vs, a hL, q1 ρ1 H1 _ S1.r k1 (at_enum s1 hL)⟩⟩
      · exact ⟨p1, rfl, .inr ⟨vs, b hL, q1 ρ1 H1 _ S1.r k1 (at_enumT s1 hL)⟩⟩
    · exact q1.elim
  | _ => cases ht
theorem di_zip {l l2 : L} {p pos : Pos} {y z : Expr} (G : Good c C cal k X) (ht : isTupE tg = true) (hg : glB X.env.scope "zip" = true) (hs : isStar y = false) (hs2 : isStar z = false) (h : DJ X cal l y) (h2 : DJ X cal l2 z) : DI X cal (.zip (.of l) (.of l2)) tg (.Call (.Name "zip" p) [y, z] [] pos) := by
  cases tg with
  | Tuple elts kk tpos =>
    refine PI.imp (RZ.pi_zipA (gl_of hg) (G.bn _ (mem_bn (by decide))) (pa_cons h (pa_cons h2 pa_nil (starEach_cons hs2)) (starEach_cons hs)) (starEach_cons hs) (by rw [starEach_cons hs2]; rfl)) fun σ H R ⟨ρ, st, env, S, p⟩ => ?_
    refine tJ.of S (by rw [evI] at p; exact p) fun J s ρ1 H1 p1 vs S1 k1 s1 a b q1 => ?_
    refine tJ.of S1 q1 fun J2 s2 ρ2 H2 p2 ws S2 k2 s2' a2 b2 q2 => ?_
    split at q2
    · rename_i hz
      simp only [Bool.or_eq_true, Bool.and_eq_true] at hz
      have kk := k1.trans k2
      have s1' := s1.kp k2
      have s2' := s2'.base (ρ0 := ρ) fun b e => k1.free S1.r e
      obtain ⟨h0, hz⟩ := hz
      obtain ⟨xs, e0⟩ := Option.isSome_iff_exists.mp h0
      obtain ⟨_, W, w, _, f⟩ := id s1'
      obtain ⟨us, u1, u2, _⟩ := f ρ2 s2 H2 w S2.r xs e0
      rcases hz with ⟨hL, hL2⟩ | ⟨hT, hT2⟩
      · exact ⟨p1, p2, us, ws, rfl, .inl ⟨u1 hL, a2 hL2, q2 ρ2 H2 _ S2.r kk (at_zip s1' s2' hL hL2)⟩⟩
      · exact ⟨p1, p2, us, ws, rfl, .inr ⟨u2 hT, b2 hT2, q2 ρ2 H2 _ S2.r kk (at_zipT s1' s2' hT hT2)⟩⟩
    · exact q2.elim
  | _ => cases ht
end
end PyD
namespace PyD
open PySem PySem.Spec PyProof.Rows L2
section
variable {K : PySem.W.Frag} {ρ : List Addr} {st : Store} {H : Hp} {env : Env} {σ : L2.St}
theorem wipe_get {σ : L2.St} {i : Nat} : ∀ {vs : List Nat}, (wipe σ vs)[i]? = if i ∈ vs then (σ[i]?).map fun _ => none else σ[i]?
  | [] => by simp [wipe]
  | v :: vs => by
    unfold wipe
    by_cases e : v = i
    · subst e
      rw [if_pos List.mem_cons_self]
      by_cases hl : v < σ.length
      · rw [List.getElem?_set_self (by rw [wipe_length]; exact hl), List.getElem?_eq_getElem hl]
        rfl
      · rw [List.getElem?_eq_none (by rw [List.length_set, wipe_length]; omega), List.getElem?_eq_none (by omega)]
        rfl
    · rw [List.getElem?_set_ne e, wipe_get (vs := vs)]
      have : (i ∈ v :: vs) ↔ i ∈ vs := by simp [List.mem_cons, Ne.symm e]
      by_cases h : i ∈ vs
      · rw [if_pos h, if_pos (this.mpr h)]
      · rw [if_neg h, if_neg (fun z => h (this.mp z))]
theorem wipe_ext {σ τ : L2.St} {vs : List Nat} (hl : σ.length = τ.length) (h : ∀ i, i ∉ vs → σ[i]? = τ[i]?) : wipe σ vs = wipe τ vs := by
  refine List.ext_getElem? fun i => ?_
  rw [wipe_get, wipe_get]
  by_cases hi : i ∈ vs
  · rw [if_pos hi, if_pos hi]
    by_cases hlt : i < σ.length
    · rw [List.getElem?_eq_getElem hlt, List.getElem?_eq_getElem (by omega : i < τ.length)]
      rfl
    · rw [List.getElem?_eq_none (by omega), List.getElem?_eq_none (by omega)]
  · rw [if_neg hi, if_neg hi]
    exact h i hi
theorem wipe_set {σ : L2.St} {i : Nat} {o : Option V} {vs : List Nat} (h : i ∈ vs) : wipe (σ.set i o) vs = wipe σ vs :=
  wipe_ext (by rw [List.length_set]) fun j hj => by
    rw [List.getElem?_set_ne]
    intro e
    exact hj (e ▸ h)
theorem wipe_wipe {σ : L2.St} {us vs : List Nat} (h : ∀ i ∈ us, i ∈ vs) : wipe (wipe σ us) vs = wipe σ vs :=
  wipe_ext (wipe_length _ _) fun j hj => wipe_out fun z => hj (h j z)
theorem wipeE_length (env : Env) : ∀ vs : List Nat, (wipeE env vs).length = env.length
  | [] => rfl
  | v :: vs => by unfold wipeE; rw [List.length_set, wipeE_length env vs]
theorem wipeE_some {i : Nat} {d : D} : ∀ {vs : List Nat}, (wipeE env vs)[i]? = some (some d) → env[i]? = some (some d) ∧ i ∉ vs
  | [], h => ⟨h, by simp⟩
  | v :: vs, h => by
    unfold wipeE at h
    by_cases hi : v = i
    · subst hi
      by_cases hv : v < (wipeE env vs).length
      · rw [List.getElem?_set_self hv] at h; cases h
      · rw [List.getElem?_eq_none (by simpa using hv)] at h; cases h
    · rw [List.getElem?_set_ne hi] at h
      obtain ⟨h1, h2⟩ := wipeE_some h
      exact ⟨h1, by simp only [List.mem_cons, not_or]; exact ⟨fun e => hi e.symm, h2⟩⟩
theorem RelE.wipe (r : RelE K ρ H env σ) (vs : List Nat) : RelE K ρ H (wipeE env vs) (L2.wipe σ vs) := by
  refine ⟨by rw [wipeE_length, wipe_length]; exact r.1, fun i d h => ?_⟩
  obtain ⟨h1, h2⟩ := wipeE_some h
  obtain ⟨v, h3, h4⟩ := r.2 i d h1
  exact ⟨v, by rw [wipe_out h2]; exact h3, h4⟩
theorem RelE.set (r : RelE K ρ H env σ) (i : Nat) {d : D} {v : V} (h : RepV K ρ H d v) : RelE K ρ H (env.set i (some d)) (σ.set i (some v)) := by
  refine ⟨by rw [List.length_set, List.length_set]; exact r.1, fun j d' e => ?_⟩
  by_cases hj : i = j
  · subst hj
    by_cases hl : i < env.length
    · rw [List.getElem?_set_self hl] at e
      cases e
      exact ⟨v, List.getElem?_set_self (by rw [← r.1]; exact hl), h⟩
    · rw [List.getElem?_eq_none (by rw [List.length_set]; omega)] at e
      cases e
  · rw [List.getElem?_set_ne hj] at e
    obtain ⟨w, h1, h2⟩ := r.2 j d' e
    exact ⟨w, by rw [List.getElem?_set_ne hj]; exact h1, h2⟩
end
section
variable {X : Cx} {cal : Cal} {C : CXT} {k : Nat} {c : CC}
abbrev DT (X : Cx) (cal : Cal) (t : T) (x : Expr) : Prop := PG X x (tT X.K cal NoX t)
def DTs (X : Cx) (cal : Cal) : Ts → List Expr → Prop
  | .nil, xs => xs = []
  | .cons t ts, xs => ∃ x r, xs = x :: r ∧ isStar x = false ∧ DT X cal t x ∧ DTs X cal ts r
def Ts.len : Ts → Nat
  | .nil => 0
  | .cons _ ts => ts.len + 1
/-- which names may be stored -/
def TOk (X : Cx) (tsc : Scope) : Prop := ∀ x, locB tsc x = true → Loc X.env.scope x ∧ (X.fn x = true ∨ X.env.scope.names.lookup x = some .local)
theorem subL_mem {a b : List Nat} (h : subL a b = true) : ∀ i ∈ a, i ∈ b := fun i hi => by
  have := List.all_eq_true.mp h i hi
  simpa using this
theorem subL_of {a b : List Nat} (h : ∀ i ∈ a, i ∈ b) : subL a b = true := List.all_eq_true.mpr fun i hi => by simpa using h i hi
theorem dt_nm {i : Nat} {x : Str} {pos : Pos} {tsc : Scope} (hN : X.N.Nodup) (hi : X.N[i]? = some x) (ht : TOk X tsc) (hx : locB tsc x = true) : DT X cal (.nm i) (.Name x pos) := by
  obtain ⟨h1, h2⟩ := ht x hx
  refine PG.imp (pg_name hN hi h1 h2) fun v σ H Q ⟨ρ, st, env, d, S, rv, p⟩ => ?_
  rcases rv with rv | ⟨e, _⟩
  · rw [asT] at p
    exact (show WT X.K [i] ρ H σ Q (env.set i (some d)) st from p) ρ H _ S.r .refl (S.e.set i rv) fun own ho => wipe_set (subL_mem ho i (by simp))
  · cases e
theorem assignEach_cons {x : Expr} {xs : List Expr} {env : PySem.Env} (h : isStar x = false) : assignEach (x :: xs) env = (false, assign x env) :: assignEach xs env := by
  cases x <;> first | rfl | simp [isStar] at h
theorem dts_len : ∀ {ts : Ts} {xs : List Expr}, DTs X cal ts xs → xs.length = ts.len
  | .nil, xs, h => by obtain rfl : xs = [] := h; rfl
  | .cons t ts, xs, h => by obtain ⟨x, r, rfl, _, _, hr⟩ := h; rw [List.length_cons, dts_len hr]; rfl
theorem dts_each {env : PySem.Env} : ∀ {ts : Ts} {xs : List Expr}, DTs X cal ts xs → (assignEach xs env).length = ts.len ∧ (assignEach xs env).findIdx? (·.1) = none
  | .nil, xs, h => by obtain rfl : xs = [] := h; exact ⟨rfl, rfl⟩
  | .cons t ts, xs, h => by
    obtain ⟨x, r, rfl, hs, _, hr⟩ := h
    obtain ⟨a, b⟩ := dts_each (env := env) hr
    rw [assignEach_cons hs]
    refine ⟨by rw [List.length_cons, a]; rfl, ?_⟩
    rw [List.findIdx?_cons]
    simp [b]
theorem asTs_len : ∀ {ts : Ts} {ds : List D} {env : Env} {st : Store} {P : Env → Store → Prop}, Post NoX (asTs cal ts ds env st) P → ds.length = ts.len
  | .nil, [], _, _, _, _ => rfl
  | .nil, _ :: _, _, _, _, h => by simp only [asTs] at h; exact h.elim
  | .cons _ _, [], _, _, _, h => by simp only [asTs] at h; exact h.elim
  | .cons t ts, d :: ds, env, st, P, h => by
    rw [asTs] at h
    cases e : asT cal t d env st with
    | stuck => rw [e] at h; exact h.elim
    | exc x s => rw [e] at h; exact h.elim
    | ok a s =>
      rw [e] at h
      have h2 : Post NoX (asTs cal ts ds a s) P := h
      rw [List.length_cons, asTs_len h2]
      rfl
theorem pgs_of : ∀ {ts : Ts} {xs : List Expr}, DTs X cal ts xs → PGs X xs (tTs X.K cal NoX ts)
  | .nil, xs, h => by
    obtain rfl : xs = [] := h
    refine PGs.imp pgs_nil fun vs σ H Q ⟨ρ, st, env, ds, S, rv, p⟩ => ?_
    cases rv with
    | nil =>
      rw [asTs] at p
      exact ⟨rfl, (show WT X.K [] ρ H σ Q env st from p) ρ H σ S.r .refl S.e fun _ _ => rfl⟩
    | cons _ _ => simp only [asTs] at p; exact p.elim
  | .cons t ts, xs, h => by
    obtain ⟨x, r, rfl, hs, hx, hr⟩ := h
    refine PGs.imp (pgs_cons hx (pgs_of hr) (by rw [assignEach_cons hs]; rfl)) fun vs σ H Q ⟨ρ, st, env, ds, S, rv, p⟩ => ?_
    cases rv with
    | nil => simp only [asTs] at p; exact p.elim
    | @cons d v ds vs rd rds =>
      rw [asTs] at p
      refine ⟨v, vs, rfl, ρ, st, env, d, S, .inl rd, p.bind.mono fun env1 s1 q ρ1 H1 σ1 r1 k1 e1 w1 => ?_⟩
      refine ⟨ρ1, s1, env1, ds, ⟨r1, e1⟩, rds.kp k1, q.mono fun env2 s2 q2 ρ2 H2 σ2 r2 k2 e2 w2 => ?_⟩
      refine q2 ρ2 H2 σ2 r2 (k1.trans k2) e2 fun own ho => ?_
      have ho' := subL_mem ho
      rw [w2 own (subL_of fun i hi => ho' i (List.mem_append_right _ hi)), w1 own (subL_of fun i hi => ho' i (List.mem_append_left _ hi))]
theorem dt_tp {ts : Ts} {xs : List Expr} {kk : Nat} {pos : Pos} (hc : X.calm = true) (h : DTs X cal ts xs) : DT X cal (.tp ts) (.Tuple xs kk pos) := by
  obtain ⟨h1, h2⟩ := dts_each (env := X.env) h
  refine PG.imp (pg_tup hc (pgs_of h) h1 h2) fun v σ H Q ⟨ρ, st, env, d, S, rv, p⟩ => ?_
  obtain ⟨ds, p1, vs, rfl, rfl, hq, rvs⟩ : RepU X.K ρ H d v := by
    rcases rv with rv | ⟨_, rv⟩
    · cases d with
      | tup ds =>
        obtain ⟨p1, vs, rfl, t, rvs⟩ := repV_tup rv
        exact ⟨_, p1, vs, rfl, rfl, t.seq, rvs⟩
      | _ => simp only [asT] at p; exact p.elim
    · exact rv
  rw [asT] at p
  have p' : Post NoX (asTs cal ts ds env st) (WT X.K ts.slots ρ H σ Q) := p
  exact ⟨p1, vs, rfl, hq, by rw [← rvs.length]; exact asTs_len p', ρ, st, env, ds, S, rvs, p'⟩
theorem paired_append {α β : Type} {R : α → β → Prop} {as cs : List α} {bs ds : List β} (h : Paired R as bs) (h2 : Paired R cs ds) : Paired R (as ++ cs) (bs ++ ds) := by
  induction h with
  | nil => exact h2
  | cons a t ih => exact .cons a ih
theorem putK_rep {K : PySem.W.Frag} {ρ : List Addr} {H : Hp} {kvs : List ((Int ⊕ Str) × D)} {vs : List (Key × V)} {j : Int ⊕ Str} {d : D} {v : V} (r : RepK K ρ H kvs vs) (rv : RepV K ρ H d v) : RepK K ρ H (putK kvs j d) (L2.putK vs j v) := by
  have hany : (kvs.any fun kv => decide (kv.1 = j)) = vs.any fun kv => decide (kv.1 = j) := by
    induction r with
    | nil => rfl
    | cons h t ih => rw [List.any_cons, List.any_cons, ih, h.1]
  have hmap : RepK K ρ H (kvs.map fun kv => if kv.1 = j then (kv.1, d) else kv) (vs.map fun kv => if kv.1 = j then (kv.1, v) else kv) := by
    clear hany
    induction r with
    | nil => exact .nil
    | @cons a b as bs h t ih =>
      rw [List.map_cons, List.map_cons]
      refine .cons ?_ ih
      rw [h.1]
      split
      · exact ⟨rfl, rv⟩
      · exact h
  unfold putK L2.putK
  rw [hany]
  split
  · exact hmap
  · exact paired_append r (.cons ⟨rfl, rv⟩ .nil)
theorem dt_sub {a i : E} {p q : Expr} {pos : Pos} (hs : isSlice q = false) (hu : X.A.units + 1 < cLine) (ha : DE X cal a p) (hi : DE X cal i q) : DT X cal (.sub a i) (.Subscript p q pos) := by
  refine PG.imp (pg_sub ha.1 hi.1 (set_dict hu) (fun v => by cases q <;> first | rfl | cases hs)) fun v σ H Q ⟨ρ, st, env, d, S, rv, z⟩ => ?_
  rcases rv with rv | ⟨e, _⟩
  · refine tE.of S (by rw [asT] at z; exact z) fun x s1 ρ1 H1 o S1 k1 rx q1 => ?_
    refine tE.of S1 q1 fun y s2 ρ2 H2 w S2 k2 ry q2 => ?_
    split at q2
    · rename_i j ey
      split at q2
      · rename_i kvs hst
        split at q2
        · rename_i hz
          obtain ⟨p1, rfl, hp⟩ := repV_ref (rx.kp k2)
          obtain ⟨ho, h1, h2⟩ := S2.r.at hst hp
          cases h2 with
          | @dct _ vs rk =>
            have rv2 := (rv.kp k1).kp k2
            have hm : ∀ o u, H2 p1 ≠ some (.frz o u) := fun o u e => by rw [h1] at e; cases e
            have ek : w = kV j := keyOf_kV ey ry
            subst ek
            have hl : vs.length < sizeLine := by
              have e := Paired.length rk
              have := small_le hz
              omega
            refine ⟨p1, _, rfl, DPut.k h1 hl, ?_⟩
            have kw := Kp.write (ho := .dK (L2.putK vs j v)) S2.r hp hm
            have kk := (k1.trans k2).trans kw
            exact q2 ρ2 _ σ (S2.r.write hp hm (.dct (putK_rep rk rv2))) kk (S2.e.kp kw) fun _ _ => rfl
        · exact q2.elim
      · exact q2.elim
    · exact q2.elim
  · cases e
theorem Good.blk (G : Good c C cal k X) (s : Shared) (H : Hp) (scope : Scope) (D : Addr) (cl : List (Str × Addr)) (fp : List Addr) (hk : scope.kind = .function) : Good c C cal k (X.blk s H scope (compEnvC scope cl D X.env) fp) :=
  ⟨G.N, G.nd, G.calm, hk, G.room, G.bn, G.con, G.fn, G.pa⟩
theorem tok_blk (s : Shared) (H : Hp) (scope : Scope) (D : Addr) (cl : List (Str × Addr)) (fp : List Addr) : TOk (X.blk s H scope (compEnvC scope cl D X.env) fp) scope := by
  intro x hx
  unfold locB at hx
  split at hx
  · rename_i e
    have e2 := lookup_relS_keep (sc := X.env.scope) (k := .local) (by decide) e
    exact ⟨.inl e2, .inr e2⟩
  · rename_i e
    have e2 := lookup_relS_keep (sc := X.env.scope) (k := .cell) (by decide) e
    exact ⟨.inr e2, .inl (by show (scope.names.lookup x == some NameKind.cell) = true; rw [e]; rfl)⟩
  · cases hx
theorem scope_blk (s : Shared) (H : Hp) (scope : Scope) (D : Addr) (cl : List (Str × Addr)) (fp : List Addr) : (X.blk s H scope (compEnvC scope cl D X.env) fp).env.scope = relS scope X.env.scope := rfl
end
end PyD
namespace PyD
open PySem PySem.Spec PyProof.Rows L2
section
variable {K : PySem.W.Frag} {ρ ρ0 : List Addr} {st : Store} {H H0 : Hp} {D0 : Addr}
theorem RelE.out {env : Env} {σ : L2.St} (r : RelE K ρ H env σ) {p : Addr} {o : HO} (hm : ∀ o u, H p ≠ some (.frz o u)) : RelE K ρ (L2.upd H p o) env σ :=
  ⟨r.1, fun i d e => by
    obtain ⟨v, h1, h2⟩ := r.2 i d e
    exact ⟨v, h1, h2.mono fun a o' u e => by
      have ne : a ≠ p := fun z => hm o' u (z ▸ e)
      rw [upd_ne ne]; exact e⟩⟩
theorem ItAt.kp {J : It} {JJ : L2.It} {ρ' : List Addr} {H' : Hp} {Hs : Hp} (a : ItAt K Hs ρ H J JJ) (k : KpS Hs ρ ρ' H H') : ItAt K Hs ρ' H' J JJ := by
  obtain ⟨W, w, s, f⟩ := a.w
  exact ⟨W, s _ _ _ _ w k, s, f⟩
theorem KpS.refl {Hs : Hp} : KpS Hs ρ ρ H H := ⟨fun _ _ h => h, fun _ _ _ h => h, fun _ _ _ h n => ⟨n, h⟩⟩
theorem KpS.trans {Hs H1 H2 : Hp} {ρ1 ρ2 : List Addr} (a : KpS Hs ρ ρ1 H H1) (b : KpS Hs ρ1 ρ2 H1 H2) : KpS Hs ρ ρ2 H H2 :=
  ⟨fun i p h => b.pre i p (a.pre i p h), fun c o u h => b.frz c o u (a.frz c o u h), fun c o z h n => by
    obtain ⟨n1, h1⟩ := a.old c o z h n
    exact b.old c o z h1 n1⟩
theorem KpS.out {Hs : Hp} {p : Addr} {o : HO} (hp : Hs p ≠ none) (hm : ∀ o u, H p ≠ some (.frz o u)) : KpS Hs ρ ρ H (L2.upd H p o) :=
  ⟨fun _ _ h => h, fun a o' u e => by
    have ne : a ≠ p := fun z => hm o' u (z ▸ e)
    rw [upd_ne ne]; exact e, fun b u z h n => ⟨n, by
    have ne : b ≠ p := fun e => hp (e ▸ z)
    rw [upd_ne ne]; exact h⟩⟩
theorem RelE.kpS {Hs H' : Hp} {ρ' : List Addr} {env : Env} {σ : L2.St} (k : KpS Hs ρ ρ' H H') (h : RelE K ρ H env σ) : RelE K ρ' H' env σ :=
  ⟨h.1, fun i d e => by
    obtain ⟨v, h1, h2⟩ := h.2 i d e
    exact ⟨v, h1, (h2.mono k.frz).pre k.pre⟩⟩
/-- the list that grows, with what it holds -/
structure Acc (K : PySem.W.Frag) (D0 : Addr) (ρ : List Addr) (H : Hp) (acc : List D) : Prop where
  out : D0 ∉ ρ
  at' : ∃ vs, H D0 = some (.lst vs) ∧ RepVs K ρ H acc vs
theorem Acc.kp {acc : List D} {ρ' : List Addr} {H' : Hp} (a : Acc K D0 ρ H acc) (k : Kp ρ ρ' H H') : Acc K D0 ρ' H' acc := by
  obtain ⟨vs, h1, h2⟩ := a.at'
  obtain ⟨h3, h4⟩ := k.old _ _ h1 a.out
  exact ⟨h3, vs, h4, h2.kp k⟩
theorem Acc.nofrz {acc : List D} (a : Acc K D0 ρ H acc) : ∀ o u, H D0 ≠ some (.frz o u) := fun o u e => by
  obtain ⟨vs, h1, _⟩ := a.at'
  rw [h1] at e; cases e
/-- one more -/
theorem Acc.push {acc : List D} {d : D} {v : V} (a : Acc K D0 ρ H acc) (r : Rel K ρ st H) (k : Kp ρ0 ρ H0 H) (hn : H0 D0 = none) (rv : RepV K ρ H d v) (hz : small (acc.length + 1) = true) :
    ∃ vs, H D0 = some (.lst vs) ∧ vs.length < sizeLine ∧ Rel K ρ st (upd H D0 (.lst (vs ++ [v]))) ∧ Kp ρ0 ρ H0 (upd H D0 (.lst (vs ++ [v]))) ∧ Acc K D0 ρ (upd H D0 (.lst (vs ++ [v]))) (acc ++ [d]) := by
  obtain ⟨vs, h1, h2⟩ := a.at'
  have f : ∀ b o' u, H b = some (.frz o' u) → upd H D0 (.lst (vs ++ [v])) b = some (.frz o' u) := fun b o' u e => by
    have ne : b ≠ D0 := fun z => a.nofrz o' u (z ▸ e)
    rw [upd_ne ne]; exact e
  have hz2 := small_le hz
  refine ⟨vs, h1, by rw [← h2.length]; omega, r.out a.out a.nofrz, k.out hn, ⟨a.out, vs ++ [v], upd_same, (h2.mono f).append (.cons (rv.mono f) .nil)⟩⟩
end
section
variable {X : Cx} {cal : Cal} {C : CXT} {k : Nat} {c : CC}
theorem compL_succ {J : It} {as : D → Env → Store → R Env} {elt : Env → List D → Store → R (List D)} {env : Env} {n i : Nat} {acc : List D} {st : Store} : compL J as elt env (n + 1) i acc st = match J.next i st with
    | none => .stuck
    | some none => .ok acc st
    | some (some d) => (as d env st).bind fun env1 st1 => (elt env1 acc st1).bind fun acc2 st2 => compL J as elt env n (i + 1) acc2 st2 := rfl
theorem noExc_post {α : Type} {r : R α} {P : α → Store → Prop} (h : Post NoX (noExc r) P) : Post NoX r P := by
  cases r with
  | stuck => exact h
  | ok a s => exact h
  | exc x s => exact h.elim
/-- the elements' program -/
def eltD (cal : Cal) (cs : Es) (elt : E) : Env → List D → Store → R (List D) := fun env acc st => (evC cal cs env st).bind fun b st2 =>
  if b then (evE cal elt env st2).bind fun d st3 => pushD acc d st3 else .ok acc st2
/-- what is wanted behind a turn's element: the tests, the element, the push -/
theorem elt_fin {K : PySem.W.Frag} {cs : Es} {elt : E} {ρ0 ρ ρs : List Addr} {H0 H Hs Hx : Hp} {D0 : Addr} {acc : List D} {env : Env} {st : Store} {σ : L2.St} {P : List D → Store → Prop} {Nx : Hp → Prop}
    (S : Sta K ρ st env σ H) (kp : Kp ρ0 ρ H0 H) (ks : KpS Hs ρs ρ Hx H) (hs : Hs D0 ≠ none) (a : Acc K D0 ρ H acc) (hn : H0 D0 = none) (p : Post NoX (eltD cal cs elt env acc st) P)
    (fin : ∀ acc' st' ρ' H', Rel K ρ' st' H' → Kp ρ0 ρ' H0 H' → KpS Hs ρs ρ' Hx H' → Acc K D0 ρ' H' acc' → P acc' st' → Nx H') :
    PyD.tC K cal NoX cs σ H fun b H3 => if b = true then tE K cal NoX elt σ H3 fun y H4 => ∃ vs, H4 D0 = some (.lst vs) ∧ vs.length < sizeLine ∧ Nx (upd H4 D0 (.lst (vs ++ [y]))) else Nx H3 := by
  refine ⟨ρ, st, env, S, p.bind.mono fun b s1 q ρ1 H1 r1 k1 => ?_⟩
  have S1 := S.next r1 k1
  have a1 := a.kp k1
  cases b with
  | false => exact fin acc s1 ρ1 H1 r1 (kp.trans k1) (ks.trans (.of k1)) a1 q
  | true =>
    show tE K cal NoX elt σ H1 _
    refine tE.of S1 q fun d s2 ρ2 H2 v S2 k2 rv q2 => ?_
    unfold pushD at q2
    split at q2
    · rename_i hz
      have a2 := a1.kp k2
      obtain ⟨vs, h1, h2, h3, h4, h5⟩ := a2.push S2.r ((kp.trans k1).trans k2) hn rv hz
      exact ⟨vs, h1, h2, fin _ s2 ρ2 _ h3 h4 ((ks.trans (.of (k1.trans k2))).trans (.out hs a2.nofrz)) h5 q2⟩
    · exact q2.elim
theorem evL_comp {own : List (Str × Nat)} {t : T} {i : I} {cs : Es} {elt : E} {env : Env} {st : Store} {P : Bool × List D → Store → Prop} (p : Post NoX (evL cal (.comp own t i cs elt) env st) P) :
    Post NoX (evI cal i env st) fun J st1 => Post NoX (compL J (fun d env st => asT cal t d env st) (eltD cal cs elt) (wipeE env (own.map (·.2))) (J.len st1 + 1) 0 [] st1) fun ds st2 => P (true, ds) st2 := by
  rw [evL] at p
  exact (noExc_post p).bind.mono fun J st1 q => q.bind
def I.pairs : I → Bool
  | .enum _ => true
  | .zip _ _ => true
  | _ => false
theorem Post.bindI {α β : Type} {EX : EXT} {r : R α} {f : α → Store → R β} {P : β → Store → Prop} (h : Post EX r fun a s => Post EX (f a s) P) : Post EX (r.bind f) P := by
  cases r with
  | stuck => exact h
  | ok a s => exact h
  | exc x s => exact h
theorem ite_post {α : Type} {b : Bool} {r : R α} {P P' : α → Store → Prop} (h : Post NoX (if b = true then r else .stuck) P) (f : b = true → Post NoX r P → Post NoX r P') : Post NoX (if b = true then r else .stuck) P' := by
  cases b with
  | true => exact f rfl h
  | false => exact h
theorem evI_pairs {i : I} {env : Env} {st : Store} {P : It → Store → Prop} (p : Post NoX (evI cal i env st) P) : Post NoX (evI cal i env st) fun J s => J.pairs = i.pairs ∧ P J s := by
  cases i with
  | of l =>
    by_cases hf : ∃ e, l = .of e
    · obtain ⟨e, rfl⟩ := hf
      rw [evI] at p ⊢
      refine Post.bindI (p.bind.mono fun d s q => ?_)
      split at q
      · exact ⟨rfl, q⟩
      · exact ⟨rfl, q⟩
      · split at q
        · exact ⟨rfl, q⟩
        · exact q.elim
      · exact q.elim
    · rw [evI] at p ⊢
      · exact Post.bindI (p.bind.mono fun d s q => ⟨rfl, q⟩)
      · exact fun e h => hf ⟨e, h⟩
      · exact fun e h => hf ⟨e, h⟩
  | rng1 a =>
    rw [evI] at p ⊢
    refine Post.bindI (p.bind.mono fun d s q => ?_)
    split at q
    · exact ite_post q fun _ q => ⟨rfl, q⟩
    · exact q.elim
  | rng2 a b =>
    rw [evI] at p ⊢
    refine Post.bindI (p.bind.mono fun d s q => Post.bindI (q.bind.mono fun d2 s2 q2 => ?_))
    split at q2
    · exact ite_post q2 fun _ q => ⟨rfl, q⟩
    · exact q2.elim
  | enum i =>
    rw [evI] at p ⊢
    exact Post.bindI (p.bind.mono fun d s q => ite_post q fun _ q => ⟨rfl, q⟩)
  | zip a b =>
    rw [evI] at p ⊢
    exact Post.bindI (p.bind.mono fun d s q => Post.bindI (q.bind.mono fun d2 s2 q2 => ite_post q2 fun _ q => ⟨rfl, q⟩))
theorem repI_or {K : PySem.W.Frag} {J : It} {i : I} {t : T} {ρ : List Addr} {H : Hp} {d : D} {v : V} (h : RepI K J ρ H d v) (e : J.pairs = i.pairs) (ht : i.pairs = true → t.isTp = true) : RepV K ρ H d v ∨ (t.isTp = true ∧ RepU K ρ H d v) := by
  unfold RepI at h
  split at h
  · rename_i hj
    exact .inr ⟨ht (e ▸ hj), h⟩
  · exact .inl h
theorem lc_ok {own : List (Str × Nat)} {t : T} {i : I} {cs : Es} {elt : E} (ht : i.pairs = true → t.isTp = true) (hsl : subL t.slots (own.map (·.2)) = true) :
    ∀ σ H Q, tL X.K cal NoX (.comp own t i cs elt) σ H Q → tLc (tI X.K cal NoX i) (tT X.K cal NoX t) (PyD.tC X.K cal NoX cs) (tE X.K cal NoX elt) (own.map (·.2)) σ H Q := by
  intro σ H Q ⟨ρ, st, env, S, p⟩
  refine ⟨ρ, st, env, S, (evI_pairs (evL_comp p)).mono fun J st1 ⟨hpj, q⟩ ρ1 H1 JJ r1 k1 it D0 hD => ?_⟩
  let as : D → Env → Store → R Env := fun d env st => asT cal t d env st
  let vs0 := own.map (·.2)
  have a0 : Acc X.K D0 ρ1 (upd H1 D0 (.lst [])) [] := ⟨r1.fresh hD, [], upd_same, .nil⟩
  refine ⟨fun i m H' => ∃ ρ' st' acc, Rel X.K ρ' st' H' ∧ Kp ρ1 ρ' H1 H' ∧ Acc X.K D0 ρ' H' acc ∧ Post NoX (compL J as (eltD cal cs elt) (wipeE env vs0) m i acc st') fun ds st2 => WL X.K true ρ H Q (true, ds) st2,
    ⟨J.len st1 + 1, ρ1, st1, [], r1.upd hD, Kp.upd hD, a0, q⟩, fun i m H' ⟨ρ', st', acc, r', k', a', q'⟩ => ?_⟩
  cases m with
  | zero => exact q'.elim
  | succ m =>
    have it' := it.kp (.of k')
    obtain ⟨W, w, stb, f1, f2⟩ := it'.w
    rw [compL_succ] at q'
    cases en : J.next i st' with
    | none => rw [en] at q'; exact q'.elim
    | some o =>
      rw [en] at q'
      cases o with
      | none =>
        obtain ⟨vs, h1, h2⟩ := a'.at'
        refine .inl ⟨f2 ρ' st' H' i w r' en, ?_⟩
        exact (show WL X.K true ρ H Q (true, acc) st' from q') ρ' H' D0 vs r' (k1.trans k') h2 (fun _ => .inl (.inl h1)) (fun e => nomatch e) fun _ _ => ⟨k1.free r1 hD, a'.out, h1⟩
      | some d =>
        obtain ⟨hgo, hy⟩ := f1 ρ' st' H' i d w r' en
        refine .inr ⟨hgo, fun H2 => ∃ ρ2 st2 acc2, Rel X.K ρ2 st2 H2 ∧ Kp ρ1 ρ2 H1 H2 ∧ Acc X.K D0 ρ2 H2 acc2 ∧ Post NoX (compL J as (eltD cal cs elt) (wipeE env vs0) m (i + 1) acc2 st2) fun ds st2 => WL X.K true ρ H Q (true, ds) st2,
          fun H2 ⟨ρ2, st2, acc2, z⟩ => ⟨m, Nat.lt_succ_self m, ρ2, st2, acc2, z⟩, fun x H2 y2 => ?_⟩
        obtain ⟨r2, k2, ri⟩ := hy x H2 y2
        have e2 : RelE X.K ρ' H2 (wipeE env vs0) (wipe σ vs0) := (((S.e.kp k1).kp k').kp k2).wipe vs0
        refine ⟨ρ', st', wipeE env vs0, d, ⟨r2, e2⟩, repI_or ri hpj ht, q'.bind.mono fun env3 st3 q3 ρ3 H3 σ3 r3 k3 e3 w3 => ⟨?_, ?_⟩⟩
        · have := w3 vs0 hsl
          rw [this]
          exact wipe_wipe fun i h => h
        · exact elt_fin (S := ⟨r3, e3⟩) (Hs := fun _ => some (.lst [])) ((k'.trans k2).trans k3) .refl (fun e => nomatch e) ((a'.kp k2).kp k3) hD q3.bind fun acc' st' ρ' H' r k _ a z => ⟨ρ', st', acc', r, k, a, z⟩
theorem evL_comp2 {own : List (Str × Nat)} {vs1 : List Nat} {t t2 : T} {i i2 : I} {cs : Es} {elt : E} {env : Env} {st : Store} {P : Bool × List D → Store → Prop} (p : Post NoX (evL cal (.comp2 own vs1 t i t2 i2 cs elt) env st) P) :
    Post NoX (evI cal i env st) fun J st1 => Post NoX (compL J (fun d env st => asT cal t d env st) (fun env acc st => (evI cal i2 env st).bind fun J2 st2 =>
      compL J2 (fun d env st => asT cal t2 d env st) (eltD cal cs elt) (wipeE env vs1) (J2.len st2 + 1) 0 acc st2) (wipeE env (own.map (·.2))) (J.len st1 + 1) 0 [] st1) fun ds st2 => P (true, ds) st2 := by
  rw [evL] at p
  exact (noExc_post p).bind.mono fun J st1 q => q.bind
theorem lc2_ok {own : List (Str × Nat)} {vs1 : List Nat} {t t2 : T} {i i2 : I} {cs : Es} {elt : E} (ht : i.pairs = true → t.isTp = true) (ht2 : i2.pairs = true → t2.isTp = true) (hsl : subL t.slots (own.map (·.2)) = true) (hsl2 : subL t2.slots vs1 = true) :
    ∀ σ H Q, tL X.K cal NoX (.comp2 own vs1 t i t2 i2 cs elt) σ H Q → tLc2 (tI X.K cal NoX i) (tT X.K cal NoX t) (PyD.tC X.K cal NoX .nil) (tI X.K cal NoX i2) (tT X.K cal NoX t2) (PyD.tC X.K cal NoX cs) (tE X.K cal NoX elt) (own.map (·.2)) vs1 σ H Q := by
  intro σ H Q ⟨ρ, st, env, S, p⟩
  refine ⟨ρ, st, env, S, (evI_pairs (evL_comp2 p)).mono fun J st1 ⟨hpj, q⟩ ρ1 H1 JJ r1 k1 it D0 hD => ?_⟩
  let as : D → Env → Store → R Env := fun d env st => asT cal t d env st
  let as2 : D → Env → Store → R Env := fun d env st => asT cal t2 d env st
  let el : Env → List D → Store → R (List D) := fun env acc st => (evI cal i2 env st).bind fun J2 st2 => compL J2 as2 (eltD cal cs elt) (wipeE env vs1) (J2.len st2 + 1) 0 acc st2
  let vs0 := own.map (·.2)
  have a0 : Acc X.K D0 ρ1 (upd H1 D0 (.lst [])) [] := ⟨r1.fresh hD, [], upd_same, .nil⟩
  refine ⟨fun i m H' => ∃ ρ' st' acc, Rel X.K ρ' st' H' ∧ Kp ρ1 ρ' H1 H' ∧ Acc X.K D0 ρ' H' acc ∧ Post NoX (compL J as el (wipeE env vs0) m i acc st') fun ds st2 => WL X.K true ρ H Q (true, ds) st2,
    ⟨J.len st1 + 1, ρ1, st1, [], r1.upd hD, Kp.upd hD, a0, q⟩, fun i m H' ⟨ρ', st', acc, r', k', a', q'⟩ => ?_⟩
  cases m with
  | zero => exact q'.elim
  | succ m =>
    have it' := it.kp (.of k')
    obtain ⟨W, w, stb, f1, f2⟩ := it'.w
    rw [compL_succ] at q'
    cases en : J.next i st' with
    | none => rw [en] at q'; exact q'.elim
    | some o =>
      rw [en] at q'
      cases o with
      | none =>
        obtain ⟨vs, h1, h2⟩ := a'.at'
        refine .inl ⟨f2 ρ' st' H' i w r' en, ?_⟩
        exact (show WL X.K true ρ H Q (true, acc) st' from q') ρ' H' D0 vs r' (k1.trans k') h2 (fun _ => .inl (.inl h1)) (fun e => nomatch e) fun _ _ => ⟨k1.free r1 hD, a'.out, h1⟩
      | some d =>
        obtain ⟨hgo, hy⟩ := f1 ρ' st' H' i d w r' en
        refine .inr ⟨hgo, fun H2 => ∃ ρ2 st2 acc2, Rel X.K ρ2 st2 H2 ∧ Kp ρ1 ρ2 H1 H2 ∧ Acc X.K D0 ρ2 H2 acc2 ∧ Post NoX (compL J as el (wipeE env vs0) m (i + 1) acc2 st2) fun ds st2 => WL X.K true ρ H Q (true, ds) st2,
          fun H2 ⟨ρ2, st2, acc2, z⟩ => ⟨m, Nat.lt_succ_self m, ρ2, st2, acc2, z⟩, fun x H2 y2 => ?_⟩
        obtain ⟨r2, k2, ri⟩ := hy x H2 y2
        have e2 : RelE X.K ρ' H2 (wipeE env vs0) (wipe σ vs0) := (((S.e.kp k1).kp k').kp k2).wipe vs0
        refine ⟨ρ', st', wipeE env vs0, d, ⟨r2, e2⟩, repI_or ri hpj ht, q'.bind.mono fun env3 st3 q3 ρ3 H3 σ3 r3 k3 e3 w3 => ⟨?_, ?_⟩⟩
        · have := w3 vs0 hsl
          rw [this]
          exact wipe_wipe fun i h => h
        · have kA := (k'.trans k2).trans k3
          have aA := (a'.kp k2).kp k3
          refine ⟨ρ3, st3, env3, ⟨r3, e3⟩, ?_⟩
          rw [evC]
          intro ρ4 H4 r4 k4
          show tI X.K cal NoX i2 σ3 H4 _
          have a4 := aA.kp k4
          refine ⟨ρ4, st3, env3, ⟨r4, e3.kp k4⟩, (evI_pairs (q3.bind.bind)).mono fun J2 st5 ⟨hpj2, q5⟩ ρ5 H5 JJ2 r5 k5 it5 => ?_⟩
          have hs : H4 D0 ≠ none := fun e => by
            obtain ⟨vs, h1, _⟩ := a4.at'
            rw [e] at h1; cases h1
          refine ⟨fun j m' H' => ∃ ρ' st' acc', Rel X.K ρ' st' H' ∧ Kp ρ1 ρ' H1 H' ∧ KpS H4 ρ5 ρ' H5 H' ∧ Acc X.K D0 ρ' H' acc' ∧
              Post NoX (compL J2 as2 (eltD cal cs elt) (wipeE env3 vs1) m' j acc' st') fun acc2 st2 => Post NoX (compL J as el (wipeE env vs0) m (i + 1) acc2 st2) fun ds st2 => WL X.K true ρ H Q (true, ds) st2,
            ⟨J2.len st5 + 1, ρ5, st5, acc, r5, (kA.trans k4).trans k5, .refl, a4.kp k5, q5⟩, fun j m' H6 ⟨ρ6, st6, acc6, r6, k6, ks6, a6, q6⟩ => ?_⟩
          cases m' with
          | zero => exact q6.elim
          | succ m' =>
            have it6 := it5.kp ks6
            obtain ⟨W2, w2, stb2, g1, g2⟩ := it6.w
            rw [compL_succ] at q6
            cases en2 : J2.next j st6 with
            | none => rw [en2] at q6; exact q6.elim
            | some o2 =>
              rw [en2] at q6
              cases o2 with
              | none => exact .inl ⟨g2 ρ6 st6 H6 j w2 r6 en2, ρ6, st6, acc6, r6, k6, a6, q6⟩
              | some d2 =>
                obtain ⟨hgo2, hy2⟩ := g1 ρ6 st6 H6 j d2 w2 r6 en2
                refine .inr ⟨hgo2, fun H7 => ∃ ρ' st' acc', Rel X.K ρ' st' H7 ∧ Kp ρ1 ρ' H1 H7 ∧ KpS H4 ρ5 ρ' H5 H7 ∧ Acc X.K D0 ρ' H7 acc' ∧
                    Post NoX (compL J2 as2 (eltD cal cs elt) (wipeE env3 vs1) m' (j + 1) acc' st') fun acc2 st2 => Post NoX (compL J as el (wipeE env vs0) m (i + 1) acc2 st2) fun ds st2 => WL X.K true ρ H Q (true, ds) st2,
                  fun H7 z => ⟨m', Nat.lt_succ_self m', z⟩, fun x2 H7 y7 => ?_⟩
                obtain ⟨r7, k7, ri7⟩ := hy2 x2 H7 y7
                have e7 : RelE X.K ρ6 H7 (wipeE env3 vs1) (wipe σ3 vs1) := ((((e3.kp k4).kp k5).kpS ks6).kp k7).wipe vs1
                refine ⟨ρ6, st6, wipeE env3 vs1, d2, ⟨r7, e7⟩, repI_or ri7 hpj2 ht2, q6.bind.mono fun env8 st8 q8 ρ8 H8 σ8 r8 k8 e8 w8 => ⟨?_, ?_⟩⟩
                · have := w8 vs1 hsl2
                  rw [this]
                  exact wipe_wipe fun i h => h
                · exact elt_fin (S := ⟨r8, e8⟩) (Hs := H4) ((k6.trans k7).trans k8) ((ks6.trans (.of k7)).trans (.of k8)) hs ((a6.kp k7).kp k8) hD q8.bind fun acc' st' ρ' H' r k ks a z => ⟨ρ', st', acc', r, k, ks, a, z⟩
theorem notSet {it : Expr} (h : isSet it = false) (env : PySem.Env) (x : Value) : foldedSetIterable it env x = pure x := by
  cases it <;> first | rfl | cases h
/-- a part in every block -/
abbrev Blk (X : Cx) (scope : Scope) (P : Cx → Prop) : Prop := ∀ (s : Shared) (H : Hp) (D : Addr) (cl : List (Str × Addr)) (fp : List Addr), P (X.blk s H scope (compEnvC scope cl D X.env) fp)
theorem pts_ofX {Y : Cx} {es : Es} {xs : List Expr} (h : DEs Y cal es xs) (hn : es.noStar = true) (hl : es.len ≤ 1) : PTs Y xs (PyD.tC Y.K cal NoX es) := pts_of h hn hl
theorem dl_comp {own : List (Str × Nat)} {t : T} {i : I} {cs : Es} {elt : E} {y tg it : Expr} {ifs : List Expr} {scope : Scope} {pos : Pos} (G : Good c C cal k X) (ok : blkC X.N X.env.scope scope own = true) (ht : i.pairs = true → t.isTp = true) (hsl : subL t.slots (own.map (·.2)) = true) (hs : isSet it = false)
    (hi : DI X cal i tg it) (hg : Blk X scope fun Y => DT Y cal t tg) (hc : Blk X scope fun Y => DEs Y cal cs ifs) (hn : cs.noStar = true) (hl : cs.len ≤ 1) (he : Blk X scope fun Y => DE Y cal elt y) : DL X cal (.comp own t i cs elt) (.ListComp y [⟨tg, it, ifs, 0⟩] scope pos) := by
  refine PE.imp (pe_lc (g := tT X.K cal NoX t) (tt := PyD.tC X.K cal NoX cs) (te := tE X.K cal NoX elt) G.calm (by rw [G.N]; exact G.nd) hi (blkOk_by ok) (fun s H D cl fp => hg s H D cl fp) (fun s H D cl fp => pts_ofX (hc s H D cl fp) hn hl) (fun s H D cl fp => (he s H D cl fp).1) (notSet hs X.env)) (lc_ok ht hsl)
theorem dl_comp2 {own : List (Str × Nat)} {vs1 : List Nat} {t t2 : T} {i i2 : I} {cs : Es} {elt : E} {y tg it tg2 it2 : Expr} {ifs : List Expr} {scope : Scope} {pos : Pos} (G : Good c C cal k X) (ok : blkC X.N X.env.scope scope own = true) (ht : i.pairs = true → t.isTp = true) (ht2 : i2.pairs = true → t2.isTp = true)
    (hsl : subL t.slots (own.map (·.2)) = true) (hsl2 : subL t2.slots vs1 = true) (hv : subL vs1 (own.map (·.2)) = true) (hs : isSet it = false) (hs2 : isSet it2 = false)
    (hi : DI X cal i tg it) (hg : Blk X scope fun Y => DT Y cal t tg) (hi2 : Blk X scope fun Y => DI Y cal i2 tg2 it2) (hg2 : Blk X scope fun Y => DT Y cal t2 tg2) (hc : Blk X scope fun Y => DEs Y cal cs ifs) (hn : cs.noStar = true) (hl : cs.len ≤ 1) (he : Blk X scope fun Y => DE Y cal elt y) :
    DL X cal (.comp2 own vs1 t i t2 i2 cs elt) (.ListComp y [⟨tg, it, [], 0⟩, ⟨tg2, it2, ifs, 0⟩] scope pos) := by
  refine PE.imp (pe_lc2 (g := tT X.K cal NoX t) (tt := PyD.tC X.K cal NoX .nil) (wi1 := tI X.K cal NoX i2) (g1 := tT X.K cal NoX t2) (tt1 := PyD.tC X.K cal NoX cs) (te := tE X.K cal NoX elt) G.calm (by rw [G.N]; exact G.nd) hi (blkOk_by ok) (subL_mem hv)
    (fun s H D cl fp => hg s H D cl fp) (fun s H D cl fp => pts_ofX (es := .nil) (show _ = _ from rfl) rfl (Nat.zero_le _)) (fun s H D cl fp => hi2 s H D cl fp) (fun s H D cl fp => hg2 s H D cl fp) (fun s H D cl fp => pts_ofX (hc s H D cl fp) hn hl) (fun s H D cl fp => (he s H D cl fp).1) (notSet hs X.env) (fun env x => notSet hs2 env x)) (lc2_ok ht ht2 hsl hsl2)
end
end PyD
namespace PyD
open PySem PySem.Spec PyProof.Rows L2
section
variable {X : Cx} {cal : Cal} {C : CXT} {k : Nat} {c : CC}
abbrev DS (X : Cx) (cal : Cal) (s : S) (x : Stmt) : Prop := PS X x (tS X.K cal NoX s)
abbrev DSs (X : Cx) (cal : Cal) (ss : Ss) (xs : List Stmt) : Prop := PSs X xs (tSs X.K cal NoX ss)
theorem WS.kp {K : PySem.W.Frag} {D : Ends} {ρ ρ2 : List Addr} {H H2 : Hp} {r : Fl × Env} {s : Store} (w : WS K D ρ H r s) (k : Kp ρ ρ2 H H2) : WS K D ρ2 H2 r s := fun ρ' H' σ' r' k2 e => w ρ' H' σ' r' (k.trans k2) e
theorem ds_never {x : Stmt} : DS X cal .never x := ⟨fun pins s σ H D I ⟨ρ, st, env, S, p⟩ => by rw [evS] at p; exact p.elim⟩
theorem ds_pass {pos : Pos} : DS X cal .pass (.Pass pos) := PS.imp ps_pass fun D σ H ⟨ρ, st, env, S, p⟩ => by
  rw [evS] at p
  exact (show WS X.K D ρ H (.nx, env) st from p) ρ H σ S.r .refl S.e
theorem ds_ex {e : E} {v : Expr} {pos : Pos} (h : DE X cal e v) (hc : isComp v = false) : DS X cal (.ex e) (.Expr v pos) :=
  PS.imp (ps_expr h.1 (by cases v <;> first | rfl | cases hc)) fun D σ H ⟨ρ, st, env, S, p⟩ => by
    refine tE.of S (by rw [evS] at p; exact p) fun d s ρ1 H1 v S1 k1 rv q1 => ?_
    exact (show WS X.K D ρ H (.nx, env) s from q1) ρ1 H1 σ S1.r k1 S1.e
theorem ds_ret {e : E} {v : Expr} {pos : Pos} (h : DE X cal e v) : DS X cal (.ret e) (.Return (some v) pos) :=
  PS.imp (ps_ret h.1) fun D σ H ⟨ρ, st, env, S, p⟩ => by
    refine tE.of S (by rw [evS] at p; exact p) fun d s ρ1 H1 v S1 k1 rv q1 => ?_
    exact (show WS X.K D ρ H (.rt d, env) s from q1) ρ1 H1 σ S1.r k1 S1.e v rv
theorem ds_retN {pos : Pos} : DS X cal .retN (.Return none pos) := PS.imp ps_retN fun D σ H ⟨ρ, st, env, S, p⟩ => by
  rw [evS] at p
  exact (show WS X.K D ρ H (.rt .non, env) st from p) ρ H σ S.r .refl S.e _ .non
theorem ds_ifs {e : E} {a b : Ss} {y : Expr} {p q : List Stmt} {pos : Pos} (h : DE X cal e y) (ha : DSs X cal a p) (hb : DSs X cal b q) : DS X cal (.ifs e a b) (.If y p q pos) :=
  PS.imp (ps_if h.2 ha hb) fun D σ H ⟨ρ, st, env, S, p⟩ => by
    refine tE.of S (by rw [evS] at p; exact p) fun d s ρ1 H1 v S1 k1 rv q1 => ?_
    split at q1
    · exact ⟨true, repV_bl rv, ρ1, s, env, S1, q1.mono fun _ _ w => w.kp k1⟩
    · exact ⟨false, repV_bl rv, ρ1, s, env, S1, q1.mono fun _ _ w => w.kp k1⟩
    · exact q1.elim
theorem dss_nil : DSs X cal .nil [] := PSs.imp pss_nil fun D σ H ⟨ρ, st, env, S, p⟩ => by
  rw [evSs] at p
  exact (show WS X.K D ρ H (.nx, env) st from p) ρ H σ S.r .refl S.e
theorem dss_cons {s : S} {ss : Ss} {x : Stmt} {xs : List Stmt} (h : DS X cal s x) (hs : DSs X cal ss xs) : DSs X cal (.cons s ss) (x :: xs) :=
  PSs.imp (pss_cons h hs) fun D σ H ⟨ρ, st, env, S, p⟩ => by
    rw [evSs] at p
    refine ⟨ρ, st, env, S, p.bind.mono fun r s1 q ρ1 H1 σ1 r1 k1 e1 => ?_⟩
    obtain ⟨f, env1⟩ := r
    cases f with
    | nx => exact ⟨ρ1, s1, env1, ⟨r1, e1⟩, (show Post NoX (evSs cal ss env1 s1) (WS X.K D ρ H) from q).mono fun _ _ w => w.kp k1⟩
    | rt d => exact (show WS X.K D ρ H (.rt d, env1) s1 from q) ρ1 H1 σ1 r1 k1 e1
    | bk => exact (show WS X.K D ρ H (.bk, env1) s1 from q) ρ1 H1 σ1 r1 k1 e1
    | ct => exact (show WS X.K D ρ H (.ct, env1) s1 from q) ρ1 H1 σ1 r1 k1 e1
theorem forL_succ {J : It} {as : D → Env → Store → R Env} {body : Env → Store → R (Fl × Env)} {n i : Nat} {env : Env} {st : Store} : forL J as body (n + 1) i env st = match J.next i st with
    | none => .stuck
    | some none => .ok (.nx, env) st
    | some (some d) => (as d env st).bind fun env1 st1 => (body env1 st1).bind fun r st2 =>
      match r with
      | (.nx, env2) => forL J as body n (i + 1) env2 st2
      | (.ct, env2) => forL J as body n (i + 1) env2 st2
      | (.bk, env2) => .ok (.nx, env2) st2
      | (.rt d, env2) => .ok (.rt d, env2) st2 := rfl
theorem ds_for {t : T} {i : I} {b : Ss} {tg it : Expr} {body : List Stmt} {pos : Pos} (hc : X.calm = true) (po : PassesOwn (model X.prog X.w) X.A X.env X.xe) (ht : i.pairs = true → t.isTp = true) (hs : isSet it = false)
    (hi : DI X cal i tg it) (hg : DT X cal t tg) (hb : DSs X cal b body) : DS X cal (.for t i b) (.For tg it body [] pos) := by
  refine PS.imp (ps_for po hc hi hg hb (notSet hs X.env)) fun DD σ H ⟨ρ, st, env, S, p⟩ => ?_
  rw [evS] at p
  refine ⟨ρ, st, env, S, (evI_pairs p.bind).mono fun J st1 ⟨hpj, q⟩ ρ1 H1 JJ r1 k1 it => ?_⟩
  let as : D → Env → Store → R Env := fun d env st => asT cal t d env st
  let bd : Env → Store → R (Fl × Env) := fun env st => evSs cal b env st
  refine ⟨fun i m σ' H' => ∃ ρ' st' env', Sta X.K ρ' st' env' σ' H' ∧ Kp ρ1 ρ' H1 H' ∧ Post NoX (forL J as bd m i env' st') (WS X.K DD ρ H),
    ⟨J.len st1 + 1, ρ1, st1, env, S.next r1 k1, .refl, q⟩, fun i m σ' H' ⟨ρ', st', env', S', k', q'⟩ => ?_⟩
  cases m with
  | zero => exact q'.elim
  | succ m =>
    have it' := it.kp (.of k')
    obtain ⟨W, w, stb, f1, f2⟩ := it'.w
    rw [forL_succ] at q'
    cases en : J.next i st' with
    | none => rw [en] at q'; exact q'.elim
    | some o =>
      rw [en] at q'
      cases o with
      | none => exact .inl ⟨f2 ρ' st' H' i w S'.r en, (show WS X.K DD ρ H (.nx, env') st' from q') ρ' H' σ' S'.r (k1.trans k') S'.e⟩
      | some d =>
        obtain ⟨hgo, hy⟩ := f1 ρ' st' H' i d w S'.r en
        refine .inr ⟨hgo, fun σ2 H2 => ∃ ρ2 st2 env2, Sta X.K ρ2 st2 env2 σ2 H2 ∧ Kp ρ1 ρ2 H1 H2 ∧ Post NoX (forL J as bd m (i + 1) env2 st2) (WS X.K DD ρ H),
          fun σ2 H2 z => ⟨m, Nat.lt_succ_self m, z⟩, fun x H2 y2 => ?_⟩
        obtain ⟨r2, k2, ri⟩ := hy x H2 y2
        refine ⟨ρ', st', env', d, ⟨r2, S'.e.kp k2⟩, repI_or ri hpj ht, q'.bind.mono fun env3 st3 q3 ρ3 H3 σ3 r3 k3 e3 w3 => ?_⟩
        refine ⟨ρ3, st3, env3, ⟨r3, e3⟩, q3.bind.mono fun r st4 q4 ρ4 H4 σ4 r4 k4 e4 => ?_⟩
        have kk := ((k'.trans k2).trans k3).trans k4
        obtain ⟨f, env4⟩ := r
        cases f with
        | nx => exact ⟨ρ4, st4, env4, ⟨r4, e4⟩, kk, q4⟩
        | ct => exact ⟨ρ4, st4, env4, ⟨r4, e4⟩, kk, q4⟩
        | bk => exact (show WS X.K DD ρ H (.nx, env4) st4 from q4) ρ4 H4 σ4 r4 (k1.trans kk) e4
        | rt d => exact (show WS X.K DD ρ H (.rt d, env4) st4 from q4) ρ4 H4 σ4 r4 (k1.trans kk) e4
theorem whileL_succ {cc : Env → Store → R D} {body : Env → Store → R (Fl × Env)} {n : Nat} {env : Env} {st : Store} : whileL cc body (n + 1) env st = (cc env st).bind fun b st1 =>
    match b with
    | .bl true => (body env st1).bind fun r st2 =>
      match r with
      | (.nx, env2) => whileL cc body n env2 st2
      | (.ct, env2) => whileL cc body n env2 st2
      | (.bk, env2) => .ok (.nx, env2) st2
      | (.rt d, env2) => .ok (.rt d, env2) st2
    | .bl false => .ok (.nx, env) st1
    | _ => .stuck := rfl
theorem ds_while {e : E} {b : Ss} {y : Expr} {body : List Stmt} {pos : Pos} (po : PassesOwn (model X.prog X.w) X.A X.env X.xe) (he : DE X cal e y) (hb : DSs X cal b body) : DS X cal (.whil e b) (.While y body [] pos) := by
  refine PS.imp (ps_while po he.2 hb) fun DD σ H ⟨ρ, st, env, S, p⟩ => ?_
  rw [evS] at p
  let cc : Env → Store → R D := fun env st => evE cal e env st
  let bd : Env → Store → R (Fl × Env) := fun env st => evSs cal b env st
  refine ⟨fun m σ' H' => ∃ ρ' st' env', Sta X.K ρ' st' env' σ' H' ∧ Kp ρ ρ' H H' ∧ Post NoX (whileL cc bd m env' st') (WS X.K DD ρ H), ⟨fuelW, ρ, st, env, S, .refl, p⟩, fun m σ' H' ⟨ρ', st', env', S', k', q'⟩ => ?_⟩
  cases m with
  | zero => exact q'.elim
  | succ m =>
    rw [whileL_succ] at q'
    refine tE.of S' q' fun d s ρ1 H1 v S1 k1 rv q1 => ?_
    split at q1
    · refine ⟨true, repV_bl rv, ?_⟩
      simp only [if_true]
      refine ⟨fun σ2 H2 => ∃ ρ2 st2 env2, Sta X.K ρ2 st2 env2 σ2 H2 ∧ Kp ρ ρ2 H H2 ∧ Post NoX (whileL cc bd m env2 st2) (WS X.K DD ρ H), fun σ2 H2 z => ⟨m, Nat.lt_succ_self m, z⟩, ?_⟩
      refine ⟨ρ1, s, env', S1, q1.bind.mono fun r st4 q4 ρ4 H4 σ4 r4 k4 e4 => ?_⟩
      have kk := (k'.trans k1).trans k4
      obtain ⟨f, env4⟩ := r
      cases f with
      | nx => exact ⟨ρ4, st4, env4, ⟨r4, e4⟩, kk, q4⟩
      | ct => exact ⟨ρ4, st4, env4, ⟨r4, e4⟩, kk, q4⟩
      | bk => exact (show WS X.K DD ρ H (.nx, env4) st4 from q4) ρ4 H4 σ4 r4 kk e4
      | rt d => exact (show WS X.K DD ρ H (.rt d, env4) st4 from q4) ρ4 H4 σ4 r4 kk e4
    · refine ⟨false, repV_bl rv, ?_⟩
      simp only [Bool.false_eq_true, if_false]
      exact (show WS X.K DD ρ H (.nx, env') s from q1) ρ1 H1 σ' S1.r (k'.trans k1) S1.e
    · exact q1.elim
theorem asg_read {e : E} {t : T} {D : Ends} {σ : L2.St} {H : Hp} (h : tS X.K cal NoX (.asg t e) D σ H) : tE X.K cal NoX e σ H fun x H1 => tT X.K cal NoX t x σ H1 D.nx := by
  obtain ⟨ρ, st, env, S, p⟩ := h
  refine tE.of S (by rw [evS] at p; exact p) fun d s ρ1 H1 v S1 k1 rv q1 => ?_
  exact ⟨ρ1, s, env, d, S1, .inl rv, q1.bind.mono fun env2 s2 q2 ρ2 H2 σ2 r2 k2 e2 _ => (show WS X.K D ρ H (.nx, env2) s2 from q2) ρ2 H2 σ2 r2 (k1.trans k2) e2⟩
theorem ds_asg {e : E} {t : T} {tg v : Expr} {pos : Pos} (he : DE X cal e v) (hg : DT X cal t tg) (hs : swapsWithSole [tg] v pos.line X.env = pure false) (hw : swappedStores [tg] v X.env = pure none) (h1 : (assignEach [tg] X.env).map (·.2) = [assign tg X.env]) :
    DS X cal (.asg t e) (.Assign [tg] v pos) := PS.imp (ps_asg he.1 hg hs hw h1) fun D σ H h => asg_read h
theorem nm_read {i : Nat} {x : V} {σ : L2.St} {H : Hp} {Q : L2.St → Hp → Prop} (h : tT X.K cal NoX (.nm i) x σ H Q) : gName i x σ H Q := by
  obtain ⟨ρ, st, env, d, S, rv, p⟩ := h
  rcases rv with rv | ⟨e, _⟩
  · rw [asT] at p
    exact (show WT X.K [i] ρ H σ Q (env.set i (some d)) st from p) ρ H _ S.r .refl (S.e.set i rv) fun own ho => wipe_set (subL_mem ho i (by simp))
  · cases e
theorem ds_set {e : E} {i : Nat} {x : Str} {v : Expr} {pos pos' : Pos} (hN : X.N.Nodup) (hi : X.N[i]? = some x) (hx : Loc X.env.scope x) (hf : X.fn x = true ∨ X.env.scope.names.lookup x = some .local) (he : DE X cal e v) (hs : isComp v = false) :
    DS X cal (.asg (.nm i) e) (.Assign [.Name x pos'] v pos) :=
  PS.imp (ps_set hN hi hx he.1 (by cases v <;> first | rfl | cases hs) hf) fun D σ H h => tE_imp (asg_read h) fun v H1 q => nm_read q
where
  tE_imp {e : E} {σ : L2.St} {H : Hp} {Q Q' : VK} (h : tE X.K cal NoX e σ H Q) (f : ∀ v H, Q v H → Q' v H) : tE X.K cal NoX e σ H Q' := by
    obtain ⟨ρ, st, env, S, p⟩ := h
    exact ⟨ρ, st, env, S, p.mono fun d s w ρ' H' v r k rv => f v H' (w ρ' H' v r k rv)⟩
/-- the list, then the name -/
theorem lsc_read {l : L} {i : Nat} (hf : l.fresh = true) {D : Ends} {σ : L2.St} {H : Hp} (h : tS X.K cal NoX (.asg (.nm i) (.ls l)) D σ H) : tL X.K cal NoX l σ H fun x H1 => gName i x σ H1 D.nx := by
  obtain ⟨ρ, st, env, S, p⟩ := asg_read h
  rw [evE] at p
  refine tL.of S p fun r s ρ1 H1 p1 vs S1 k1 rv h1 h2 h3 q1 => ?_
  split at q1
  · rename_i e
    obtain ⟨f1, f2, f3⟩ := h3 hf e
    refine nm_read (q1 (ρ1 ++ [p1]) H1 _ (S1.r.push f3 f2 (.lst rv)) (k1.push f1) (.ref ?_))
    rw [← S1.r.len, List.getElem?_append_right (Nat.le_refl _)]
    simp
  · exact q1.elim
/-- a list just made is frozen behind the store -/
def FzS (nx : L2.St → Hp → Prop) : L2.St → Hp → Prop := fun σ H => ∃ p vs, H p = some (.lst vs) ∧ ∀ o, nx σ (upd H p (.frz o (.lst vs)))
theorem ps_fz {x : Stmt} {t : TS} (h : PS X x t) : PS X x (fun D σ H => t { D with nx := FzS D.nx } σ H) := by
  refine ⟨fun pins s σ H D I q => thn (h.run pins s σ H { D with nx := FzS D.nx } I q) fun f s1 z => ?_⟩
  cases f with
  | next =>
    obtain ⟨σ', H', I', p, vs, e, z⟩ := z
    obtain ⟨o, I2⟩ := Inv.freeze I' e
    exact ⟨σ', _, I2, z o⟩
  | ret v => exact z
  | brk => exact z
  | cont => exact z
theorem fzc_read {l : L} {i : Nat} (hf : l.fresh = true) {D : Ends} {σ : L2.St} {H : Hp} (h : tS X.K cal NoX (.asg (.nm i) (.fz l)) D σ H) : tL X.K cal NoX l σ H fun x H1 => gName i x σ H1 (FzS D.nx) := by
  obtain ⟨ρ, st, env, S, p⟩ := asg_read h
  rw [evE] at p
  refine tL.of S p fun r s ρ1 H1 p1 vs S1 k1 rv h1 h2 h3 q1 => ?_
  split at q1
  · rename_i e
    obtain ⟨f1, f2, f3⟩ := h3 hf e
    obtain ⟨p', vs', e1, e2, z⟩ := fz_new q1 S1.r k1 rv f1 f2 f3
    cases e1
    exact ⟨p1, vs', e2, fun o => nm_read (z o)⟩
  · exact q1.elim
theorem blk_fn {env : PySem.Env} (hk : env.scope.kind = .function) : env.blockKind = .function := by
  unfold Env.blockKind
  rw [hk]
  rfl
theorem isLocal_eq (sc : Scope) (x : Str) : (sc.names.lookup x == some NameKind.local) = isLocal sc x := by
  unfold isLocal
  cases e : sc.names.lookup x with
  | none => rfl
  | some k => cases k <;> rfl
theorem sw_eq {elt : Expr} {gens : List Comprehension} {scope : Scope} {pos py : Pos} {x : Str} {line : Nat} (hk : X.env.scope.kind = .function) :
    swapsWith (.ListComp elt gens scope pos) (some (.Name x py)) line X.env = pure (swB X.env.scope (.ListComp elt gens scope pos) x py) := by
  show pure (X.env.blockKind == .function && X.env.kindOf x == some .local && py.line == pos.line && !(scope.names.any fun (n, k) => n == x && (k == .local || k == .cell))) = _
  rw [blk_fn hk]
  show pure (true && (X.env.scope.names.lookup x == some NameKind.local) && py.line == pos.line && !(scope.names.any fun (n, k) => n == x && (k == .local || k == .cell))) = _
  rw [isLocal_eq, Bool.true_and]
  rfl
theorem swapped_eq {ts vs : List Expr} {a c : Nat} {b d : Pos} (hk : X.env.scope.kind = .function) {r : Option (List Str)} (h : swapF X.env.scope ts vs = some r) :
    swappedStores [.Tuple ts a b] (.Tuple vs c d) X.env = pure r := by
  unfold swapF at h
  show (do
    if !(ts.length == 2 || ts.length == 3) || vs.length != ts.length || X.env.blockKind != .function then return none
    if vs.any fun | .Starred .. => true | _ => false then return none
    let line := (ts.head?.map (·.pos.line)).getD 0
    let names := ts.filterMap fun
      | .Name id pos => if X.env.kindOf id == some .local && pos.line == line then some id else none
      | _ => none
    if names.length != ts.length || names.eraseDups.length != names.length then return none
    if vs.all (foldedForSure 8) then return none
    if vs.all (constantsAlone 8) then unsupported "assign.tuple-of-constant-expressions:order-of-the-stores"
    return some names : Sem (Option (List Str))) = pure r
  rw [blk_fn hk]
  have e0 : (ScopeKind.function != ScopeKind.function) = false := rfl
  rw [e0, Bool.or_false]
  have step : ∀ (p : Bool) (x : Option (Option (List Str))) (y : Sem (Option (List Str))), (if p = true then some none else x) = some r → (p = false → x = some r → y = pure r) → (if p = true then pure none else y) = pure r := by
    intro p x y h1 h2
    cases p with
    | true => simp at h1; subst h1; rfl
    | false => simpa using h2 rfl (by simpa using h1)
  refine step _ _ _ h fun _ h => ?_
  refine step _ _ _ h fun _ h => ?_
  refine step _ _ _ h fun _ h => ?_
  refine step _ _ _ h fun _ h => ?_
  cases e : vs.all (constantsAlone 8) with
  | true => rw [e] at h; simp at h
  | false =>
    rw [e] at h
    simp only [Bool.false_eq_true, if_false, Option.some.injEq] at h ⊢
    rw [← h]
    rfl
/-- behind a swap's row of stores -/
theorem par_read {es : Es} {t : T} {D : Ends} {σ : L2.St} {H : Hp} (h : tS X.K cal NoX (.asg t (.tup es)) D σ H) : tEs X.K cal NoX es σ H fun vs H1 => ∃ ρ st env ds, Sta X.K ρ st env σ H1 ∧ RepVs X.K ρ H1 ds vs ∧
    Post NoX (asT cal t (.tup ds) env st) fun env2 s2 => ∀ ρ' H' σ', Rel X.K ρ' s2 H' → Kp ρ ρ' H1 H' → RelE X.K ρ' H' env2 σ' → D.nx σ' H' := by
  obtain ⟨ρ, st, env, S, p⟩ := h
  rw [evS] at p
  have p' := p.bind
  rw [evE] at p'
  refine tEs.of S p' fun ds s ρ1 H1 vs S1 k1 rvs q1 => ?_
  split at q1
  · exact ⟨ρ1, s, env, ds, S1, rvs, (show Post NoX ((asT cal t (.tup ds) env s).bind fun env1 st2 => .ok (.nx, env1) st2) (WS X.K D ρ H) from q1).bind.mono fun env2 s2 w ρ' H' σ' r k e => (show WS X.K D ρ H (.nx, env2) s2 from w) ρ' H' σ' r (k1.trans k) e⟩
  · exact q1.elim
theorem ds_par {es : Es} {i j : Nat} {x y : Str} {a b : Expr} {px py pt pos : Pos} {kt k2 pt2} (hc : X.calm = true) (hN : X.N.Nodup) (hi : X.N[i]? = some x) (hj : X.N[j]? = some y) (hxy : x ≠ y) (hx : X.env.scope.names.lookup x = some .local) (hy : X.env.scope.names.lookup y = some .local)
    (he : DEs X cal es [a, b]) (hw : swappedStores [.Tuple [.Name x px, .Name y py] kt pt] (.Tuple [a, b] k2 pt2) X.env = pure (some [x, y])) :
    DS X cal (.asg (.tp (.cons (.nm i) (.cons (.nm j) .nil))) (.tup es)) (.Assign [.Tuple [.Name x px, .Name y py] kt pt] (.Tuple [a, b] k2 pt2) pos) := by
  have hij : i ≠ j := fun e => hxy (by rw [e, hj] at hi; exact (Option.some.inj hi).symm)
  refine PS.imp (ps_par hc hN hi hj hij hx hy (pa_of he) hw rfl) fun D σ H h => ?_
  obtain ⟨ρ, st, env, S, p⟩ := par_read h
  refine ⟨ρ, st, env, S, p.mono fun ds s w ρ1 H1 vs r k rv => ?_⟩
  obtain ⟨ρ2, s2, env2, ds2, S2, rv2, q⟩ := w ρ1 H1 vs r k rv
  simp only [asT] at q
  cases rv2 with
  | nil => simp only [asTs] at q; exact q.elim
  | @cons d v ds vs rd rds =>
    cases rds with
    | nil => simp only [asTs, asT, R.bind] at q; exact q.elim
    | @cons d2 v2 ds vs rd2 rds =>
      cases rds with
      | cons _ _ => simp only [asTs, asT, R.bind] at q; exact q.elim
      | nil =>
        simp only [asTs, asT, R.bind] at q
        exact ⟨v, v2, rfl, (show ∀ ρ' H' σ', Rel X.K ρ' s2 H' → Kp ρ2 ρ' H1 H' → RelE X.K ρ' H' ((env2.set i (some d)).set j (some d2)) σ' → D.nx σ' H' from q) ρ2 H1 _ S2.r .refl ((S2.e.set i rd).set j rd2)⟩
theorem ds_par3 {es : Es} {i j l : Nat} {x y z : Str} {a b d : Expr} {px py pz pt pos : Pos} {kt k2 pt2} (hc : X.calm = true) (hN : X.N.Nodup) (hi : X.N[i]? = some x) (hj : X.N[j]? = some y) (hl : X.N[l]? = some z) (hxy : x ≠ y) (hxz : x ≠ z) (hyz : y ≠ z)
    (hx : X.env.scope.names.lookup x = some .local) (hy : X.env.scope.names.lookup y = some .local) (hz : X.env.scope.names.lookup z = some .local)
    (he : DEs X cal es [a, b, d]) (hw : swappedStores [.Tuple [.Name x px, .Name y py, .Name z pz] kt pt] (.Tuple [a, b, d] k2 pt2) X.env = pure (some [x, y, z])) :
    DS X cal (.asg (.tp (.cons (.nm i) (.cons (.nm j) (.cons (.nm l) .nil)))) (.tup es)) (.Assign [.Tuple [.Name x px, .Name y py, .Name z pz] kt pt] (.Tuple [a, b, d] k2 pt2) pos) := by
  have ne : ∀ {i j : Nat} {x y : Str}, X.N[i]? = some x → X.N[j]? = some y → x ≠ y → i ≠ j := fun hi hj h e => h (by rw [e, hj] at hi; exact (Option.some.inj hi).symm)
  refine PS.imp (ps_par3 hc hN hi hj hl (ne hi hj hxy) (ne hi hl hxz) (ne hj hl hyz) hx hy hz (pa_of he) hw rfl) fun D σ H h => ?_
  obtain ⟨ρ, st, env, S, p⟩ := par_read h
  refine ⟨ρ, st, env, S, p.mono fun ds s w ρ1 H1 vs r k rv => ?_⟩
  obtain ⟨ρ2, s2, env2, ds2, S2, rv2, q⟩ := w ρ1 H1 vs r k rv
  simp only [asT] at q
  cases rv2 with
  | nil => simp only [asTs] at q; exact q.elim
  | @cons d v ds vs rd rds =>
    cases rds with
    | nil => simp only [asTs, asT, R.bind] at q; exact q.elim
    | @cons d2 v2 ds vs rd2 rds =>
      cases rds with
      | nil => simp only [asTs, asT, R.bind] at q; exact q.elim
      | @cons d3 v3 ds vs rd3 rds =>
        cases rds with
        | cons _ _ => simp only [asTs, asT, R.bind] at q; exact q.elim
        | nil =>
          simp only [asTs, asT, R.bind] at q
          exact ⟨v, v2, v3, rfl, (show ∀ ρ' H' σ', Rel X.K ρ' s2 H' → Kp ρ2 ρ' H1 H' → RelE X.K ρ' H' (((env2.set i (some d)).set j (some d2)).set l (some d3)) σ' → D.nx σ' H' from q) ρ2 H1 _ S2.r .refl (((S2.e.set i rd).set j rd2).set l rd3)⟩
/-- a comprehension's parts -/
def CP1 (X : Cx) (cal : Cal) (own : List (Str × Nat)) (t : T) (i : I) (cs : Es) (elt : E) (v : Expr) : Prop := ∃ y tg it ifs scope pos, v = .ListComp y [⟨tg, it, ifs, 0⟩] scope pos ∧ blkC X.N X.env.scope scope own = true ∧ (i.pairs = true → t.isTp = true) ∧ subL t.slots (own.map (·.2)) = true ∧ isSet it = false ∧
  DI X cal i tg it ∧ (Blk X scope fun Y => DT Y cal t tg) ∧ (Blk X scope fun Y => DEs Y cal cs ifs) ∧ cs.noStar = true ∧ cs.len ≤ 1 ∧ Blk X scope fun Y => DE Y cal elt y
def CP2 (X : Cx) (cal : Cal) (own : List (Str × Nat)) (vs1 : List Nat) (t : T) (i : I) (t2 : T) (i2 : I) (cs : Es) (elt : E) (v : Expr) : Prop := ∃ y tg it tg2 it2 ifs scope pos, v = .ListComp y [⟨tg, it, [], 0⟩, ⟨tg2, it2, ifs, 0⟩] scope pos ∧ blkC X.N X.env.scope scope own = true ∧
  (i.pairs = true → t.isTp = true) ∧ (i2.pairs = true → t2.isTp = true) ∧ subL t.slots (own.map (·.2)) = true ∧ subL t2.slots vs1 = true ∧ subL vs1 (own.map (·.2)) = true ∧ isSet it = false ∧ isSet it2 = false ∧
  DI X cal i tg it ∧ (Blk X scope fun Y => DT Y cal t tg) ∧ (Blk X scope fun Y => DI Y cal i2 tg2 it2) ∧ (Blk X scope fun Y => DT Y cal t2 tg2) ∧ (Blk X scope fun Y => DEs Y cal cs ifs) ∧ cs.noStar = true ∧ cs.len ≤ 1 ∧ Blk X scope fun Y => DE Y cal elt y
theorem CP1.dl {own : List (Str × Nat)} {t : T} {i : I} {cs : Es} {elt : E} {v : Expr} (G : Good c C cal k X) (h : CP1 X cal own t i cs elt v) : DL X cal (.comp own t i cs elt) v := by
  obtain ⟨y, tg, it, ifs, scope, pos, rfl, h1, h2, h3, h4, h5, h6, h7, h8, h9, h10⟩ := h
  exact dl_comp G h1 h2 h3 h4 h5 h6 h7 h8 h9 h10
theorem CP2.dl {own : List (Str × Nat)} {vs1 : List Nat} {t : T} {i : I} {t2 : T} {i2 : I} {cs : Es} {elt : E} {v : Expr} (G : Good c C cal k X) (h : CP2 X cal own vs1 t i t2 i2 cs elt v) : DL X cal (.comp2 own vs1 t i t2 i2 cs elt) v := by
  obtain ⟨y, tg, it, tg2, it2, ifs, scope, pos, rfl, h1, h2, h3, h4, h5, h6, h7, h8, h9, h10, h11, h12, h13, h14, h15, h16⟩ := h
  exact dl_comp2 G h1 h2 h3 h4 h5 h6 h7 h8 h9 h10 h11 h12 h13 h14 h15 h16
theorem isLocal_of_sw {sc : Scope} {v : Expr} {x : Str} {p : Pos} (h : swB sc v x p = true) : isLocal sc x = true := by
  unfold swB at h
  split at h
  · simp only [Bool.and_eq_true] at h
    exact h.1.1
  · cases h
theorem tOk_self (hf : ∀ x, X.fn x = true) : TOk X X.env.scope := fun x hx => ⟨loc_of hx, .inl (hf x)⟩
/-- name = a comprehension -/
theorem ds_comp {own : List (Str × Nat)} {t : T} {i : I} {cs : Es} {elt : E} {v : Expr} {j : Nat} {x : Str} {pos pos' : Pos} (G : Good c C cal k X) (hf : ∀ x, X.fn x = true) (hj : X.N[j]? = some x) (hx : locB X.env.scope x = true) (h : CP1 X cal own t i cs elt v) :
    DS X cal (.asg (.nm j) (.ls (.comp own t i cs elt))) (.Assign [.Name x pos'] v pos) := by
  have hN : X.N.Nodup := by rw [G.N]; exact G.nd
  have hl := h.dl G
  obtain ⟨y, tg, it, ifs, scope, lpos, rfl, h1, h2, h3, h4, h5, h6, h7, h8, h9, h10⟩ := h
  cases e : swB X.env.scope (.ListComp y [⟨tg, it, ifs, 0⟩] scope lpos) x pos' with
  | true =>
    refine PS.imp (ps_setLc (g := tT X.K cal NoX t) (tt := PyD.tC X.K cal NoX cs) (te := tE X.K cal NoX elt) G.calm hN hj (local_of (isLocal_of_sw e)) (by rw [sw_eq G.kind, e]) h5 (blkOk_by h1) (fun s H D cl fp => h6 s H D cl fp) (fun s H D cl fp => pts_ofX (h7 s H D cl fp) h8 h9) (fun s H D cl fp => (h10 s H D cl fp).1) (notSet h4 X.env)) fun D σ H h => ?_
    exact lc_ok h2 h3 σ H _ (lsc_read rfl h)
  | false =>
    refine PS.imp (ps_set hN hj (loc_of hx) hl (by rw [sw_eq G.kind, e]) (.inl (hf x))) fun D σ H h => ?_
    exact lsc_read rfl h
theorem ds_comp2 {own : List (Str × Nat)} {vs1 : List Nat} {t : T} {i : I} {t2 : T} {i2 : I} {cs : Es} {elt : E} {v : Expr} {j : Nat} {x : Str} {pos pos' : Pos} (G : Good c C cal k X) (hf : ∀ x, X.fn x = true) (hj : X.N[j]? = some x) (hx : locB X.env.scope x = true) (h : CP2 X cal own vs1 t i t2 i2 cs elt v) :
    DS X cal (.asg (.nm j) (.ls (.comp2 own vs1 t i t2 i2 cs elt))) (.Assign [.Name x pos'] v pos) := by
  have hN : X.N.Nodup := by rw [G.N]; exact G.nd
  have hl := h.dl G
  obtain ⟨y, tg, it, tg2, it2, ifs, scope, lpos, rfl, h1, h2, h3, h4, h5, h6, h7, h8, h9, h10, h11, h12, h13, h14, h15, h16⟩ := h
  cases e : swB X.env.scope (.ListComp y [⟨tg, it, [], 0⟩, ⟨tg2, it2, ifs, 0⟩] scope lpos) x pos' with
  | true =>
    refine PS.imp (ps_setLc2 (g := tT X.K cal NoX t) (tt := PyD.tC X.K cal NoX .nil) (wi1 := tI X.K cal NoX i2) (g1 := tT X.K cal NoX t2) (tt1 := PyD.tC X.K cal NoX cs) (te := tE X.K cal NoX elt) G.calm hN hj (local_of (isLocal_of_sw e)) (by rw [sw_eq G.kind, e]) h9 (blkOk_by h1) (subL_mem h6)
      (fun s H D cl fp => h10 s H D cl fp) (fun s H D cl fp => pts_ofX (es := .nil) (show _ = _ from rfl) rfl (Nat.zero_le _)) (fun s H D cl fp => h11 s H D cl fp) (fun s H D cl fp => h12 s H D cl fp) (fun s H D cl fp => pts_ofX (h13 s H D cl fp) h14 h15) (fun s H D cl fp => (h16 s H D cl fp).1) (notSet h7 X.env) (fun env x => notSet h8 env x)) fun D σ H h => ?_
    exact lc2_ok h2 h3 h4 h5 σ H _ (lsc_read rfl h)
  | false =>
    refine PS.imp (ps_set hN hj (loc_of hx) hl (by rw [sw_eq G.kind, e]) (.inl (hf x))) fun D σ H h => ?_
    exact lsc_read rfl h
theorem ds_compZ {own : List (Str × Nat)} {t : T} {i : I} {cs : Es} {elt : E} {v : Expr} {j : Nat} {x : Str} {pos pos' : Pos} (G : Good c C cal k X) (hf : ∀ x, X.fn x = true) (hj : X.N[j]? = some x) (hx : locB X.env.scope x = true) (h : CP1 X cal own t i cs elt v) :
    DS X cal (.asg (.nm j) (.fz (.comp own t i cs elt))) (.Assign [.Name x pos'] v pos) := by
  have hN : X.N.Nodup := by rw [G.N]; exact G.nd
  have hl := h.dl G
  obtain ⟨y, tg, it, ifs, scope, lpos, rfl, h1, h2, h3, h4, h5, h6, h7, h8, h9, h10⟩ := h
  cases e : swB X.env.scope (.ListComp y [⟨tg, it, ifs, 0⟩] scope lpos) x pos' with
  | true =>
    refine PS.imp (ps_fz (ps_setLc (g := tT X.K cal NoX t) (tt := PyD.tC X.K cal NoX cs) (te := tE X.K cal NoX elt) G.calm hN hj (local_of (isLocal_of_sw e)) (by rw [sw_eq G.kind, e]) h5 (blkOk_by h1) (fun s H D cl fp => h6 s H D cl fp) (fun s H D cl fp => pts_ofX (h7 s H D cl fp) h8 h9) (fun s H D cl fp => (h10 s H D cl fp).1) (notSet h4 X.env))) fun D σ H h => ?_
    exact lc_ok h2 h3 σ H _ (fzc_read rfl h)
  | false =>
    refine PS.imp (ps_fz (ps_set hN hj (loc_of hx) hl (by rw [sw_eq G.kind, e]) (.inl (hf x)))) fun D σ H h => ?_
    exact fzc_read rfl h
theorem ds_comp2Z {own : List (Str × Nat)} {vs1 : List Nat} {t : T} {i : I} {t2 : T} {i2 : I} {cs : Es} {elt : E} {v : Expr} {j : Nat} {x : Str} {pos pos' : Pos} (G : Good c C cal k X) (hf : ∀ x, X.fn x = true) (hj : X.N[j]? = some x) (hx : locB X.env.scope x = true) (h : CP2 X cal own vs1 t i t2 i2 cs elt v) :
    DS X cal (.asg (.nm j) (.fz (.comp2 own vs1 t i t2 i2 cs elt))) (.Assign [.Name x pos'] v pos) := by
  have hN : X.N.Nodup := by rw [G.N]; exact G.nd
  have hl := h.dl G
  obtain ⟨y, tg, it, tg2, it2, ifs, scope, lpos, rfl, h1, h2, h3, h4, h5, h6, h7, h8, h9, h10, h11, h12, h13, h14, h15, h16⟩ := h
  cases e : swB X.env.scope (.ListComp y [⟨tg, it, [], 0⟩, ⟨tg2, it2, ifs, 0⟩] scope lpos) x pos' with
  | true =>
    refine PS.imp (ps_fz (ps_setLc2 (g := tT X.K cal NoX t) (tt := PyD.tC X.K cal NoX .nil) (wi1 := tI X.K cal NoX i2) (g1 := tT X.K cal NoX t2) (tt1 := PyD.tC X.K cal NoX cs) (te := tE X.K cal NoX elt) G.calm hN hj (local_of (isLocal_of_sw e)) (by rw [sw_eq G.kind, e]) h9 (blkOk_by h1) (subL_mem h6)
      (fun s H D cl fp => h10 s H D cl fp) (fun s H D cl fp => pts_ofX (es := .nil) (show _ = _ from rfl) rfl (Nat.zero_le _)) (fun s H D cl fp => h11 s H D cl fp) (fun s H D cl fp => h12 s H D cl fp) (fun s H D cl fp => pts_ofX (h13 s H D cl fp) h14 h15) (fun s H D cl fp => (h16 s H D cl fp).1) (notSet h7 X.env) (fun env x => notSet h8 env x))) fun D σ H h => ?_
    exact lc2_ok h2 h3 h4 h5 σ H _ (fzc_read rfl h)
  | false =>
    refine PS.imp (ps_fz (ps_set hN hj (loc_of hx) hl (by rw [sw_eq G.kind, e]) (.inl (hf x)))) fun D σ H h => ?_
    exact fzc_read rfl h
end
end PyD
set_option maxHeartbeats 20000000
namespace PyD
open PySem PySem.Spec PyProof.Rows L2
section
variable {cal : Cal} {C : CXT} {k : Nat} {c : CC}
theorem bnot {b : Bool} (h : (!b) = true) : b = false := by cases b <;> first | rfl | cases h
theorem beq_b {a b : Bool} (h : (a == b) = true) : a = b := by cases a <;> cases b <;> first | rfl | cases h
theorem tup_tp {t : T} {tsc sc : Scope} {tg : Expr} (h : chkT c t tsc sc tg = true) (ht : isTupE tg = true) : t.isTp = true := by
  cases t with
  | tp ts => rfl
  | nm i =>
    unfold chkT at h
    split at h
    · cases ht
    · cases h
  | sub a k =>
    unfold chkT at h
    split at h
    · cases ht
    · cases h
theorem chkI_tup {i : I} {sc : Scope} {tg x : Expr} (h : chkI c i sc tg x = true) (hp : i.pairs = true) : isTupE tg = true := by
  cases i with
  | enum i =>
    unfold chkI at h
    split at h
    · simp only [Bool.and_eq_true] at h; exact h.1
    · cases h
  | zip a b =>
    unfold chkI at h
    split at h
    · simp only [Bool.and_eq_true] at h; exact h.1.1
    · cases h
  | _ => cases hp
mutual
theorem okE : ∀ (e : E) {X : Cx} {x : Expr}, Good c C cal k X → chkE c e X.env.scope x = true → DE X cal e x
  | .never, X, x, G, h => de_never
  | .c d, X, x, G, h => by
    unfold chkE at h
    split at h
    · exact de_c h
    · cases h
  | .v i, X, x, G, h => by
    unfold chkE at h
    split at h
    · simp only [Bool.and_eq_true, decide_eq_true_eq] at h
      exact de_v (by rw [G.N]; exact h.1.1) h.1.2 h.2
    · cases h
  | .g z d, X, x, G, h => by
    unfold chkE at h
    split at h
    · simp only [Bool.and_eq_true, decide_eq_true_eq] at h
      obtain ⟨⟨⟨rfl, h2⟩, h3⟩, h4⟩ := h
      obtain ⟨p, hp, e⟩ := List.any_eq_true.mp h4
      simp only [Bool.and_eq_true, decide_eq_true_eq] at e
      obtain ⟨u, v, q1, q2, q3⟩ := G.con p hp
      exact de_g h2 h3 ⟨u, v, by rw [← e.1]; exact q1, q2, by rw [← D.same_eq e.2]; exact q3⟩
    · cases h
  | .neg a, X, x, G, h => by
    unfold chkE at h
    split at h
    · exact de_neg (okE a G h)
    · cases h
  | .tup es, X, x, G, h => by
    unfold chkE at h
    split at h
    · exact de_tup (okEs es G h)
    · cases h
  | .ls l, X, x, G, h => by
    unfold chkE at h
    simp only [Bool.and_eq_true] at h
    obtain ⟨⟨h1, h2⟩, h3⟩ := h
    refine de_ls (okL l G h1) h2 (fun whole => ?_)
    cases x <;> first | rfl | cases h3
  | .fz l, X, x, G, h => by
    unfold chkE at h
    simp only [Bool.and_eq_true] at h
    obtain ⟨⟨h1, h2⟩, h3⟩ := h
    refine de_fz (okL l G h1) h2 (fun whole => ?_)
    cases x <;> first | rfl | cases h3
  | .dct ks es, X, x, G, h => by
    unfold chkE at h
    split at h
    · simp only [Bool.and_eq_true, decide_eq_true_eq] at h
      obtain ⟨⟨⟨⟨⟨⟨h1, h2⟩, h3⟩, h4⟩, h5⟩, h6⟩, h7⟩ := h
      exact de_dct h1 (okEs es G h2) h3 h4 h5 h6 h7
    · cases h
  | .bin o a b, X, x, G, h => by
    unfold chkE at h
    split at h
    · simp only [Bool.and_eq_true] at h
      exact de_bin h.1.1 (okE a G h.1.2) (okE b G h.2)
    · cases h
  | .cmp o a b, X, x, G, h => by
    unfold chkE at h
    split at h
    · simp only [Bool.and_eq_true] at h
      exact de_cmp h.1.1.1 (bnot h.1.1.2) G.hu (okE a G h.1.2) (okE b G h.2)
    · cases h
  | .chain o p a b d, X, x, G, h => by
    unfold chkE at h
    split at h
    · simp only [Bool.and_eq_true] at h
      obtain ⟨⟨⟨⟨⟨h1, h2⟩, h3⟩, h4⟩, h5⟩, h6⟩ := h
      exact de_chain h1 h2 (bnot h3) G.hu (okE a G h4) (okE b G h5) (okE d G h6)
    · cases h
  | .isN a, X, x, G, h => by
    unfold chkE at h
    split at h
    · exact de_isN (okE a G h)
    · cases h
  | .notN a, X, x, G, h => by
    unfold chkE at h
    split at h
    · exact de_notN (okE a G h)
    · cases h
  | .isB j a, X, x, G, h => by
    unfold chkE at h
    split at h
    · simp only [Bool.and_eq_true] at h
      obtain rfl := beq_b h.1
      exact de_isB (okE a G h.2)
    · cases h
  | .notB j a, X, x, G, h => by
    unfold chkE at h
    split at h
    · simp only [Bool.and_eq_true] at h
      obtain rfl := beq_b h.1
      exact de_notB (okE a G h.2)
    · cases h
  | .bools j es, X, x, G, h => by
    unfold chkE at h
    split at h
    · simp only [Bool.and_eq_true, decide_eq_true_eq] at h
      obtain ⟨⟨⟨rfl, h2⟩, h3⟩, h4⟩ := h
      exact de_bools (kk := true) (okEs es G h2) h3 h4
    · simp only [Bool.and_eq_true, decide_eq_true_eq] at h
      obtain ⟨⟨⟨h1, h2⟩, h3⟩, h4⟩ := h
      obtain rfl := bnot h1
      exact de_bools (kk := false) (okEs es G h2) h3 h4
    · cases h
  | .not a, X, x, G, h => by
    unfold chkE at h
    split at h
    · exact de_not (okE a G h)
    · cases h
  | .ite t a b, X, x, G, h => by
    unfold chkE at h
    split at h
    · simp only [Bool.and_eq_true] at h
      exact de_ite (okE t G h.1.1) (okE a G h.1.2) (okE b G h.2)
    · cases h
  | .ix a i, X, x, G, h => by
    unfold chkE at h
    split at h
    · simp only [Bool.and_eq_true] at h
      exact de_ix (bnot h.1.1) G.hu (okE a G h.1.2) (okE i G h.2)
    · cases h
  | .sl a lo hi, X, x, G, h => by
    unfold chkE at h
    split at h
    · simp only [Bool.and_eq_true] at h
      exact de_sl (okE a G h.1.1) (okO lo G h.1.2) (okO hi G h.2)
    · cases h
  | .call f es, X, x, G, h => by
    unfold chkE at h
    split at h
    · simp only [Bool.and_eq_true, decide_eq_true_eq] at h
      obtain ⟨⟨⟨⟨h1, h2⟩, h3⟩, h4⟩, h5⟩ := h
      exact de_call G h1 h2 h3 (okEs es G h4) h5
    · cases h
  | .callk f es zs perm, X, x, G, h => by
    unfold chkE at h
    split at h
    · simp only [Bool.and_eq_true, decide_eq_true_eq] at h
      obtain ⟨⟨⟨⟨⟨⟨⟨⟨h1, h2⟩, h3⟩, h4⟩, h5⟩, h6⟩, h7⟩, h8⟩, h9⟩ := h
      obtain ⟨q, hq, e⟩ := List.any_eq_true.mp h9
      simp only [Bool.and_eq_true, decide_eq_true_eq] at e
      obtain ⟨q2, q3, q4⟩ := q
      obtain ⟨⟨e2, e3⟩, e4⟩ := e
      simp only at e2 e3 e4
      subst e2 e4
      exact de_callk G h1 h2 h3 (okEs es G h4) h5 (okEs zs G h6) h7 h8 e3 hq
    · cases h
  | .b1 b a, X, x, G, h => by
    unfold chkE at h
    split at h
    · rename_i y e
      obtain ⟨p, pos, rfl, hg, hs⟩ := call1_eq e
      exact de_b1 G hg hs (okE a G h)
    · cases h
  | .isi t a, X, x, G, h => by
    unfold chkE at h
    split at h
    · rename_i y id p e
      obtain ⟨p, pos, rfl, hg, hs, _⟩ := call2_eq e
      simp only [Bool.and_eq_true, decide_eq_true_eq] at h
      obtain ⟨⟨h1, rfl⟩, h3⟩ := h
      exact de_isi G hg h3 hs (okE a G h1)
    · cases h
  | .dvm a b, X, x, G, h => by
    unfold chkE at h
    split at h
    · rename_i y z e
      obtain ⟨p, pos, rfl, hg, hs, hs2⟩ := call2_eq e
      simp only [Bool.and_eq_true] at h
      exact de_dvm G hg hs hs2 (okE a G h.1) (okE b G h.2)
    · cases h
  | .tupOf l, X, x, G, h => by
    unfold chkE at h
    split at h
    · rename_i y e
      obtain ⟨p, pos, rfl, hg, hs⟩ := call1_eq e
      exact de_tupOf G hg hs (okL l G h)
    · cases h
  | .allOf l, X, x, G, h => by
    unfold chkE at h
    split at h
    · rename_i y e
      obtain ⟨p, pos, rfl, hg, hs⟩ := call1_eq e
      exact de_allOf G hg hs (okL l G h)
    · cases h
  | .anyOf l, X, x, G, h => by
    unfold chkE at h
    split at h
    · rename_i y e
      obtain ⟨p, pos, rfl, hg, hs⟩ := call1_eq e
      exact de_anyOf G hg hs (okL l G h)
    · cases h
  | .sumOf l, X, x, G, h => by
    unfold chkE at h
    split at h
    · rename_i y e
      obtain ⟨p, pos, rfl, hg, hs⟩ := call1_eq e
      exact de_sumOf G hg hs (okL l G h)
    · cases h
  | .mnx g l, X, x, G, h => by
    unfold chkE at h
    split at h
    · rename_i y e
      obtain ⟨p, pos, rfl, hg, hs⟩ := call1_eq e
      exact de_mnx G hg hs (okL l G h)
    · cases h
  | .mnx2 g a b, X, x, G, h => by
    unfold chkE at h
    split at h
    · rename_i y z e
      obtain ⟨p, pos, rfl, hg, hs, hs2⟩ := call2_eq e
      simp only [Bool.and_eq_true] at h
      exact de_mnx2 G hg hs hs2 (okE a G h.1) (okE b G h.2)
    · cases h
  | .tupR a, X, x, G, h => by
    unfold chkE at h
    split at h
    · rename_i y e
      obtain ⟨p, pos, rfl, hg, _⟩ := call1_eq e
      split at h
      · rename_i z e
        obtain ⟨p2, pos2, rfl, hg2, hs⟩ := call1_eq e
        exact de_tupR G hg hg2 hs (okE a G h)
      · cases h
    · cases h
  | .lenSet l, X, x, G, h => by
    unfold chkE at h
    split at h
    · rename_i y e
      obtain ⟨p, pos, rfl, hg, _⟩ := call1_eq e
      split at h
      · rename_i z e
        obtain ⟨p2, pos2, rfl, hg2, hs⟩ := call1_eq e
        exact de_lenSet G hg hg2 hs (okL l G h)
      · cases h
    · cases h
  | .app a e, X, x, G, h => by
    unfold chkE at h
    split at h
    · rename_i o y e'
      obtain ⟨apos, cpos, rfl, hl, hb, hs⟩ := meth1_eq e'
      simp only [Bool.and_eq_true] at h
      exact de_app hl hb hs (okE a G h.1) (okE e G h.2)
    · cases h
  | .ext a l, X, x, G, h => by
    unfold chkE at h
    split at h
    · rename_i o y e'
      obtain ⟨apos, cpos, rfl, hl, hb, hs⟩ := meth1_eq e'
      simp only [Bool.and_eq_true] at h
      exact de_ext hl hb hs (okE a G h.1) (okL l G h.2)
    · cases h
  | .pop a, X, x, G, h => by
    unfold chkE at h
    split at h
    · rename_i o e'
      obtain ⟨apos, cpos, rfl, hl, hb⟩ := meth0_eq e'
      exact de_pop hl hb (okE a G h)
    · cases h
  | .popi a i, X, x, G, h => by
    unfold chkE at h
    split at h
    · rename_i o y e'
      obtain ⟨apos, cpos, rfl, hl, hb, hs⟩ := meth1_eq e'
      simp only [Bool.and_eq_true] at h
      exact de_popi hl hb hs (okE a G h.1) (okE i G h.2)
    · cases h
  | .idx a e, X, x, G, h => by
    unfold chkE at h
    split at h
    · rename_i o y e'
      obtain ⟨apos, cpos, rfl, hl, hb, hs⟩ := meth1_eq e'
      simp only [Bool.and_eq_true] at h
      exact de_idx G.hu hl hb hs (okE a G h.1) (okE e G h.2)
    · cases h
theorem okEs : ∀ (es : Es) {X : Cx} {xs : List Expr}, Good c C cal k X → chkEs c es X.env.scope xs = true → DEs X cal es xs
  | .nil, X, xs, G, h => by
    unfold chkEs at h
    split at h
    · rfl
    · cases h
  | .cons e es, X, xs, G, h => by
    unfold chkEs at h
    split at h
    · simp only [Bool.and_eq_true] at h
      exact ⟨_, _, rfl, bnot h.1.1, okE e G h.1.2, okEs es G h.2⟩
    · cases h
  | .star l es, X, xs, G, h => by
    unfold chkEs at h
    split at h
    · simp only [Bool.and_eq_true] at h
      exact ⟨_, _, _, rfl, okL l G h.1, okEs es G h.2⟩
    · cases h
theorem okO : ∀ (o : O) {X : Cx} {x : Option Expr}, Good c C cal k X → chkO c o X.env.scope x = true → DO X cal o x
  | .no, X, x, G, h => by
    unfold chkO at h
    split at h
    · exact do_no
    · cases h
  | .at e, X, x, G, h => by
    unfold chkO at h
    split at h
    · exact do_at (okE e G h)
    · cases h
theorem okL : ∀ (l : L) {X : Cx} {x : Expr}, Good c C cal k X → chkL c l X.env.scope x = true → DL X cal l x
  | .of e, X, x, G, h => by
    unfold chkL at h
    exact dl_of (okE e G h)
  | .disp es, X, x, G, h => by
    unfold chkL at h
    split at h
    · exact dl_disp (okEs es G h)
    · cases h
  | .comp own t i cs elt, X, x, G, h => by
    unfold chkL at h
    split at h
    · simp only [Bool.and_eq_true, decide_eq_true_eq] at h
      obtain ⟨⟨⟨⟨⟨⟨⟨⟨h1, h2⟩, h3⟩, h4⟩, h5⟩, h6⟩, h7⟩, h8⟩, h9⟩ := h
      have hk := (blkOk_by h1).kind
      exact dl_comp G (by rw [G.N]; exact h1) (fun hp => tup_tp h4 (chkI_tup h2 hp)) h5 (bnot h3) (okI i G h2) (fun s H D cl fp => okT t (G.blk s H _ D cl fp hk) (tok_blk s H _ D cl fp) h4)
        (fun s H D cl fp => okEs cs (G.blk s H _ D cl fp hk) h6) h7 h8 (fun s H D cl fp => okE elt (G.blk s H _ D cl fp hk) h9)
    · cases h
  | .comp2 own vs1 t i t2 i2 cs elt, X, x, G, h => by
    unfold chkL at h
    split at h
    · simp only [Bool.and_eq_true, decide_eq_true_eq] at h
      obtain ⟨⟨⟨⟨⟨⟨⟨⟨⟨⟨⟨⟨⟨h1, h2⟩, h3⟩, h4⟩, h5⟩, g1⟩, g2⟩, g3⟩, g4⟩, g5⟩, h6⟩, h7⟩, h8⟩, h9⟩ := h
      have hk := (blkOk_by h1).kind
      exact dl_comp2 G (by rw [G.N]; exact h1) (fun hp => tup_tp h4 (chkI_tup h2 hp)) (fun hp => tup_tp g3 (chkI_tup g1 hp)) h5 g4 g5 (bnot h3) (bnot g2) (okI i G h2) (fun s H D cl fp => okT t (G.blk s H _ D cl fp hk) (tok_blk s H _ D cl fp) h4)
        (fun s H D cl fp => okI i2 (G.blk s H _ D cl fp hk) g1) (fun s H D cl fp => okT t2 (G.blk s H _ D cl fp hk) (tok_blk s H _ D cl fp) g3)
        (fun s H D cl fp => okEs cs (G.blk s H _ D cl fp hk) h6) h7 h8 (fun s H D cl fp => okE elt (G.blk s H _ D cl fp hk) h9)
    · cases h
  | .cat a b, X, x, G, h => by
    unfold chkL at h
    split at h
    · simp only [Bool.and_eq_true] at h
      have hb := okL b G h.2
      cases a with
      | of e =>
        have h1 := h.1
        unfold chkL at h1
        exact dl_catV (okE e G h1) hb
      | _ => exact dl_catL rfl (okL _ G h.1) hb
    · cases h
  | .sl a lo hi, X, x, G, h => by
    unfold chkL at h
    split at h
    · simp only [Bool.and_eq_true] at h
      have hl := okO lo G h.1.2
      have hh := okO hi G h.2
      cases a with
      | of e =>
        have h1 := h.1.1
        unfold chkL at h1
        exact dl_slV (okE e G h1) hl hh
      | _ => exact dl_slL rfl (okL _ G h.1.1) hl hh
    · cases h
  | .listOf l, X, x, G, h => by
    unfold chkL at h
    split at h
    · rename_i y e
      obtain ⟨p, pos, rfl, hg, hs⟩ := call1_eq e
      exact dl_listOf G hg hs (okL l G h)
    · cases h
  | .listR a, X, x, G, h => by
    unfold chkL at h
    split at h
    · rename_i y e
      obtain ⟨p, pos, rfl, hg, _⟩ := call1_eq e
      split at h
      · rename_i z e
        obtain ⟨p2, pos2, rfl, hg2, hs⟩ := call1_eq e
        exact dl_listR G hg hg2 hs (okE a G h)
      · cases h
    · cases h
  | .sorted l, X, x, G, h => by
    unfold chkL at h
    split at h
    · rename_i y e
      obtain ⟨p, pos, rfl, hg, hs⟩ := call1_eq e
      exact dl_sorted G hg hs (okL l G h)
    · cases h
  | .sortedSet l, X, x, G, h => by
    unfold chkL at h
    split at h
    · rename_i y e
      obtain ⟨p, pos, rfl, hg, _⟩ := call1_eq e
      split at h
      · rename_i z e
        obtain ⟨p2, pos2, rfl, hg2, hs⟩ := call1_eq e
        exact dl_sortedSet G hg hg2 hs (okL l G h)
      · cases h
    · cases h
  | .rep a e, X, x, G, h => by
    unfold chkL at h
    split at h
    · simp only [Bool.and_eq_true] at h
      exact dl_rep h.1.2 (okL a G h.1.1) (okE e G h.2)
    · cases h
theorem okJ : ∀ (l : L) {X : Cx} {x : Expr}, Good c C cal k X → chkL c l X.env.scope x = true → DJ X cal l x
  | .of e, X, x, G, h => by
    unfold chkL at h
    exact dj_of (okE e G h)
  | .disp es, X, x, G, h => dj_ofL rfl (okL (.disp es) G h)
  | .comp own t i cs elt, X, x, G, h => dj_ofL rfl (okL (.comp own t i cs elt) G h)
  | .comp2 own vs1 t i t2 i2 cs elt, X, x, G, h => dj_ofL rfl (okL (.comp2 own vs1 t i t2 i2 cs elt) G h)
  | .cat a b, X, x, G, h => dj_ofL rfl (okL (.cat a b) G h)
  | .sl a lo hi, X, x, G, h => dj_ofL rfl (okL (.sl a lo hi) G h)
  | .listOf l, X, x, G, h => dj_ofL rfl (okL (.listOf l) G h)
  | .listR a, X, x, G, h => dj_ofL rfl (okL (.listR a) G h)
  | .sorted l, X, x, G, h => dj_ofL rfl (okL (.sorted l) G h)
  | .sortedSet l, X, x, G, h => dj_ofL rfl (okL (.sortedSet l) G h)
  | .rep a e, X, x, G, h => dj_ofL rfl (okL (.rep a e) G h)
theorem okI : ∀ (i : I) {X : Cx} {tg x : Expr}, Good c C cal k X → chkI c i X.env.scope tg x = true → DI X cal i tg x
  | .of l, X, tg, x, G, h => by
    unfold chkI at h
    exact di_of (okJ l G h)
  | .rng1 a, X, tg, x, G, h => by
    unfold chkI at h
    split at h
    · rename_i y e
      obtain ⟨p, pos, rfl, hg, hs⟩ := call1_eq e
      exact di_rng1 G hg hs (okE a G h)
    · cases h
  | .rng2 a b, X, tg, x, G, h => by
    unfold chkI at h
    split at h
    · rename_i y z e
      obtain ⟨p, pos, rfl, hg, hs, hs2⟩ := call2_eq e
      simp only [Bool.and_eq_true] at h
      exact di_rng2 G hg hs hs2 (okE a G h.1) (okE b G h.2)
    · cases h
  | .enum i, X, tg, x, G, h => by
    unfold chkI at h
    split at h
    · rename_i y e
      obtain ⟨p, pos, rfl, hg, hs⟩ := call1_eq e
      simp only [Bool.and_eq_true] at h
      cases i with
      | of l => exact di_enum G h.1 hg hs (okJ l G h.2)
      | _ => cases h.2
    · cases h
  | .zip a b, X, tg, x, G, h => by
    unfold chkI at h
    split at h
    · rename_i y z e
      obtain ⟨p, pos, rfl, hg, hs, hs2⟩ := call2_eq e
      simp only [Bool.and_eq_true] at h
      cases a with
      | of l =>
        cases b with
        | of l2 => exact di_zip G h.1.1 hg hs hs2 (okJ l G h.1.2) (okJ l2 G h.2)
        | _ => cases h.2
      | _ => cases h.1.2
    · cases h
theorem okT : ∀ (t : T) {X : Cx} {tsc : Scope} {x : Expr}, Good c C cal k X → TOk X tsc → chkT c t tsc X.env.scope x = true → DT X cal t x
  | .nm i, X, tsc, x, G, ht, h => by
    unfold chkT at h
    split at h
    · simp only [Bool.and_eq_true, decide_eq_true_eq] at h
      exact dt_nm (by rw [G.N]; exact G.nd) (by rw [G.N]; exact h.1) ht h.2
    · cases h
  | .tp ts, X, tsc, x, G, ht, h => by
    unfold chkT at h
    split at h
    · exact dt_tp G.calm (okTs ts G ht h)
    · cases h
  | .sub a i, X, tsc, x, G, ht, h => by
    unfold chkT at h
    split at h
    · simp only [Bool.and_eq_true] at h
      have := G.hu
      exact dt_sub (bnot h.1.1) (by omega) (okE a G h.1.2) (okE i G h.2)
    · cases h
theorem okTs : ∀ (ts : Ts) {X : Cx} {tsc : Scope} {xs : List Expr}, Good c C cal k X → TOk X tsc → chkTs c ts tsc X.env.scope xs = true → DTs X cal ts xs
  | .nil, X, tsc, xs, G, ht, h => by
    unfold chkTs at h
    split at h
    · rfl
    · cases h
  | .cons t ts, X, tsc, xs, G, ht, h => by
    unfold chkTs at h
    split at h
    · simp only [Bool.and_eq_true] at h
      exact ⟨_, _, rfl, bnot h.1.1, okT t G ht h.1.2, okTs ts G ht h.2⟩
    · cases h
end
end
end PyD
set_option maxHeartbeats 20000000
namespace PyD
open PySem PySem.Spec PyProof.Rows L2
section
variable {cal : Cal} {C : CXT} {k : Nat} {c : CC}
theorem cp1_of {own : List (Str × Nat)} {t : T} {i : I} {cs : Es} {elt : E} {X : Cx} {x : Expr} (G : Good c C cal k X) (h : chkL c (.comp own t i cs elt) X.env.scope x = true) : CP1 X cal own t i cs elt x := by
  unfold chkL at h
  split at h
  · simp only [Bool.and_eq_true, decide_eq_true_eq] at h
    obtain ⟨⟨⟨⟨⟨⟨⟨⟨h1, h2⟩, h3⟩, h4⟩, h5⟩, h6⟩, h7⟩, h8⟩, h9⟩ := h
    have hk := (blkOk_by h1).kind
    exact ⟨_, _, _, _, _, _, rfl, by rw [G.N]; exact h1, (fun hp => tup_tp h4 (chkI_tup h2 hp)), h5, bnot h3, okI i G h2, (fun s H D cl fp => okT t (G.blk s H _ D cl fp hk) (tok_blk s H _ D cl fp) h4),
      (fun s H D cl fp => okEs cs (G.blk s H _ D cl fp hk) h6), h7, h8, (fun s H D cl fp => okE elt (G.blk s H _ D cl fp hk) h9)⟩
  · cases h
theorem cp2_of {own : List (Str × Nat)} {vs1 : List Nat} {t : T} {i : I} {t2 : T} {i2 : I} {cs : Es} {elt : E} {X : Cx} {x : Expr} (G : Good c C cal k X) (h : chkL c (.comp2 own vs1 t i t2 i2 cs elt) X.env.scope x = true) : CP2 X cal own vs1 t i t2 i2 cs elt x := by
  unfold chkL at h
  split at h
  · simp only [Bool.and_eq_true, decide_eq_true_eq] at h
    obtain ⟨⟨⟨⟨⟨⟨⟨⟨⟨⟨⟨⟨⟨h1, h2⟩, h3⟩, h4⟩, h5⟩, g1⟩, g2⟩, g3⟩, g4⟩, g5⟩, h6⟩, h7⟩, h8⟩, h9⟩ := h
    have hk := (blkOk_by h1).kind
    exact ⟨_, _, _, _, _, _, _, _, rfl, by rw [G.N]; exact h1, (fun hp => tup_tp h4 (chkI_tup h2 hp)), (fun hp => tup_tp g3 (chkI_tup g1 hp)), h5, g4, g5, bnot h3, bnot g2, okI i G h2, (fun s H D cl fp => okT t (G.blk s H _ D cl fp hk) (tok_blk s H _ D cl fp) h4),
      (fun s H D cl fp => okI i2 (G.blk s H _ D cl fp hk) g1), (fun s H D cl fp => okT t2 (G.blk s H _ D cl fp hk) (tok_blk s H _ D cl fp) g3),
      (fun s H D cl fp => okEs cs (G.blk s H _ D cl fp hk) h6), h7, h8, (fun s H D cl fp => okE elt (G.blk s H _ D cl fp hk) h9)⟩
  · cases h
theorem nm_of {t : T} {tsc sc : Scope} {x : Str} {p : Pos} (h : chkT c t tsc sc (.Name x p) = true) : ∃ i, t = .nm i ∧ c.N[i]? = some x ∧ locB tsc x = true := by
  cases t with
  | nm i =>
    unfold chkT at h
    simp only [Bool.and_eq_true, decide_eq_true_eq] at h
    exact ⟨i, rfl, h.1, h.2⟩
  | tp ts => unfold chkT at h; cases h
  | sub a k => unfold chkT at h; cases h
theorem tp_of {t : T} {tsc sc : Scope} {xs : List Expr} {q : Nat} {p : Pos} (h : chkT c t tsc sc (.Tuple xs q p) = true) : ∃ ts, t = .tp ts ∧ chkTs c ts tsc sc xs = true := by
  cases t with
  | tp ts => unfold chkT at h; exact ⟨ts, rfl, h⟩
  | nm i => unfold chkT at h; cases h
  | sub a k => unfold chkT at h; cases h
theorem ts_cons {ts : Ts} {tsc sc : Scope} {x : Expr} {xs : List Expr} (h : chkTs c ts tsc sc (x :: xs) = true) : ∃ t r, ts = .cons t r ∧ chkT c t tsc sc x = true ∧ chkTs c r tsc sc xs = true := by
  cases ts with
  | nil => unfold chkTs at h; cases h
  | cons t r =>
    unfold chkTs at h
    simp only [Bool.and_eq_true] at h
    exact ⟨t, r, rfl, h.1.2, h.2⟩
theorem ts_nil {ts : Ts} {tsc sc : Scope} (h : chkTs c ts tsc sc [] = true) : ts = .nil := by
  cases ts with
  | nil => rfl
  | cons t r => unfold chkTs at h; cases h
theorem okAsg {t : T} {e : E} {X : Cx} {tg v : Expr} {pos : Pos} (G : Good c C cal k X) (hf : ∀ x, X.fn x = true) (ht : chkT c t X.env.scope X.env.scope tg = true) (he : chkE c e X.env.scope v = true) (ha : asgOk X.env.scope e tg v = true) : DS X cal (.asg t e) (.Assign [tg] v pos) := by
  have hN : X.N.Nodup := by rw [G.N]; exact G.nd
  have dt := okT t G (tOk_self hf) ht
  unfold asgOk at ha
  split at ha
  · -- a name
    rename_i x px
    obtain ⟨i, rfl, hi, hx⟩ := nm_of ht
    have hi' : X.N[i]? = some x := by rw [G.N]; exact hi
    split at ha
    · rename_i hl
      unfold isCompE at ha
      split at ha
      · rename_i own t i' cs elt
        have hc : chkL c (.comp own t i' cs elt) X.env.scope v = true := by
          unfold chkE at he
          simp only [Bool.and_eq_true] at he
          exact he.1.1
        exact ds_compZ G hf hi' hx (cp1_of G hc)
      · rename_i own vs1 t i' t2 i2 cs elt
        have hc : chkL c (.comp2 own vs1 t i' t2 i2 cs elt) X.env.scope v = true := by
          unfold chkE at he
          simp only [Bool.and_eq_true] at he
          exact he.1.1
        exact ds_comp2Z G hf hi' hx (cp2_of G hc)
      · rename_i own t i' cs elt
        have hc : chkL c (.comp own t i' cs elt) X.env.scope v = true := by
          unfold chkE at he
          simp only [Bool.and_eq_true] at he
          exact he.1.1
        exact ds_comp G hf hi' hx (cp1_of G hc)
      · rename_i own vs1 t i' t2 i2 cs elt
        have hc : chkL c (.comp2 own vs1 t i' t2 i2 cs elt) X.env.scope v = true := by
          unfold chkE at he
          simp only [Bool.and_eq_true] at he
          exact he.1.1
        exact ds_comp2 G hf hi' hx (cp2_of G hc)
      · cases ha
    · exact ds_set hN hi' (loc_of hx) (.inl (hf x)) (okE e G he) (bnot ha)
  · -- a row
    rename_i ts q p
    have hso : swapsWithSole [.Tuple ts q p] v pos.line X.env = pure false := by cases v <;> rfl
    split at ha
    · rename_i vs hv
      obtain ⟨q2, p2, rfl⟩ : ∃ q2 p2, v = .Tuple vs q2 p2 := by
        cases v <;> simp [isTuple] at hv
        subst hv
        exact ⟨_, _, rfl⟩
      split at ha
      · rename_i hsw
        exact ds_asg (okE e G he) dt hso (swapped_eq G.kind hsw) rfl
      · rename_i ns hsw
        have hw := swapped_eq (a := q) (b := p) (c := q2) (d := p2) G.kind hsw
        unfold parOk at ha
        simp only [Bool.and_eq_true] at ha
        obtain ⟨hti, ha⟩ := ha
        cases e <;> simp only [isTupI] at hti <;> try cases hti
        rename_i es
        have hes : DEs X cal es vs := by
          unfold chkE at he
          exact okEs es G he
        split at ha
        · simp only [Bool.and_eq_true, decide_eq_true_eq] at ha
          obtain ⟨⟨⟨a1, a2⟩, rfl⟩, a4⟩ := ha
          obtain ⟨ts', rfl, ht⟩ := tp_of ht
          obtain ⟨t1, r1, rfl, ht1, ht⟩ := ts_cons ht
          obtain ⟨t2, r2, rfl, ht2, ht⟩ := ts_cons ht
          obtain rfl := ts_nil ht
          obtain ⟨i, rfl, hi, _⟩ := nm_of ht1
          obtain ⟨j, rfl, hj, _⟩ := nm_of ht2
          exact ds_par G.calm hN (by rw [G.N]; exact hi) (by rw [G.N]; exact hj) a4 (local_of a1) (local_of a2) hes hw
        · simp only [Bool.and_eq_true, decide_eq_true_eq] at ha
          obtain ⟨⟨⟨⟨⟨⟨a1, a2⟩, a3⟩, rfl⟩, a4⟩, a5⟩, a6⟩ := ha
          obtain ⟨ts', rfl, ht⟩ := tp_of ht
          obtain ⟨t1, r1, rfl, ht1, ht⟩ := ts_cons ht
          obtain ⟨t2, r2, rfl, ht2, ht⟩ := ts_cons ht
          obtain ⟨t3, r3, rfl, ht3, ht⟩ := ts_cons ht
          obtain rfl := ts_nil ht
          obtain ⟨i, rfl, hi, _⟩ := nm_of ht1
          obtain ⟨j, rfl, hj, _⟩ := nm_of ht2
          obtain ⟨l, rfl, hl, _⟩ := nm_of ht3
          exact ds_par3 G.calm hN (by rw [G.N]; exact hi) (by rw [G.N]; exact hj) (by rw [G.N]; exact hl) a4 a5 a6 (local_of a1) (local_of a2) (local_of a3) hes hw
        · cases ha
      · cases ha
    · rename_i hv
      refine ds_asg (okE e G he) dt hso ?_ rfl
      cases v <;> first | rfl | (simp [isTuple] at hv)
  · -- an item
    refine ds_asg (okE e G he) dt (by cases v <;> rfl) (by cases v <;> rfl) rfl
  · cases ha
mutual
theorem okS : ∀ (s : S) {X : Cx} {x : Stmt}, Good c C cal k X → (∀ x, X.fn x = true) → PassesOwn (model X.prog X.w) X.A X.env X.xe → chkS c s X.env.scope x = true → DS X cal s x
  | .pass, X, x, G, hf, po, h => by
    unfold chkS at h
    split at h
    · exact ds_pass
    · cases h
  | .asg t e, X, x, G, hf, po, h => by
    unfold chkS at h
    split at h
    · simp only [Bool.and_eq_true] at h
      exact okAsg G hf h.1.1 h.1.2 h.2
    · cases h
  | .ex e, X, x, G, hf, po, h => by
    unfold chkS at h
    split at h
    · simp only [Bool.and_eq_true] at h
      exact ds_ex (okE e G h.1) (bnot h.2)
    · cases h
  | .ret e, X, x, G, hf, po, h => by
    unfold chkS at h
    split at h
    · exact ds_ret (okE e G h)
    · cases h
  | .retN, X, x, G, hf, po, h => by
    unfold chkS at h
    split at h
    · exact ds_retN
    · cases h
  | .ifs e a b, X, x, G, hf, po, h => by
    unfold chkS at h
    split at h
    · simp only [Bool.and_eq_true] at h
      exact ds_ifs (okE e G h.1.1) (okSs a G hf po h.1.2) (okSs b G hf po h.2)
    · cases h
  | .for t i b, X, x, G, hf, po, h => by
    unfold chkS at h
    split at h
    · simp only [Bool.and_eq_true] at h
      obtain ⟨⟨⟨⟨h1, h2⟩, h3⟩, h4⟩, _⟩ := h
      exact ds_for G.calm po (fun hp => tup_tp h3 (chkI_tup h1 hp)) (bnot h2) (okI i G h1) (okT t G (tOk_self hf) h3) (okSs b G hf po h4)
    · cases h
  | .whil e b, X, x, G, hf, po, h => by
    unfold chkS at h
    split at h
    · simp only [Bool.and_eq_true] at h
      exact ds_while po (okE e G h.1) (okSs b G hf po h.2)
    · cases h
  | .never, X, x, G, hf, po, h => ds_never
theorem okSs : ∀ (ss : Ss) {X : Cx} {xs : List Stmt}, Good c C cal k X → (∀ x, X.fn x = true) → PassesOwn (model X.prog X.w) X.A X.env X.xe → chkSs c ss X.env.scope xs = true → DSs X cal ss xs
  | .nil, X, xs, G, hf, po, h => by
    unfold chkSs at h
    split at h
    · exact dss_nil
    · cases h
  | .cons s ss, X, xs, G, hf, po, h => by
    unfold chkSs at h
    split at h
    · simp only [Bool.and_eq_true] at h
      exact dss_cons (okS s G hf po h.1) (okSs ss G hf po h.2)
    · cases h
end
end
end PyD
namespace PyD
open PySem PySem.Spec PyProof.Rows L2
section
variable {K : PySem.W.Frag} {ρ ρ' : List Addr} {H H' : Hp} {st : Store}
mutual
/-- what stood at the start, seen at the end, stands so -/
theorem RepV.back (pre : ∀ (i : Nat) p, ρ[i]? = some p → ρ'[i]? = some p) : ∀ {d : D} {v0 v : V}, RepV K ρ H d v0 → RepV K ρ' H' d v → RepV K ρ H' d v
  | _, _, _, .non, h => by cases h; exact .non
  | _, _, _, .bl b, h => by cases h; exact .bl b
  | _, _, _, .int i, h => by cases h; exact .int i
  | _, _, _, .str x, h => by cases h; exact .str x
  | _, _, _, .tup _ hs, h => by
    cases h with
    | tup t hs' => exact .tup t (RepVs.back pre hs hs')
  | _, _, _, .lst _ hs, h => by
    cases h with
    | lst t hs' => exact .lst t (RepVs.back pre hs hs')
  | _, _, _, .ref hp, h => by
    cases h with
    | ref hp' =>
      have e := pre _ _ hp
      rw [e] at hp'
      cases hp'
      exact .ref hp
theorem RepVs.back (pre : ∀ (i : Nat) p, ρ[i]? = some p → ρ'[i]? = some p) : ∀ {ds : List D} {vs0 vs : List V}, RepVs K ρ H ds vs0 → RepVs K ρ' H' ds vs → RepVs K ρ H' ds vs
  | _, _, _, .nil, h => by cases h; exact .nil
  | _, _, _, .cons a t, h => by
    cases h with
    | cons a' t' => exact .cons (RepV.back pre a a') (RepVs.back pre t t')
end
theorem RepK.back (pre : ∀ (i : Nat) p, ρ[i]? = some p → ρ'[i]? = some p) {kvs : List ((Int ⊕ Str) × D)} : ∀ {vs0 vs : List (Key × V)}, RepK K ρ H kvs vs0 → RepK K ρ' H' kvs vs → RepK K ρ H' kvs vs := by
  induction kvs with
  | nil => intro vs0 vs _ h; cases h; exact .nil
  | cons kv kvs ih =>
    intro vs0 vs h0 h
    cases h0 with
    | cons a t =>
      cases h with
      | cons a' t' => exact .cons ⟨a'.1, a.2.back pre a'.2⟩ (ih t t')
theorem RepO.back (pre : ∀ (i : Nat) p, ρ[i]? = some p → ρ'[i]? = some p) {o : MO} {ho0 ho : HO} (h0 : RepO K ρ H o ho0) (h : RepO K ρ' H' o ho) : RepO K ρ H' o ho := by
  cases h0 with
  | lst a => cases h with | lst b => exact .lst (a.back pre b)
  | dct a => cases h with | dct b => exact .dct (a.back pre b)
mutual
theorem RepV.any (ρ : List Addr) : ∀ {d : D} {v : V}, d.pure = true → RepV K ρ' H d v → RepV K ρ H d v
  | .non, _, _, h => by cases h; exact .non
  | .bl b, _, _, h => by cases h; exact .bl b
  | .int i, _, _, h => by cases h; exact .int i
  | .str x, _, _, h => by cases h; exact .str x
  | .tup ds, _, p, h => by
    cases h with
    | tup t hs => exact .tup t (RepVs.any ρ (by simpa only [D.pure] using p) hs)
  | .lst ds, _, p, h => by
    cases h with
    | lst t hs => exact .lst t (RepVs.any ρ (by simpa only [D.pure] using p) hs)
  | .ref a, _, p, _ => by simp [D.pure] at p
theorem RepVs.any (ρ : List Addr) : ∀ {ds : List D} {vs : List V}, D.pures ds = true → RepVs K ρ' H ds vs → RepVs K ρ H ds vs
  | [], _, _, h => by cases h; exact .nil
  | d :: ds, _, p, h => by
    simp only [D.pures, Bool.and_eq_true] at p
    cases h with
    | cons a t => exact .cons (RepV.any ρ p.1 a) (RepVs.any ρ p.2 t)
end
/-- the old part of the store, at the end -/
theorem Rel.back {s : Store} (r : Rel K ρ st H) (r' : Rel K ρ' s H') (k : Kp ρ ρ' H H') (e : s.take st.length = st) : Rel K ρ st H' := by
  refine ⟨r.len, r.nd, fun i o p h1 h2 => ?_⟩
  have hi : i < st.length := (List.getElem?_eq_some_iff.mp h1).1
  have h3 : s[i]? = some o := by rw [← e, List.getElem?_take_of_lt hi] at h1; exact h1
  obtain ⟨ho, h4, h5⟩ := r'.obj i o p h3 (k.pre i p h2)
  obtain ⟨ho0, _, h6⟩ := r.obj i o p h1 h2
  exact ⟨ho, h4, h6.back k.pre h5⟩
theorem Kp.back (k : Kp ρ ρ' H H') : Kp ρ ρ H H' := ⟨fun _ _ h => h, k.frz, fun b o h n => ⟨n, (k.old b o h n).2⟩⟩
theorem fin_post {r : R D} {Q : VK} (rl : Rel K ρ st H) (p : Post NoX (fin st r) (WE K ρ H Q)) : Post NoX r (WE K ρ H Q) := by
  cases r with
  | stuck => exact p
  | exc x s => exact p
  | ok v s =>
    show WE K ρ H Q v s
    intro ρ' H' v' r' k rv
    simp only [fin] at p
    split at p
    · rename_i hc
      simp only [Bool.and_eq_true] at hc
      exact (show WE K ρ H Q v st from p) ρ H' v' (rl.back r' k (stSame_eq hc.2)) k.back (rv.any ρ hc.1)
    · split at p
      · rename_i a
        split at p
        · rename_i ds hst
          split at p
          · rename_i hc
            simp only [Bool.and_eq_true, decide_eq_true_eq] at hc
            obtain ⟨⟨hp, ha⟩, he⟩ := hc
            obtain ⟨p1, rfl, hp1⟩ := repV_ref rv
            obtain ⟨ho, h1, h2⟩ := r'.at hst hp1
            cases h2 with
            | @lst _ vs h3 =>
              have rb := rl.back r' k (stSame_eq he)
              have hn : p1 ∉ ρ := fun hm => by
                obtain ⟨i, hi, e⟩ := List.mem_iff_getElem.mp hm
                have e1 : ρ[i]? = some p1 := by rw [List.getElem?_eq_getElem hi, e]
                have := r'.inj (k.pre i p1 e1) hp1
                have hl := rl.len
                omega
              have kk : Kp ρ (ρ ++ [p1]) H H' := by
                refine ⟨fun i q h => by rw [List.getElem?_append_left (List.getElem?_eq_some_iff.mp h).1]; exact h, k.frz, fun b o h n => ?_⟩
                obtain ⟨h5, h6⟩ := k.old b o h n
                refine ⟨fun hm => ?_, h6⟩
                rcases List.mem_append.mp hm with hm | hm
                · exact n hm
                · simp only [List.mem_singleton] at hm
                  exact h5 (hm ▸ List.mem_of_getElem? hp1)
              refine (show WE K ρ H Q (.ref st.length) (st ++ [.lst ds]) from p) (ρ ++ [p1]) H' _ (rb.push h1 hn (.lst (h3.any ρ hp))) kk (.ref ?_)
              rw [← rl.len, List.getElem?_append_right (Nat.le_refl _)]
              simp
          · exact (show WE K ρ H Q _ s from p) ρ' H' v' r' k rv
        · exact (show WE K ρ H Q _ s from p) ρ' H' v' r' k rv
      · exact (show WE K ρ H Q _ s from p) ρ' H' v' r' k rv
/-- the slots at a body's start -/
theorem start_rel {N : List Str} {ds : List D} {vs : List V} (h : RepVs K ρ H ds vs) : RelE K ρ H (ds.map some ++ List.replicate (N.length - ds.length) none) (L2.start N vs) := by
  refine ⟨?_, fun i d e => ?_⟩
  · unfold L2.start
    simp [h.length]
  · by_cases hi : i < ds.length
    · rw [List.getElem?_append_left (by simpa using hi), List.getElem?_map] at e
      cases q : ds[i]? with
      | none => rw [q] at e; cases e
      | some d' =>
        rw [q] at e
        simp only [Option.map_some, Option.some.injEq] at e
        subst e
        obtain ⟨v, h1, h2⟩ := h.get q
        refine ⟨v, ?_, h2⟩
        unfold L2.start
        have hv : i < vs.length := by rw [← h.length]; exact hi
        rw [List.getElem?_append_left (by simpa using hv), List.getElem?_map, h1]
        rfl
    · rw [List.getElem?_append_right (by simpa using hi)] at e
      rw [List.getElem?_replicate] at e
      split at e
      · cases e
      · cases e
end
/-- a def of the text -/
structure TD where
  name : Str
  ps : List Str
  N : List Str
  body : Ss
  kbs : List (Nat × List Str × List Nat)
def TD.fd (t : TD) : FD := ⟨t.ps.length, t.N.length, t.body⟩
structure Tab where
  tds : List (Nat × TD)
  con : List (Str × D)
def Tab.get (T : Tab) (f : Nat) : Option TD := T.tds.lookup f
def Tab.Φ (T : Tab) : Nat → Option FD := fun f => (T.get f).map TD.fd
def Tab.cc (T : Tab) (t : TD) : CC := ⟨t.N, fun f => (T.get f).map (·.name), T.con, fun f => match T.get f with | some t => t.kbs | none => []⟩
def C0 : CXT := fun _ _ _ _ _ _ => False
/-- what is known of a def -/
structure TFun (T : Tab) (K : PySem.W.Frag) (mg : Str → Option Value) (f : Nat) (td : TD) (a : Addr) (fd : FuncData) : Prop where
  ex : ∃ (qual : Str) (params : Arguments) (body : List Stmt) (scope : Scope) (kws : List (Str × V)),
    FunD K td.name qual params body scope [] kws a fd ∧ mg td.name = some (.ref a) ∧ FnScope td.N td.ps scope ∧ chkSs (T.cc td) td.body scope body = true ∧
    (∀ (s : Shared) (us : List Value), K.In s.heap → us.length = td.ps.length → BindsTo s fd ⟨us, []⟩ (td.ps.zip us)) ∧
    (∀ n ks perm, (n, ks, perm) ∈ td.kbs → ∀ (s : Shared) (us ws : List Value), K.In s.heap → us.length = n → ws.length = ks.length → BindsTo s fd ⟨us, ks.zip ws⟩ (td.ps.zip (sel perm (us ++ ws))))
def TDef (T : Tab) (K : PySem.W.Frag) (mg : Str → Option Value) (f : Nat) (td : TD) : Prop := ∃ (a : Addr) (fd : FuncData), TFun T K mg f td a fd
theorem callD_len {Φ : Nat → Option FD} {n f : Nat} {fd : FD} (h : Φ f = some fd) {ds : List D} (st : Store) (hl : ds.length ≠ fd.ps) : callD Φ n f ds st = .stuck := by
  cases n with
  | zero => rfl
  | succ n =>
    show (match Φ f with | none => R.stuck | some fd => if ds.length = fd.ps then fin st (runD (callD Φ n) fd ds st) else R.stuck) = _
    rw [h]
    simp only
    rw [if_neg hl]
theorem Tab.phi {T : Tab} {f : Nat} {td : TD} (h : T.get f = some td) : T.Φ f = some ⟨td.ps.length, td.N.length, td.body⟩ := by
  unfold Tab.Φ
  rw [h]
  rfl
theorem table {P : Program} {w : World} {K : PySem.W.Frag} {mg : Str → Option Value} {base : Heap} {T : Tab} (hd : ∀ f td, T.get f = some td → TDef T K mg f td) (bn : ∀ x ∈ builtinNames, mg x = none)
    (con : ∀ p ∈ T.con, ∃ u v, mg p.1 = some u ∧ RelV v u ∧ ∀ ρ H, RepV K ρ H p.2 v) :
    ∀ (n f : Nat) (td : TD), T.get f = some td → ∀ (a : Addr) (fd : FuncData), TFun T K mg f td a fd → FnG P w K mg base C0 n a fd td.ps (spD K (callD T.Φ n) f td.ps.length)
  | 0, f, td, h, a, fd, tf => ⟨fun vs H Q E q => q.1, fun A outer s H args us vs Q E _ _ _ _ q => by
      obtain ⟨_, ρ, st, ds, _, _, z⟩ := q
      exact z.elim⟩
  | n + 1, f, td, h, a, fd, tf => by
    have ih := table (P := P) (w := w) (base := base) hd bn con n
    obtain ⟨qual, params, body, scope, kws, F, hm, S, hc, hb, hk⟩ := tf.ex
    obtain ⟨oc, od, dV, kV, doc, pm, an, cdv, ct, osl, rfl, lk, hcd, _, _⟩ := F.ex
    refine fn_ofG lk hcd S (fun vs H Q E q => q.1) fun A outer s H vs Q E hr q => ?_
    obtain ⟨hl, ρ, st, ds, rl, rvs, z⟩ := q
    have G : Good (T.cc td) C0 (callD T.Φ n) n (cxOf C0 P w K mg base td.N qual scope a cdv A outer s H E) := by
      refine ⟨rfl, S.nd, rfl, S.kind, hr, bn, con, fun g x hg => ?_, fun _ _ _ _ _ z => z⟩
      unfold Tab.cc at hg
      simp only at hg
      cases q : T.get g with
      | none => rw [q] at hg; cases hg
      | some tg =>
        rw [q] at hg
        simp only [Option.map_some, Option.some.injEq] at hg
        subst hg
        obtain ⟨ag, fg, tfg⟩ := hd g tg q
        have m3 := ih g tg q ag fg tfg
        obtain ⟨_, _, _, _, _, Fg, m1, _, _, m4, m5⟩ := tfg.ex
        exact ⟨ag, fg, tg.ps, m1, Fg.kp, m3, m4, fun ds st hl => callD_len (Tab.phi q) st hl, fun n ks perm hm => m5 n ks perm (by unfold Tab.cc at hm; simp only [q] at hm; exact hm)⟩
    have po : PassesOwn (model P w) (cxOf C0 P w K mg base td.N qual scope a cdv A outer s H E).A (cxOf C0 P w K mg base td.N qual scope a cdv A outer s H E).env (cxOf C0 P w K mg base td.N qual scope a cdv A outer s H E).xe :=
      passes_of (X := cxOf C0 P w K mg base td.N qual scope a cdv A outer s H E) (K := fun e s'' => C0 outer H s E e s'') (E₁ := fun e' s'' => C0 outer H s E e' s'') rfl
    refine ⟨_, okSs td.body G (fun _ => rfl) po hc, ρ, st, ds.map some ++ List.replicate (td.N.length - ds.length) none, ⟨rl, start_rel rvs⟩, ?_⟩
    have z2 : Post NoX (callD T.Φ (n + 1) f ds st) (WE K ρ H Q) := z
    have e1 : callD T.Φ (n + 1) f ds st = if ds.length = td.ps.length then fin st (runD (callD T.Φ n) ⟨td.ps.length, td.N.length, td.body⟩ ds st) else R.stuck := by
      show (match T.Φ f with | none => R.stuck | some fd => if ds.length = fd.ps then fin st (runD (callD T.Φ n) fd ds st) else R.stuck) = _
      rw [Tab.phi h]
    have hl2 : ds.length = td.ps.length := by rw [rvs.length]; exact hl
    rw [e1, if_pos hl2] at z2
    have z3 := fin_post rl z2
    unfold runD at z3
    refine z3.bind.mono fun r s1 q => ?_
    obtain ⟨fl, env1⟩ := r
    intro ρ' H' σ' r' k' e'
    cases fl with
    | nx => exact (show WE K ρ H Q .non s1 from q) ρ' H' .non r' k' .non
    | rt d => exact fun v rv => (show WE K ρ H Q d s1 from q) ρ' H' v r' k' rv
    | bk => exact q.elim
    | ct => exact q.elim
end PyD
namespace PyD
open PySem PySem.Spec PyProof.Rows L2
def fnScopeB (N ps : List Str) (sc : Scope) : Bool := (match sc.kind with | .function => true | _ => false) && !sc.isCoroutine && !sc.isGenerator && decide N.Nodup && decide (N.take ps.length = ps) && ps.all (fun x => locB sc x) &&
  sc.names.all fun y => match y.2 with | .free => false | _ => true
theorem fnScope_of {N ps : List Str} {sc : Scope} (h : fnScopeB N ps sc = true) : FnScope N ps sc := by
  unfold fnScopeB at h
  simp only [Bool.and_eq_true, decide_eq_true_eq, Bool.not_eq_true'] at h
  obtain ⟨⟨⟨⟨⟨⟨h1, h2⟩, h3⟩, h4⟩, h5⟩, h6⟩, h7⟩ := h
  refine ⟨?_, h2, h3, h4, h5, fun x hx => ?_, fun y hy e => ?_⟩
  · split at h1
    · assumption
    · cases h1
  · exact loc_of (List.all_eq_true.mp h6 x hx)
  · have := List.all_eq_true.mp h7 y hy
    rw [e] at this
    cases this
def AllK (P : Nat × List Str × List Nat → Prop) : List (Nat × List Str × List Nat) → Prop
  | [] => True
  | q :: r => P q ∧ AllK P r
theorem AllK.mem {P : Nat × List Str × List Nat → Prop} : ∀ {l : List (Nat × List Str × List Nat)}, AllK P l → ∀ q ∈ l, P q
  | _ :: _, ⟨h, t⟩, q, hq => by
    rcases List.mem_cons.mp hq with rfl | hq
    · exact h
    · exact t.mem q hq
theorem FunD.bindsW {K : PySem.W.Frag} {x qual : Str} {params : Arguments} {body : List Stmt} {scope : Scope} {kws : List (Str × V)} {f : Addr} {fd : FuncData} {args : Args} {r : List (Str × Value)} (F : FunD K x qual params body scope [] kws f fd)
    (h : ∀ (kV doc pm : Value) (an : Option Addr) (cdv ct : Value), bindArgs (PySem.W.fnOf x qual params body scope .none kV doc pm an cdv ct) args = pure r) (s : Shared) : BindsTo s fd args r := by
  obtain ⟨oc, od, dV, kV, doc, pm, an, cdv, ct, osl, rfl, lk, hcd, hD, hK⟩ := F.ex
  rcases hD with ⟨_, rfl⟩ | ⟨e, _⟩
  · exact .of_eq (h kV doc pm an cdv ct)
  · exact absurd rfl e
theorem tdef_of {T : Tab} {K : PySem.W.Frag} {h : Heap} {mg : Str → Option Value} {fa : List He.Fa} {fn : List He.DefD} (X : K.In h) (G : h.Ns mainGlobals mg) (c : He.SaysD fa fn K) {f i j : Nat} {td : TD} {st : Stmt}
    (hd : fn[i]? = some ⟨(td.name, none), td.name, td.name, defArgs st, defBody st, defScope st, [], []⟩) (hg : fa[j]? = some (.glo td.name)) (hs : fnScopeB td.N td.ps (defScope st) = true) (hc : chkSs (T.cc td) td.body (defScope st) (defBody st) = true)
    (hb : ∀ (kV doc pm : Value) (an : Option Addr) (cdv ct : Value) (us : List Value), us.length = td.ps.length → bindArgs (PySem.W.fnOf td.name td.name (defArgs st) (defBody st) (defScope st) .none kV doc pm an cdv ct) ⟨us, []⟩ = pure (td.ps.zip us))
    (hk : AllK (fun q => ∀ (kV doc pm : Value) (an : Option Addr) (cdv ct : Value) (us ws : List Value), us.length = q.1 → ws.length = q.2.1.length →
      bindArgs (PySem.W.fnOf td.name td.name (defArgs st) (defBody st) (defScope st) .none kV doc pm an cdv ct) ⟨us, q.2.1.zip ws⟩ = pure (td.ps.zip (sel q.2.2 (us ++ ws)))) td.kbs) : TDef T K mg f td := by
  obtain ⟨fd, F⟩ := c.def_ i hd
  have F' : FunD K td.name td.name (defArgs st) (defBody st) (defScope st) [] [] (He.fAd K (td.name, none)) fd := F
  refine ⟨He.fAd K (td.name, none), fd, td.name, _, _, _, [], F', He.glo_ok X G (c.fact j hg), fnScope_of hs, hc, fun s us _ hl => FunD.bindsW F' (fun kV doc pm an cdv ct => hb kV doc pm an cdv ct us hl) s, fun n ks perm hm s us ws _ h1 h2 => ?_⟩
  exact FunD.bindsW F' (fun kV doc pm an cdv ct => hk.mem _ hm kV doc pm an cdv ct us ws h1 h2) s
def AllT (T : Tab) (K : PySem.W.Frag) (mg : Str → Option Value) : List (Nat × TD) → Prop
  | [] => True
  | p :: ts => TDef T K mg p.1 p.2 ∧ AllT T K mg ts
theorem AllT.get {T : Tab} {K : PySem.W.Frag} {mg : Str → Option Value} : ∀ {ts : List (Nat × TD)}, AllT T K mg ts → ∀ (f : Nat) (td : TD), ts.lookup f = some td → TDef T K mg f td
  | (g, t) :: ts, ⟨h, r⟩, f, td, e => by
    rw [List.lookup_cons] at e
    cases q : f == g with
    | true =>
      rw [q] at e
      cases e
      have := eq_of_beq q
      subst this
      exact h
    | false =>
      rw [q] at e
      exact r.get f td e
  | [], _, f, td, e => by simp at e
/-- a law over a table of defs -/
theorem walk_tab {l : PySem.W.OpenLaw} {n k fl : Nat} {q : Program} {loose : List Str} {XP : (Str → Option Value) → Heap → Prop} {YP : World → Heap → Prop} {d : DefRec} {T : Tab} {tdl : TD} {x : Str} (hn : l.most = some n) (hn2 : n ≤ sizeLine)
    (hdf : d.params.defaults = []) (hr : RoomG k callerA) (hl : T.get fl = some tdl) (hps : tdl.ps = [x]) (hnm : d.name = tdl.name)
    (F : ∀ (w : World) (mg : Str → Option Value) (h : Heap), YP w h → h.Ns mainGlobals mg → ∃ K : PySem.W.Frag, K.In h ∧ AllT T K mg T.tds ∧ (∀ x ∈ builtinNames, mg x = none) ∧
      (∀ p ∈ T.con, ∃ u v, mg p.1 = some u ∧ RelV v u ∧ ∀ ρ H, RepV K ρ H p.2 v))
    (hlaw : ∀ ns : List Int, ns.length ≤ n → Post NoX (callD T.Φ k fl [.lst (ns.map D.int)] []) fun d _ => d = .bl true) :
    PySem.W.WalkO q loose XP YP l.row.toRowW d [] (fun f vs => PySem.call f vs) := by
  refine walk_ofG (C := C0) (x := x) hn hn2 hdf hr (fun w mg fa h Y G hmg => ?_) (fun _ _ _ _ z => z)
  obtain ⟨K, KX, hA, bn, con⟩ := F w mg h Y G
  have hd : ∀ f td, T.get f = some td → TDef T K mg f td := fun f td e => hA.get f td e
  -- the law's own def: which it is does not hang on the base
  obtain ⟨a0, fd0, tf⟩ := hd fl tdl hl
  obtain ⟨_, _, _, _, _, _, m0, _, _, b0, _⟩ := tf.ex
  have ea : a0 = fa := by
    rw [hnm, m0] at hmg
    cases hmg
    rfl
  subst ea
  refine ⟨K, fd0, spD K (callD T.Φ k) fl 1, KX, fun s u hK => ?_, fun H a ns hns hO hS => ?_, fun base hKb hG => ?_⟩
  · have := b0 s [u] hK (by rw [hps]; rfl)
    rw [hps] at this
    exact this
  · refine ⟨rfl, [], [], [.lst (ns.map D.int)], ⟨rfl, List.nodup_nil, fun i o p h => by simp at h⟩, .cons (.lst (vs := ns.map V.int) ?_ ?_) .nil, (hlaw ns hns).mono fun d st e ρ' H' v _ _ rv => ?_⟩
    · rcases hS with (h | ⟨o, h⟩) | h
      · rcases hO a with z | ⟨o, xs, z⟩
        · rw [h] at z; cases z
        · rw [h] at z; cases z
      · exact .inl ⟨o, h⟩
      · exact .inr h
    · clear hns hS
      induction ns with
      | nil => exact .nil
      | cons i ns ih => exact .cons (.int i) ih
    · subst e
      exact repV_bl rv
  · have := table (P := l.prog) (w := w) (base := base) hd bn con k fl tdl hl a0 fd0 tf
    rw [hps] at this
    exact this
end PyD
namespace PyD
open PySem
theorem stSame_self (st : Store) : stSame (st.take st.length) st = true := by rw [List.take_length]; exact stSame_refl st
theorem fin_pure {st j : Store} {v : D} (h : v.pure = true) : fin st (.ok v (st ++ j)) = .ok v st := by
  simp only [fin]
  rw [h, List.take_left, stSame_refl]
  rfl
theorem fin_set {st st' : Store} {v : D} (h : v.pure = true) (hl : st'.length = st.length) : fin st (.ok v st') = .ok v st' := by
  simp only [fin]
  split
  · rename_i hc
    simp only [Bool.and_eq_true] at hc
    have e := stSame_eq hc.2
    rw [← hl, List.take_length] at e
    rw [e]
  · cases v <;> simp [D.pure] at h <;> rfl
theorem call_eq {Φ : Nat → Option FD} {n f : Nat} {fd : FD} {ds : List D} {st : Store} (h : Φ f = some fd) (hl : ds.length = fd.ps) : callD Φ (n + 1) f ds st = fin st (runD (callD Φ n) fd ds st) := by
  show (match Φ f with | none => R.stuck | some fd => if ds.length = fd.ps then fin st (runD (callD Φ n) fd ds st) else R.stuck) = _
  rw [h]
  simp only
  rw [if_pos hl]
/-- a def that gives a value, and leaves nothing behind that one can see -/
theorem call_ev {Φ : Nat → Option FD} {n f : Nat} {fd : FD} {ds : List D} {st : Store} {v : D} (j : Store) (h : Φ f = some fd) (hl : ds.length = fd.ps) (hr : runD (callD Φ n) fd ds st = .ok v (st ++ j)) (hp : v.pure = true) : callD Φ (n + 1) f ds st = .ok v st := by
  rw [call_eq h hl, hr, fin_pure hp]
theorem call_ev0 {Φ : Nat → Option FD} {n f : Nat} {fd : FD} {ds : List D} {st : Store} {v : D} (h : Φ f = some fd) (hl : ds.length = fd.ps) (hr : runD (callD Φ n) fd ds st = .ok v st) (hp : v.pure = true) : callD Φ (n + 1) f ds st = .ok v st :=
  call_ev [] h hl (by rw [List.append_nil]; exact hr) hp
theorem call_ev1 {Φ : Nat → Option FD} {n f : Nat} {fd : FD} {ds : List D} {st st' : Store} {v : D} (h : Φ f = some fd) (hl : ds.length = fd.ps) (hr : runD (callD Φ n) fd ds st = .ok v st') (hp : v.pure = true) (hs : st'.length = st.length) : callD Φ (n + 1) f ds st = .ok v st' := by
  rw [call_eq h hl, hr, fin_set hp hs]
def It.all : It → Store → Option (List D)
  | .ds _ xs, _ => some xs
  | .lv a, st => lstAt st a
  | .rng lo n, _ => some ((List.range n).map fun i => .int (lo + (i : Nat)))
  | .enum j, st => (j.all st).map fun xs => xs.zipIdx.map fun p => .tup [.int (p.2 : Nat), p.1]
  | .zip j k, st => match j.all st, k.all st with
    | some xs, some ys => some ((xs.zip ys).map fun p => .tup [p.1, p.2])
    | _, _ => none
theorem It.next_all : ∀ {J : It} {st : Store} {xs : List D} (i : Nat), J.all st = some xs → J.next i st = some xs[i]?
  | .ds _ xs, st, ys, i, h => by simp only [It.all, Option.some.injEq] at h; subst h; rfl
  | .lv a, st, ys, i, h => by simp only [It.all] at h; simp only [It.next, h]; rfl
  | .rng lo n, st, ys, i, h => by
    simp only [It.all, Option.some.injEq] at h
    subst h
    simp only [It.next, List.getElem?_map]
    by_cases hi : i < n
    · rw [if_pos hi, List.getElem?_range hi]; rfl
    · rw [if_neg hi, List.getElem?_eq_none (by simpa using hi)]; rfl
  | .enum j, st, ys, i, h => by
    simp only [It.all] at h
    cases e : j.all st with
    | none => rw [e] at h; cases h
    | some xs =>
      rw [e] at h
      cases h
      simp only [It.next, It.next_all i e, List.getElem?_map, List.getElem?_zipIdx, Nat.zero_add]
      cases xs[i]? <;> rfl
  | .zip j k, st, ys, i, h => by
    simp only [It.all] at h
    cases e : j.all st with
    | none => rw [e] at h; cases h
    | some xs =>
      cases e2 : k.all st with
      | none => rw [e, e2] at h; cases h
      | some zs =>
        rw [e, e2] at h
        cases h
        simp only [It.next, It.next_all i e, It.next_all i e2, List.getElem?_map, List.zip, List.getElem?_zipWith]
        cases xs[i]? <;> cases zs[i]? <;> rfl
theorem It.len_all : ∀ {J : It} {st : Store} {xs : List D}, J.all st = some xs → J.len st = xs.length
  | .ds _ xs, st, ys, h => by simp only [It.all, Option.some.injEq] at h; subst h; rfl
  | .lv a, st, ys, h => by simp only [It.all] at h; simp only [It.len, h]
  | .rng lo n, st, ys, h => by simp only [It.all, Option.some.injEq] at h; subst h; simp [It.len]
  | .enum j, st, ys, h => by
    simp only [It.all] at h
    cases e : j.all st with
    | none => rw [e] at h; cases h
    | some xs => rw [e] at h; cases h; simp [It.len, It.len_all e]
  | .zip j k, st, ys, h => by
    simp only [It.all] at h
    cases e : j.all st with
    | none => rw [e] at h; cases h
    | some xs =>
      cases e2 : k.all st with
      | none => rw [e, e2] at h; cases h
      | some zs => rw [e, e2] at h; cases h; simp [It.len, It.len_all e, It.len_all e2]
/-- a walk that goes from state to state -/
theorem forL_run {J : It} {as : D → Env → Store → R Env} {body : Env → Store → R (Fl × Env)} (m : Nat) (σ : Nat → Env × Store) (x : Nat → D)
    (hs : ∀ k, k < m → J.next k (σ k).2 = some (some (x k)) ∧ ((as (x k) (σ k).1 (σ k).2).bind fun e s => body e s) = .ok (.nx, (σ (k + 1)).1) (σ (k + 1)).2) (he : J.next m (σ m).2 = some none) :
    ∀ (n i : Nat), m - i < n → i ≤ m → forL J as body n i (σ i).1 (σ i).2 = .ok (.nx, (σ m).1) (σ m).2 := by
  intro n
  induction n with
  | zero => intro i h; omega
  | succ n ih =>
    intro i hn hi
    unfold forL
    by_cases e : i = m
    · subst e; rw [he]
    · obtain ⟨h1, h2⟩ := hs i (by omega)
      rw [h1]
      simp only
      cases q : as (x i) (σ i).1 (σ i).2 with
      | stuck => rw [q] at h2; cases h2
      | exc _ _ => rw [q] at h2; cases h2
      | ok e1 s1 =>
        rw [q] at h2
        have h2 : body e1 s1 = .ok (.nx, (σ (i + 1)).1) (σ (i + 1)).2 := h2
        rw [R.bind_ok, h2, R.bind_ok]
        exact ih (i + 1) (by omega) (by omega)
/-- a comprehension whose turns leave the store as it is -/
theorem compL_fm {J : It} {as : D → Env → Store → R Env} {elt : Env → List D → Store → R (List D)} {env : Env} {st : Store} {xs : List D} (f : D → Option D) (hJ : J.all st = some xs) (hz : xs.length ≤ 16777216)
    (ht : ∀ d ∈ xs, ∀ acc : List D, acc.length < 16777216 → ((as d env st).bind fun e s => elt e acc s) = .ok (acc ++ (f d).toList) st) :
    compL J as elt env (J.len st + 1) 0 [] st = .ok (xs.filterMap f) st := by
  have go : ∀ (n i : Nat) (acc : List D), xs.length - i < n → i ≤ xs.length → acc.length ≤ i → compL J as elt env n i acc st = .ok (acc ++ (xs.drop i).filterMap f) st := by
    intro n
    induction n with
    | zero => intro i acc h; omega
    | succ n ih =>
      intro i acc hn hi ha
      unfold compL
      rw [It.next_all i hJ]
      by_cases e : i = xs.length
      · subst e
        rw [List.getElem?_eq_none (Nat.le_refl _), List.drop_length]
        simp
      · have hlt : i < xs.length := by omega
        rw [List.getElem?_eq_getElem hlt]
        simp only
        have h2 := ht xs[i] (List.getElem_mem hlt) acc (by omega)
        cases q : as xs[i] env st with
        | stuck => rw [q] at h2; cases h2
        | exc _ _ => rw [q] at h2; cases h2
        | ok e1 s1 =>
          rw [q] at h2
          have h2 : elt e1 acc s1 = .ok (acc ++ (f xs[i]).toList) st := h2
          rw [R.bind_ok, h2, R.bind_ok, ih (i + 1) _ (by omega) (by omega) (by
            rw [List.length_append]
            cases f xs[i] <;> simp <;> omega)]
          have e2 : xs.drop i = xs[i] :: xs.drop (i + 1) := List.drop_eq_getElem_cons hlt
          rw [e2, List.filterMap_cons, List.append_assoc]
          cases f xs[i] <;> rfl
  have h := go (J.len st + 1) 0 [] (by rw [It.len_all hJ]; omega) (Nat.zero_le _) (Nat.zero_le _)
  simpa using h
/-- the elements of a comprehension, its tests and values known -/
theorem elt_fm {cal : Cal} {cs : Es} {elt : E} {env : Env} {st : Store} {acc : List D} {o : Option D} (hz : acc.length < 16777216) (h : (evC cal cs env st = .ok false st ∧ o = none) ∨ ∃ d, evC cal cs env st = .ok true st ∧ evE cal elt env st = .ok d st ∧ o = some d) :
    ((evC cal cs env st).bind fun b st2 => if b then (evE cal elt env st2).bind fun d st3 => pushD acc d st3 else .ok acc st2) = .ok (acc ++ o.toList) st := by
  rcases h with ⟨h, rfl⟩ | ⟨d, h1, h2, rfl⟩
  · rw [h, R.bind_ok]; simp
  · rw [h1, R.bind_ok]
    simp only [if_true]
    rw [h2, R.bind_ok]
    unfold pushD
    rw [if_pos (by unfold small; exact decide_eq_true (by omega))]
    rfl
/-- a list comprehension of one clause -/
theorem comp_fm {cal : Cal} {own : List (Str × Nat)} {t : T} {i : I} {cs : Es} {elt : E} {env : Env} {st : Store} {J : It} {xs : List D} (f : D → Option D) (hi : evI cal i env st = .ok J st) (hJ : J.all st = some xs) (hz : xs.length ≤ 16777216)
    (ht : ∀ d ∈ xs, ∃ env1, asT cal t d (wipeE env (own.map (·.2))) st = .ok env1 st ∧ ((evC cal cs env1 st = .ok false st ∧ f d = none) ∨ ∃ v, evC cal cs env1 st = .ok true st ∧ evE cal elt env1 st = .ok v st ∧ f d = some v)) :
    evL cal (.comp own t i cs elt) env st = .ok (true, xs.filterMap f) st := by
  rw [evL, hi, R.bind_ok, compL_fm f hJ hz fun d hd acc ha => ?_]
  · rfl
  · obtain ⟨env1, h1, h2⟩ := ht d hd
    rw [h1, R.bind_ok]
    exact elt_fm ha h2
end PyD
namespace PyD
open PySem
/-- is_whole -/
def td0 : TD := ⟨"is_whole", ["value"], ["value"], (.cons (.ret (.bools true (.cons (.isi .int (.v 0)) (.cons (.not (.isi .bool (.v 0))) .nil)))) .nil), []⟩
/-- is_between -/
def td1 : TD := ⟨"is_between", ["value", "least", "most"], ["value", "least", "most"], (.cons (.ret (.bools true (.cons (.call 0 (.cons (.v 0) .nil)) (.cons (.chain .le .le (.v 1) (.v 0) (.v 2)) .nil)))) .nil), []⟩
/-- is_tuple_of -/
def td2 : TD := ⟨"is_tuple_of", ["value", "many"], ["value", "many"], (.cons (.ret (.bools true (.cons (.isi .tuple (.v 0)) (.cons (.cmp .eq (.b1 .len (.v 0)) (.v 1)) .nil)))) .nil), []⟩
/-- is_ascending -/
def td3 : TD := ⟨"is_ascending", ["value"], ["value", "one", "other"], (.cons (.ret (.allOf (.comp [("one", 1), ("other", 2)] (.tp (.cons (.nm 1) (.cons (.nm 2) .nil))) (.zip (.of (.of (.v 0))) (.of (.of (.sl (.v 0) (.at (.c (.int 1))) .no)))) .nil (.cmp .lt (.v 1) (.v 2))))) .nil), []⟩
/-- is_arrow_of -/
def td4 : TD := ⟨"is_arrow_of", ["value", "many"], ["value", "many"], (.cons (.ifs (.bools false (.cons (.not (.call 2 (.cons (.v 0) (.cons (.c (.int 2)) .nil)))) (.cons (.not (.call 1 (.cons (.ix (.v 0) (.c (.int 0))) (.cons (.c (.int 0)) (.cons (.bin .sub (.v 1) (.c (.int 1))) .nil))))) (.cons (.not (.call 1 (.cons (.ix (.v 0) (.c (.int 1))) (.cons (.c (.int 0)) (.cons (.bin .sub (.v 1) (.c (.int 1))) .nil))))) .nil)))) (.cons (.ret (.c (.bl false))) .nil) .nil) (.cons (.ret (.cmp .ne (.ix (.v 0) (.c (.int 0))) (.ix (.v 0) (.c (.int 1))))) .nil)), []⟩
/-- are_arrows_of -/
def td5 : TD := ⟨"are_arrows_of", ["value", "many"], ["value", "many", "each"], (.cons (.ret (.bools true (.cons (.isi .tuple (.v 0)) (.cons (.allOf (.comp [("each", 2)] (.nm 2) (.of (.of (.v 0))) .nil (.call 4 (.cons (.v 2) (.cons (.v 1) .nil))))) (.cons (.call 3 (.cons (.v 0) .nil)) .nil))))) .nil), []⟩
/-- is_web_by -/
def td6 : TD := ⟨"is_web_by", ["value"], ["value"], (.cons (.ifs (.bools false (.cons (.not (.call 2 (.cons (.v 0) (.cons (.c (.int 2)) .nil)))) (.cons (.not (.call 1 (.cons (.ix (.v 0) (.c (.int 0))) (.cons (.c (.int 1)) (.cons (.g "MOST_THINGS" (.int 6)) .nil))))) (.cons (.not (.call 5 (.cons (.ix (.v 0) (.c (.int 1))) (.cons (.ix (.v 0) (.c (.int 0))) .nil)))) .nil)))) (.cons (.ret (.c (.bl false))) .nil) .nil) (.cons (.ret (.cmp .eq (.b1 .len (.call 9 (.cons (.v 0) .nil))) (.ix (.v 0) (.c (.int 0))))) .nil)), []⟩
/-- is_thing_by -/
def td7 : TD := ⟨"is_thing_by", ["web", "value"], ["web", "value"], (.cons (.ret (.call 1 (.cons (.v 1) (.cons (.c (.int 0)) (.cons (.bin .sub (.ix (.v 0) (.c (.int 0))) (.c (.int 1))) .nil))))) .nil), []⟩
/-- free_by -/
def td8 : TD := ⟨"free_by", ["web", "ahead"], ["web", "ahead", "parents", "left", "thing", "one"], (.cons (.asg (.nm 2) (.call 10 (.cons (.v 0) .nil))) (.cons (.asg (.nm 3) (.fz (.comp [("thing", 4)] (.nm 4) (.rng1 (.ix (.v 0) (.c (.int 0)))) (.cons (.cmp .notin (.v 4) (.v 1)) .nil) (.v 4)))) (.cons (.ret (.fz (.comp [("thing", 4)] (.nm 4) (.of (.of (.v 3))) (.cons (.allOf (.comp [("one", 5)] (.nm 5) (.of (.of (.ix (.v 2) (.v 4)))) .nil (.cmp .isin (.v 5) (.v 1)))) .nil) (.v 4)))) .nil))), []⟩
/-- order_by -/
def td9 : TD := ⟨"order_by", ["web"], ["web", "found", "turn"], (.cons (.asg (.nm 1) (.ls (.disp .nil))) (.cons (.for (.nm 2) (.rng1 (.ix (.v 0) (.c (.int 0)))) (.cons (.ex (.ext (.v 1) (.of (.sl (.call 8 (.cons (.v 0) (.cons (.v 1) .nil))) .no (.at (.c (.int 1))))))) .nil)) (.cons (.ret (.tupOf (.of (.v 1)))) .nil))), []⟩
/-- parent_rows -/
def td10 : TD := ⟨"parent_rows", ["web"], ["web", "thing", "one", "other"], (.cons (.ret (.fz (.comp [("thing", 1)] (.nm 1) (.rng1 (.ix (.v 0) (.c (.int 0)))) .nil (.tupOf (.comp [("one", 2), ("other", 3)] (.tp (.cons (.nm 2) (.cons (.nm 3) .nil))) (.of (.of (.ix (.v 0) (.c (.int 1))))) (.cons (.cmp .eq (.v 3) (.v 1)) .nil) (.v 2)))))) .nil), []⟩
/-- parents_by -/
def td11 : TD := ⟨"parents_by", ["web", "thing"], ["web", "thing", "one", "other"], (.cons (.ret (.tupOf (.comp [("one", 2), ("other", 3)] (.tp (.cons (.nm 2) (.cons (.nm 3) .nil))) (.of (.of (.ix (.v 0) (.c (.int 1))))) (.cons (.cmp .eq (.v 3) (.v 1)) .nil) (.v 2)))) .nil), []⟩
/-- neighbours_by -/
def td12 : TD := ⟨"neighbours_by", ["web", "thing"], ["web", "thing", "found", "one", "other"], (.cons (.asg (.nm 2) (.fz (.comp [("one", 3), ("other", 4)] (.tp (.cons (.nm 3) (.cons (.nm 4) .nil))) (.of (.of (.ix (.v 0) (.c (.int 1))))) (.cons (.cmp .isin (.v 1) (.tup (.cons (.v 3) (.cons (.v 4) .nil)))) .nil) (.ite (.cmp .eq (.v 3) (.v 1)) (.v 4) (.v 3))))) (.cons (.ret (.tupOf (.sorted (.of (.v 2))))) .nil)), []⟩
/-- above_lot -/
def td13 : TD := ⟨"above_lot", ["web", "lot"], ["web", "lot"], (.cons (.ret (.call 19 (.cons (.call 21 (.cons (.v 0) (.cons (.call 18 (.cons (.v 1) .nil)) .nil))) .nil))) .nil), []⟩
/-- above_by -/
def td14 : TD := ⟨"above_by", ["web", "thing"], ["web", "thing"], (.cons (.ret (.call 13 (.cons (.v 0) (.cons (.tup (.cons (.v 1) .nil)) .nil)))) .nil), []⟩
/-- below_by -/
def td15 : TD := ⟨"below_by", ["web", "thing"], ["web", "thing", "other"], (.cons (.ret (.tupOf (.comp [("other", 2)] (.nm 2) (.rng1 (.ix (.v 0) (.c (.int 0)))) (.cons (.cmp .isin (.v 1) (.call 14 (.cons (.v 0) (.cons (.v 2) .nil)))) .nil) (.v 2)))) .nil), []⟩
/-- meetings_by -/
def td16 : TD := ⟨"meetings_by", ["web"], ["web", "found", "thing", "rows", "one", "other"], (.cons (.asg (.nm 1) (.ls (.disp .nil))) (.cons (.for (.tp (.cons (.nm 2) (.cons (.nm 3) .nil))) (.enum (.of (.of (.call 10 (.cons (.v 0) .nil))))) (.cons (.ex (.ext (.v 1) (.comp2 [("one", 4), ("other", 5)] [5] (.nm 4) (.of (.of (.v 3))) (.nm 5) (.of (.of (.v 3))) (.cons (.cmp .lt (.v 4) (.v 5)) .nil) (.tup (.cons (.v 4) (.cons (.v 2) (.cons (.v 5) .nil))))))) .nil)) (.cons (.ret (.tupOf (.sorted (.of (.v 1))))) .nil))), []⟩
/-- bare_by -/
def td17 : TD := ⟨"bare_by", ["web"], ["web", "own"], (.cons (.ret (.tupOf (.comp [("own", 1)] (.nm 1) (.of (.of (.call 16 (.cons (.v 0) .nil)))) (.cons (.cmp .notin (.ix (.v 1) (.c (.int 2))) (.call 12 (.cons (.v 0) (.cons (.ix (.v 1) (.c (.int 0))) .nil)))) .nil) (.v 1)))) .nil), []⟩
/-- bits_of -/
def td18 : TD := ⟨"bits_of", ["lot"], ["lot", "thing"], (.cons (.ret (.sumOf (.comp [("thing", 1)] (.nm 1) (.of (.of (.v 0))) .nil (.bin .shl (.c (.int 1)) (.v 1))))) .nil), []⟩
/-- things_in -/
def td19 : TD := ⟨"things_in", ["bits"], ["bits", "thing"], (.cons (.ret (.tupOf (.comp [("thing", 1)] (.nm 1) (.rng1 (.g "MOST_THINGS" (.int 6))) (.cons (.cmp .eq (.bin .band (.bin .shr (.v 0) (.v 1)) (.c (.int 1))) (.c (.int 1))) .nil) (.v 1)))) .nil), []⟩
/-- parent_bits -/
def td20 : TD := ⟨"parent_bits", ["web"], ["web", "own"], (.cons (.ret (.fz (.comp [("own", 1)] (.nm 1) (.of (.of (.call 10 (.cons (.v 0) .nil)))) .nil (.call 18 (.cons (.v 1) .nil))))) .nil), []⟩
/-- above_bits -/
def td21 : TD := ⟨"above_bits", ["web", "bits"], ["web", "bits", "turn", "parents", "found", "thing", "own"], (.cons (.asg (.tp (.cons (.nm 3) (.cons (.nm 4) .nil))) (.tup (.cons (.call 20 (.cons (.v 0) .nil)) (.cons (.v 1) .nil)))) (.cons (.for (.nm 2) (.rng1 (.ix (.v 0) (.c (.int 0)))) (.cons (.for (.tp (.cons (.nm 5) (.cons (.nm 6) .nil))) (.enum (.of (.of (.v 3)))) (.cons (.asg (.nm 4) (.ite (.cmp .eq (.bin .band (.bin .shr (.v 4) (.v 5)) (.c (.int 1))) (.c (.int 1))) (.bin .bor (.v 4) (.v 6)) (.v 4))) .nil)) .nil)) (.cons (.ret (.v 4)) .nil))), []⟩
/-- check_web -/
def td22 : TD := ⟨"check_web", ["value"], ["value"], (.cons (.ifs (.not (.call 6 (.cons (.v 0) .nil))) (.cons .never .nil) .nil) .nil), []⟩
/-- check_thing -/
def td23 : TD := ⟨"check_thing", ["web", "value"], ["web", "value"], (.cons (.ifs (.not (.call 7 (.cons (.v 0) (.cons (.v 1) .nil)))) (.cons .never .nil) .nil) .nil), []⟩
/-- check_thing_of -/
def td24 : TD := ⟨"check_thing_of", ["web", "thing"], ["web", "thing"], (.cons (.ex (.call 22 (.cons (.v 0) .nil))) (.cons (.ex (.call 23 (.cons (.v 0) (.cons (.v 1) .nil)))) .nil)), []⟩
/-- parents -/
def td25 : TD := ⟨"parents", ["web", "thing"], ["web", "thing"], (.cons (.ex (.call 24 (.cons (.v 0) (.cons (.v 1) .nil)))) (.cons (.ret (.call 11 (.cons (.v 0) (.cons (.v 1) .nil)))) .nil)), []⟩
/-- above -/
def td26 : TD := ⟨"above", ["web", "thing"], ["web", "thing"], (.cons (.ex (.call 24 (.cons (.v 0) (.cons (.v 1) .nil)))) (.cons (.ret (.call 14 (.cons (.v 0) (.cons (.v 1) .nil)))) .nil)), []⟩
/-- below -/
def td27 : TD := ⟨"below", ["web", "thing"], ["web", "thing"], (.cons (.ex (.call 24 (.cons (.v 0) (.cons (.v 1) .nil)))) (.cons (.ret (.call 15 (.cons (.v 0) (.cons (.v 1) .nil)))) .nil)), [(0, ["thing", "web"], [1, 0])]⟩
/-- neighbours -/
def td28 : TD := ⟨"neighbours", ["web", "thing"], ["web", "thing"], (.cons (.ex (.call 24 (.cons (.v 0) (.cons (.v 1) .nil)))) (.cons (.ret (.call 12 (.cons (.v 0) (.cons (.v 1) .nil)))) .nil)), []⟩
/-- meetings -/
def td29 : TD := ⟨"meetings", ["web"], ["web"], (.cons (.ex (.call 22 (.cons (.v 0) .nil))) (.cons (.ret (.call 16 (.cons (.v 0) .nil))) .nil)), [(0, ["web"], [0])]⟩
/-- bare_meetings -/
def td30 : TD := ⟨"bare_meetings", ["web"], ["web"], (.cons (.ex (.call 22 (.cons (.v 0) .nil))) (.cons (.ret (.call 17 (.cons (.v 0) .nil))) .nil)), []⟩
/-- first_order -/
def td31 : TD := ⟨"first_order", ["web"], ["web"], (.cons (.ex (.call 22 (.cons (.v 0) .nil))) (.cons (.ret (.call 9 (.cons (.v 0) .nil))) .nil)), []⟩
/-- without_to -/
def td32 : TD := ⟨"without_to", ["web", "things"], ["web", "things", "own"], (.cons (.ret (.tup (.cons (.ix (.v 0) (.c (.int 0))) (.cons (.tupOf (.comp [("own", 2)] (.nm 2) (.of (.of (.ix (.v 0) (.c (.int 1))))) (.cons (.cmp .notin (.ix (.v 2) (.c (.int 1))) (.v 1)) .nil) (.v 2))) .nil)))) .nil), []⟩
/-- set_web -/
def td33 : TD := ⟨"set_web", ["web", "thing"], ["web", "thing"], (.cons (.ex (.call 22 (.cons (.v 0) .nil))) (.cons (.ex (.call 23 (.cons (.v 0) (.cons (.v 1) .nil)))) (.cons (.ret (.call 32 (.cons (.v 0) (.cons (.tup (.cons (.v 1) .nil)) .nil)))) .nil))), [(0, ["thing", "web"], [1, 0])]⟩
/-- _law_bag -/
def td34 : TD := ⟨"_law_bag", ["cells", "spot"], ["cells", "spot", "own", "wheel", "cell"], (.cons (.asg (.nm 2) (.ite (.cmp .lt (.v 1) (.b1 .len (.v 0))) (.b1 .int (.ix (.v 0) (.v 1))) (.bin .mul (.c (.int 31337)) (.bin .add (.v 1) (.c (.int 1)))))) (.cons (.asg (.nm 3) (.bin .add (.c (.int 1)) (.bin .mod (.b1 .abs (.v 2)) (.c (.int 30268))))) (.cons (.for (.nm 4) (.of (.of (.sl (.v 0) .no (.at (.c (.int 6)))))) (.cons (.asg (.nm 3) (.bin .add (.c (.int 1)) (.bin .mod (.b1 .int (.bin .add (.bin .mul (.c (.int 171)) (.v 3)) (.bin .mod (.b1 .int (.v 4)) (.c (.int 30269))))) (.c (.int 30268))))) .nil)) (.cons (.ret (.dct ["rest", "wheel", "turns"] (.cons (.b1 .abs (.v 2)) (.cons (.v 3) (.cons (.v 1) .nil))))) .nil)))), []⟩
/-- _law_grab -/
def td35 : TD := ⟨"_law_grab", ["bag", "many"], ["bag", "many", "got"], (.cons (.ifs (.bools true (.cons (.cmp .gt (.v 1) (.c (.int 1))) (.cons (.cmp .ge (.ix (.v 0) (.c (.str "rest"))) (.v 1)) .nil))) (.cons (.asg (.tp (.cons (.sub (.v 0) (.c (.str "rest"))) (.cons (.nm 2) .nil))) (.dvm (.ix (.v 0) (.c (.str "rest"))) (.v 1))) (.cons (.ret (.v 2)) .nil)) .nil) (.cons (.asg (.sub (.v 0) (.c (.str "turns"))) (.bin .add (.ix (.v 0) (.c (.str "turns"))) (.c (.int 1)))) (.cons (.asg (.sub (.v 0) (.c (.str "wheel"))) (.bin .mod (.b1 .int (.bin .add (.bin .mul (.c (.int 171)) (.ix (.v 0) (.c (.str "wheel")))) (.ix (.v 0) (.c (.str "turns"))))) (.c (.int 30269)))) (.cons (.ret (.bin .mod (.b1 .int (.bin .add (.bin .fdiv (.ix (.v 0) (.c (.str "wheel"))) (.c (.int 5))) (.ix (.v 0) (.c (.str "turns"))))) (.v 1))) .nil)))), []⟩
/-- _law_web -/
def td36 : TD := ⟨"_law_web", ["bag", "most"], ["bag", "most", "turn", "left", "order", "arrows", "at", "one", "two"], (.cons (.asg (.tp (.cons (.nm 3) (.cons (.nm 4) (.cons (.nm 5) .nil)))) (.tup (.cons (.ls (.listR (.bin .add (.c (.int 2)) (.call 35 (.cons (.v 0) (.cons (.bin .sub (.v 1) (.c (.int 1))) .nil)))))) (.cons (.ls (.disp .nil)) (.cons (.fz (.disp .nil)) .nil))))) (.cons (.for (.nm 2) (.rng1 (.b1 .len (.v 3))) (.cons (.ex (.app (.v 4) (.popi (.v 3) (.call 35 (.cons (.v 0) (.cons (.b1 .len (.v 3)) .nil)))))) .nil)) (.cons (.for (.tp (.cons (.nm 6) (.cons (.nm 7) .nil))) (.enum (.of (.of (.v 4)))) (.cons (.asg (.nm 5) (.bin .add (.v 5) (.fz (.comp [("two", 8)] (.nm 8) (.of (.of (.sl (.v 4) (.at (.bin .add (.v 6) (.c (.int 1)))) .no))) (.cons (.cmp .lt (.call 35 (.cons (.v 0) (.cons (.c (.int 5)) .nil))) (.c (.int 3))) .nil) (.tup (.cons (.v 7) (.cons (.v 8) .nil))))))) .nil)) (.cons (.ret (.tup (.cons (.b1 .len (.v 4)) (.cons (.tupOf (.sorted (.of (.v 5)))) .nil)))) .nil)))), []⟩
/-- _law_up -/
def td37 : TD := ⟨"_law_up", ["web", "thing"], ["web", "thing", "found", "turn", "one", "two"], (.cons (.asg (.nm 2) (.fz (.disp (.cons (.v 1) .nil)))) (.cons (.for (.nm 3) (.rng1 (.ix (.v 0) (.c (.int 0)))) (.cons (.asg (.nm 2) (.bin .add (.v 2) (.fz (.comp [("one", 4), ("two", 5)] (.tp (.cons (.nm 4) (.cons (.nm 5) .nil))) (.of (.of (.ix (.v 0) (.c (.int 1))))) (.cons (.bools true (.cons (.cmp .isin (.v 5) (.v 2)) (.cons (.cmp .notin (.v 4) (.v 2)) .nil))) .nil) (.v 4))))) .nil)) (.cons (.ret (.tupOf (.sortedSet (.of (.v 2))))) .nil))), []⟩
/-- _law_first -/
def td38 : TD := ⟨"_law_first", ["web"], ["web", "found", "turn", "some", "thing", "one", "two"], (.cons (.asg (.nm 1) (.ls (.disp .nil))) (.cons (.for (.nm 2) (.rng1 (.ix (.v 0) (.c (.int 0)))) (.cons (.asg (.nm 3) (.fz (.comp [("thing", 4)] (.nm 4) (.rng1 (.ix (.v 0) (.c (.int 0)))) (.cons (.cmp .notin (.v 4) (.v 1)) .nil) (.v 4)))) (.cons (.asg (.nm 3) (.fz (.comp [("thing", 4)] (.nm 4) (.of (.of (.v 3))) (.cons (.cmp .eq (.fz (.comp [("one", 5), ("two", 6)] (.tp (.cons (.nm 5) (.cons (.nm 6) .nil))) (.of (.of (.ix (.v 0) (.c (.int 1))))) (.cons (.bools true (.cons (.cmp .eq (.v 6) (.v 4)) (.cons (.cmp .notin (.v 5) (.v 1)) .nil))) .nil) (.v 5))) (.fz (.disp .nil))) .nil) (.v 4)))) (.cons (.ex (.app (.v 1) (.ix (.v 3) (.c (.int 0))))) .nil)))) (.cons (.ret (.tupOf (.of (.v 1)))) .nil))), []⟩
/-- _law_meets -/
def td39 : TD := ⟨"_law_meets", ["web"], ["web", "found", "one", "two", "far", "third"], (.cons (.asg (.nm 1) (.fz (.disp .nil))) (.cons (.for (.nm 2) (.rng1 (.ix (.v 0) (.c (.int 0)))) (.cons (.for (.nm 3) (.rng2 (.bin .add (.v 2) (.c (.int 1))) (.ix (.v 0) (.c (.int 0)))) (.cons (.asg (.nm 4) (.fz (.comp [("third", 5)] (.nm 5) (.rng1 (.ix (.v 0) (.c (.int 0)))) (.cons (.bools true (.cons (.cmp .isin (.tup (.cons (.v 2) (.cons (.v 5) .nil))) (.ix (.v 0) (.c (.int 1)))) (.cons (.cmp .isin (.tup (.cons (.v 3) (.cons (.v 5) .nil))) (.ix (.v 0) (.c (.int 1)))) .nil))) .nil) (.v 5)))) (.cons (.asg (.nm 1) (.bin .add (.v 1) (.fz (.comp [("third", 5)] (.nm 5) (.of (.of (.v 4))) .nil (.tup (.cons (.v 2) (.cons (.v 5) (.cons (.v 3) .nil)))))))) .nil))) .nil)) (.cons (.ret (.tupOf (.sorted (.of (.v 1))))) .nil))), []⟩
/-- _law_is_told -/
def td40 : TD := ⟨"_law_is_told", ["web", "thing"], ["web", "thing", "due", "near", "told", "other", "one", "two"], (.cons (.asg (.nm 2) (.ls (.disp (.cons (.tupOf (.comp [("one", 6), ("two", 7)] (.tp (.cons (.nm 6) (.cons (.nm 7) .nil))) (.of (.of (.ix (.v 0) (.c (.int 1))))) (.cons (.cmp .eq (.v 7) (.v 1)) .nil) (.v 6))) (.cons (.call 37 (.cons (.v 0) (.cons (.v 1) .nil))) .nil))))) (.cons (.ex (.app (.v 2) (.tupOf (.comp [("other", 5)] (.nm 5) (.rng1 (.ix (.v 0) (.c (.int 0)))) (.cons (.cmp .isin (.v 1) (.call 37 (.cons (.v 0) (.cons (.v 5) .nil)))) .nil) (.v 5))))) (.cons (.asg (.nm 3) (.bin .add (.fz (.comp [("one", 6), ("two", 7)] (.tp (.cons (.nm 6) (.cons (.nm 7) .nil))) (.of (.of (.ix (.v 0) (.c (.int 1))))) (.cons (.cmp .eq (.v 7) (.v 1)) .nil) (.v 6))) (.fz (.comp [("one", 6), ("two", 7)] (.tp (.cons (.nm 6) (.cons (.nm 7) .nil))) (.of (.of (.ix (.v 0) (.c (.int 1))))) (.cons (.cmp .eq (.v 6) (.v 1)) .nil) (.v 7))))) (.cons (.ex (.app (.v 2) (.tupOf (.sorted (.of (.v 3)))))) (.cons (.asg (.nm 4) (.fz (.disp (.cons (.call 25 (.cons (.v 0) (.cons (.v 1) .nil))) (.cons (.call 26 (.cons (.v 0) (.cons (.v 1) .nil))) (.cons (.callk 27 .nil (.cons (.v 1) (.cons (.v 0) .nil)) [1, 0]) (.cons (.call 28 (.cons (.v 0) (.cons (.v 1) .nil))) .nil))))))) (.cons (.ret (.cmp .eq (.b1 .repr (.v 4)) (.b1 .repr (.v 2)))) .nil)))))), []⟩
/-- _law_right -/
def td41 : TD := ⟨"_law_right", ["bag"], ["bag", "web", "pairs", "cut", "order", "meets", "thing", "other", "own", "one", "two"], (.cons (.asg (.nm 1) (.call 36 (.cons (.v 0) (.cons (.c (.int 5)) .nil)))) (.cons (.asg (.tp (.cons (.nm 5) (.cons (.nm 6) .nil))) (.tup (.cons (.call 39 (.cons (.v 1) .nil)) (.cons (.call 35 (.cons (.v 0) (.cons (.ix (.v 1) (.c (.int 0))) .nil))) .nil)))) (.cons (.asg (.nm 2) (.bin .add (.ix (.v 1) (.c (.int 1))) (.tupOf (.comp [("one", 9), ("two", 10)] (.tp (.cons (.nm 9) (.cons (.nm 10) .nil))) (.of (.of (.ix (.v 1) (.c (.int 1))))) .nil (.tup (.cons (.v 10) (.cons (.v 9) .nil))))))) (.cons (.ifs (.cmp .ne (.b1 .repr (.fz (.disp (.cons (.call 29 (.cons (.v 1) .nil)) (.cons (.callk 29 .nil (.cons (.v 1) .nil) [0]) .nil))))) (.b1 .repr (.fz (.disp (.cons (.v 5) (.cons (.v 5) .nil)))))) (.cons (.ret (.c (.bl false))) .nil) .nil) (.cons (.ifs (.cmp .ne (.call 30 (.cons (.v 1) .nil)) (.tupOf (.comp [("own", 8)] (.nm 8) (.of (.of (.v 5))) (.cons (.cmp .notin (.tup (.cons (.ix (.v 8) (.c (.int 0))) (.cons (.ix (.v 8) (.c (.int 2))) .nil))) (.v 2)) .nil) (.v 8)))) (.cons (.ret (.c (.bl false))) .nil) .nil) (.cons (.ifs (.cmp .ne (.fz (.comp [("other", 7)] (.nm 7) (.rng1 (.ix (.v 1) (.c (.int 0)))) (.cons (.not (.call 40 (.cons (.v 1) (.cons (.v 7) .nil)))) .nil) (.v 7))) (.fz (.disp .nil))) (.cons (.ret (.c (.bl false))) .nil) .nil) (.cons (.asg (.nm 3) (.call 33 (.cons (.v 1) (.cons (.v 6) .nil)))) (.cons (.ifs (.bools false (.cons (.cmp .ne (.v 3) (.tup (.cons (.ix (.v 1) (.c (.int 0))) (.cons (.tupOf (.comp [("one", 9), ("two", 10)] (.tp (.cons (.nm 9) (.cons (.nm 10) .nil))) (.of (.of (.ix (.v 1) (.c (.int 1))))) (.cons (.cmp .ne (.v 10) (.v 6)) .nil) (.tup (.cons (.v 9) (.cons (.v 10) .nil))))) .nil)))) (.cons (.cmp .ne (.call 25 (.cons (.v 3) (.cons (.v 6) .nil))) (.tup .nil)) .nil))) (.cons (.ret (.c (.bl false))) .nil) .nil) (.cons (.asg (.nm 4) (.call 31 (.cons (.v 1) .nil))) (.cons (.ifs (.bools false (.cons (.cmp .ne (.v 4) (.call 38 (.cons (.v 1) .nil))) (.cons (.cmp .notin (.v 6) (.call 26 (.cons (.v 1) (.cons (.v 6) .nil)))) (.cons (.cmp .notin (.v 6) (.call 27 (.cons (.v 1) (.cons (.v 6) .nil)))) .nil)))) (.cons (.ret (.c (.bl false))) .nil) .nil) (.cons (.ret (.cmp .eq (.fz (.comp [("one", 9), ("two", 10)] (.tp (.cons (.nm 9) (.cons (.nm 10) .nil))) (.of (.of (.ix (.v 1) (.c (.int 1))))) (.cons (.cmp .gt (.idx (.v 4) (.v 9)) (.idx (.v 4) (.v 10))) .nil) (.v 9))) (.fz (.disp .nil)))) .nil))))))))))), []⟩
/-- law -/
def td42 : TD := ⟨"law", ["cells"], ["cells", "spot"], (.cons (.for (.nm 1) (.rng1 (.c (.int 2))) (.cons (.ifs (.not (.call 41 (.cons (.call 34 (.cons (.v 0) (.cons (.v 1) .nil))) .nil))) (.cons (.ret (.c (.bl false))) .nil) .nil) .nil)) (.cons (.ret (.c (.bl true))) .nil)), []⟩
structure H0 (Φ : Nat → Option FD) : Prop where
  self : Φ 0 = some td0.fd
structure H1 (Φ : Nat → Option FD) : Prop where
  self : Φ 1 = some td1.fd
  c0 : H0 Φ
structure H2 (Φ : Nat → Option FD) : Prop where
  self : Φ 2 = some td2.fd
structure H3 (Φ : Nat → Option FD) : Prop where
  self : Φ 3 = some td3.fd
structure H4 (Φ : Nat → Option FD) : Prop where
  self : Φ 4 = some td4.fd
  c1 : H1 Φ
  c2 : H2 Φ
structure H5 (Φ : Nat → Option FD) : Prop where
  self : Φ 5 = some td5.fd
  c3 : H3 Φ
  c4 : H4 Φ
structure H10 (Φ : Nat → Option FD) : Prop where
  self : Φ 10 = some td10.fd
structure H8 (Φ : Nat → Option FD) : Prop where
  self : Φ 8 = some td8.fd
  c10 : H10 Φ
structure H9 (Φ : Nat → Option FD) : Prop where
  self : Φ 9 = some td9.fd
  c8 : H8 Φ
structure H6 (Φ : Nat → Option FD) : Prop where
  self : Φ 6 = some td6.fd
  c1 : H1 Φ
  c2 : H2 Φ
  c5 : H5 Φ
  c9 : H9 Φ
structure H7 (Φ : Nat → Option FD) : Prop where
  self : Φ 7 = some td7.fd
  c1 : H1 Φ
structure H11 (Φ : Nat → Option FD) : Prop where
  self : Φ 11 = some td11.fd
structure H12 (Φ : Nat → Option FD) : Prop where
  self : Φ 12 = some td12.fd
structure H18 (Φ : Nat → Option FD) : Prop where
  self : Φ 18 = some td18.fd
structure H19 (Φ : Nat → Option FD) : Prop where
  self : Φ 19 = some td19.fd
structure H20 (Φ : Nat → Option FD) : Prop where
  self : Φ 20 = some td20.fd
  c10 : H10 Φ
  c18 : H18 Φ
structure H21 (Φ : Nat → Option FD) : Prop where
  self : Φ 21 = some td21.fd
  c20 : H20 Φ
structure H13 (Φ : Nat → Option FD) : Prop where
  self : Φ 13 = some td13.fd
  c18 : H18 Φ
  c19 : H19 Φ
  c21 : H21 Φ
structure H14 (Φ : Nat → Option FD) : Prop where
  self : Φ 14 = some td14.fd
  c13 : H13 Φ
structure H15 (Φ : Nat → Option FD) : Prop where
  self : Φ 15 = some td15.fd
  c14 : H14 Φ
structure H16 (Φ : Nat → Option FD) : Prop where
  self : Φ 16 = some td16.fd
  c10 : H10 Φ
structure H17 (Φ : Nat → Option FD) : Prop where
  self : Φ 17 = some td17.fd
  c12 : H12 Φ
  c16 : H16 Φ
structure H22 (Φ : Nat → Option FD) : Prop where
  self : Φ 22 = some td22.fd
  c6 : H6 Φ
structure H23 (Φ : Nat → Option FD) : Prop where
  self : Φ 23 = some td23.fd
  c7 : H7 Φ
structure H24 (Φ : Nat → Option FD) : Prop where
  self : Φ 24 = some td24.fd
  c22 : H22 Φ
  c23 : H23 Φ
structure H25 (Φ : Nat → Option FD) : Prop where
  self : Φ 25 = some td25.fd
  c11 : H11 Φ
  c24 : H24 Φ
structure H26 (Φ : Nat → Option FD) : Prop where
  self : Φ 26 = some td26.fd
  c14 : H14 Φ
  c24 : H24 Φ
structure H27 (Φ : Nat → Option FD) : Prop where
  self : Φ 27 = some td27.fd
  c15 : H15 Φ
  c24 : H24 Φ
structure H28 (Φ : Nat → Option FD) : Prop where
  self : Φ 28 = some td28.fd
  c12 : H12 Φ
  c24 : H24 Φ
structure H29 (Φ : Nat → Option FD) : Prop where
  self : Φ 29 = some td29.fd
  c16 : H16 Φ
  c22 : H22 Φ
structure H30 (Φ : Nat → Option FD) : Prop where
  self : Φ 30 = some td30.fd
  c17 : H17 Φ
  c22 : H22 Φ
structure H31 (Φ : Nat → Option FD) : Prop where
  self : Φ 31 = some td31.fd
  c9 : H9 Φ
  c22 : H22 Φ
structure H32 (Φ : Nat → Option FD) : Prop where
  self : Φ 32 = some td32.fd
structure H33 (Φ : Nat → Option FD) : Prop where
  self : Φ 33 = some td33.fd
  c22 : H22 Φ
  c23 : H23 Φ
  c32 : H32 Φ
structure H34 (Φ : Nat → Option FD) : Prop where
  self : Φ 34 = some td34.fd
structure H35 (Φ : Nat → Option FD) : Prop where
  self : Φ 35 = some td35.fd
structure H36 (Φ : Nat → Option FD) : Prop where
  self : Φ 36 = some td36.fd
  c35 : H35 Φ
structure H37 (Φ : Nat → Option FD) : Prop where
  self : Φ 37 = some td37.fd
structure H38 (Φ : Nat → Option FD) : Prop where
  self : Φ 38 = some td38.fd
structure H39 (Φ : Nat → Option FD) : Prop where
  self : Φ 39 = some td39.fd
structure H40 (Φ : Nat → Option FD) : Prop where
  self : Φ 40 = some td40.fd
  c25 : H25 Φ
  c26 : H26 Φ
  c27 : H27 Φ
  c28 : H28 Φ
  c37 : H37 Φ
structure H41 (Φ : Nat → Option FD) : Prop where
  self : Φ 41 = some td41.fd
  c25 : H25 Φ
  c26 : H26 Φ
  c27 : H27 Φ
  c29 : H29 Φ
  c30 : H30 Φ
  c31 : H31 Φ
  c33 : H33 Φ
  c35 : H35 Φ
  c36 : H36 Φ
  c38 : H38 Φ
  c39 : H39 Φ
  c40 : H40 Φ
structure H42 (Φ : Nat → Option FD) : Prop where
  self : Φ 42 = some td42.fd
  c34 : H34 Φ
  c41 : H41 Φ
end PyD
namespace PyD
open PySem
theorem see_int (i : Int) (st : Store) : see st depthL (.int i) = some (.int i) := rfl
theorem see_bl (b : Bool) (st : Store) : see st depthL (.bl b) = some (.bl b) := rfl
theorem see_str (x : Str) (st : Store) : see st depthL (.str x) = some (.str x) := rfl
theorem cmp_lt (i j : Int) (st : Store) : cmpD .lt (.int i) (.int j) st = .ok (.bl (decide (i < j))) st := by
  simp only [cmpD, ordD, see_int, D.py, PySem.W.alike, D.notNone, Bool.and_self, if_true, PySem.W.dataLt_int, okB]
theorem cmp_gt (i j : Int) (st : Store) : cmpD .gt (.int i) (.int j) st = .ok (.bl (decide (j < i))) st := by
  simp only [cmpD, ordD, see_int, D.py, PySem.W.alike, D.notNone, Bool.and_self, if_true, PySem.W.dataLt_int, okB]
theorem not_dec_lt (i j : Int) : (!decide (j < i)) = decide (i ≤ j) := by
  by_cases h : j < i
  · rw [decide_eq_true h, decide_eq_false (by omega)]; rfl
  · rw [decide_eq_false h, decide_eq_true (by omega)]; rfl
theorem cmp_le (i j : Int) (st : Store) : cmpD .le (.int i) (.int j) st = .ok (.bl (decide (i ≤ j))) st := by
  simp only [cmpD, ordD, see_int, D.py, PySem.W.alike, D.notNone, Bool.and_self, if_true, PySem.W.dataLt_int, okB, not_dec_lt]
theorem cmp_ge (i j : Int) (st : Store) : cmpD .ge (.int i) (.int j) st = .ok (.bl (decide (j ≤ i))) st := by
  simp only [cmpD, ordD, see_int, D.py, PySem.W.alike, D.notNone, Bool.and_self, if_true, PySem.W.dataLt_int, okB, not_dec_lt]
theorem cmp_eq (i j : Int) (st : Store) : cmpD .eq (.int i) (.int j) st = .ok (.bl (decide (i = j))) st := rfl
theorem cmp_ne (i j : Int) (st : Store) : cmpD .ne (.int i) (.int j) st = .ok (.bl (!decide (i = j))) st := rfl
mutual
theorem see_pure (st : Store) : ∀ (n : Nat) (d : D), d.pure = true → d.py.depth < n → see st n d = some d
  | 0, d, _, h => by omega
  | n + 1, d, p, h => by
    cases d with
    | non => rfl
    | bl b => rfl
    | int i => rfl
    | str x => rfl
    | ref a => simp [D.pure] at p
    | tup ds =>
      simp only [see, D.pure, D.py, PyData.depth] at *
      rw [see_pures st n ds p (by omega)]; rfl
    | lst ds =>
      simp only [see, D.pure, D.py, PyData.depth] at *
      rw [see_pures st n ds p (by omega)]; rfl
theorem see_pures (st : Store) : ∀ (n : Nat) (ds : List D), D.pures ds = true → PyData.depthAll (D.pys ds) < n → ds.mapM (see st n) = some ds
  | n, [], _, _ => rfl
  | n, d :: ds, p, h => by
    simp only [D.pures, Bool.and_eq_true] at p
    simp only [D.pys, PyData.depthAll] at h
    rw [List.mapM_cons, see_pure st n d p.1 (by omega), see_pures st n ds p.2 (by omega)]
    rfl
end
theorem cmp_eqP {a b : D} (st : Store) (pa : a.pure = true) (da : a.py.depth < depthL) (pb : b.pure = true) (db : b.py.depth < depthL) : cmpD .eq a b st = .ok (.bl (D.eqv a b)) st := by
  simp only [cmpD, see_pure st depthL a pa da, see_pure st depthL b pb db, okB]
theorem cmp_neP {a b : D} (st : Store) (pa : a.pure = true) (da : a.py.depth < depthL) (pb : b.pure = true) (db : b.py.depth < depthL) : cmpD .ne a b st = .ok (.bl (!D.eqv a b)) st := by
  simp only [cmpD, see_pure st depthL a pa da, see_pure st depthL b pb db, okB]
/-- no truths in it: then == is = -/
def D.nobl : D → Bool
  | .bl _ => false
  | .tup ds => nobls ds
  | .lst ds => nobls ds
  | .ref _ => false
  | _ => true
where nobls : List D → Bool
  | [] => true
  | d :: ds => D.nobl d && nobls ds
mutual
theorem eqv_iff : ∀ {a b : D}, a.nobl = true → b.nobl = true → (D.eqv a b = true ↔ a = b)
  | .non, b, _, hb => by cases b <;> simp [D.eqv, D.nobl] at hb ⊢
  | .bl a, b, ha, _ => by simp [D.nobl] at ha
  | .int a, b, _, hb => by cases b <;> simp [D.eqv, D.nobl] at hb ⊢
  | .str a, b, _, hb => by cases b <;> simp [D.eqv, D.nobl] at hb ⊢
  | .tup a, b, ha, hb => by
    cases b with
    | tup b => simp only [D.eqv, D.nobl, D.tup.injEq] at *; exact eqvs_iff ha hb
    | bl b => simp [D.nobl] at hb
    | _ => simp [D.eqv]
  | .lst a, b, ha, hb => by
    cases b with
    | lst b => simp only [D.eqv, D.nobl, D.lst.injEq] at *; exact eqvs_iff ha hb
    | bl b => simp [D.nobl] at hb
    | _ => simp [D.eqv]
  | .ref a, b, ha, _ => by simp [D.nobl] at ha
theorem eqvs_iff : ∀ {as bs : List D}, D.nobl.nobls as = true → D.nobl.nobls bs = true → (D.eqvs as bs = true ↔ as = bs)
  | [], [], _, _ => by simp [D.eqvs]
  | [], _ :: _, _, _ => by simp [D.eqvs]
  | _ :: _, [], _, _ => by simp [D.eqvs]
  | a :: as, b :: bs, ha, hb => by
    simp only [D.nobl.nobls, Bool.and_eq_true] at ha hb
    simp only [D.eqvs, Bool.and_eq_true, List.cons.injEq, eqv_iff ha.1 hb.1, eqvs_iff ha.2 hb.2]
end
theorem runD_eq {cal : Cal} {fd : FD} {ds : List D} {st : Store} {env : Env} (h : ds.map some ++ List.replicate (fd.slots - ds.length) none = env) : runD cal fd ds st = (evSs cal fd.body env st).bind endD := by
  unfold runD
  rw [h]
end PyD
namespace PyD
open PySem
theorem filterMap_enc {α : Type} {enc : α → D} {f : D → Option D} {p : α → Bool} {g : α → D} : ∀ {ys : List α}, (∀ y ∈ ys, f (enc y) = if p y then some (g y) else none) → (ys.map enc).filterMap f = (ys.filter p).map g
  | [], _ => rfl
  | y :: ys, h => by
    have ih := filterMap_enc (enc := enc) (f := f) (p := p) (g := g) (ys := ys) fun z hz => h z (List.mem_cons_of_mem _ hz)
    rw [List.map_cons, List.filterMap_cons, h y List.mem_cons_self, List.filter_cons]
    cases p y with
    | true => simp only [if_true, List.map_cons, ih]
    | false => simp only [Bool.false_eq_true, if_false, ih]
/-- a turn's test and value, by the thing that stands there -/
theorem comp_go {α : Type} {cal : Cal} {own : List (Str × Nat)} {t : T} {i : I} {cs : Es} {elt : E} {env : Env} {st : Store} {J : It} (ys : List α) (enc : α → D) (p : α → Bool) (g : α → D)
    (hi : evI cal i env st = .ok J st) (hJ : J.all st = some (ys.map enc)) (hz : ys.length ≤ 16777216)
    (ht : ∀ y ∈ ys, ∃ env1, asT cal t (enc y) (wipeE env (own.map (·.2))) st = .ok env1 st ∧ evC cal cs env1 st = .ok (p y) st ∧ (p y = true → evE cal elt env1 st = .ok (g y) st)) :
    evL cal (.comp own t i cs elt) env st = .ok (true, (ys.filter p).map g) st := by
  -- what a datum gives: by the first thing that stands there
  have key : ∀ d ∈ ys.map enc, ∃ o : Option D, ∃ env1, asT cal t d (wipeE env (own.map (·.2))) st = .ok env1 st ∧ ((evC cal cs env1 st = .ok false st ∧ o = none) ∨ ∃ v, evC cal cs env1 st = .ok true st ∧ evE cal elt env1 st = .ok v st ∧ o = some v) := by
    intro d hd
    obtain ⟨y, hy, rfl⟩ := List.mem_map.mp hd
    obtain ⟨env1, h1, h2, h3⟩ := ht y hy
    cases hp : p y with
    | false => exact ⟨none, env1, h1, .inl ⟨by rw [h2, hp], rfl⟩⟩
    | true => exact ⟨some (g y), env1, h1, .inr ⟨g y, by rw [h2, hp], h3 hp, rfl⟩⟩
  let f : D → Option D := fun d => match asT cal t d (wipeE env (own.map (·.2))) st with
    | .ok env1 _ => (match evC cal cs env1 st with
      | .ok true _ => (match evE cal elt env1 st with
        | .ok v _ => some v
        | _ => none)
      | _ => none)
    | _ => none
  have hf : ∀ y ∈ ys, f (enc y) = if p y then some (g y) else none := by
    intro y hy
    obtain ⟨env1, h1, h2, h3⟩ := ht y hy
    show (match asT cal t (enc y) (wipeE env (own.map (·.2))) st with | .ok env1 _ => _ | _ => none) = _
    rw [h1]
    simp only
    rw [h2]
    cases hp : p y with
    | false => rfl
    | true => simp only [h3 hp]; rfl
  rw [comp_fm f hi hJ (by rw [List.length_map]; exact hz) fun d hd => ?_]
  · rw [filterMap_enc hf]
  · obtain ⟨y, hy, rfl⟩ := List.mem_map.mp hd
    obtain ⟨env1, h1, h2, h3⟩ := ht y hy
    refine ⟨env1, h1, ?_⟩
    rw [hf y hy]
    cases hp : p y with
    | false => exact .inl ⟨by rw [h2, hp], rfl⟩
    | true => exact .inr ⟨g y, by rw [h2, hp], h3 hp, rfl⟩
theorem evC_nil {cal : Cal} {env : Env} {st : Store} : evC cal .nil env st = .ok true st := by rw [evC]
theorem evC_one {cal : Cal} {e : E} {env : Env} {st : Store} {b : Bool} (h : evE cal e env st = .ok (.bl b) st) : evC cal (.cons e .nil) env st = .ok b st := by
  rw [evC, h, R.bind_ok]
  cases b with
  | true => simp only; rw [evC]
  | false => rfl
/-- [g for t in ys] -/
theorem comp_map {α : Type} {cal : Cal} {own : List (Str × Nat)} {t : T} {i : I} {elt : E} {env : Env} {st : Store} {J : It} (ys : List α) (enc g : α → D)
    (hi : evI cal i env st = .ok J st) (hJ : J.all st = some (ys.map enc)) (hz : ys.length ≤ 16777216)
    (ht : ∀ y ∈ ys, ∃ env1, asT cal t (enc y) (wipeE env (own.map (·.2))) st = .ok env1 st ∧ evE cal elt env1 st = .ok (g y) st) :
    evL cal (.comp own t i .nil elt) env st = .ok (true, ys.map g) st := by
  have h := comp_go (cs := .nil) (elt := elt) ys enc (fun _ => true) g hi hJ hz fun y hy => by
    obtain ⟨env1, h1, h2⟩ := ht y hy
    exact ⟨env1, h1, evC_nil, fun _ => h2⟩
  rw [List.filter_eq_self.mpr fun _ _ => rfl] at h
  exact h
/-- [g for t in ys if p] -/
theorem comp_filter {α : Type} {cal : Cal} {own : List (Str × Nat)} {t : T} {i : I} {e elt : E} {env : Env} {st : Store} {J : It} (ys : List α) (enc : α → D) (p : α → Bool) (g : α → D)
    (hi : evI cal i env st = .ok J st) (hJ : J.all st = some (ys.map enc)) (hz : ys.length ≤ 16777216)
    (ht : ∀ y ∈ ys, ∃ env1, asT cal t (enc y) (wipeE env (own.map (·.2))) st = .ok env1 st ∧ evE cal e env1 st = .ok (.bl (p y)) st ∧ (p y = true → evE cal elt env1 st = .ok (g y) st)) :
    evL cal (.comp own t i (.cons e .nil) elt) env st = .ok (true, (ys.filter p).map g) st :=
  comp_go ys enc p g hi hJ hz fun y hy => by
    obtain ⟨env1, h1, h2, h3⟩ := ht y hy
    exact ⟨env1, h1, evC_one h2, h3⟩
theorem compL_app {α : Type} {J : It} {as : D → Env → Store → R Env} {elt : Env → List D → Store → R (List D)} {env : Env} {st : Store} (ys : List α) (enc : α → D) (f : α → List D) (hJ : J.all st = some (ys.map enc))
    (ht : ∀ y ∈ ys, ∀ acc : List D, acc.length + (f y).length ≤ 16777216 → ((as (enc y) env st).bind fun e s => elt e acc s) = .ok (acc ++ f y) st) (acc0 : List D) (hz : acc0.length + (ys.flatMap f).length ≤ 16777216) :
    compL J as elt env (J.len st + 1) 0 acc0 st = .ok (acc0 ++ ys.flatMap f) st := by
  have go : ∀ (n i : Nat) (acc : List D), ys.length - i < n → i ≤ ys.length → acc.length + ((ys.drop i).flatMap f).length ≤ 16777216 → compL J as elt env n i acc st = .ok (acc ++ (ys.drop i).flatMap f) st := by
    intro n
    induction n with
    | zero => intro i acc h; omega
    | succ n ih =>
      intro i acc hn hi ha
      unfold compL
      rw [It.next_all i hJ]
      by_cases e : i = ys.length
      · subst e
        rw [List.getElem?_eq_none (by rw [List.length_map]; exact Nat.le_refl _), List.drop_length]
        simp
      · have hlt : i < ys.length := by omega
        have e2 : ys.drop i = ys[i] :: ys.drop (i + 1) := List.drop_eq_getElem_cons hlt
        rw [e2, List.flatMap_cons, List.length_append] at ha
        rw [List.getElem?_map, List.getElem?_eq_getElem hlt]
        simp only [Option.map_some]
        have h2 := ht ys[i] (List.getElem_mem hlt) acc (by omega)
        cases q : as (enc ys[i]) env st with
        | stuck => rw [q] at h2; cases h2
        | exc _ _ => rw [q] at h2; cases h2
        | ok e1 s1 =>
          rw [q] at h2
          have h2 : elt e1 acc s1 = .ok (acc ++ f ys[i]) st := h2
          rw [R.bind_ok, h2, R.bind_ok, ih (i + 1) _ (by omega) (by omega) (by rw [List.length_append]; omega), e2, List.flatMap_cons, List.append_assoc]
  have h := go (J.len st + 1) 0 acc0 (by rw [It.len_all hJ, List.length_map]; omega) (Nat.zero_le _) (by simpa using hz)
  simpa using h
theorem filt_flat {β : Type} (p : β → Bool) (g : β → D) : ∀ zs : List β, (zs.flatMap fun z => if p z then [g z] else []) = (zs.filter p).map g
  | [] => rfl
  | z :: zs => by
    rw [List.flatMap_cons, List.filter_cons, filt_flat p g zs]
    cases p z <;> rfl
/-- tests and values of a turn -/
theorem elt_at {cal : Cal} {cs : Es} {elt : E} {env : Env} {st : Store} {acc : List D} {b : Bool} {d : D} (hz : acc.length + (if b then [d] else []).length ≤ 16777216) (h1 : evC cal cs env st = .ok b st) (h2 : b = true → evE cal elt env st = .ok d st) :
    ((evC cal cs env st).bind fun b st2 => if b then (evE cal elt env st2).bind fun d st3 => pushD acc d st3 else .ok acc st2) = .ok (acc ++ if b then [d] else []) st := by
  rw [h1, R.bind_ok]
  cases b with
  | false => simp
  | true =>
    simp only [if_true] at hz ⊢
    rw [h2 rfl, R.bind_ok]
    unfold pushD
    rw [if_pos]
    unfold small
    exact decide_eq_true hz
/-- [g y z for y in ys for z in zs y if p y z] -/
theorem comp2_go {α β : Type} {cal : Cal} {own : List (Str × Nat)} {vs1 : List Nat} {t t2 : T} {i i2 : I} {cs : Es} {elt : E} {env : Env} {st : Store} {J : It} (ys : List α) (enc : α → D) (zs : α → List β) (enc2 : α → β → D) (p : α → β → Bool) (g : α → β → D)
    (hi : evI cal i env st = .ok J st) (hJ : J.all st = some (ys.map enc)) (hz : (ys.flatMap fun y => ((zs y).filter (p y)).map (g y)).length ≤ 16777216)
    (ht : ∀ y ∈ ys, ∃ env1 J2, asT cal t (enc y) (wipeE env (own.map (·.2))) st = .ok env1 st ∧ evI cal i2 env1 st = .ok J2 st ∧ J2.all st = some ((zs y).map (enc2 y)) ∧
      ∀ z ∈ zs y, ∃ env2, asT cal t2 (enc2 y z) (wipeE env1 vs1) st = .ok env2 st ∧ evC cal cs env2 st = .ok (p y z) st ∧ (p y z = true → evE cal elt env2 st = .ok (g y z) st)) :
    evL cal (.comp2 own vs1 t i t2 i2 cs elt) env st = .ok (true, ys.flatMap fun y => ((zs y).filter (p y)).map (g y)) st := by
  rw [evL, hi, R.bind_ok, compL_app ys enc (fun y => ((zs y).filter (p y)).map (g y)) hJ (fun y hy acc ha => ?_) [] (by simpa using hz)]
  · rfl
  · obtain ⟨env1, J2, h1, h2, h3, h4⟩ := ht y hy
    rw [h1, R.bind_ok, h2, R.bind_ok, ← filt_flat]
    refine compL_app (zs y) (enc2 y) _ h3 (fun z hzm acc2 ha2 => ?_) acc (by rw [filt_flat]; exact ha)
    obtain ⟨env2, g1, g2, g3⟩ := h4 z hzm
    rw [g1, R.bind_ok]
    exact elt_at ha2 g2 g3
end PyD
namespace PyD
open PySem
section
variable {cal : Cal} {env env1 : Env} {st st1 st2 st3 : Store} {e a b c i : E} {es zs : Es} {l l2 : L} {t : T} {ss p q : Ss} {x y z d : D} {ds : List D} {r : R D} {bb : Bool}
theorem ss_ret (h : evE cal e env st = .ok d st1) : (evSs cal (.cons (.ret e) ss) env st).bind endD = .ok d st1 := by
  rw [evSs, evS, h]; rfl
theorem ss_nil : (evSs cal .nil env st).bind endD = .ok .non st := by rw [evSs]; rfl
theorem ss_asg (h : evE cal e env st = .ok d st1) (ha : asT cal t d env st1 = .ok env1 st2) (hr : (evSs cal ss env1 st2).bind endD = r) : (evSs cal (.cons (.asg t e) ss) env st).bind endD = r := by
  rw [evSs, evS, h, R.bind_ok, ha, R.bind_ok, R.bind_ok]; exact hr
theorem ss_ex (h : evE cal e env st = .ok d st1) (hr : (evSs cal ss env st1).bind endD = r) : (evSs cal (.cons (.ex e) ss) env st).bind endD = r := by
  rw [evSs, evS, h, R.bind_ok, R.bind_ok]; exact hr
theorem ss_s {s : S} (h : evS cal s env st = .ok (.nx, env1) st1) (hr : (evSs cal ss env1 st1).bind endD = r) : (evSs cal (.cons s ss) env st).bind endD = r := by
  rw [evSs, h, R.bind_ok]; exact hr
theorem ss_if_f (h : evE cal c env st = .ok (.bl false) st1) (hr : (evSs cal ss env st1).bind endD = r) : (evSs cal (.cons (.ifs c p .nil) ss) env st).bind endD = r := by
  rw [evSs, evS, h, R.bind_ok]
  simp only
  rw [evSs, R.bind_ok]; exact hr
theorem ss_if_t (h : evE cal c env st = .ok (.bl true) st1) (hp : evE cal e env st1 = .ok d st2) : (evSs cal (.cons (.ifs c (.cons (.ret e) .nil) q) ss) env st).bind endD = .ok d st2 := by
  rw [evSs, evS, h, R.bind_ok]
  simp only
  rw [evSs, evS, hp]; rfl
theorem bs_nil : evSs cal .nil env st = .ok (.nx, env) st := by rw [evSs]
theorem bs_asg {r : R (Fl × Env)} (h : evE cal e env st = .ok d st1) (ha : asT cal t d env st1 = .ok env1 st2) (hr : evSs cal ss env1 st2 = r) : evSs cal (.cons (.asg t e) ss) env st = r := by
  rw [evSs, evS, h, R.bind_ok, ha, R.bind_ok, R.bind_ok]; exact hr
theorem bs_ex {r : R (Fl × Env)} (h : evE cal e env st = .ok d st1) (hr : evSs cal ss env st1 = r) : evSs cal (.cons (.ex e) ss) env st = r := by
  rw [evSs, evS, h, R.bind_ok, R.bind_ok]; exact hr
theorem bs_s {s : S} {r : R (Fl × Env)} (h : evS cal s env st = .ok (.nx, env1) st1) (hr : evSs cal ss env1 st1 = r) : evSs cal (.cons s ss) env st = r := by
  rw [evSs, h, R.bind_ok]; exact hr
theorem bs_if_f {r : R (Fl × Env)} (h : evE cal c env st = .ok (.bl false) st1) (hr : evSs cal ss env st1 = r) : evSs cal (.cons (.ifs c p .nil) ss) env st = r := by
  rw [evSs, evS, h, R.bind_ok]
  simp only
  rw [evSs, R.bind_ok]; exact hr
theorem e_tupOf (h : evL cal l env st = .ok (bb, ds) st1) : evE cal (.tupOf l) env st = .ok (.tup ds) st1 := by rw [evE, h, R.bind_ok]
theorem e_fz (h : evL cal l env st = .ok (true, ds) st1) : evE cal (.fz l) env st = .ok (.lst ds) st1 := by rw [evE, h, R.bind_ok]; rfl
theorem e_ls (h : evL cal l env st = .ok (true, ds) st1) : evE cal (.ls l) env st = .ok (.ref st1.length) (st1 ++ [.lst ds]) := by rw [evE, h, R.bind_ok]; rfl
theorem e_call {f : Nat} (hs : evEs cal es env st = .ok ds st1) (hc : cal f ds st1 = r) : evE cal (.call f es) env st = r := by rw [evE, hs, R.bind_ok]; exact hc
theorem e_callk {f : Nat} {ws : List D} {perm : List Nat} (hs : evEs cal es env st = .ok ds st1) (hz : evEs cal zs env st1 = .ok ws st2) (hc : cal f (sel perm (ds ++ ws)) st2 = r) : evE cal (.callk f es zs perm) env st = r := by rw [evE, hs, R.bind_ok, hz, R.bind_ok]; exact hc
theorem e_not (h : evE cal a env st = .ok (.bl bb) st1) : evE cal (.not a) env st = .ok (.bl (!bb)) st1 := by rw [evE, h]; rfl
theorem e_bin {o : Op} (ha : evE cal a env st = .ok x st1) (hb : evE cal b env st1 = .ok y st2) (h : binD o x y st2 = r) : evE cal (.bin o a b) env st = r := by rw [evE, ha, R.bind_ok, hb, R.bind_ok]; exact h
theorem e_cmp {o : Cop} (ha : evE cal a env st = .ok x st1) (hb : evE cal b env st1 = .ok y st2) (h : cmpD o x y st2 = r) : evE cal (.cmp o a b) env st = r := by rw [evE, ha, R.bind_ok, hb, R.bind_ok]; exact h
theorem e_ix (ha : evE cal a env st = .ok x st1) (hb : evE cal i env st1 = .ok y st2) (h : ixD x y st2 = r) : evE cal (.ix a i) env st = r := by rw [evE, ha, R.bind_ok, hb, R.bind_ok]; exact h
theorem e_b1 {o : B1} (ha : evE cal a env st = .ok x st1) (h : b1D o x st1 = r) : evE cal (.b1 o a) env st = r := by rw [evE, ha, R.bind_ok]; exact h
theorem e_ite_t (hc : evE cal c env st = .ok (.bl true) st1) (h : evE cal a env st1 = r) : evE cal (.ite c a b) env st = r := by rw [evE, hc, R.bind_ok]; exact h
theorem e_ite_f (hc : evE cal c env st = .ok (.bl false) st1) (h : evE cal b env st1 = r) : evE cal (.ite c a b) env st = r := by rw [evE, hc, R.bind_ok]; exact h
theorem e_ite {v w : D} (hc : evE cal c env st = .ok (.bl bb) st1) (ht : bb = true → evE cal a env st1 = .ok v st1) (hf : bb = false → evE cal b env st1 = .ok w st1) : evE cal (.ite c a b) env st = .ok (if bb then v else w) st1 := by
  cases bb with
  | true => exact e_ite_t hc (ht rfl)
  | false => exact e_ite_f hc (hf rfl)
theorem e_tup (h : evEs cal es env st = .ok ds st1) (hz : ds.length ≤ 16777216) : evE cal (.tup es) env st = .ok (.tup ds) st1 := by
  rw [evE, h, R.bind_ok, if_pos (by unfold small; exact decide_eq_true hz)]
theorem s_nil : evEs cal .nil env st = .ok [] st := by rw [evEs]
theorem s_cons (h : evE cal e env st = .ok x st1) (hs : evEs cal es env st1 = .ok ds st2) : evEs cal (.cons e es) env st = .ok (x :: ds) st2 := by rw [evEs, h, R.bind_ok, hs, R.bind_ok]
/-- and, or: the last; one that tells; one that does not -/
theorem e_bools {k : Bool} (h : evB cal k es env st = r) : evE cal (.bools k es) env st = r := by rw [evE]; exact h
theorem b_last {k : Bool} (h : evE cal e env st = .ok (.bl bb) st1) : evB cal k (.cons e .nil) env st = .ok (.bl bb) st1 := by rw [evB, h]; rfl
theorem b_stop {k : Bool} (h : evE cal e env st = .ok (.bl (!k)) st1) : evB cal k (.cons e es) env st = .ok (.bl (!k)) st1 := by
  rw [evB, h, R.bind_ok]
  cases k <;> cases es <;> rfl
theorem b_on {k : Bool} {e2 : E} (h : evE cal e env st = .ok (.bl k) st1) (hr : evB cal k (.cons e2 es) env st1 = r) : evB cal k (.cons e (.cons e2 es)) env st = r := by
  rw [evB, h, R.bind_ok]
  have : (k == k) = true := by cases k <;> rfl
  simp only [Es.isNil, Bool.false_eq_true, if_false, this, if_true]
  exact hr
/-- and of truths that leave the store -/
theorem b_and {e2 : E} {b1 b2 : Bool} (h : evE cal e env st = .ok (.bl b1) st) (hr : b1 = true → evB cal true (.cons e2 es) env st = .ok (.bl b2) st) : evB cal true (.cons e (.cons e2 es)) env st = .ok (.bl (b1 && b2)) st := by
  cases b1 with
  | true => exact b_on h (hr rfl)
  | false => exact b_stop (k := true) h
theorem b_or {e2 : E} {b1 b2 : Bool} (h : evE cal e env st = .ok (.bl b1) st) (hr : b1 = false → evB cal false (.cons e2 es) env st = .ok (.bl b2) st) : evB cal false (.cons e (.cons e2 es)) env st = .ok (.bl (b1 || b2)) st := by
  cases b1 with
  | false => exact b_on h (hr rfl)
  | true => exact b_stop (k := false) h
theorem e_allOf {bs : List Bool} (h : evL cal l env st = .ok (true, bs.map D.bl) st1) : evE cal (.allOf l) env st = .ok (.bl (bs.all id)) st1 := by
  have e : blsD (bs.map D.bl) = some bs := by
    clear h
    induction bs with
    | nil => rfl
    | cons b bs ih => simp only [List.map_cons, blsD, ih, Option.map_some]
  rw [evE, h, R.bind_ok]
  simp only [allD, e, Option.map_some]
  rfl
theorem ints_map (ns : List Int) : intsD (ns.map D.int) = some ns := by
  induction ns with
  | nil => rfl
  | cons b bs ih => simp only [List.map_cons, intsD, ih, Option.map_some]
theorem e_sumOf {ns : List Int} (h : evL cal l env st = .ok (true, ns.map D.int) st1) : evE cal (.sumOf l) env st = .ok (.int ns.sum) st1 := by
  rw [evE, h, R.bind_ok]
  simp only [ints_map]
theorem l_of (h : evE cal e env st = .ok x st1) (hi : items x st1 = some (bb, ds)) : evL cal (.of e) env st = .ok (bb, ds) st1 := by rw [evL, h, R.bind_ok]; simp only [hi]
theorem l_sorted (h : evL cal l env st = .ok (true, ds) st1) {es : List D} (hs : sortD ds = some es) : evL cal (.sorted l) env st = .ok (true, es) st1 := by rw [evL, h, R.bind_ok]; simp only [hs]
theorem l_sset {ns : List Int} (h : evL cal l env st = .ok (bb, ns.map D.int) st1) (hz : ns.length < 64) : evL cal (.sortedSet l) env st = .ok (true, (usort ns).map D.int) st1 := by
  rw [evL, h, R.bind_ok]
  simp only [ints_map]
  rw [if_pos (decide_eq_true hz)]
theorem l_disp (h : evEs cal es env st = .ok ds st1) (hz : ds.length ≤ 16777216) : evL cal (.disp es) env st = .ok (true, ds) st1 := by
  rw [evL, h, R.bind_ok, if_pos (by unfold small; exact decide_eq_true hz)]
theorem i_tup (h : evE cal e env st = .ok (.tup ds) st1) : evI cal (.of (.of e)) env st = .ok (.ds false ds) st1 := by rw [evI, h]; rfl
theorem i_lst (h : evE cal e env st = .ok (.lst ds) st1) : evI cal (.of (.of e)) env st = .ok (.ds true ds) st1 := by rw [evI, h]; rfl
theorem i_rng1 {j : Int} (h : evE cal e env st = .ok (.int j) st1) (hz : smallI (4 * j) = true) : evI cal (.rng1 e) env st = .ok (.rng 0 j.toNat) st1 := by rw [evI, h, R.bind_ok]; simp only [hz, if_true]
theorem i_rng2 {i j : Int} (h : evE cal a env st = .ok (.int i) st1) (h2 : evE cal b env st1 = .ok (.int j) st2) (hz : smallI (4 * i) = true) (hz2 : smallI (4 * j) = true) : evI cal (.rng2 a b) env st = .ok (.rng i (j - i).toNat) st2 := by
  rw [evI, h, R.bind_ok, h2, R.bind_ok]
  simp only [hz, hz2, Bool.and_self, if_true]
end
theorem smallI_le {i : Int} (h1 : -(2 ^ 64) < i) (h2 : i < 2 ^ 64) : smallI i = true := by
  unfold smallI
  rw [decide_eq_true h1, decide_eq_true h2]
  rfl
end PyD
namespace PyD
open PySem
def ar (p : Nat × Nat) : D := .tup [.int p.1, .int p.2]
def wb (n : Nat) (as : List (Nat × Nat)) : D := .tup [.int n, .tup (as.map ar)]
def nI (l : List Nat) : List Int := l.map fun (i : Nat) => (i : Int)
/-- a row of things -/
def nT (l : List Nat) : D := .tup (l.map fun (i : Nat) => .int (i : Int))
theorem nT_eq (l : List Nat) : nT l = .tup ((nI l).map .int) := by unfold nT nI; rw [List.map_map]; rfl
theorem deq (a b : Nat) : decide ((a : Int) = (b : Int)) = decide (a = b) := decide_eq_decide.mpr (by omega)
def iT (l : List Int) : D := .tup (l.map .int)
def iL (l : List Int) : D := .lst (l.map .int)
/-- parents of a thing -/
def pars (as : List (Nat × Nat)) (t : Nat) : List Nat := (as.filter fun p => decide (p.2 = t)).map (·.1)
def kids (as : List (Nat × Nat)) (t : Nat) : List Nat := (as.filter fun p => decide (p.1 = t)).map (·.2)
theorem pures_ints : ∀ l : List Int, D.pures (l.map .int) = true
  | [] => rfl
  | i :: l => by simp only [List.map_cons, D.pures, D.pure, pures_ints l, Bool.and_self]
theorem iT_pure (l : List Int) : (iT l).pure = true := by unfold iT; simp only [D.pure]; exact pures_ints l
theorem iL_pure (l : List Int) : (iL l).pure = true := by unfold iL; simp only [D.pure]; exact pures_ints l
theorem all_rng0 (n : Nat) (st : Store) : It.all (.rng 0 n) st = some ((List.range n).map fun (i : Nat) => D.int (i : Int)) := by
  simp only [It.all, Int.zero_add]
theorem map_map_int {α : Type} (l : List α) (f : α → Int) : (l.map fun x => D.int (f x)) = (l.map f).map .int := by rw [List.map_map]; rfl
section
variable {Φ : Nat → Option FD} {k : Nat}
theorem e0 (h : H0 Φ) (i : Int) (st : Store) : callD Φ (k + 1) 0 [.int i] st = .ok (.bl true) st :=
  call_ev0 h.self rfl (by rfl) rfl
theorem e1 (h : H1 Φ) (i a b : Int) (st : Store) : callD Φ (k + 2) 1 [.int i, .int a, .int b] st = .ok (.bl (decide (a ≤ i) && decide (i ≤ b))) st := by
  refine call_ev0 h.self rfl ?_ rfl
  rw [runD_eq (env := [some (.int i), some (.int a), some (.int b)]) rfl]
  refine ss_ret (e_bools (b_on (e_call (s_cons rfl s_nil) (e0 h.c0 i st)) (b_last ?_)))
  rw [evE]
  simp only [evE, List.getElem?_cons_zero, List.getElem?_cons_succ, R.bind_ok, cmp_le]
  by_cases h1 : a ≤ i
  · simp only [h1, decide_true, R.bind_ok, cmp_le, Bool.true_and]
  · simp only [h1, decide_false, okB, Bool.false_and]
theorem e2 (h : H2 Φ) (ds : List D) (m : Int) (st : Store) : callD Φ (k + 1) 2 [.tup ds, .int m] st = .ok (.bl (decide ((ds.length : Int) = m))) st := by
  refine call_ev0 h.self rfl ?_ rfl
  rw [runD_eq (env := [some (.tup ds), some (.int m)]) rfl]
  exact ss_ret (e_bools (b_on rfl (b_last (e_cmp (e_b1 rfl rfl) rfl rfl))))
theorem e4 (h : H4 Φ) (a b m : Int) (h1 : 0 ≤ a) (h2 : a ≤ m - 1) (h3 : 0 ≤ b) (h4 : b ≤ m - 1) (h5 : a ≠ b) (st : Store) : callD Φ (k + 3) 4 [.tup [.int a, .int b], .int m] st = .ok (.bl true) st := by
  refine call_ev0 h.self rfl ?_ rfl
  rw [runD_eq (env := [some (.tup [.int a, .int b]), some (.int m)]) rfl]
  have k0 : callD Φ (k + 2) 2 [.tup [.int a, .int b], .int 2] st = .ok (.bl true) st := e2 (k := k + 1) h.c2 [.int a, .int b] 2 st
  have k1 := e1 (k := k) h.c1 a 0 (m - 1) st
  have k2 := e1 (k := k) h.c1 b 0 (m - 1) st
  rw [decide_eq_true h1, decide_eq_true h2] at k1
  rw [decide_eq_true h3, decide_eq_true h4] at k2
  refine ss_if_f (e_bools (b_on (e_not (e_call (s_cons rfl (s_cons rfl s_nil)) k0)) (b_on (e_not (e_call (s_cons rfl (s_cons rfl (s_cons rfl s_nil))) k1)) (b_last (e_not (e_call (s_cons rfl (s_cons rfl (s_cons rfl s_nil))) k2)))))) (ss_ret (e_cmp rfl rfl ?_))
  rw [cmp_ne, decide_eq_false h5]; rfl
theorem nT_pure (l : List Nat) : (nT l).pure = true := by rw [nT_eq]; exact iT_pure _
theorem pars_comp {cal : Cal} {own : List (Str × Nat)} {t : T} {i : I} {e elt : E} {env : Env} {st : Store} {J : It} (as : List (Nat × Nat)) (x : Nat) (hi : evI cal i env st = .ok J st) (hJ : J.all st = some (as.map ar)) (hz : as.length ≤ 16777216)
    (ht : ∀ p : Nat × Nat, ∃ env1, asT cal t (ar p) (wipeE env (own.map (·.2))) st = .ok env1 st ∧ evE cal e env1 st = .ok (.bl (decide ((p.2 : Int) = (x : Int)))) st ∧ evE cal elt env1 st = .ok (.int p.1) st) :
    evE cal (.tupOf (.comp own t i (.cons e .nil) elt)) env st = .ok (nT (pars as x)) st := by
  refine (e_tupOf (comp_filter as ar (fun p => decide (p.2 = x)) (fun p => .int (p.1 : Int)) hi hJ hz fun p _ => ?_)).trans ?_
  · obtain ⟨env1, h1, h2, h3⟩ := ht p
    exact ⟨env1, h1, by rw [h2, deq], fun _ => h3⟩
  · unfold nT pars
    rw [List.map_map]
    rfl
theorem e11 (h : H11 Φ) (n : Nat) (as : List (Nat × Nat)) (t : Nat) (hz : as.length ≤ 16777216) (st : Store) : callD Φ (k + 1) 11 [wb n as, .int t] st = .ok (nT (pars as t)) st := by
  refine call_ev0 h.self rfl ?_ (nT_pure _)
  rw [runD_eq (env := [some (wb n as), some (.int t), none, none]) rfl]
  exact ss_ret (pars_comp as t rfl rfl hz fun p => ⟨_, rfl, rfl, rfl⟩)
/-- rows of things for things -/
def rowsL (n : Nat) (f : Nat → List Nat) : D := .lst ((List.range n).map fun i => nT (f i))
theorem pures_map {α : Type} (f : α → D) (h : ∀ x, (f x).pure = true) : ∀ l : List α, D.pures (l.map f) = true
  | [] => rfl
  | x :: l => by simp only [List.map_cons, D.pures, h x, pures_map f h l, Bool.and_self]
theorem rowsL_pure (n : Nat) (f : Nat → List Nat) : (rowsL n f).pure = true := by unfold rowsL; simp only [D.pure]; exact pures_map _ (fun i => nT_pure _) _
theorem e10 (h : H10 Φ) (n : Nat) (as : List (Nat × Nat)) (hn : n ≤ 1000) (hz : as.length ≤ 16777216) (st : Store) : callD Φ (k + 1) 10 [wb n as] st = .ok (rowsL n (pars as)) st := by
  refine call_ev0 h.self rfl ?_ (rowsL_pure _ _)
  rw [runD_eq (env := [some (wb n as), none, none, none]) rfl]
  exact ss_ret (e_fz (comp_map (List.range n) (fun (i : Nat) => D.int (i : Int)) (fun i => nT (pars as i)) (i_rng1 rfl (smallI_le (by omega) (by omega))) (all_rng0 n st) (by rw [List.length_range]; omega)
    fun i _ => ⟨_, rfl, pars_comp as i rfl rfl hz fun p => ⟨_, rfl, rfl, rfl⟩⟩))
end
end PyD
namespace PyD
open PySem
def isort (l : List Int) : List Int := l.mergeSort fun a b => decide (a ≤ b)
theorem alike_ints : ∀ xs ys : List Int, PySem.W.alikeAll (xs.map PyData.int) (ys.map PyData.int) = true
  | [], ys => by cases ys <;> simp [PySem.W.alikeAll]
  | x :: xs, [] => by simp [PySem.W.alikeAll]
  | x :: xs, y :: ys => by simp [PySem.W.alikeAll, PySem.W.alike, alike_ints xs ys]
theorem pys_ints : ∀ l : List Int, D.pys (l.map .int) = l.map .int
  | [] => rfl
  | i :: l => by simp only [List.map_cons, D.pys, D.py, pys_ints l]
theorem iT_py (l : List Int) : (iT l).py = .tuple (l.map .int) := by unfold iT; simp only [D.py, pys_ints]
theorem depth_ints : ∀ l : List Int, PyData.depthAll (l.map PyData.int) ≤ 1
  | [] => by simp [PyData.depthAll]
  | i :: l => by have := depth_ints l; simp only [List.map_cons, PyData.depthAll, PyData.depth]; omega
theorem small_of {n : Nat} (h : n ≤ 16777216) : small n = true := by unfold small; exact decide_eq_true h
theorem sortD_ints (l : List Int) (hz : l.length ≤ 16777216) : sortD (l.map .int) = some ((isort l).map .int) := by
  unfold sortD
  rw [if_pos]
  · congr 1
    unfold isort
    rw [List.map_mergeSort (r := fun a b => decide (a ≤ b)) (s := PySem.W.dataLe false D.py) (f := D.int)]
    intro a _ b _
    have := congrFun (congrFun (PySem.W.dataLe_int (β := Int) fun x => x) a) b
    exact this.symm
  · simp only [Bool.and_eq_true]
    refine ⟨⟨⟨?_, ?_⟩, ?_⟩, by rw [List.length_map]; exact small_of hz⟩
    · rw [List.all_eq_true]
      intro d hd
      obtain ⟨i, _, rfl⟩ := List.mem_map.mp hd
      rfl
    · unfold alikeD
      rw [List.all_eq_true]
      intro d hd
      rw [List.all_eq_true]
      intro d' hd'
      obtain ⟨i, _, rfl⟩ := List.mem_map.mp hd
      obtain ⟨j, _, rfl⟩ := List.mem_map.mp hd'
      rfl
    · unfold sortableD
      rw [Bool.or_eq_true]
      refine .inr (List.all_eq_true.mpr fun d hd => ?_)
      obtain ⟨i, _, rfl⟩ := List.mem_map.mp hd
      rfl
/-- rows of ints by their places -/
def rsort (l : List (List Int)) : List (List Int) := l.mergeSort fun a b => decide (a ≤ b)
theorem lt_rows (xs ys : List Int) : PySem.W.dataLt (iT xs).py (iT ys).py = decide (xs < ys) := by
  rw [iT_py, iT_py, PySem.W.dataLt_tuple]
  exact PySem.W.dataLt_ints xs ys
theorem le_rows (xs ys : List Int) : PySem.W.dataLe false D.py (iT xs) (iT ys) = decide (xs ≤ ys) := by
  rw [PySem.W.dataLe_eq]
  show (!PySem.W.dataLt (iT ys).py (iT xs).py) = _
  rw [lt_rows]
  by_cases h : ys < xs
  · rw [decide_eq_true h, decide_eq_false (List.not_le.mpr h)]; rfl
  · rw [decide_eq_false h, decide_eq_true (List.not_lt.mp h)]; rfl
theorem sortD_rows (l : List (List Int)) (hz : l.length ≤ 16777216) (hne : ∀ r ∈ l, r ≠ []) : sortD (l.map iT) = some ((rsort l).map iT) := by
  unfold sortD
  rw [if_pos]
  · congr 1
    unfold rsort
    rw [List.map_mergeSort (r := fun a b => decide (a ≤ b)) (s := PySem.W.dataLe false D.py) (f := iT)]
    intro a _ b _
    exact (le_rows a b).symm
  · simp only [Bool.and_eq_true]
    refine ⟨⟨⟨?_, ?_⟩, ?_⟩, by rw [List.length_map]; exact small_of hz⟩
    · rw [List.all_eq_true]
      intro d hd
      obtain ⟨r, _, rfl⟩ := List.mem_map.mp hd
      unfold D.flat
      rw [iT_pure, iT_py, Bool.true_and]
      have := depth_ints r
      simp only [PyData.depth]
      exact decide_eq_true (by omega)
    · unfold alikeD
      rw [List.all_eq_true]
      intro d hd
      rw [List.all_eq_true]
      intro d' hd'
      obtain ⟨i, _, rfl⟩ := List.mem_map.mp hd
      obtain ⟨j, _, rfl⟩ := List.mem_map.mp hd'
      rw [iT_py, iT_py]
      simp only [PySem.W.alike]
      exact alike_ints i j
    · unfold sortableD
      rw [Bool.or_eq_true]
      refine .inl (List.all_eq_true.mpr fun d hd => ?_)
      obtain ⟨r, hr, rfl⟩ := List.mem_map.mp hd
      cases r with
      | nil => exact absurd rfl (hne [] hr)
      | cons i r => rfl
theorem cmp_ltR (xs ys : List Int) (st : Store) : cmpD .lt (iT xs) (iT ys) st = .ok (.bl (decide (xs < ys))) st := by
  have d1 := depth_ints xs
  have d2 := depth_ints ys
  have s1 : see st depthL (iT xs) = some (iT xs) := see_pure st depthL _ (iT_pure xs) (by rw [iT_py]; simp only [PyData.depth, depthL]; omega)
  have s2 : see st depthL (iT ys) = some (iT ys) := see_pure st depthL _ (iT_pure ys) (by rw [iT_py]; simp only [PyData.depth, depthL]; omega)
  simp only [cmpD, ordD, s1, s2, lt_rows]
  rw [if_pos]
  · rfl
  · rw [iT_py, iT_py]
    simp only [PySem.W.alike, alike_ints, Bool.true_and]
    rfl
theorem isort_perm (l : List Int) : (isort l).Perm l := List.mergeSort_perm l _
theorem isort_le (l : List Int) : (isort l).Pairwise (· ≤ ·) := by
  have h := List.pairwise_mergeSort (le := fun a b : Int => decide (a ≤ b)) (fun a b c h1 h2 => by simp only [decide_eq_true_eq] at *; omega) (fun a b => by simp only [Bool.or_eq_true, decide_eq_true_eq]; omega) l
  exact h.imp fun h => of_decide_eq_true h
theorem rsort_perm (l : List (List Int)) : (rsort l).Perm l := List.mergeSort_perm l _
theorem rsort_le (l : List (List Int)) : (rsort l).Pairwise (· ≤ ·) := by
  have h := List.pairwise_mergeSort (le := fun a b : List Int => decide (a ≤ b)) (fun a b c h1 h2 => by simp only [decide_eq_true_eq] at *; exact List.le_trans h1 h2) (fun a b => by simp only [Bool.or_eq_true, decide_eq_true_eq]; exact List.le_total a b) l
  exact h.imp fun h => of_decide_eq_true h
end PyD
namespace PyD
open PySem
theorem bitOr_nat (a b : Nat) : Builtin.bitOr (a : Int) (b : Int) = ((a ||| b : Nat) : Int) := by
  have h1 : Builtin.bitNot (a : Int) = -(a : Int) - 1 := by unfold Builtin.bitNot; omega
  have h2 : Builtin.bitNot (b : Int) = -(b : Int) - 1 := by unfold Builtin.bitNot; omega
  unfold Builtin.bitOr Builtin.bitAnd
  have n1 : decide (0 ≤ Builtin.bitNot (a : Int)) = false := decide_eq_false (by omega)
  have n2 : decide (0 ≤ Builtin.bitNot (b : Int)) = false := decide_eq_false (by omega)
  rw [n1, n2]
  simp only
  have e1 : Builtin.bitNot (Builtin.bitNot (a : Int)) = a := by unfold Builtin.bitNot; omega
  have e2 : Builtin.bitNot (Builtin.bitNot (b : Int)) = b := by unfold Builtin.bitNot; omega
  rw [e1, e2]
  simp only [Int.toNat_natCast]
  unfold Builtin.bitNot
  omega
/-- the t-th bit, as the program asks -/
theorem bit_at (m t : Nat) : decide (Builtin.bitAnd ((m : Int) / 2 ^ t) 1 = 1) = m.testBit t := by
  rw [PyProof.Rows.bitAnd_m1]
  have e : ((m : Int) / 2 ^ t) % 2 = ((m / 2 ^ t % 2 : Nat) : Int) := by
    push_cast
    rfl
  rw [e]
  rw [Nat.testBit_eq_decide_div_mod_eq]
  exact decide_eq_decide.mpr (by omega)
def bitsN (l : List Nat) : Nat := (l.map fun t => 2 ^ t).sum
/-- a loop by what it leaves: I tells how the state at turn i stands for what was made so far -/
theorem forL_ix {α β : Type} {J : It} {as : D → Env → Store → R Env} {body : Env → Store → R (Fl × Env)} (ys : List α) (enc : α → D) (I : Nat → β → Env → Store → Prop) (step : β → α → β) (hJ : ∀ i b env st, I i b env st → J.all st = some (ys.map enc))
    (hs : ∀ i y, ys[i]? = some y → ∀ b env st, I i b env st → ∃ env1 st1, ((as (enc y) env st).bind fun e s => body e s) = .ok (.nx, env1) st1 ∧ I (i + 1) (step b y) env1 st1) {b0 : β} {env0 : Env} {st0 : Store} (h0 : I 0 b0 env0 st0) :
    ∃ env1 st1, forL J as body (J.len st0 + 1) 0 env0 st0 = .ok (.nx, env1) st1 ∧ I ys.length (ys.foldl step b0) env1 st1 := by
  have go : ∀ (n i : Nat) (b : β) (env : Env) (st : Store), ys.length - i < n → i ≤ ys.length → I i b env st → ∃ env1 st1, forL J as body n i env st = .ok (.nx, env1) st1 ∧ I ys.length ((ys.drop i).foldl step b) env1 st1 := by
    intro n
    induction n with
    | zero => intro i b env st h; omega
    | succ n ih =>
      intro i b env st hn hi h
      unfold forL
      rw [It.next_all i (hJ i b env st h)]
      by_cases e : i = ys.length
      · subst e
        rw [List.getElem?_eq_none (by rw [List.length_map]; exact Nat.le_refl _), List.drop_length]
        exact ⟨env, st, rfl, h⟩
      · have hlt : i < ys.length := by omega
        have e2 : ys.drop i = ys[i] :: ys.drop (i + 1) := List.drop_eq_getElem_cons hlt
        rw [List.getElem?_map, List.getElem?_eq_getElem hlt]
        simp only [Option.map_some]
        obtain ⟨env1, st1, h1, h2⟩ := hs i ys[i] (List.getElem?_eq_getElem hlt) b env st h
        cases q : as (enc ys[i]) env st with
        | stuck => rw [q] at h1; cases h1
        | exc _ _ => rw [q] at h1; cases h1
        | ok e1 s1 =>
          rw [q] at h1
          have h1 : body e1 s1 = .ok (.nx, env1) st1 := h1
          rw [R.bind_ok, h1, R.bind_ok, e2, List.foldl_cons]
          exact ih (i + 1) _ env1 st1 (by omega) (by omega) h2
  have h := go (J.len st0 + 1) 0 b0 env0 st0 (by rw [It.len_all (hJ _ _ _ _ h0), List.length_map]; omega) (Nat.zero_le _) h0
  simpa using h
theorem s_forI {α β : Type} {cal : Cal} {t : T} {i : I} {bd : Ss} {J : It} {env : Env} {st st0 : Store} (ys : List α) (enc : α → D) (I : Nat → β → Env → Store → Prop) (step : β → α → β) (hi : evI cal i env st = .ok J st0) {b0 : β} (h0 : I 0 b0 env st0)
    (hJ : ∀ i b env st, I i b env st → J.all st = some (ys.map enc))
    (hs : ∀ i y, ys[i]? = some y → ∀ b env st, I i b env st → ∃ env1 env2 st2, asT cal t (enc y) env st = .ok env1 st ∧ evSs cal bd env1 st = .ok (.nx, env2) st2 ∧ I (i + 1) (step b y) env2 st2) :
    ∃ env1 st1, evS cal (.for t i bd) env st = .ok (.nx, env1) st1 ∧ I ys.length (ys.foldl step b0) env1 st1 := by
  rw [evS, hi, R.bind_ok]
  refine forL_ix ys enc I step hJ (fun i y hy b env st h => ?_) h0
  obtain ⟨env1, env2, st2, h1, h2, h3⟩ := hs i y hy b env st h
  exact ⟨env2, st2, by rw [h1, R.bind_ok]; exact h2, h3⟩
theorem s_for {α β : Type} {cal : Cal} {t : T} {i : I} {bd : Ss} {J : It} {env : Env} {st st0 : Store} (ys : List α) (enc : α → D) (I : β → Env → Store → Prop) (step : β → α → β) (hi : evI cal i env st = .ok J st0) {b0 : β} (h0 : I b0 env st0)
    (hJ : ∀ b env st, I b env st → J.all st = some (ys.map enc))
    (hs : ∀ y ∈ ys, ∀ b env st, I b env st → ∃ env1 env2 st2, asT cal t (enc y) env st = .ok env1 st ∧ evSs cal bd env1 st = .ok (.nx, env2) st2 ∧ I (step b y) env2 st2) :
    ∃ env1 st1, evS cal (.for t i bd) env st = .ok (.nx, env1) st1 ∧ I (ys.foldl step b0) env1 st1 :=
  s_forI ys enc (fun _ => I) step hi h0 (fun _ => hJ) fun i y hy b env st h => hs y (List.mem_of_getElem? hy) b env st h
theorem shl_nat (t : Nat) (st : Store) (h : t ≤ 1000) : binD .shl (.int 1) (.int (t : Int)) st = .ok (.int ((2 ^ t : Nat) : Int)) st := by
  simp only [binD]
  rw [if_pos]
  · congr 2
    rw [Int.toNat_natCast, Int.one_mul]
    norm_cast
  · rw [decide_eq_true (by omega : (0 : Int) ≤ t), decide_eq_true (by omega : (t : Int) ≤ 1000)]; rfl
theorem shr_nat (m t : Nat) (st : Store) : binD .shr (.int (m : Int)) (.int (t : Int)) st = .ok (.int ((m : Int) / 2 ^ t)) st := by
  simp only [binD]
  rw [if_pos (decide_eq_true (by omega : (0 : Int) ≤ t)), Int.toNat_natCast]
theorem band_1 (i : Int) (st : Store) : binD .band (.int i) (.int 1) st = .ok (.int (Builtin.bitAnd i 1)) st := rfl
theorem bor_nat (a b : Nat) (st : Store) : binD .bor (.int (a : Int)) (.int (b : Int)) st = .ok (.int ((a ||| b : Nat) : Int)) st := by
  show R.ok (D.int (Builtin.bitOr (a : Int) (b : Int))) st = _
  rw [bitOr_nat]
theorem sum_bits : ∀ l : List Nat, (l.map fun t => ((2 ^ t : Nat) : Int)).sum = ((bitsN l : Nat) : Int)
  | [] => rfl
  | t :: l => by
    have ih := sum_bits l
    unfold bitsN at *
    rw [List.map_cons, List.sum_cons, ih, List.map_cons, List.sum_cons]
    push_cast
    rfl
section
variable {Φ : Nat → Option FD} {k : Nat}
theorem e18 (h : H18 Φ) (l : List Nat) (hz : l.length ≤ 1000) (hl : ∀ t ∈ l, t ≤ 1000) (st : Store) : callD Φ (k + 1) 18 [nT l] st = .ok (.int (bitsN l : Nat)) st := by
  refine call_ev0 h.self rfl ?_ rfl
  rw [runD_eq (env := [some (nT l), none]) rfl, ← sum_bits]
  refine ss_ret (e_sumOf ((comp_map l (fun (t : Nat) => D.int (t : Int)) (fun t => D.int ((2 ^ t : Nat) : Int)) (i_tup rfl) rfl (by omega) fun t ht => ⟨_, rfl, e_bin rfl rfl (shl_nat t st (hl t ht))⟩).trans ?_))
  rw [List.map_map]
  rfl
/-- the test: is the bit there -/
theorem bit_test {cal : Cal} {a b : E} {env : Env} {st : Store} {m t : Nat} (ha : evE cal a env st = .ok (.int (m : Int)) st) (hb : evE cal b env st = .ok (.int (t : Int)) st) : evE cal (.cmp .eq (.bin .band (.bin .shr a b) (.c (.int 1))) (.c (.int 1))) env st = .ok (.bl (m.testBit t)) st := by
  refine (e_cmp (e_bin (e_bin ha hb (shr_nat m t st)) rfl (band_1 _ st)) rfl (cmp_eq _ _ st)).trans ?_
  rw [bit_at]
theorem e19 (h : H19 Φ) (m : Nat) (st : Store) : callD Φ (k + 1) 19 [.int (m : Int)] st = .ok (nT ((List.range 6).filter fun t => m.testBit t)) st := by
  refine call_ev0 h.self rfl ?_ (nT_pure _)
  rw [runD_eq (env := [some (.int (m : Int)), none]) rfl]
  exact ss_ret (e_tupOf (comp_filter (List.range 6) (fun (t : Nat) => D.int (t : Int)) (fun t => m.testBit t) (fun (t : Nat) => D.int (t : Int)) (i_rng1 (j := 6) rfl rfl) (all_rng0 6 st) (by simp) fun t _ => ⟨_, rfl, bit_test rfl rfl, fun _ => rfl⟩))
end
end PyD
namespace PyD
open PySem
structure WOk (n : Nat) (as : List (Nat × Nat)) : Prop where
  hn : n ≤ 6
  len : as.length ≤ 36
  lt : ∀ p ∈ as, p.1 < n ∧ p.2 < n
theorem pars_lt {n : Nat} {as : List (Nat × Nat)} (w : WOk n as) {t x : Nat} (h : x ∈ pars as t) : x < n := by
  unfold pars at h
  obtain ⟨p, hp, rfl⟩ := List.mem_map.mp h
  exact (w.lt p (List.mem_filter.mp hp).1).1
theorem pars_len {n : Nat} {as : List (Nat × Nat)} (w : WOk n as) (t : Nat) : (pars as t).length ≤ 36 := by
  unfold pars
  rw [List.length_map]
  exact Nat.le_trans (List.length_filter_le _ _) w.len
/-- one going through: what is found, with the parents of what is found -/
def sweep (n : Nat) (as : List (Nat × Nat)) (m : Nat) : Nat := (List.range n).foldl (fun m i => if m.testBit i then m ||| bitsN (pars as i) else m) m
def closed (n : Nat) (as : List (Nat × Nat)) (m : Nat) : Nat := (List.range n).foldl (fun m _ => sweep n as m) m
theorem zip_range (n : Nat) (f : Nat → D) : (((List.range n).map f).zipIdx.map fun p => D.tup [.int (p.2 : Nat), p.1]) = (List.range n).map fun (i : Nat) => D.tup [.int (i : Int), f i] := by
  refine List.ext_getElem? fun i => ?_
  simp only [List.getElem?_map, List.getElem?_zipIdx, Nat.zero_add]
  by_cases h : i < n
  · rw [List.getElem?_range h]; rfl
  · rw [List.getElem?_eq_none (by simpa using h)]; rfl
section
variable {Φ : Nat → Option FD} {k : Nat}
def bitsL (n : Nat) (as : List (Nat × Nat)) : List D := (List.range n).map fun i => .int (bitsN (pars as i) : Nat)
theorem e20 (h : H20 Φ) (n : Nat) (as : List (Nat × Nat)) (w : WOk n as) (st : Store) : callD Φ (k + 2) 20 [wb n as] st = .ok (.lst (bitsL n as)) st := by
  have hn := w.hn
  have hl := w.len
  refine call_ev0 h.self rfl ?_ (by simp only [D.pure]; exact pures_map _ (fun _ => rfl) _)
  rw [runD_eq (env := [some (wb n as), none]) rfl]
  exact ss_ret (e_fz (comp_map (List.range n) (fun i => nT (pars as i)) (fun i => D.int (bitsN (pars as i) : Nat)) (i_lst (e_call (s_cons rfl s_nil) (e10 h.c10 n as (by omega) (by omega) st))) rfl (by rw [List.length_range]; omega)
    fun i _ => ⟨_, rfl, e_call (s_cons rfl s_nil) (e18 h.c18 _ (by have := pars_len w i; omega) (fun t ht => by have := pars_lt w ht; omega) st)⟩))
theorem e21 (h : H21 Φ) (n : Nat) (as : List (Nat × Nat)) (w : WOk n as) (m : Nat) (st : Store) : callD Φ (k + 3) 21 [wb n as, .int (m : Int)] st = .ok (.int (closed n as m : Nat)) st := by
  have hn := w.hn
  refine call_ev0 h.self rfl ?_ rfl
  rw [runD_eq (env := [some (wb n as), some (.int (m : Int)), none, none, none, none, none]) rfl]
  refine ss_asg (e_tup (s_cons (e_call (s_cons rfl s_nil) (e20 h.c20 n as w st)) (s_cons rfl s_nil)) (by show 2 ≤ 16777216; decide)) rfl ?_
  obtain ⟨env1, st1, h1, o1, o2, o3, rfl, rfl⟩ := s_for (cal := callD Φ (k + 2)) (t := .nm 2) (i := .rng1 (.ix (.v 0) (.c (.int 0)))) (bd := .cons (.for (.tp (.cons (.nm 5) (.cons (.nm 6) .nil))) (.enum (.of (.of (.v 3)))) (.cons (.asg (.nm 4) (.ite (.cmp .eq (.bin .band (.bin .shr (.v 4) (.v 5)) (.c (.int 1))) (.c (.int 1))) (.bin .bor (.v 4) (.v 6)) (.v 4))) .nil)) .nil) (List.range n) (fun (i : Nat) => D.int (i : Int))
    (fun (x : Nat) (env : Env) (s : Store) => ∃ o1 o2 o3, env = [some (wb n as), some (.int (m : Int)), o1, some (.lst (bitsL n as)), some (.int (x : Int)), o2, o3] ∧ s = st) (fun x _ => sweep n as x)
    (i_rng1 (env := [some (wb n as), some (.int (m : Int)), none, some (.lst (bitsL n as)), some (.int (m : Int)), none, none]) (st := st) rfl (smallI_le (by omega) (by omega))) ⟨_, _, _, rfl, rfl⟩ (fun _ _ st _ => all_rng0 n st)
    (by
      intro y hy x env s ⟨o1, o2, o3, he, hs⟩
      subst he hs
      obtain ⟨env2, st2, h2, p2, p3, he, hs⟩ := s_for (cal := callD Φ (k + 2)) (t := .tp (.cons (.nm 5) (.cons (.nm 6) .nil))) (i := .enum (.of (.of (.v 3)))) (bd := (.cons (.asg (.nm 4) (.ite (.cmp .eq (.bin .band (.bin .shr (.v 4) (.v 5)) (.c (.int 1))) (.c (.int 1))) (.bin .bor (.v 4) (.v 6)) (.v 4))) .nil))
        (List.range n) (fun (i : Nat) => D.tup [.int (i : Int), .int (bitsN (pars as i) : Nat)])
        (fun (x : Nat) (env : Env) (s' : Store) => ∃ o2 o3, env = [some (wb n as), some (.int (m : Int)), some (.int (y : Int)), some (.lst (bitsL n as)), some (.int (x : Int)), o2, o3] ∧ s' = s)
        (fun m i => if m.testBit i then m ||| bitsN (pars as i) else m)
        (env := [some (wb n as), some (.int (m : Int)), some (.int (y : Int)), some (.lst (bitsL n as)), some (.int (x : Int)), o2, o3]) (J := .enum (.ds true (bitsL n as))) (st := s) (st0 := s) rfl (b0 := x) ⟨_, _, rfl, rfl⟩
        (fun _ _ s' _ => by
          show ((some (bitsL n as)).map fun xs => xs.zipIdx.map fun p => D.tup [.int (p.2 : Nat), p.1]) = _
          unfold bitsL
          rw [Option.map_some, zip_range])
        (by
          intro i hi z env s' ⟨q2, q3, he, hs⟩
          subst he hs
          refine ⟨_, [some (wb n as), some (.int (m : Int)), some (.int (y : Int)), some (.lst (bitsL n as)), some (.int ((if z.testBit i then z ||| bitsN (pars as i) else z : Nat) : Int)), some (.int (i : Int)), some (.int (bitsN (pars as i) : Nat))], s', rfl, ?_, _, _, rfl, rfl⟩
          refine bs_asg (e_ite (v := .int ((z ||| bitsN (pars as i) : Nat) : Int)) (w := .int (z : Int)) (bit_test rfl rfl) (fun _ => e_bin rfl rfl (bor_nat _ _ _)) fun _ => rfl) rfl ?_
          cases z.testBit i <;> exact bs_nil)
      subst he hs
      exact ⟨_, _, st2, rfl, bs_s h2 bs_nil, some (.int (y : Int)), p2, p3, rfl, rfl⟩)
  exact ss_s h1 (ss_ret rfl)
end
end PyD
namespace PyD
open PySem
theorem see_iT (l : List Int) (st : Store) : see st depthL (iT l) = some (iT l) :=
  see_pure st depthL _ (iT_pure l) (by have := depth_ints l; rw [iT_py]; simp only [PyData.depth, depthL]; omega)
theorem any_int (l : List Int) (t : Int) : ((l.map D.int).any fun z => D.eqv z (.int t)) = decide (t ∈ l) := by
  induction l with
  | nil => rfl
  | cons i l ih =>
    rw [List.map_cons, List.any_cons, ih]
    simp only [D.eqv, List.mem_cons]
    by_cases h : i = t
    · subst h; simp
    · simp [h, Ne.symm h]
theorem mem_nI {l : List Nat} {t : Nat} : ((t : Int) ∈ nI l) ↔ t ∈ l := by
  unfold nI
  constructor
  · intro h
    obtain ⟨x, hx, e⟩ := List.mem_map.mp h
    have : x = t := by omega
    exact this ▸ hx
  · exact fun h => List.mem_map_of_mem h
theorem isin_nT (l : List Nat) (t : Nat) (st : Store) : cmpD .isin (.int (t : Int)) (nT l) st = .ok (.bl (decide (t ∈ l))) st := by
  rw [nT_eq]
  have h : inD (.int (t : Int)) (iT (nI l)) st = some (decide (t ∈ l)) := by
    show (match see st depthL (.int (t : Int)), see st depthL (iT (nI l)) with | some d, some (.tup ds) => some (ds.any fun z => D.eqv z d) | _, _ => none) = _
    rw [see_int, see_iT]
    show some (((nI l).map D.int).any fun z => D.eqv z (.int t)) = _
    rw [any_int]
    exact congrArg some (decide_eq_decide.mpr mem_nI)
  show (match inD (.int (t : Int)) (iT (nI l)) st with | some b => okB b st | none => .stuck) = _
  rw [h]
  rfl
theorem notin_nT (l : List Nat) (t : Nat) (st : Store) : cmpD .notin (.int (t : Int)) (nT l) st = .ok (.bl (!decide (t ∈ l))) st := by
  have h := isin_nT l t st
  simp only [cmpD] at h ⊢
  cases e : inD (.int (t : Int)) (nT l) st with
  | none => rw [e] at h; cases h
  | some b => rw [e] at h; simp only [okB, R.ok.injEq, D.bl.injEq] at h; rw [← h.1]; rfl
theorem isin_ref (l : List Nat) (t a : Nat) (st : Store) (hs : st[a]? = some (.lst (l.map fun (i : Nat) => .int (i : Int)))) : cmpD .isin (.int (t : Int)) (.ref a) st = .ok (.bl (decide (t ∈ l))) st := by
  have e0 : (l.map fun (i : Nat) => D.int (i : Int)) = (nI l).map .int := by unfold nI; rw [List.map_map]; rfl
  have h2 : see st depthL (.ref a) = some (.lst ((nI l).map .int)) := by
    show (match st[a]? with | some (.lst ds) => (ds.mapM (see st 39)).map D.lst | _ => none) = _
    rw [hs, e0]
    have := depth_ints (nI l)
    simp only
    rw [see_pures st 39 _ (pures_ints _) (by rw [pys_ints]; omega)]
    rfl
  have h : inD (.int (t : Int)) (.ref a) st = some (decide (t ∈ l)) := by
    unfold inD
    simp only [hs, h2, see_int]
    rw [any_int]
    exact congrArg some (decide_eq_decide.mpr mem_nI)
  show (match inD (.int (t : Int)) (.ref a) st with | some b => okB b st | none => .stuck) = _
  rw [h]
  rfl
theorem notin_ref (l : List Nat) (t a : Nat) (st : Store) (hs : st[a]? = some (.lst (l.map fun (i : Nat) => .int (i : Int)))) : cmpD .notin (.int (t : Int)) (.ref a) st = .ok (.bl (!decide (t ∈ l))) st := by
  have h := isin_ref l t a st hs
  simp only [cmpD] at h ⊢
  cases e : inD (.int (t : Int)) (.ref a) st with
  | none => rw [e] at h; cases h
  | some b => rw [e] at h; simp only [okB, R.ok.injEq, D.bl.injEq] at h; rw [← h.1]; rfl
def nsort (l : List Nat) : List Nat := l.mergeSort fun a b => decide (a ≤ b)
theorem isort_nI (l : List Nat) : isort (nI l) = nI (nsort l) := by
  unfold isort nI nsort
  exact (List.map_mergeSort fun a _ b _ => decide_eq_decide.mpr (by omega)).symm
theorem sortD_nats (l : List Nat) (hz : l.length ≤ 16777216) : sortD (l.map fun (i : Nat) => .int (i : Int)) = some ((nsort l).map fun (i : Nat) => .int (i : Int)) := by
  have e : ∀ l : List Nat, (l.map fun (i : Nat) => D.int (i : Int)) = (nI l).map .int := fun l => by unfold nI; rw [List.map_map]; rfl
  rw [e, e, sortD_ints _ (by unfold nI; rw [List.length_map]; exact hz), isort_nI]
def rowsort (l : List (List Nat)) : List (List Nat) := l.mergeSort fun a b => decide (nI a ≤ nI b)
theorem sortD_nT (l : List (List Nat)) (hz : l.length ≤ 16777216) (hne : ∀ r ∈ l, r ≠ []) : sortD (l.map nT) = some ((rowsort l).map nT) := by
  have e : ∀ l : List (List Nat), l.map nT = (l.map nI).map iT := fun l => by
    rw [List.map_map]
    exact List.map_congr_left fun r _ => nT_eq r
  rw [e, e, sortD_rows _ (by rw [List.length_map]; exact hz) fun r hr => by
    obtain ⟨x, hx, rfl⟩ := List.mem_map.mp hr
    unfold nI
    intro h
    exact hne x hx (List.map_eq_nil_iff.mp h)]
  unfold rsort rowsort
  rw [List.map_mergeSort (r := fun a b => decide (nI a ≤ nI b)) (s := fun a b => decide (a ≤ b)) (f := nI) fun a _ b _ => rfl]
theorem set_last (st : Store) (x y : MO) : (st ++ [x]).set st.length y = st ++ [y] := by
  rw [List.set_append_right _ _ (Nat.le_refl _)]
  simp
theorem get_last (st : Store) (x : MO) : (st ++ [x])[st.length]? = some x := by
  rw [List.getElem?_append_right (Nat.le_refl _)]
  simp
section
variable {cal : Cal} {env : Env} {st : Store} {a e : E} {l : L} {i : Nat} {ds xs : List D} {d : D}
theorem e_ext2 {bb : Bool} (ha : evE cal a env st = .ok (.ref i) st) (hi : st[i]? = some (.lst ds)) (hl : evL cal l env st = .ok (bb, xs) st) (hz : ds.length + xs.length ≤ 16777216) : evE cal (.ext a l) env st = .ok .non (st.set i (.lst (ds ++ xs))) := by
  have h0 : items (.ref i) st = some (true, ds) := by unfold items; simp only [hi]
  rw [evE, ha, R.bind_ok]
  simp only [h0]
  rw [hl, R.bind_ok]
  simp only [hi, small_of hz, if_true]
theorem e_ext (ha : evE cal a env st = .ok (.ref i) st) (hi : st[i]? = some (.lst ds)) (hl : evL cal l env st = .ok (true, xs) st) (hz : ds.length + xs.length ≤ 16777216) : evE cal (.ext a l) env st = .ok .non (st.set i (.lst (ds ++ xs))) := e_ext2 ha hi hl hz
theorem e_app (ha : evE cal a env st = .ok (.ref i) st) (hi : st[i]? = some (.lst ds)) (he : evE cal e env st = .ok d st) (hz : ds.length + 1 ≤ 16777216) : evE cal (.app a e) env st = .ok .non (st.set i (.lst (ds ++ [d]))) := by
  have h0 : items (.ref i) st = some (true, ds) := by unfold items; simp only [hi]
  rw [evE, ha, R.bind_ok]
  simp only [h0]
  rw [he, R.bind_ok]
  simp only [hi, small_of hz, if_true]
end
def nbrs (as : List (Nat × Nat)) (t : Nat) : List Nat := nsort ((as.filter fun p => decide (t ∈ [p.1, p.2])).map fun p => if p.1 = t then p.2 else p.1)
def abv (n : Nat) (as : List (Nat × Nat)) (t : Nat) : List Nat := (List.range 6).filter fun x => (closed n as (bitsN [t])).testBit x
def blw (n : Nat) (as : List (Nat × Nat)) (t : Nat) : List Nat := (List.range n).filter fun o => decide (t ∈ abv n as o)
section
variable {Φ : Nat → Option FD} {k : Nat}
theorem e14 (h : H14 Φ) (n : Nat) (as : List (Nat × Nat)) (w : WOk n as) (t : Nat) (ht : t < n) (st : Store) : callD Φ (k + 5) 14 [wb n as, .int (t : Int)] st = .ok (nT (abv n as t)) st := by
  have hn := w.hn
  refine call_ev0 h.self rfl ?_ (nT_pure _)
  rw [runD_eq (env := [some (wb n as), some (.int (t : Int))]) rfl]
  refine ss_ret (e_call (s_cons rfl (s_cons (e_tup (s_cons rfl s_nil) (by show 1 ≤ 16777216; decide)) s_nil)) ?_)
  have h13 := h.c13
  refine call_ev0 h13.self rfl ?_ (nT_pure _)
  rw [runD_eq (env := [some (wb n as), some (nT [t])]) rfl]
  exact ss_ret (e_call (s_cons (e_call (s_cons rfl (s_cons (e_call (s_cons rfl s_nil) (e18 h13.c18 [t] (by show 1 ≤ 1000; decide) (fun x hx => by simp at hx; omega) st)) s_nil)) (e21 h13.c21 n as w (bitsN [t]) st)) s_nil) (e19 h13.c19 _ st))
theorem e15 (h : H15 Φ) (n : Nat) (as : List (Nat × Nat)) (w : WOk n as) (t : Nat) (st : Store) : callD Φ (k + 6) 15 [wb n as, .int (t : Int)] st = .ok (nT (blw n as t)) st := by
  have hn := w.hn
  refine call_ev0 h.self rfl ?_ (nT_pure _)
  rw [runD_eq (env := [some (wb n as), some (.int (t : Int)), none]) rfl]
  exact ss_ret (e_tupOf (comp_filter (List.range n) (fun (i : Nat) => D.int (i : Int)) (fun o => decide (t ∈ abv n as o)) (fun (i : Nat) => D.int (i : Int)) (i_rng1 rfl (smallI_le (by omega) (by omega))) (all_rng0 n st) (by rw [List.length_range]; omega)
    fun o ho => ⟨_, rfl, e_cmp rfl (e_call (s_cons rfl (s_cons rfl s_nil)) (e14 h.c14 n as w o (List.mem_range.mp ho) st)) (isin_nT _ _ st), fun _ => rfl⟩))
theorem e12 (h : H12 Φ) (n : Nat) (as : List (Nat × Nat)) (hz : as.length ≤ 16777216) (t : Nat) (st : Store) : callD Φ (k + 1) 12 [wb n as, .int (t : Int)] st = .ok (nT (nbrs as t)) st := by
  refine call_ev0 h.self rfl ?_ (nT_pure _)
  rw [runD_eq (env := [some (wb n as), some (.int (t : Int)), none, none, none]) rfl]
  refine ss_asg (st1 := st) (st2 := st) (d := .lst (((as.filter fun p => decide (t ∈ [p.1, p.2])).map fun p => if p.1 = t then p.2 else p.1).map fun (i : Nat) => .int (i : Int))) ?_ rfl ?_
  · rw [List.map_map]
    refine e_fz (comp_filter as ar (fun p => decide (t ∈ [p.1, p.2])) _ (i_tup rfl) rfl hz fun p _ => ⟨_, rfl, ?_, fun _ => ?_⟩)
    · exact e_cmp rfl (e_tup (s_cons rfl (s_cons rfl s_nil)) (by show 2 ≤ 16777216; decide)) (isin_nT [p.1, p.2] t st)
    · refine (e_ite (v := .int (p.2 : Int)) (w := .int (p.1 : Int)) (e_cmp rfl rfl (cmp_eq _ _ st)) (fun _ => rfl) fun _ => rfl).trans ?_
      rw [deq]
      show R.ok (if decide (p.1 = t) = true then _ else _) st = _
      by_cases e : p.1 = t
      · rw [if_pos (decide_eq_true e)]; simp only [Function.comp, e, if_true]
      · rw [if_neg (by rw [decide_eq_false e]; decide)]; simp only [Function.comp, e, if_false]
  · exact ss_ret (e_tupOf (l_sorted (l_of rfl rfl) (sortD_nats _ (by rw [List.length_map]; exact Nat.le_trans (List.length_filter_le _ _) hz))))
end
end PyD
namespace PyD
open PySem
/-- the meetings at t -/
def trip (as : List (Nat × Nat)) (t : Nat) : List (List Nat) := (pars as t).flatMap fun a => ((pars as t).filter fun b => decide (a < b)).map fun b => [a, t, b]
def trips (n : Nat) (as : List (Nat × Nat)) : List (List Nat) := (List.range n).flatMap (trip as)
def meets (n : Nat) (as : List (Nat × Nat)) : List (List Nat) := rowsort (trips n as)
theorem foldl_app {α β : Type} (f : α → List β) : ∀ (l : List α) (b : List β), l.foldl (fun b y => b ++ f y) b = b ++ l.flatMap f
  | [], b => by simp
  | x :: l, b => by rw [List.foldl_cons, foldl_app f l, List.flatMap_cons, List.append_assoc]
theorem trip_len {n : Nat} {as : List (Nat × Nat)} (w : WOk n as) (t : Nat) : (trip as t).length ≤ 1296 := by
  have hl := pars_len w t
  unfold trip
  have h : ∀ l : List Nat, (l.flatMap fun a => ((pars as t).filter fun b => decide (a < b)).map fun b => [a, t, b]).length ≤ l.length * 36 := by
    intro l
    induction l with
    | nil => simp
    | cons a l ih =>
      rw [List.flatMap_cons, List.length_append, List.length_map, List.length_cons]
      have := List.length_filter_le (fun b => decide (a < b)) (pars as t)
      omega
  have := h (pars as t)
  omega
theorem dlt (a b : Nat) : decide ((a : Int) < (b : Int)) = decide (a < b) := decide_eq_decide.mpr (by omega)
def rT (l : List (List Nat)) : D := .tup (l.map nT)
theorem rT_pure (l : List (List Nat)) : (rT l).pure = true := by unfold rT; simp only [D.pure]; exact pures_map _ nT_pure _
theorem trip_ne {as : List (Nat × Nat)} {n : Nat} : ∀ r ∈ trips n as, r ≠ [] := by
  intro r hr
  unfold trips trip at hr
  simp only [List.mem_flatMap, List.mem_map] at hr
  obtain ⟨t, _, a, _, b, _, rfl⟩ := hr
  simp
section
variable {Φ : Nat → Option FD} {k : Nat}
theorem e16 (h : H16 Φ) (n : Nat) (as : List (Nat × Nat)) (w : WOk n as) (st : Store) : callD Φ (k + 2) 16 [wb n as] st = .ok (rT (meets n as)) st := by
  have hn := w.hn
  have hlen := w.len
  have key : ∃ o2 o3 : Option D, evS (callD Φ (k + 1)) (.for (.tp (.cons (.nm 2) (.cons (.nm 3) .nil))) (.enum (.of (.of (.call 10 (.cons (.v 0) .nil))))) (.cons (.ex (.ext (.v 1) (.comp2 [("one", 4), ("other", 5)] [5] (.nm 4) (.of (.of (.v 3))) (.nm 5) (.of (.of (.v 3))) (.cons (.cmp .lt (.v 4) (.v 5)) .nil) (.tup (.cons (.v 4) (.cons (.v 2) (.cons (.v 5) .nil))))))) .nil))
      [some (wb n as), some (.ref st.length), none, none, none, none] (st ++ [.lst []]) = .ok (.nx, [some (wb n as), some (.ref st.length), o2, o3, none, none]) (st ++ [.lst ((trips n as).map nT)]) ∧ (trips n as).length ≤ 16777216 := by
    obtain ⟨env1, st1, h1, hb, o2, o3, he, hs⟩ := s_forI (cal := callD Φ (k + 1)) (t := .tp (.cons (.nm 2) (.cons (.nm 3) .nil))) (i := .enum (.of (.of (.call 10 (.cons (.v 0) .nil)))))
      (bd := .cons (.ex (.ext (.v 1) (.comp2 [("one", 4), ("other", 5)] [5] (.nm 4) (.of (.of (.v 3))) (.nm 5) (.of (.of (.v 3))) (.cons (.cmp .lt (.v 4) (.v 5)) .nil) (.tup (.cons (.v 4) (.cons (.v 2) (.cons (.v 5) .nil))))))) .nil)
      (J := .enum (.ds true ((List.range n).map fun i => nT (pars as i)))) (env := [some (wb n as), some (.ref st.length), none, none, none, none]) (st := st ++ [.lst []]) (st0 := st ++ [.lst []])
      (List.range n) (fun (i : Nat) => D.tup [.int (i : Int), nT (pars as i)])
      (fun i (b : List (List Nat)) env s => b.length ≤ i * 1296 ∧ ∃ o2 o3, env = [some (wb n as), some (.ref st.length), o2, o3, none, none] ∧ s = st ++ [.lst (b.map nT)])
      (fun b t => b ++ trip as t)
      (by
        have := i_lst (cal := callD Φ (k + 1)) (e := .call 10 (.cons (.v 0) .nil)) (e_call (env := [some (wb n as), some (.ref st.length), none, none, none, none]) (s_cons rfl s_nil) (e10 h.c10 n as (by omega) (by omega) (st ++ [.lst []])))
        rw [evI, this]
        rfl)
      (b0 := []) ⟨by simp, none, none, rfl, rfl⟩
      (fun _ _ _ _ _ => by
        show ((some ((List.range n).map fun i => nT (pars as i))).map fun xs => xs.zipIdx.map fun p => D.tup [.int (p.2 : Nat), p.1]) = _
        rw [Option.map_some, zip_range])
      (by
        intro i t hi b env s ⟨hb, o2, o3, he, hs⟩
        subst he hs
        have ht := trip_len w t
        have hi2 : i < n := by
          have := (List.getElem?_eq_some_iff.mp hi).1
          rwa [List.length_range] at this
        refine ⟨_, [some (wb n as), some (.ref st.length), some (.int (t : Int)), some (nT (pars as t)), none, none], st ++ [.lst ((b ++ trip as t).map nT)], rfl, ?_, ?_, _, _, rfl, rfl⟩
        · refine bs_ex (d := .non) ?_ bs_nil
          refine (e_ext (i := st.length) (ds := b.map nT) (xs := (trip as t).map nT) rfl (get_last _ _) ?_ (by rw [List.length_map, List.length_map]; omega)).trans (by rw [set_last, List.map_append])
          have hc := comp2_go (cal := callD Φ (k + 1)) (own := [("one", 4), ("other", 5)]) (vs1 := [5]) (t := .nm 4) (i := .of (.of (.v 3))) (t2 := .nm 5) (i2 := .of (.of (.v 3))) (cs := .cons (.cmp .lt (.v 4) (.v 5)) .nil) (elt := .tup (.cons (.v 4) (.cons (.v 2) (.cons (.v 5) .nil))))
            (env := [some (wb n as), some (.ref st.length), some (.int (t : Int)), some (nT (pars as t)), none, none]) (st := st ++ [.lst (b.map nT)]) (J := .ds false ((pars as t).map fun (x : Nat) => .int (x : Int)))
            (pars as t) (fun (x : Nat) => D.int (x : Int)) (fun _ => pars as t) (fun _ (x : Nat) => D.int (x : Int)) (fun a b => decide (a < b)) (fun a b => nT [a, t, b]) rfl rfl
            (by
              have : ((pars as t).flatMap fun y => ((pars as t).filter fun b => decide (y < b)).map fun b => nT [y, t, b]).length = (trip as t).length := by
                unfold trip
                rw [List.length_flatMap, List.length_flatMap]
                simp
              omega)
            (fun a _ => ⟨_, .ds false ((pars as t).map fun (x : Nat) => .int (x : Int)), rfl, rfl, rfl, fun c _ => ⟨_, rfl, evC_one (e_cmp rfl rfl ((cmp_lt _ _ _).trans (by rw [dlt]))), fun _ => e_tup (s_cons rfl (s_cons rfl (s_cons rfl s_nil))) (by show 3 ≤ 16777216; decide)⟩⟩)
          refine hc.trans ?_
          unfold trip
          rw [List.map_flatMap]
          simp only [List.map_map]
          rfl
        · rw [List.length_append]; omega)
    rw [foldl_app, List.nil_append] at hb hs
    refine ⟨o2, o3, ?_, ?_⟩
    · rw [h1, he, hs]
      rfl
    · rw [List.length_range] at hb
      unfold trips
      omega
  obtain ⟨o2, o3, h1, hz⟩ := key
  refine call_ev [.lst ((trips n as).map nT)] h.self rfl ?_ (rT_pure _)
  rw [runD_eq (env := [some (wb n as), none, none, none, none, none]) rfl]
  refine ss_asg (e_ls (l_disp s_nil (by decide))) rfl (ss_s h1 (ss_ret (e_tupOf (l_sorted (l_of (x := .ref st.length) rfl ?_) (sortD_nT _ hz trip_ne)))))
  unfold items
  simp only [get_last]
end
end PyD
namespace PyD
open PySem
theorem ixN_nat {n t : Nat} (h : t < n) : L2.ixN n (t : Int) = some t := by
  unfold L2.ixN
  simp only [Int.natCast_nonneg, if_true]
  rw [if_pos (by omega)]
  simp
theorem atI_nat {α : Type} {ds : List α} {t : Nat} {d : α} (h : ds[t]? = some d) : L2.atI ds (t : Int) = some d := by
  unfold L2.atI
  rw [ixN_nat (List.getElem?_eq_some_iff.mp h).1]
  exact h
theorem ix_lst {ds : List D} {t : Nat} {d : D} (st : Store) (h : ds[t]? = some d) : ixD (.lst ds) (.int (t : Int)) st = .ok d st := by
  simp only [ixD, atI_nat h]
theorem ix_tup {ds : List D} {t : Nat} {d : D} (st : Store) (h : ds[t]? = some d) : ixD (.tup ds) (.int (t : Int)) st = .ok d st := by
  simp only [ixD, atI_nat h]
theorem cut_to1 (ds : List D) : cutL ds none (some 1) = ds.take 1 := by
  unfold cutL HT.sIx
  cases ds with
  | nil => rfl
  | cons d ds => simp
theorem meets_form {n : Nat} {as : List (Nat × Nat)} : ∀ r ∈ meets n as, ∃ a t b, r = [a, t, b] := by
  intro r hr
  have h := (List.mergeSort_perm (trips n as) _).mem_iff.mp hr
  unfold trips trip at h
  simp only [List.mem_flatMap, List.mem_map] at h
  obtain ⟨t, _, a, _, b, _, rfl⟩ := h
  exact ⟨a, t, b, rfl⟩
def bares (n : Nat) (as : List (Nat × Nat)) : List (List Nat) := (meets n as).filter fun r => !decide (r.getD 2 0 ∈ nbrs as (r.getD 0 0))
theorem trips_len {n : Nat} {as : List (Nat × Nat)} (w : WOk n as) : (trips n as).length ≤ 7776 := by
  have hn := w.hn
  have h : ∀ l : List Nat, (l.flatMap (trip as)).length ≤ l.length * 1296 := by
    intro l
    induction l with
    | nil => simp
    | cons a l ih =>
      rw [List.flatMap_cons, List.length_append, List.length_cons]
      have := trip_len w a
      omega
  have := h (List.range n)
  rw [List.length_range] at this
  unfold trips
  omega
theorem meets_len {n : Nat} {as : List (Nat × Nat)} (w : WOk n as) : (meets n as).length ≤ 7776 := by
  unfold meets rowsort
  rw [List.length_mergeSort]
  exact trips_len w
/-- things whose parents all stand -/
def free (n : Nat) (as : List (Nat × Nat)) (l : List Nat) : List Nat := ((List.range n).filter fun t => !decide (t ∈ l)).filter fun t => (pars as t).all fun x => decide (x ∈ l)
def order (n : Nat) (as : List (Nat × Nat)) : List Nat := (List.range n).foldl (fun b _ => b ++ (free n as b).take 1) []
def nL (l : List Nat) : D := .lst (l.map fun (i : Nat) => .int (i : Int))
theorem nL_pure (l : List Nat) : (nL l).pure = true := by unfold nL; simp only [D.pure]; exact pures_map _ (fun _ => rfl) _
section
variable {Φ : Nat → Option FD} {k : Nat}
theorem e17 (h : H17 Φ) (n : Nat) (as : List (Nat × Nat)) (w : WOk n as) (st : Store) : callD Φ (k + 3) 17 [wb n as] st = .ok (rT (bares n as)) st := by
  have hl := w.len
  refine call_ev0 h.self rfl ?_ (rT_pure _)
  rw [runD_eq (env := [some (wb n as), none]) rfl]
  refine ss_ret (e_tupOf (comp_filter (meets n as) nT (fun r => !decide (r.getD 2 0 ∈ nbrs as (r.getD 0 0))) nT (i_tup (e_call (s_cons rfl s_nil) (e16 h.c16 n as w st))) rfl (by have := meets_len w; omega) fun r hr => ?_))
  obtain ⟨a, t, b, rfl⟩ := meets_form r hr
  exact ⟨_, rfl, e_cmp rfl (e_call (s_cons rfl (s_cons rfl s_nil)) (e12 h.c12 n as (by omega) a st)) (notin_nT _ b st), fun _ => rfl⟩
theorem e8 (h : H8 Φ) (n : Nat) (as : List (Nat × Nat)) (w : WOk n as) (l : List Nat) (a : Nat) (st : Store) (hs : st[a]? = some (.lst (l.map fun (i : Nat) => .int (i : Int)))) : callD Φ (k + 2) 8 [wb n as, .ref a] st = .ok (nL (free n as l)) st := by
  have hn := w.hn
  have hl := w.len
  refine call_ev0 h.self rfl ?_ (nL_pure _)
  rw [runD_eq (env := [some (wb n as), some (.ref a), none, none, none, none]) rfl]
  refine ss_asg (e_call (s_cons rfl s_nil) (e10 h.c10 n as (by omega) (by omega) st)) rfl ?_
  refine ss_asg (st1 := st) (st2 := st) (d := nL ((List.range n).filter fun t => !decide (t ∈ l))) (e_fz (comp_filter (List.range n) (fun (i : Nat) => D.int (i : Int)) (fun t => !decide (t ∈ l)) (fun (i : Nat) => D.int (i : Int)) (i_rng1 rfl (smallI_le (by omega) (by omega))) (all_rng0 n st) (by rw [List.length_range]; omega)
    fun t _ => ⟨_, rfl, e_cmp rfl rfl (notin_ref l t a st hs), fun _ => rfl⟩)) rfl ?_
  refine ss_ret (e_fz (comp_filter ((List.range n).filter fun t => !decide (t ∈ l)) (fun (i : Nat) => D.int (i : Int)) (fun t => (pars as t).all fun x => decide (x ∈ l)) (fun (i : Nat) => D.int (i : Int)) (i_lst rfl) rfl
    (by have := List.length_filter_le (fun t => !decide (t ∈ l)) (List.range n); rw [List.length_range] at this; omega) fun t ht => ⟨_, rfl, ?_, fun _ => rfl⟩))
  have htn : t < n := List.mem_range.mp (List.mem_filter.mp ht).1
  have hb : evL (callD Φ (k + 1)) (.comp [("one", 5)] (.nm 5) (.of (.of (.ix (.v 2) (.v 4)))) .nil (.cmp .isin (.v 5) (.v 1))) [some (wb n as), some (.ref a), some (rowsL n (pars as)), some (nL ((List.range n).filter fun t => !decide (t ∈ l))), some (.int (t : Int)), none] st
      = .ok (true, ((pars as t).map fun x => decide (x ∈ l)).map D.bl) st := by
    refine (comp_map (pars as t) (fun (x : Nat) => D.int (x : Int)) (fun x => D.bl (decide (x ∈ l))) (i_tup (ds := (pars as t).map fun (x : Nat) => .int (x : Int)) (e_ix rfl rfl (ix_lst st ?_))) rfl (by have := pars_len w t; omega) fun x _ => ⟨_, rfl, e_cmp rfl rfl (isin_ref l x a st hs)⟩).trans ?_
    · rw [List.getElem?_map, List.getElem?_range htn]; rfl
    · rw [List.map_map]; rfl
  refine (e_allOf hb).trans ?_
  rw [List.all_map]
  rfl
theorem e9 (h : H9 Φ) (n : Nat) (as : List (Nat × Nat)) (w : WOk n as) (st : Store) : callD Φ (k + 3) 9 [wb n as] st = .ok (nT (order n as)) st := by
  have hn := w.hn
  obtain ⟨env1, st1, h1, hb, o, he, hs⟩ := s_forI (cal := callD Φ (k + 2)) (t := .nm 2) (i := .rng1 (.ix (.v 0) (.c (.int 0)))) (bd := .cons (.ex (.ext (.v 1) (.of (.sl (.call 8 (.cons (.v 0) (.cons (.v 1) .nil))) .no (.at (.c (.int 1))))))) .nil)
    (env := [some (wb n as), some (.ref st.length), none]) (st := st ++ [.lst []]) (st0 := st ++ [.lst []]) (List.range n) (fun (i : Nat) => D.int (i : Int))
    (fun i (b : List Nat) env s => b.length ≤ i ∧ ∃ o, env = [some (wb n as), some (.ref st.length), o] ∧ s = st ++ [.lst (b.map fun (i : Nat) => .int (i : Int))]) (fun b _ => b ++ (free n as b).take 1)
    (J := .rng 0 n) (i_rng1 (j := (n : Int)) rfl (smallI_le (by omega) (by omega))) (b0 := []) ⟨by simp, none, rfl, rfl⟩ (fun _ _ _ s _ => all_rng0 n s)
    (by
      intro i t hi b env s ⟨hb, o, he, hs⟩
      subst he hs
      have hi2 : i < n := by
        have := (List.getElem?_eq_some_iff.mp hi).1
        rwa [List.length_range] at this
      have ht1 : ((free n as b).take 1).length ≤ 1 := by rw [List.length_take]; omega
      refine ⟨_, [some (wb n as), some (.ref st.length), some (.int (t : Int))], st ++ [.lst ((b ++ (free n as b).take 1).map fun (i : Nat) => .int (i : Int))], rfl, ?_, by rw [List.length_append]; omega, _, rfl, rfl⟩
      refine bs_ex (d := .non) ?_ bs_nil
      refine (e_ext (i := st.length) (ds := b.map fun (i : Nat) => .int (i : Int)) (xs := ((free n as b).take 1).map fun (i : Nat) => .int (i : Int)) rfl (get_last _ _) ?_ (by rw [List.length_map, List.length_map]; omega)).trans (by rw [set_last, List.map_append])
      refine l_of (x := .lst (((free n as b).take 1).map fun (i : Nat) => .int (i : Int))) ?_ rfl
      rw [evE, e_call (s_cons rfl (s_cons rfl s_nil)) (e8 h.c8 n as w b st.length _ (get_last _ _)), R.bind_ok, evO, R.bind_ok, evO, evE, R.bind_ok, R.bind_ok]
      show R.ok (D.lst (cutL ((free n as b).map fun (i : Nat) => D.int (i : Int)) none (some 1))) _ = _
      rw [cut_to1, List.map_take])
  refine call_ev [.lst ((order n as).map fun (i : Nat) => .int (i : Int))] h.self rfl ?_ (nT_pure _)
  rw [runD_eq (env := [some (wb n as), none, none]) rfl]
  subst he hs
  refine ss_asg (e_ls (l_disp s_nil (by decide))) rfl (ss_s h1 (ss_ret (e_tupOf (l_of (bb := true) (x := .ref st.length) rfl ?_))))
  unfold items
  simp only [get_last]
end
end PyD
namespace PyD
open PySem
def ltA (p q : Nat × Nat) : Prop := p.1 < q.1 ∨ (p.1 = q.1 ∧ p.2 < q.2)
structure WV (n : Nat) (as : List (Nat × Nat)) : Prop extends WOk n as where
  pos : 1 ≤ n
  ne : ∀ p ∈ as, p.1 ≠ p.2
  asc : as.Pairwise ltA
  ord : (order n as).length = n
theorem ar_iT (p : Nat × Nat) : ar p = iT [(p.1 : Int), (p.2 : Int)] := rfl
theorem lt2 (a b c d : Nat) : (([(a : Int), (b : Int)] : List Int) < [(c : Int), (d : Int)]) ↔ (a < c ∨ (a = c ∧ b < d)) := by
  rw [List.cons_lt_cons_iff, List.cons_lt_cons_iff]
  simp only [List.not_lt_nil, and_false, or_false]
  omega
theorem cut_from1 (ds : List D) : cutL ds (some 1) none = ds.drop 1 := by
  unfold cutL HT.sIx
  cases ds with
  | nil => rfl
  | cons d ds => simp
theorem zip_adj {α : Type} {R : α → α → Prop} : ∀ {l : List α}, l.Pairwise R → ∀ q ∈ l.zip (l.drop 1), R q.1 q.2
  | [], _, q, hq => by simp at hq
  | [a], _, q, hq => by simp at hq
  | a :: b :: l, h, q, hq => by
    obtain ⟨h1, h2⟩ := List.pairwise_cons.mp h
    simp only [List.drop_succ_cons, List.drop_zero, List.zip_cons_cons, List.mem_cons] at hq
    rcases hq with rfl | hq
    · exact h1 b List.mem_cons_self
    · exact zip_adj h2 q (by simpa using hq)
section
variable {cal : Cal} {env : Env} {st : Store}
theorem i_zipT {a b : E} {xs ys : List D} (ha : evE cal a env st = .ok (.tup xs) st) (hb : evE cal b env st = .ok (.tup ys) st) : evI cal (.zip (.of (.of a)) (.of (.of b))) env st = .ok (.zip (.ds false xs) (.ds false ys)) st := by
  rw [evI, i_tup ha, R.bind_ok, i_tup hb, R.bind_ok]
  rfl
end
section
variable {Φ : Nat → Option FD} {k : Nat}
theorem e3 (h : H3 Φ) (as : List (Nat × Nat)) (hz : as.length ≤ 16777216) (ha : as.Pairwise ltA) (st : Store) : callD Φ (k + 1) 3 [.tup (as.map ar)] st = .ok (.bl true) st := by
  refine call_ev0 h.self rfl ?_ rfl
  rw [runD_eq (env := [some (.tup (as.map ar)), none, none]) rfl]
  have hc : evE (callD Φ k) (.sl (.v 0) (.at (.c (.int 1))) .no) [some (.tup (as.map ar)), none, none] st = .ok (.tup ((as.drop 1).map ar)) st := by
    show R.ok (D.tup (cutL (as.map ar) (some 1) none)) st = _
    rw [cut_from1, List.map_drop]
  have hl : evL (callD Φ k) (.comp [("one", 1), ("other", 2)] (.tp (.cons (.nm 1) (.cons (.nm 2) .nil))) (.zip (.of (.of (.v 0))) (.of (.of (.sl (.v 0) (.at (.c (.int 1))) .no)))) .nil (.cmp .lt (.v 1) (.v 2))) [some (.tup (as.map ar)), none, none] st = .ok (true, ((as.zip (as.drop 1)).map fun _ => true).map D.bl) st := by
    refine (comp_map (as.zip (as.drop 1)) (fun q => D.tup [ar q.1, ar q.2]) (fun _ => D.bl true) (i_zipT rfl hc) ?_ (by rw [List.length_zip]; omega) fun q hq => ⟨_, rfl, e_cmp rfl rfl ?_⟩).trans ?_
    · show some (((as.map ar).zip ((as.drop 1).map ar)).map fun p => D.tup [p.1, p.2]) = _
      rw [List.zip_map, List.map_map]
      rfl
    · rw [ar_iT, ar_iT, cmp_ltR, decide_eq_true ((lt2 _ _ _ _).mpr (zip_adj ha q hq))]
    · rw [List.map_map]; rfl
  refine ss_ret ((e_allOf hl).trans ?_)
  rw [List.all_map]
  simp
theorem e5 (h : H5 Φ) (n : Nat) (as : List (Nat × Nat)) (w : WV n as) (st : Store) : callD Φ (k + 4) 5 [.tup (as.map ar), .int (n : Int)] st = .ok (.bl true) st := by
  have hl := w.len
  refine call_ev0 h.self rfl ?_ rfl
  rw [runD_eq (env := [some (.tup (as.map ar)), some (.int (n : Int)), none]) rfl]
  have hc : evL (callD Φ (k + 3)) (.comp [("each", 2)] (.nm 2) (.of (.of (.v 0))) .nil (.call 4 (.cons (.v 2) (.cons (.v 1) .nil)))) [some (.tup (as.map ar)), some (.int (n : Int)), none] st = .ok (true, (as.map fun _ => true).map D.bl) st := by
    refine (comp_map as ar (fun _ => D.bl true) (i_tup rfl) rfl (by omega) fun p hp => ⟨_, rfl, e_call (s_cons rfl (s_cons rfl s_nil)) ?_⟩).trans (by rw [List.map_map]; rfl)
    obtain ⟨h1, h2⟩ := w.lt p hp
    exact e4 (k := k) h.c4 p.1 p.2 n (by omega) (by omega) (by omega) (by omega) (by have := w.ne p hp; omega) st
  refine ss_ret (e_bools (b_on rfl (b_on ((e_allOf hc).trans ?_) (b_last (e_call (s_cons rfl s_nil) (e3 (k := k + 2) h.c3 as (by omega) w.asc st))))))
  rw [List.all_map]
  simp
theorem e6 (h : H6 Φ) (n : Nat) (as : List (Nat × Nat)) (w : WV n as) (st : Store) : callD Φ (k + 5) 6 [wb n as] st = .ok (.bl true) st := by
  have hn := w.hn
  have hp := w.pos
  refine call_ev0 h.self rfl ?_ rfl
  rw [runD_eq (env := [some (wb n as)]) rfl]
  have k0 : callD Φ (k + 4) 2 [wb n as, .int 2] st = .ok (.bl true) st := e2 (k := k + 3) h.c2 [.int n, .tup (as.map ar)] 2 st
  have k1 := e1 (k := k + 2) h.c1 n 1 6 st
  rw [decide_eq_true (by omega : (1 : Int) ≤ n), decide_eq_true (by omega : (n : Int) ≤ 6)] at k1
  refine ss_if_f (e_bools (b_on (e_not (e_call (s_cons rfl (s_cons rfl s_nil)) k0)) (b_on (e_not (e_call (s_cons rfl (s_cons rfl (s_cons rfl s_nil))) k1)) (b_last (e_not (e_call (s_cons rfl (s_cons rfl s_nil)) (e5 (k := k) h.c5 n as w st))))))) ?_
  refine ss_ret ((e_cmp (e_b1 (e_call (s_cons rfl s_nil) (e9 (k := k + 1) h.c9 n as w.toWOk st)) rfl) rfl (cmp_eq _ _ st)).trans ?_)
  rw [List.length_map, w.ord, decide_eq_true rfl]
theorem e22 (h : H22 Φ) (n : Nat) (as : List (Nat × Nat)) (w : WV n as) (st : Store) : callD Φ (k + 6) 22 [wb n as] st = .ok .non st := by
  refine call_ev0 h.self rfl ?_ rfl
  rw [runD_eq (env := [some (wb n as)]) rfl]
  exact ss_if_f (e_not (e_call (s_cons rfl s_nil) (e6 (k := k) h.c6 n as w st))) ss_nil
theorem e7 (h : H7 Φ) (n : Nat) (as : List (Nat × Nat)) (t : Nat) (ht : t < n) (st : Store) : callD Φ (k + 3) 7 [wb n as, .int (t : Int)] st = .ok (.bl true) st := by
  refine call_ev0 h.self rfl ?_ rfl
  rw [runD_eq (env := [some (wb n as), some (.int (t : Int))]) rfl]
  have k1 := e1 (k := k) h.c1 t 0 ((n : Int) - 1) st
  rw [decide_eq_true (by omega : (0 : Int) ≤ t), decide_eq_true (by omega : (t : Int) ≤ (n : Int) - 1)] at k1
  exact ss_ret (e_call (s_cons rfl (s_cons rfl (s_cons rfl s_nil))) k1)
theorem e23 (h : H23 Φ) (n : Nat) (as : List (Nat × Nat)) (t : Nat) (ht : t < n) (st : Store) : callD Φ (k + 4) 23 [wb n as, .int (t : Int)] st = .ok .non st := by
  refine call_ev0 h.self rfl ?_ rfl
  rw [runD_eq (env := [some (wb n as), some (.int (t : Int))]) rfl]
  exact ss_if_f (e_not (e_call (s_cons rfl (s_cons rfl s_nil)) (e7 (k := k) h.c7 n as t ht st))) ss_nil
theorem e24 (h : H24 Φ) (n : Nat) (as : List (Nat × Nat)) (w : WV n as) (t : Nat) (ht : t < n) (st : Store) : callD Φ (k + 7) 24 [wb n as, .int (t : Int)] st = .ok .non st := by
  refine call_ev0 h.self rfl ?_ rfl
  rw [runD_eq (env := [some (wb n as), some (.int (t : Int))]) rfl]
  exact ss_ex (e_call (s_cons rfl s_nil) (e22 (k := k) h.c22 n as w st)) (ss_ex (e_call (s_cons rfl (s_cons rfl s_nil)) (e23 (k := k + 2) h.c23 n as t ht st)) ss_nil)
theorem e25 (h : H25 Φ) (n : Nat) (as : List (Nat × Nat)) (w : WV n as) (t : Nat) (ht : t < n) (st : Store) : callD Φ (k + 8) 25 [wb n as, .int (t : Int)] st = .ok (nT (pars as t)) st := by
  refine call_ev0 h.self rfl ?_ (nT_pure _)
  rw [runD_eq (env := [some (wb n as), some (.int (t : Int))]) rfl]
  exact ss_ex (e_call (s_cons rfl (s_cons rfl s_nil)) (e24 (k := k) h.c24 n as w t ht st)) (ss_ret (e_call (s_cons rfl (s_cons rfl s_nil)) (e11 (k := k + 6) h.c11 n as t (by have := w.len; omega) st)))
theorem e26 (h : H26 Φ) (n : Nat) (as : List (Nat × Nat)) (w : WV n as) (t : Nat) (ht : t < n) (st : Store) : callD Φ (k + 8) 26 [wb n as, .int (t : Int)] st = .ok (nT (abv n as t)) st := by
  refine call_ev0 h.self rfl ?_ (nT_pure _)
  rw [runD_eq (env := [some (wb n as), some (.int (t : Int))]) rfl]
  exact ss_ex (e_call (s_cons rfl (s_cons rfl s_nil)) (e24 (k := k) h.c24 n as w t ht st)) (ss_ret (e_call (s_cons rfl (s_cons rfl s_nil)) (e14 (k := k + 2) h.c14 n as w.toWOk t ht st)))
theorem e27 (h : H27 Φ) (n : Nat) (as : List (Nat × Nat)) (w : WV n as) (t : Nat) (ht : t < n) (st : Store) : callD Φ (k + 8) 27 [wb n as, .int (t : Int)] st = .ok (nT (blw n as t)) st := by
  refine call_ev0 h.self rfl ?_ (nT_pure _)
  rw [runD_eq (env := [some (wb n as), some (.int (t : Int))]) rfl]
  exact ss_ex (e_call (s_cons rfl (s_cons rfl s_nil)) (e24 (k := k) h.c24 n as w t ht st)) (ss_ret (e_call (s_cons rfl (s_cons rfl s_nil)) (e15 (k := k + 1) h.c15 n as w.toWOk t st)))
theorem e28 (h : H28 Φ) (n : Nat) (as : List (Nat × Nat)) (w : WV n as) (t : Nat) (ht : t < n) (st : Store) : callD Φ (k + 8) 28 [wb n as, .int (t : Int)] st = .ok (nT (nbrs as t)) st := by
  refine call_ev0 h.self rfl ?_ (nT_pure _)
  rw [runD_eq (env := [some (wb n as), some (.int (t : Int))]) rfl]
  exact ss_ex (e_call (s_cons rfl (s_cons rfl s_nil)) (e24 (k := k) h.c24 n as w t ht st)) (ss_ret (e_call (s_cons rfl (s_cons rfl s_nil)) (e12 (k := k + 6) h.c12 n as (by have := w.len; omega) t st)))
theorem e29 (h : H29 Φ) (n : Nat) (as : List (Nat × Nat)) (w : WV n as) (st : Store) : callD Φ (k + 7) 29 [wb n as] st = .ok (rT (meets n as)) st := by
  refine call_ev0 h.self rfl ?_ (rT_pure _)
  rw [runD_eq (env := [some (wb n as)]) rfl]
  exact ss_ex (e_call (s_cons rfl s_nil) (e22 (k := k) h.c22 n as w st)) (ss_ret (e_call (s_cons rfl s_nil) (e16 (k := k + 4) h.c16 n as w.toWOk st)))
theorem e30 (h : H30 Φ) (n : Nat) (as : List (Nat × Nat)) (w : WV n as) (st : Store) : callD Φ (k + 7) 30 [wb n as] st = .ok (rT (bares n as)) st := by
  refine call_ev0 h.self rfl ?_ (rT_pure _)
  rw [runD_eq (env := [some (wb n as)]) rfl]
  exact ss_ex (e_call (s_cons rfl s_nil) (e22 (k := k) h.c22 n as w st)) (ss_ret (e_call (s_cons rfl s_nil) (e17 (k := k + 3) h.c17 n as w.toWOk st)))
theorem e31 (h : H31 Φ) (n : Nat) (as : List (Nat × Nat)) (w : WV n as) (st : Store) : callD Φ (k + 7) 31 [wb n as] st = .ok (nT (order n as)) st := by
  refine call_ev0 h.self rfl ?_ (nT_pure _)
  rw [runD_eq (env := [some (wb n as)]) rfl]
  exact ss_ex (e_call (s_cons rfl s_nil) (e22 (k := k) h.c22 n as w st)) (ss_ret (e_call (s_cons rfl s_nil) (e9 (k := k + 3) h.c9 n as w.toWOk st)))
def cutTo (as : List (Nat × Nat)) (t : Nat) : List (Nat × Nat) := as.filter fun p => !decide (p.2 ∈ [t])
theorem wb_pure (n : Nat) (as : List (Nat × Nat)) : (wb n as).pure = true := by
  unfold wb
  simp only [D.pure, D.pures, Bool.true_and, Bool.and_true]
  exact pures_map _ (fun _ => rfl) _
theorem e33 (h : H33 Φ) (n : Nat) (as : List (Nat × Nat)) (w : WV n as) (t : Nat) (ht : t < n) (st : Store) : callD Φ (k + 7) 33 [wb n as, .int (t : Int)] st = .ok (wb n (cutTo as t)) st := by
  have hl := w.len
  refine call_ev0 h.self rfl ?_ (wb_pure _ _)
  rw [runD_eq (env := [some (wb n as), some (.int (t : Int))]) rfl]
  refine ss_ex (e_call (s_cons rfl s_nil) (e22 (k := k) h.c22 n as w st)) (ss_ex (e_call (s_cons rfl (s_cons rfl s_nil)) (e23 (k := k + 2) h.c23 n as t ht st)) (ss_ret (e_call (s_cons rfl (s_cons (e_tup (s_cons rfl s_nil) (by show 1 ≤ 16777216; decide)) s_nil)) ?_)))
  have h32 := h.c32
  refine call_ev0 h32.self rfl ?_ (wb_pure _ _)
  rw [runD_eq (env := [some (wb n as), some (nT [t]), none]) rfl]
  exact ss_ret (e_tup (s_cons rfl (s_cons (e_tupOf (comp_filter as ar (fun p => !decide (p.2 ∈ [t])) ar (i_tup rfl) rfl (by omega) fun p _ => ⟨_, rfl, e_cmp rfl rfl (notin_nT [t] p.2 st), fun _ => rfl⟩)) s_nil)) (by show 2 ≤ 16777216; decide))
end
end PyD
namespace PyD
open PySem
def bagK (r w t : Nat) : List ((Int ⊕ Str) × D) := [(.inr "rest", .int (r : Int)), (.inr "wheel", .int (w : Int)), (.inr "turns", .int (t : Int))]
def bagO (r w t : Nat) : MO := .dct (bagK r w t)
section
variable {cal : Cal} {env : Env} {st : Store} {a k : E} {i : Nat} {kvs : List ((Int ⊕ Str) × D)} {s : Str} {d : D}
theorem ix_dct (hs : st[i]? = some (.dct kvs)) (hg : getK kvs (.inr s) = some d) : ixD (.ref i) (.str s) st = .ok d st := by
  simp only [ixD, hs, hg]
theorem as_sub (ha : evE cal a env st = .ok (.ref i) st) (hk : evE cal k env st = .ok (.str s) st) (hs : st[i]? = some (.dct kvs)) (hz : kvs.length + 1 ≤ 16777216) : asT cal (.sub a k) d env st = .ok env (st.set i (.dct (putK kvs (.inr s) d))) := by
  rw [asT, ha, R.bind_ok, hk, R.bind_ok]
  simp only [keyOf, hs, small_of hz, if_true]
theorem ss_if_rt {env1 : Env} {st1 st2 : Store} {c : E} {p q ss : Ss} (h : evE cal c env st = .ok (.bl true) st1) (hb : evSs cal p env st1 = .ok (.rt d, env1) st2) : (evSs cal (.cons (.ifs c p q) ss) env st).bind endD = .ok d st2 := by
  rw [evSs, evS, h, R.bind_ok]
  simp only
  rw [hb]; rfl
theorem get_set {x : MO} (h : i < st.length) : (st.set i x)[i]? = some x := List.getElem?_set_self h
end
theorem bag_rest (r w t : Nat) : getK (bagK r w t) (.inr "rest") = some (.int (r : Int)) := by
  unfold getK bagK
  rw [List.find?_cons]
  rfl
theorem ne_wr : decide ((Sum.inr "rest" : Int ⊕ Str) = .inr "wheel") = false := by decide +kernel
theorem ne_tr : decide ((Sum.inr "rest" : Int ⊕ Str) = .inr "turns") = false := by decide +kernel
theorem ne_wt : decide ((Sum.inr "wheel" : Int ⊕ Str) = .inr "turns") = false := by decide +kernel
theorem ne_tw : decide ((Sum.inr "turns" : Int ⊕ Str) = .inr "wheel") = false := by decide +kernel
theorem ne_rw : decide ((Sum.inr "wheel" : Int ⊕ Str) = .inr "rest") = false := by decide +kernel
theorem ne_rt : decide ((Sum.inr "turns" : Int ⊕ Str) = .inr "rest") = false := by decide +kernel
theorem bag_wheel (r w t : Nat) : getK (bagK r w t) (.inr "wheel") = some (.int (w : Int)) := by
  unfold getK bagK
  simp only [List.find?_cons, ne_wr, decide_true, Option.map_some]
theorem bag_turns (r w t : Nat) : getK (bagK r w t) (.inr "turns") = some (.int (t : Int)) := by
  unfold getK bagK
  simp only [List.find?_cons, ne_tr, ne_wt, decide_true, Option.map_some]
theorem put_rest (r w t x : Nat) : putK (bagK r w t) (.inr "rest") (.int (x : Int)) = bagK x w t := by
  have h1 : (Sum.inr "wheel" : Int ⊕ Str) ≠ .inr "rest" := of_decide_eq_false ne_rw
  have h2 : (Sum.inr "turns" : Int ⊕ Str) ≠ .inr "rest" := of_decide_eq_false ne_rt
  unfold putK bagK
  simp only [List.any_cons, decide_true, Bool.true_or, if_true, List.map_cons, List.map_nil, if_neg h1, if_neg h2]
theorem put_wheel (r w t x : Nat) : putK (bagK r w t) (.inr "wheel") (.int (x : Int)) = bagK r x t := by
  have h1 : (Sum.inr "rest" : Int ⊕ Str) ≠ .inr "wheel" := of_decide_eq_false ne_wr
  have h2 : (Sum.inr "turns" : Int ⊕ Str) ≠ .inr "wheel" := of_decide_eq_false ne_tw
  unfold putK bagK
  simp only [List.any_cons, decide_true, Bool.true_or, Bool.or_true, if_true, List.map_cons, List.map_nil, if_neg h1, if_neg h2]
theorem put_turns (r w t x : Nat) : putK (bagK r w t) (.inr "turns") (.int (x : Int)) = bagK r w x := by
  have h1 : (Sum.inr "rest" : Int ⊕ Str) ≠ .inr "turns" := of_decide_eq_false ne_tr
  have h2 : (Sum.inr "wheel" : Int ⊕ Str) ≠ .inr "turns" := of_decide_eq_false ne_wt
  unfold putK bagK
  simp only [List.any_cons, decide_true, Bool.true_or, Bool.or_true, if_true, List.map_cons, List.map_nil, if_neg h1, if_neg h2]
theorem mul_171 (w : Nat) (st : Store) : binD .mul (.int 171) (.int (w : Int)) st = .ok (.int (171 * (w : Int))) st := by
  simp only [binD]
  rw [if_pos]
  have : smallI 171 = true := by decide +kernel
  rw [this]; rfl
theorem mod_pos (i : Int) (j : Int) (h : 0 < j) (st : Store) : binD .mod (.int i) (.int j) st = .ok (.int (i % j)) st := by
  simp only [binD]
  rw [if_pos (decide_eq_true h)]
section
variable {Φ : Nat → Option FD} {k : Nat}
/-- a draw: some number below many; the bag is another one -/
theorem e35 (h : H35 Φ) (a many r w t : Nat) (hm : 1 ≤ many) (hm2 : many < 1073741824) (st : Store) (hs : st[a]? = some (bagO r w t)) :
    ∃ g r' w' t', g < many ∧ callD Φ (k + 1) 35 [.ref a, .int (many : Int)] st = .ok (.int (g : Int)) (st.set a (bagO r' w' t')) := by
  have hl : a < st.length := (List.getElem?_eq_some_iff.mp hs).1
  have hrest : evE (callD Φ k) (.ix (.v 0) (.c (.str "rest"))) [some (.ref a), some (.int (many : Int)), none] st = .ok (.int (r : Int)) st := e_ix rfl rfl (ix_dct hs (bag_rest r w t))
  by_cases hc : 1 < many ∧ many ≤ r
  · refine ⟨r % many, r / many, w, t, Nat.mod_lt _ (by omega), call_ev1 h.self rfl ?_ rfl (List.length_set ..)⟩
    rw [runD_eq (env := [some (.ref a), some (.int (many : Int)), none]) rfl]
    have hd : evE (callD Φ k) (.dvm (.ix (.v 0) (.c (.str "rest"))) (.v 1)) [some (.ref a), some (.int (many : Int)), none] st = .ok (.tup [.int ((r / many : Nat) : Int), .int ((r % many : Nat) : Int)]) st := by
      rw [evE, hrest, R.bind_ok]
      show (if decide (0 < (many : Int)) && decide ((many : Int) < 1073741824) then R.ok (D.tup [.int ((r : Int) / (many : Int)), .int ((r : Int) % (many : Int))]) st else R.stuck) = _
      rw [decide_eq_true (by omega), decide_eq_true (by omega)]
      rfl
    have hcond : evE (callD Φ k) (.bools true (.cons (.cmp .gt (.v 1) (.c (.int 1))) (.cons (.cmp .ge (.ix (.v 0) (.c (.str "rest"))) (.v 1)) .nil))) [some (.ref a), some (.int (many : Int)), none] st = .ok (.bl true) st := by
      refine e_bools (b_on ((e_cmp rfl rfl (cmp_gt _ _ st)).trans ?_) (b_last ((e_cmp hrest rfl (cmp_ge _ _ st)).trans ?_)))
      · rw [decide_eq_true (by omega)]
      · rw [decide_eq_true (by omega)]
    have hb : evSs (callD Φ k) (.cons (.asg (.tp (.cons (.sub (.v 0) (.c (.str "rest"))) (.cons (.nm 2) .nil))) (.dvm (.ix (.v 0) (.c (.str "rest"))) (.v 1))) (.cons (.ret (.v 2)) .nil)) [some (.ref a), some (.int (many : Int)), none] st
        = .ok (.rt (.int ((r % many : Nat) : Int)), [some (.ref a), some (.int (many : Int)), some (.int ((r % many : Nat) : Int))]) (st.set a (bagO (r / many) w t)) := by
      refine bs_asg hd (env1 := [some (.ref a), some (.int (many : Int)), some (.int ((r % many : Nat) : Int))]) (st2 := st.set a (bagO (r / many) w t)) ?_ ?_
      · rw [asT, asTs, as_sub (kvs := bagK r w t) (s := "rest") rfl rfl hs (by show 4 ≤ 16777216; decide), R.bind_ok, put_rest]
        rfl
      · rw [evSs, evS]; rfl
    exact ss_if_rt hcond hb
  · have hcond : evE (callD Φ k) (.bools true (.cons (.cmp .gt (.v 1) (.c (.int 1))) (.cons (.cmp .ge (.ix (.v 0) (.c (.str "rest"))) (.v 1)) .nil))) [some (.ref a), some (.int (many : Int)), none] st = .ok (.bl false) st := by
      refine e_bools ((b_and (b1 := decide (1 < (many : Int))) (b2 := decide ((many : Int) ≤ (r : Int))) (e_cmp rfl rfl (cmp_gt _ _ st)) fun _ => b_last (e_cmp hrest rfl (cmp_ge _ _ st))).trans ?_)
      by_cases h1 : 1 < many
      · rw [decide_eq_false (by omega : ¬ ((many : Int) ≤ (r : Int))), Bool.and_false]
      · rw [decide_eq_false (by omega : ¬ ((1 : Int) < (many : Int))), Bool.false_and]
    let t' := t + 1
    let w' := (171 * w + t') % 30269
    refine ⟨(w' / 5 + t') % many, r, w', t', Nat.mod_lt _ (by omega), call_ev1 h.self rfl ?_ rfl (List.length_set ..)⟩
    rw [runD_eq (env := [some (.ref a), some (.int (many : Int)), none]) rfl]
    have g1 : (st.set a (bagO r w t'))[a]? = some (bagO r w t') := get_set hl
    have g2 : ((st.set a (bagO r w t')).set a (bagO r w' t'))[a]? = some (bagO r w' t') := get_set (by rw [List.length_set]; exact hl)
    refine ss_if_f hcond ?_
    refine ss_asg (st1 := st) (st2 := st.set a (bagO r w t')) (d := .int (t' : Nat)) ((e_bin (e_ix rfl rfl (ix_dct hs (bag_turns r w t))) rfl rfl).trans (by rfl)) ((as_sub (s := "turns") rfl rfl hs (by show 4 ≤ 16777216; decide)).trans (by rw [put_turns]; rfl)) ?_
    refine ss_asg (st1 := st.set a (bagO r w t')) (st2 := (st.set a (bagO r w t')).set a (bagO r w' t')) (d := .int (w' : Nat)) ?_ ((as_sub (s := "wheel") rfl rfl g1 (by show 4 ≤ 16777216; decide)).trans (by rw [put_wheel]; rfl)) ?_
    · refine (e_bin (e_b1 (e_bin (e_bin rfl (e_ix rfl rfl (ix_dct g1 (bag_wheel r w t'))) (mul_171 w _)) (e_ix rfl rfl (ix_dct g1 (bag_turns r w t'))) rfl) rfl) rfl (mod_pos _ _ (by decide) _)).trans ?_
      rfl
    · refine ss_ret ?_
      refine (e_bin (e_b1 (e_bin (e_bin (e_ix rfl rfl (ix_dct g2 (bag_wheel r w' t'))) rfl rfl) (e_ix rfl rfl (ix_dct g2 (bag_turns r w' t'))) rfl) rfl) rfl (mod_pos _ _ (by omega) _)).trans ?_
      rw [List.set_set]
      rfl
end
end PyD
namespace PyD
open PySem
/-- a def that makes a dict and gives it -/
theorem call_dct {Φ : Nat → Option FD} {n f : Nat} {fd : FD} {ds : List D} {st : Store} {kvs : List ((Int ⊕ Str) × D)} (h : Φ f = some fd) (hl : ds.length = fd.ps) (hr : runD (callD Φ n) fd ds st = .ok (.ref st.length) (st ++ [.dct kvs])) : callD Φ (n + 1) f ds st = .ok (.ref st.length) (st ++ [.dct kvs]) := by
  rw [call_eq h hl, hr]
  simp only [fin]
  rw [if_neg (by simp [D.pure])]
  simp only [get_last]
theorem cut_to (ds : List D) (j : Nat) : cutL ds none (some (j : Int)) = ds.take j := by
  unfold cutL HT.sIx
  simp only
  rw [if_neg (by omega)]
  rw [show ((j : Int).toNat) = j from Int.toNat_natCast j]
  simp only [List.drop_zero, Nat.sub_zero]
  rw [List.take_eq_take_iff]
  omega
theorem abs_nat (i : Int) : (if i < 0 then -i else i) = ((i.natAbs : Nat) : Int) := by
  split <;> omega
section
variable {Φ : Nat → Option FD} {k : Nat}
theorem e34 (h : H34 Φ) (ns : List Int) (spot : Nat) (hs : spot ≤ 1000) (st : Store) :
    ∃ r w : Nat, callD Φ (k + 1) 34 [.lst (ns.map D.int), .int (spot : Int)] st = .ok (.ref st.length) (st ++ [bagO r w spot]) := by
  have hown : ∃ own : Int, evE (callD Φ k) (.ite (.cmp .lt (.v 1) (.b1 .len (.v 0))) (.b1 .int (.ix (.v 0) (.v 1))) (.bin .mul (.c (.int 31337)) (.bin .add (.v 1) (.c (.int 1))))) [some (.lst (ns.map D.int)), some (.int (spot : Int)), none, none, none] st = .ok (.int own) st := by
    have hc : evE (callD Φ k) (.cmp .lt (.v 1) (.b1 .len (.v 0))) [some (.lst (ns.map D.int)), some (.int (spot : Int)), none, none, none] st = .ok (.bl (decide ((spot : Int) < ((ns.map D.int).length : Int)))) st := e_cmp rfl (e_b1 rfl rfl) (cmp_lt _ _ st)
    by_cases hl : spot < ns.length
    · refine ⟨ns[spot], e_ite_t (st1 := st) ?_ (e_b1 (e_ix rfl rfl (ix_lst (d := .int ns[spot]) st ?_)) rfl)⟩
      · rw [hc, decide_eq_true (by rw [List.length_map]; omega)]
      · rw [List.getElem?_map, List.getElem?_eq_getElem hl]; rfl
    · refine ⟨31337 * ((spot : Int) + 1), e_ite_f (st1 := st) ?_ (e_bin rfl (e_bin rfl rfl rfl) ?_)⟩
      · rw [hc, decide_eq_false (by rw [List.length_map]; omega)]
      · simp only [binD]
        rw [if_pos]
        have : smallI 31337 = true := by decide +kernel
        rw [this]; rfl
  obtain ⟨own, hown⟩ := hown
  obtain ⟨env1, st1, h1, w, o, rfl, rfl⟩ := s_for (cal := callD Φ k) (t := .nm 4) (i := .of (.of (.sl (.v 0) .no (.at (.c (.int 6)))))) (bd := (.cons (.asg (.nm 3) (.bin .add (.c (.int 1)) (.bin .mod (.b1 .int (.bin .add (.bin .mul (.c (.int 171)) (.v 3)) (.bin .mod (.b1 .int (.v 4)) (.c (.int 30269))))) (.c (.int 30268))))) .nil)) (ns.take 6) D.int
    (fun (_ : Unit) (env : Env) (s : Store) => ∃ (w : Nat) (o : Option D), env = [some (.lst (ns.map D.int)), some (.int (spot : Int)), some (.int own), some (.int (w : Int)), o] ∧ s = st) (fun _ _ => ())
    (env := [some (.lst (ns.map D.int)), some (.int (spot : Int)), some (.int own), some (.int ((1 + own.natAbs % 30268 : Nat) : Int)), none]) (J := .ds true ((ns.take 6).map D.int)) (st := st) (st0 := st)
    (i_lst (by
      rw [evE]
      show R.ok (D.lst (cutL (ns.map D.int) none (some ((6 : Nat) : Int)))) st = _
      rw [cut_to, List.map_take])) (b0 := ()) ⟨_, _, rfl, rfl⟩ (fun _ _ _ _ => rfl)
    (by
      intro i hi z env s ⟨w, o, he, hs⟩
      subst he hs
      refine ⟨_, [some (.lst (ns.map D.int)), some (.int (spot : Int)), some (.int own), some (.int ((1 + (171 * (w : Int) + i % 30269) % 30268).toNat : Int)), some (.int i)], s, rfl, ?_, _, _, rfl, rfl⟩
      refine bs_asg (e_bin rfl (e_bin (e_b1 (e_bin (e_bin rfl rfl (mul_171 w _)) (e_bin (e_b1 rfl rfl) rfl (mod_pos _ _ (by decide) _)) rfl) rfl) rfl (mod_pos _ _ (by decide) _)) rfl) ?_ bs_nil
      rw [Int.toNat_of_nonneg (by omega)]
      rfl)
  refine ⟨own.natAbs, w, call_dct h.self rfl ?_⟩
  rw [runD_eq (env := [some (.lst (ns.map D.int)), some (.int (spot : Int)), none, none, none]) rfl]
  refine ss_asg hown rfl (ss_asg (d := .int ((1 + own.natAbs % 30268 : Nat) : Int)) ?_ rfl (ss_s h1 (ss_ret ?_)))
  · refine (e_bin rfl (e_bin (e_b1 rfl rfl) rfl (mod_pos _ _ (by decide) _)) rfl).trans ?_
    rw [abs_nat]
    rfl
  · rw [evE]
    rw [s_cons (ds := [.int (w : Int), .int (spot : Int)]) (e_b1 rfl rfl) (s_cons rfl (s_cons rfl s_nil)), R.bind_ok, abs_nat]
    rfl
end
end PyD
namespace PyD
open PySem
/-- a comprehension whose test changes the store: told by what holds at each turn -/
theorem compL_ix {α : Type} {J : It} {as : D → Env → Store → R Env} {elt : Env → List D → Store → R (List D)} {env : Env} (ys : List α) (enc : α → D) (I : Nat → List D → Store → Prop)
    (hJ : ∀ i acc st, I i acc st → J.all st = some (ys.map enc))
    (hs : ∀ i y, ys[i]? = some y → ∀ acc st, I i acc st → ∃ acc1 st1, ((as (enc y) env st).bind fun e s => elt e acc s) = .ok acc1 st1 ∧ I (i + 1) acc1 st1) {st0 : Store} (h0 : I 0 [] st0) :
    ∃ acc1 st1, compL J as elt env (J.len st0 + 1) 0 [] st0 = .ok acc1 st1 ∧ I ys.length acc1 st1 := by
  have go : ∀ (n i : Nat) (acc : List D) (st : Store), ys.length - i < n → i ≤ ys.length → I i acc st → ∃ acc1 st1, compL J as elt env n i acc st = .ok acc1 st1 ∧ I ys.length acc1 st1 := by
    intro n
    induction n with
    | zero => intro i b st h; omega
    | succ n ih =>
      intro i acc st hn hi h
      unfold compL
      rw [It.next_all i (hJ i acc st h)]
      by_cases e : i = ys.length
      · subst e
        rw [List.getElem?_eq_none (by rw [List.length_map]; exact Nat.le_refl _)]
        exact ⟨acc, st, rfl, h⟩
      · have hlt : i < ys.length := by omega
        rw [List.getElem?_map, List.getElem?_eq_getElem hlt]
        simp only [Option.map_some]
        obtain ⟨acc1, st1, h1, h2⟩ := hs i ys[i] (List.getElem?_eq_getElem hlt) acc st h
        cases q : as (enc ys[i]) env st with
        | stuck => rw [q] at h1; cases h1
        | exc _ _ => rw [q] at h1; cases h1
        | ok e1 s1 =>
          rw [q] at h1
          have h1 : elt e1 acc s1 = .ok acc1 st1 := h1
          rw [R.bind_ok, h1, R.bind_ok]
          exact ih (i + 1) acc1 st1 (by omega) (by omega) h2
  exact go (J.len st0 + 1) 0 [] st0 (by rw [It.len_all (hJ _ _ _ h0), List.length_map]; omega) (Nat.zero_le _) h0
theorem comp_ix {α : Type} {cal : Cal} {own : List (Str × Nat)} {t : T} {i : I} {cs : Es} {elt : E} {env : Env} {st st0 : Store} {J : It} (ys : List α) (enc : α → D) (I : Nat → List D → Store → Prop)
    (hi : evI cal i env st = .ok J st0) (h0 : I 0 [] st0) (hJ : ∀ i acc st, I i acc st → J.all st = some (ys.map enc))
    (hs : ∀ i y, ys[i]? = some y → ∀ acc st, I i acc st → ∃ env1 b st1, asT cal t (enc y) (wipeE env (own.map (·.2))) st = .ok env1 st ∧ evC cal cs env1 st = .ok b st1 ∧ acc.length < 16777216 ∧ (b = false → I (i + 1) acc st1) ∧ (b = true → ∃ d, evE cal elt env1 st1 = .ok d st1 ∧ I (i + 1) (acc ++ [d]) st1)) :
    ∃ ds st1, evL cal (.comp own t i cs elt) env st = .ok (true, ds) st1 ∧ I ys.length ds st1 := by
  rw [evL, hi, R.bind_ok]
  obtain ⟨ds, st1, h1, h2⟩ := compL_ix (as := fun d env st => asT cal t d env st) (elt := fun env acc st => (evC cal cs env st).bind fun b st2 => if b then (evE cal elt env st2).bind fun d st3 => pushD acc d st3 else .ok acc st2) (env := wipeE env (own.map (·.2))) ys enc I hJ (fun i y hy acc st h => by
    obtain ⟨env1, b, st1, g1, g2, g3, g4, g5⟩ := hs i y hy acc st h
    cases b with
    | false =>
      refine ⟨acc, st1, ?_, g4 rfl⟩
      rw [g1, R.bind_ok, g2, R.bind_ok]
      rfl
    | true =>
      obtain ⟨d, g6, g7⟩ := g5 rfl
      refine ⟨_, st1, ?_, g7⟩
      rw [g1, R.bind_ok, g2, R.bind_ok]
      simp only [if_true]
      rw [g6, R.bind_ok]
      unfold pushD
      rw [if_pos (small_of (by omega))]) h0
  refine ⟨ds, st1, ?_, h2⟩
  rw [h1]
  rfl
section
variable {cal : Cal} {env : Env} {st st1 st2 : Store} {a e : E} {i : Nat} {d : D} {ds ds2 : List D} {kk : Nat}
theorem items_ref (hi : st[i]? = some (.lst ds)) : items (.ref i) st = some (true, ds) := by unfold items; simp only [hi]
theorem e_app2 (ha : evE cal a env st = .ok (.ref i) st) (hi : st[i]? = some (.lst ds)) (he : evE cal e env st = .ok d st1) (h2 : st1[i]? = some (.lst ds2)) (hz : ds2.length + 1 ≤ 16777216) : evE cal (.app a e) env st = .ok .non (st1.set i (.lst (ds2 ++ [d]))) := by
  rw [evE, ha, R.bind_ok]
  simp only [items_ref hi]
  rw [he, R.bind_ok]
  simp only [h2, small_of hz, if_true]
theorem e_popi (ha : evE cal a env st = .ok (.ref i) st) (hi : st[i]? = some (.lst ds)) (he : evE cal e env st = .ok (.int (kk : Int)) st1) (h2 : st1[i]? = some (.lst ds2)) (hk : ds2[kk]? = some d) (hz : ds2.length ≤ 16777216) : evE cal (.popi a e) env st = .ok d (st1.set i (.lst (ds2.eraseIdx kk))) := by
  have hlt : kk < ds2.length := (List.getElem?_eq_some_iff.mp hk).1
  rw [evE, ha, R.bind_ok]
  simp only [items_ref hi]
  rw [he, R.bind_ok]
  simp only [h2]
  rw [if_pos (by
    rw [decide_eq_true (by omega), decide_eq_true (by omega), small_of hz]; rfl)]
  simp only [Int.toNat_natCast, hk]
end
def nD (l : List Nat) : List D := l.map fun (i : Nat) => D.int (i : Int)
/-- the store while a web is drawn: the bag, what is left, the order -/
def sto (st : Store) (a : Nat) (b : MO) (l o : List Nat) : Store := st.set a b ++ [.lst (nD l), .lst (nD o)]
section
variable {st : Store} {a : Nat} {b b' : MO} {l l' o o' : List Nat}
theorem sto_a (h : a < st.length) : (sto st a b l o)[a]? = some b := by
  unfold sto
  rw [List.getElem?_append_left (by rw [List.length_set]; exact h)]
  exact List.getElem?_set_self h
theorem sto_l : (sto st a b l o)[st.length]? = some (.lst (nD l)) := by
  unfold sto
  rw [List.getElem?_append_right (by rw [List.length_set]; exact Nat.le_refl _), List.length_set, Nat.sub_self]
  rfl
theorem sto_o : (sto st a b l o)[st.length + 1]? = some (.lst (nD o)) := by
  unfold sto
  rw [List.getElem?_append_right (by rw [List.length_set]; omega), List.length_set, Nat.add_sub_cancel_left]
  rfl
theorem sto_set_a (h : a < st.length) : (sto st a b l o).set a b' = sto st a b' l o := by
  unfold sto
  rw [List.set_append_left _ _ (by rw [List.length_set]; exact h), List.set_set]
theorem sto_set_l : (sto st a b l o).set st.length (.lst (nD l')) = sto st a b l' o := by
  unfold sto
  rw [List.set_append_right _ _ (by rw [List.length_set]; exact Nat.le_refl _), List.length_set, Nat.sub_self]
  rfl
theorem sto_set_o : (sto st a b l o).set (st.length + 1) (.lst (nD o')) = sto st a b l o' := by
  unfold sto
  rw [List.set_append_right _ _ (by rw [List.length_set]; omega), List.length_set, Nat.add_sub_cancel_left]
  rfl
end
end PyD
namespace PyD
open PySem
/-- all that can go from an earlier to a later one -/
def prs : List Nat → List (Nat × Nat)
  | [] => []
  | x :: xs => xs.map (fun y => (x, y)) ++ prs xs
theorem cut_from (ds : List D) (j : Nat) (h : j ≤ ds.length) : cutL ds (some (j : Int)) none = ds.drop j := by
  unfold cutL HT.sIx
  simp only
  rw [if_neg (by omega)]
  rw [show ((j : Int).toNat) = j from Int.toNat_natCast j]
  rw [show min j ds.length = j from Nat.min_eq_left h]
  exact List.take_of_length_le (by rw [List.length_drop]; omega)
theorem eraseP {α : Type} : ∀ {l : List α} {g : Nat} (h : g < l.length), (l[g] :: l.eraseIdx g).Perm l
  | x :: l, 0, _ => List.Perm.refl _
  | x :: l, g + 1, h => by
    rw [List.eraseIdx_cons_succ, List.getElem_cons_succ]
    exact (List.Perm.swap _ _ _).trans ((eraseP (l := l) (g := g) (by simpa using h)).cons x)
theorem eraseM {α β : Type} (f : α → β) : ∀ (l : List α) (g : Nat), (l.map f).eraseIdx g = (l.eraseIdx g).map f
  | [], g => by simp
  | x :: l, 0 => rfl
  | x :: l, g + 1 => by simp [eraseM f l g]
section
variable {Φ : Nat → Option FD} {k : Nat}
/-- a draw from the bag in the store of a drawing -/
theorem grab (h : H35 Φ) (st : Store) (a many r w t : Nat) (l o : List Nat) (ha : a < st.length) (hm : 1 ≤ many) (hm2 : many < 1073741824) :
    ∃ g r' w' t', g < many ∧ callD Φ (k + 1) 35 [.ref a, .int (many : Int)] (sto st a (bagO r w t) l o) = .ok (.int (g : Int)) (sto st a (bagO r' w' t') l o) := by
  obtain ⟨g, r', w', t', h1, h2⟩ := e35 (k := k) h a many r w t hm hm2 (sto st a (bagO r w t) l o) (sto_a ha)
  exact ⟨g, r', w', t', h1, by rw [h2, sto_set_a ha]⟩
theorem perm_pop {l o : List Nat} {g : Nat} {x : Nat} (h : l[g]? = some x) : ((o ++ [x]) ++ l.eraseIdx g).Perm (o ++ l) := by
  rw [List.append_assoc]
  refine List.Perm.append_left o ?_
  obtain ⟨hg, rfl⟩ := List.getElem?_eq_some_iff.mp h
  exact eraseP hg
theorem draw_order (h : H35 Φ) (st : Store) (a N r w t : Nat) (ha : a < st.length) (hN : N ≤ 1000) (x5 x6 x7 x8 : Option D) (most : Nat) :
    ∃ env1 st1, evS (callD Φ (k + 1)) (.for (.nm 2) (.rng1 (.b1 .len (.v 3))) (.cons (.ex (.app (.v 4) (.popi (.v 3) (.call 35 (.cons (.v 0) (.cons (.b1 .len (.v 3)) .nil)))))) .nil))
      [some (.ref a), some (.int (most : Int)), none, some (.ref st.length), some (.ref (st.length + 1)), x5, x6, x7, x8] (sto st a (bagO r w t) (List.range N) []) = .ok (.nx, env1) st1 ∧
      ∃ x2 o r' w' t', o.Perm (List.range N) ∧ env1 = [some (.ref a), some (.int (most : Int)), x2, some (.ref st.length), some (.ref (st.length + 1)), x5, x6, x7, x8] ∧ st1 = sto st a (bagO r' w' t') [] o := by
  obtain ⟨env1, st1, h1, x2, o, l, r', w', t', hp, hl, he, hs⟩ := s_forI (cal := callD Φ (k + 1)) (t := .nm 2) (i := .rng1 (.b1 .len (.v 3))) (bd := (.cons (.ex (.app (.v 4) (.popi (.v 3) (.call 35 (.cons (.v 0) (.cons (.b1 .len (.v 3)) .nil)))))) .nil))
    (env := [some (.ref a), some (.int (most : Int)), none, some (.ref st.length), some (.ref (st.length + 1)), x5, x6, x7, x8]) (st := sto st a (bagO r w t) (List.range N) []) (st0 := sto st a (bagO r w t) (List.range N) []) (J := .rng 0 N)
    (List.range N) (fun (i : Nat) => D.int (i : Int))
    (fun (i : Nat) (_ : Unit) (env : Env) (s : Store) => ∃ x2 o l r' w' t', (o ++ l).Perm (List.range N) ∧ l.length + i = N ∧ env = [some (.ref a), some (.int (most : Int)), x2, some (.ref st.length), some (.ref (st.length + 1)), x5, x6, x7, x8] ∧ s = sto st a (bagO r' w' t') l o)
    (fun _ _ => ())
    (by
      have hlen : b1D .len (.ref st.length) (sto st a (bagO r w t) (List.range N) []) = .ok (.int (N : Int)) (sto st a (bagO r w t) (List.range N) []) := by
        simp only [b1D, sto_l]
        unfold nD
        rw [List.length_map, List.length_range]
      have := i_rng1 (cal := callD Φ (k + 1)) (env := [some (.ref a), some (.int (most : Int)), none, some (.ref st.length), some (.ref (st.length + 1)), x5, x6, x7, x8]) (e_b1 (o := .len) (a := .v 3) rfl hlen) (smallI_le (by omega) (by omega))
      rw [this]
      rfl)
    (b0 := ()) ⟨_, [], List.range N, r, w, t, by rw [List.nil_append], by rw [List.length_range]; omega, rfl, rfl⟩ (fun _ _ _ s _ => all_rng0 N s)
    (by
      intro i y hy z env s ⟨x2, o, l, r1, w1, t1, hp, hl, he, hs⟩
      subst he hs
      have hi : i < N := by
        have := (List.getElem?_eq_some_iff.mp hy).1
        rwa [List.length_range] at this
      have hlen : b1D .len (.ref st.length) (sto st a (bagO r1 w1 t1) l o) = .ok (.int (l.length : Int)) (sto st a (bagO r1 w1 t1) l o) := by
        simp only [b1D, sto_l]
        unfold nD
        rw [List.length_map]
      obtain ⟨g, r2, w2, t2, hg, hc⟩ := grab (k := k) h st a l.length r1 w1 t1 l o ha (by omega) (by omega)
      have hx : (nD l)[g]? = some (.int (l[g] : Nat)) := by
        unfold nD
        rw [List.getElem?_map, List.getElem?_eq_getElem hg]
        rfl
      have hol : o.length ≤ N := by
        have := hp.length_eq
        rw [List.length_append, List.length_range] at this
        omega
      refine ⟨_, [some (.ref a), some (.int (most : Int)), some (.int (y : Int)), some (.ref st.length), some (.ref (st.length + 1)), x5, x6, x7, x8], sto st a (bagO r2 w2 t2) (l.eraseIdx g) (o ++ [l[g]]), rfl, ?_, _, o ++ [l[g]], l.eraseIdx g, r2, w2, t2, (perm_pop (List.getElem?_eq_getElem hg)).trans hp, ?_, rfl, rfl⟩
      · have hpop := e_popi (cal := callD Φ (k + 1)) (env := [some (.ref a), some (.int (most : Int)), some (.int (y : Int)), some (.ref st.length), some (.ref (st.length + 1)), x5, x6, x7, x8]) (a := .v 3) (e := .call 35 (.cons (.v 0) (.cons (.b1 .len (.v 3)) .nil)))
          (i := st.length) (st := sto st a (bagO r1 w1 t1) l o) (st1 := sto st a (bagO r2 w2 t2) l o) rfl sto_l (e_call (s_cons rfl (s_cons (e_b1 rfl hlen) s_nil)) hc) sto_l hx (by unfold nD; rw [List.length_map]; omega)
        have he : (nD l).eraseIdx g = nD (l.eraseIdx g) := by unfold nD; rw [eraseM]
        rw [he, sto_set_l] at hpop
        have happ := e_app2 (cal := callD Φ (k + 1)) (a := .v 4) (i := st.length + 1) rfl sto_o hpop sto_o (by unfold nD; rw [List.length_map]; omega)
        have ho : nD o ++ [D.int (l[g] : Nat)] = nD (o ++ [l[g]]) := by unfold nD; rw [List.map_append]; rfl
        rw [ho, sto_set_o] at happ
        exact bs_ex happ bs_nil
      · rw [List.length_eraseIdx_of_lt hg]
        omega)
  refine ⟨env1, st1, h1, x2, o, r', w', t', ?_, he, ?_⟩
  · rw [List.length_range] at hl
    have : l = [] := List.eq_nil_of_length_eq_zero (by omega)
    rwa [this, List.append_nil] at hp
  · rw [List.length_range] at hl
    have : l = [] := List.eq_nil_of_length_eq_zero (by omega)
    rw [hs, this]
end
end PyD
namespace PyD
open PySem
theorem prs_len : ∀ o : List Nat, (prs o).length ≤ o.length * o.length
  | [] => Nat.le_refl _
  | x :: xs => by
    have := prs_len xs
    simp only [prs, List.length_append, List.length_map, List.length_cons]
    have : (xs.length + 1) * (xs.length + 1) = xs.length * xs.length + xs.length + (xs.length + 1) := by
      rw [Nat.add_mul, Nat.mul_add]; omega
    omega
theorem evC_oneS {cal : Cal} {e : E} {env : Env} {st st1 : Store} {b : Bool} (h : evE cal e env st = .ok (.bl b) st1) : evC cal (.cons e .nil) env st = .ok b st1 := by
  rw [evC, h, R.bind_ok]
  cases b with
  | true => simp only; rw [evC]
  | false => rfl
theorem e_slF {cal : Cal} {env : Env} {st : Store} {a b : E} {x : D} {j : Int} {ds : List D} (ha : evE cal a env st = .ok x st) (hb : evE cal b env st = .ok (.int j) st) (hi : items x st = some (true, ds)) : evE cal (.sl a (.at b) .no) env st = .ok (.lst (cutL ds (some j) none)) st := by
  rw [evE, ha, R.bind_ok, evO, hb, R.bind_ok]
  simp only [R.bind_ok, evO, hi]
theorem cat_lst {xs ys : List D} (st : Store) (hz : xs.length + ys.length ≤ 16777216) : binD .add (.lst xs) (.lst ys) st = .ok (.lst (xs ++ ys)) st := by
  simp only [binD, addD, catD, items, small_of hz, if_true]
section
variable {Φ : Nat → Option FD} {k : Nat}
theorem draw_arrows (h : H35 Φ) (st : Store) (a r w t : Nat) (o : List Nat) (ha : a < st.length) (ho : o.length ≤ 1000) (x2 : Option D) (most : Nat) :
    ∃ env1 st1, evS (callD Φ (k + 1)) (.for (.tp (.cons (.nm 6) (.cons (.nm 7) .nil))) (.enum (.of (.of (.v 4)))) (.cons (.asg (.nm 5) (.bin .add (.v 5) (.fz (.comp [("two", 8)] (.nm 8) (.of (.of (.sl (.v 4) (.at (.bin .add (.v 6) (.c (.int 1)))) .no))) (.cons (.cmp .lt (.call 35 (.cons (.v 0) (.cons (.c (.int 5)) .nil))) (.c (.int 3))) .nil) (.tup (.cons (.v 7) (.cons (.v 8) .nil))))))) .nil))
      [some (.ref a), some (.int (most : Int)), x2, some (.ref st.length), some (.ref (st.length + 1)), some (.lst []), none, none, none] (sto st a (bagO r w t) [] o) = .ok (.nx, env1) st1 ∧
      ∃ (x6 x7 x8 : Option D) (A : List (Nat × Nat)) (r' w' t' : Nat), A.Sublist (prs o) ∧ env1 = [some (.ref a), some (.int (most : Int)), x2, some (.ref st.length), some (.ref (st.length + 1)), some (.lst (A.map ar)), x6, x7, x8] ∧ st1 = sto st a (bagO r' w' t') [] o := by
  obtain ⟨env1, st1, h1, x6, x7, x8, A, r', w', t', hA, he, hs⟩ := s_forI (cal := callD Φ (k + 1)) (t := .tp (.cons (.nm 6) (.cons (.nm 7) .nil))) (i := .enum (.of (.of (.v 4)))) (bd := (.cons (.asg (.nm 5) (.bin .add (.v 5) (.fz (.comp [("two", 8)] (.nm 8) (.of (.of (.sl (.v 4) (.at (.bin .add (.v 6) (.c (.int 1)))) .no))) (.cons (.cmp .lt (.call 35 (.cons (.v 0) (.cons (.c (.int 5)) .nil))) (.c (.int 3))) .nil) (.tup (.cons (.v 7) (.cons (.v 8) .nil))))))) .nil))
    (env := [some (.ref a), some (.int (most : Int)), x2, some (.ref st.length), some (.ref (st.length + 1)), some (.lst []), none, none, none]) (st := sto st a (bagO r w t) [] o) (st0 := sto st a (bagO r w t) [] o) (J := .enum (.lv (st.length + 1)))
    o.zipIdx (fun p => D.tup [.int (p.2 : Nat), .int (p.1 : Nat)])
    (fun (i : Nat) (_ : Unit) (env : Env) (s : Store) => ∃ (x6 x7 x8 : Option D) (A : List (Nat × Nat)) (r' w' t' : Nat), (A ++ prs (o.drop i)).Sublist (prs o) ∧ env = [some (.ref a), some (.int (most : Int)), x2, some (.ref st.length), some (.ref (st.length + 1)), some (.lst (A.map ar)), x6, x7, x8] ∧ s = sto st a (bagO r' w' t') [] o)
    (fun _ _ => ())
    (by
      have : lstAt (sto st a (bagO r w t) [] o) (st.length + 1) = some (nD o) := by unfold lstAt; rw [sto_o]
      rw [evI, evI]
      show (R.bind (match lstAt (sto st a (bagO r w t) [] o) (st.length + 1) with | some _ => R.ok (It.lv (st.length + 1)) (sto st a (bagO r w t) [] o) | none => .stuck) _) = _
      rw [this]
      rfl)
    (b0 := ()) ⟨_, _, _, [], r, w, t, by rw [List.nil_append, List.drop_zero]; exact List.Sublist.refl _, rfl, rfl⟩
    (by
      intro i _ env s ⟨x6, x7, x8, A, r1, w1, t1, hA, he, hs⟩
      subst hs
      have : lstAt (sto st a (bagO r1 w1 t1) [] o) (st.length + 1) = some (nD o) := by unfold lstAt; rw [sto_o]
      simp only [It.all, this, Option.map_some]
      unfold nD
      rw [List.zipIdx_map, List.map_map]
      rfl)
    (by
      intro i y hy _ env s ⟨x6, x7, x8, A, r1, w1, t1, hA, he, hs⟩
      subst he hs
      have hi : i < o.length := by
        have := (List.getElem?_eq_some_iff.mp hy).1
        rwa [List.length_zipIdx] at this
      have hy2 : y = (o[i], i) := by
        rw [List.getElem?_zipIdx, List.getElem?_eq_getElem hi, Nat.zero_add] at hy
        exact (Option.some.inj hy).symm
      subst hy2
      have hd : o.drop i = o[i] :: o.drop (i + 1) := List.drop_eq_getElem_cons hi
      have hlenA : A.length ≤ 1000000 := by
        have h1 := hA.length_le
        have h2 := prs_len o
        have h3 : o.length * o.length ≤ 1000 * 1000 := Nat.mul_le_mul ho ho
        rw [List.length_append] at h1
        omega
      obtain ⟨ds, st2, hc, zs, r2, w2, t2, hz, hds, hs2⟩ := comp_ix (cal := callD Φ (k + 1)) (own := [("two", 8)]) (t := .nm 8) (i := .of (.of (.sl (.v 4) (.at (.bin .add (.v 6) (.c (.int 1)))) .no))) (cs := (.cons (.cmp .lt (.call 35 (.cons (.v 0) (.cons (.c (.int 5)) .nil))) (.c (.int 3))) .nil)) (elt := (.tup (.cons (.v 7) (.cons (.v 8) .nil))))
        (env := [some (.ref a), some (.int (most : Int)), x2, some (.ref st.length), some (.ref (st.length + 1)), some (.lst (A.map ar)), some (.int (i : Nat)), some (.int (o[i] : Nat)), x8]) (st := sto st a (bagO r1 w1 t1) [] o) (st0 := sto st a (bagO r1 w1 t1) [] o) (J := .ds true (nD (o.drop (i + 1))))
        (o.drop (i + 1)) (fun (j : Nat) => D.int (j : Int))
        (fun (j : Nat) (acc : List D) (s : Store) => ∃ (zs : List Nat) (r2 w2 t2 : Nat), zs.Sublist ((o.drop (i + 1)).take j) ∧ acc = zs.map (fun z => ar (o[i], z)) ∧ s = sto st a (bagO r2 w2 t2) [] o)
        (i_lst (by
          have hj : ((i : Int) + 1) = ((i + 1 : Nat) : Int) := rfl
          have h1 := e_slF (cal := callD Φ (k + 1)) (env := [some (.ref a), some (.int (most : Int)), x2, some (.ref st.length), some (.ref (st.length + 1)), some (.lst (A.map ar)), some (.int (i : Nat)), some (.int (o[i] : Nat)), x8]) (a := .v 4) (b := .bin .add (.v 6) (.c (.int 1))) (j := ((i + 1 : Nat) : Int)) (st := sto st a (bagO r1 w1 t1) [] o) rfl (e_bin rfl rfl rfl) (items_ref sto_o)
          rw [cut_from _ _ (by unfold nD; rw [List.length_map]; omega)] at h1
          rw [h1]
          unfold nD
          rw [List.map_drop])) ⟨[], r1, w1, t1, List.nil_sublist _, rfl, rfl⟩ (fun _ _ _ _ => rfl)
        (by
          intro j z hz acc s ⟨zs, r2, w2, t2, hzs, hacc, hs⟩
          subst hacc hs
          obtain ⟨g, r3, w3, t3, hg, hc⟩ := grab (k := k) h st a 5 r2 w2 t2 [] o ha (by decide) (by decide)
          have hc : callD Φ (k + 1) 35 [.ref a, .int 5] (sto st a (bagO r2 w2 t2) [] o) = .ok (.int (g : Int)) (sto st a (bagO r3 w3 t3) [] o) := hc
          have hj : (o.drop (i + 1)).take (j + 1) = (o.drop (i + 1)).take j ++ [z] := by
            rw [List.take_add_one, hz]; rfl
          refine ⟨_, decide ((g : Int) < 3), sto st a (bagO r3 w3 t3) [] o, rfl, evC_oneS ?_, ?_, fun _ => ⟨zs, r3, w3, t3, ?_, rfl, rfl⟩, fun _ => ⟨_, e_tup (s_cons rfl (s_cons rfl s_nil)) (by show 2 ≤ 16777216; decide), zs ++ [z], r3, w3, t3, ?_, ?_, rfl⟩⟩
          · exact e_cmp (st1 := sto st a (bagO r3 w3 t3) [] o) (st2 := sto st a (bagO r3 w3 t3) [] o) (x := .int (g : Int)) (y := .int 3) (e_call (st1 := sto st a (bagO r2 w2 t2) [] o) (ds := [.ref a, .int 5]) (s_cons rfl (s_cons rfl s_nil)) hc) rfl (cmp_lt _ _ _)
          · rw [List.length_map]
            have h1 := hzs.length_le
            rw [List.length_take, List.length_drop] at h1
            omega
          · rw [hj]; exact hzs.trans (List.sublist_append_left _ _)
          · rw [hj]; exact hzs.append (List.Sublist.refl _)
          · rw [List.map_append]; rfl)
      subst hds hs2
      rw [List.take_length] at hz
      refine ⟨[some (.ref a), some (.int (most : Int)), x2, some (.ref st.length), some (.ref (st.length + 1)), some (.lst (A.map ar)), some (.int (i : Nat)), some (.int (o[i] : Nat)), x8], [some (.ref a), some (.int (most : Int)), x2, some (.ref st.length), some (.ref (st.length + 1)), some (.lst ((A ++ zs.map fun z => (o[i], z)).map ar)), some (.int (i : Nat)), some (.int (o[i] : Nat)), x8], _, rfl, bs_asg (e_bin (y := .lst (zs.map fun z => ar (o[i], z))) rfl (e_fz hc) (cat_lst _ ?_)) ?_ bs_nil, _, _, _, A ++ zs.map (fun z => (o[i], z)), r2, w2, t2, ?_, rfl, rfl⟩
      · have h1 := hz.length_le
        rw [List.length_drop] at h1
        rw [List.length_map, List.length_map]
        omega
      · rw [List.map_append, List.map_map]
        rfl
      · rw [hd] at hA
        refine List.Sublist.trans ?_ hA
        rw [prs, List.append_assoc]
        exact (List.Sublist.refl A).append ((hz.map _).append (List.Sublist.refl _)))
  refine ⟨env1, st1, h1, x6, x7, x8, A, r', w', t', ?_, he, hs⟩
  rw [List.length_zipIdx, List.drop_length] at hA
  simpa [prs] using hA
end
end PyD
namespace PyD
open PySem
theorem prs_mem {p : Nat × Nat} : ∀ {o : List Nat}, p ∈ prs o → p.1 ∈ o ∧ p.2 ∈ o
  | x :: xs, h => by
    rw [prs, List.mem_append] at h
    rcases h with h | h
    · obtain ⟨y, hy, rfl⟩ := List.mem_map.mp h
      exact ⟨List.mem_cons_self, List.mem_cons_of_mem _ hy⟩
    · obtain ⟨h1, h2⟩ := prs_mem h
      exact ⟨List.mem_cons_of_mem _ h1, List.mem_cons_of_mem _ h2⟩
theorem prs_nodup : ∀ {o : List Nat}, o.Nodup → (prs o).Nodup
  | [], _ => List.nodup_nil
  | x :: xs, h => by
    rw [List.nodup_cons] at h
    rw [prs, List.nodup_append]
    refine ⟨?_, prs_nodup h.2, ?_⟩
    · refine List.Pairwise.map _ (fun a b hab he => hab ?_) h.2
      exact (Prod.mk.inj he).2
    · intro p hp q hq e
      obtain ⟨y, hy, rfl⟩ := List.mem_map.mp hp
      subst e
      exact h.1 (prs_mem hq).1
theorem prs_ne : ∀ {o : List Nat}, o.Nodup → ∀ p ∈ prs o, p.1 ≠ p.2
  | x :: xs, h, p, hp => by
    rw [List.nodup_cons] at h
    rw [prs, List.mem_append] at hp
    rcases hp with hp | hp
    · obtain ⟨y, hy, rfl⟩ := List.mem_map.mp hp
      intro e
      exact h.1 (by rw [show x = y from e]; exact hy)
    · exact prs_ne h.2 p hp
theorem sort_ar (A : List (Nat × Nat)) (hz : A.length ≤ 16777216) (hn : A.Nodup) : ∃ as : List (Nat × Nat), sortD (A.map ar) = some (as.map ar) ∧ as.Perm A ∧ as.Pairwise ltA := by
  let f : Nat × Nat → List Int := fun p => [(p.1 : Int), (p.2 : Int)]
  let g : List Int → Nat × Nat := fun r => ((r.getD 0 0).toNat, (r.getD 1 0).toNat)
  have hgf : ∀ p, g (f p) = p := fun p => rfl
  have hmap : ∀ l : List (Nat × Nat), (l.map f).map g = l := fun l => by
    rw [List.map_map]
    exact (List.map_congr_left fun p _ => hgf p).trans (List.map_id l)
  have hp : (rsort (A.map f)).Perm (A.map f) := rsort_perm _
  let as := (rsort (A.map f)).map g
  have hpa : as.Perm A := by
    have := hp.map g
    rwa [hmap] at this
  have hf : as.map f = rsort (A.map f) := by
    show ((rsort (A.map f)).map g).map f = _
    rw [List.map_map]
    refine (List.map_congr_left fun r hr => ?_).trans (List.map_id _)
    obtain ⟨p, _, rfl⟩ := List.mem_map.mp (hp.mem_iff.mp hr)
    rfl
  refine ⟨as, ?_, hpa, ?_⟩
  · have e1 : A.map ar = (A.map f).map iT := by rw [List.map_map]; rfl
    rw [e1, sortD_rows _ (by rw [List.length_map]; exact hz) (fun r hr => by
      obtain ⟨p, _, rfl⟩ := List.mem_map.mp hr
      exact List.cons_ne_nil _ _), ← hf, List.map_map]
    rfl
  · have h1 : as.Pairwise fun p q => f p ≤ f q := List.pairwise_map.mp (by rw [hf]; exact rsort_le _)
    have h2 : as.Nodup := hpa.nodup_iff.mpr hn
    refine (h1.and h2).imp ?_
    intro p q ⟨h, hne⟩
    have h3 : ¬ (f q < f p) := h
    rw [lt2] at h3
    unfold ltA
    have : ¬ (p.1 = q.1 ∧ p.2 = q.2) := fun e => hne (Prod.ext e.1 e.2)
    omega
theorem fin_bag {st s1 j : Store} {v : D} (hv : v.pure = true) (hl : s1.length = st.length) : ∃ j', fin st (.ok v (s1 ++ j)) = .ok v (s1 ++ j') := by
  simp only [fin]
  by_cases hc : (v.pure && stSame ((s1 ++ j).take st.length) st) = true
  · rw [if_pos hc]
    rw [Bool.and_eq_true] at hc
    have e := stSame_eq hc.2
    rw [← hl, List.take_left] at e
    exact ⟨[], by rw [List.append_nil, e]⟩
  · rw [if_neg hc]
    refine ⟨j, ?_⟩
    cases v <;> simp [D.pure] at hv <;> rfl
section
variable {Φ : Nat → Option FD} {k : Nat}
/-- what the law draws -/
structure Drawn (N : Nat) (o : List Nat) (as : List (Nat × Nat)) : Prop where
  two : 2 ≤ N
  five : N ≤ 5
  perm : o.Perm (List.range N)
  sub : ∃ A, A.Sublist (prs o) ∧ as.Perm A
  asc : as.Pairwise ltA
theorem e36 (h : H36 Φ) (a r w t : Nat) (st : Store) (hs : st[a]? = some (bagO r w t)) :
    ∃ N o as r' w' t' j, Drawn N o as ∧ callD Φ (k + 2) 36 [.ref a, .int 5] st = .ok (wb N as) (st.set a (bagO r' w' t') ++ j) := by
  have ha : a < st.length := (List.getElem?_eq_some_iff.mp hs).1
  obtain ⟨g, r1, w1, t1, hg, hc1⟩ := e35 (k := k) h.c35 a 4 r w t (by decide) (by decide) st hs
  have hc1 : callD Φ (k + 1) 35 [.ref a, .int 4] st = .ok (.int (g : Int)) (st.set a (bagO r1 w1 t1)) := hc1
  let N := 2 + g
  obtain ⟨env2, st2, h2, x2, o, r2, w2, t2, ho, he2, hs2⟩ := draw_order (k := k) h.c35 st a N r1 w1 t1 ha (by show 2 + g ≤ 1000; omega) (some (.lst [])) none none none 5
  have hol : o.length = N := by rw [ho.length_eq, List.length_range]
  subst he2 hs2
  obtain ⟨env3, st3, h3, x6, x7, x8, A, r3, w3, t3, hA, he3, hs3⟩ := draw_arrows (k := k) h.c35 st a r2 w2 t2 o ha (by rw [hol]; show 2 + g ≤ 1000; omega) x2 5
  subst he3 hs3
  have hnod : o.Nodup := ho.nodup_iff.mpr List.nodup_range
  have hAl : A.length ≤ 36 := by
    have h1 := hA.length_le
    have h2 := prs_len o
    have h3 : o.length * o.length ≤ 5 * 5 := Nat.mul_le_mul (by rw [hol]; show 2 + g ≤ 5; omega) (by rw [hol]; show 2 + g ≤ 5; omega)
    omega
  obtain ⟨as, hsort, hperm, hasc⟩ := sort_ar A (by omega) ((prs_nodup hnod).sublist hA)
  obtain ⟨j', hj⟩ := fin_bag (st := st) (s1 := st.set a (bagO r3 w3 t3)) (j := [.lst (nD []), .lst (nD o)]) (v := wb N as) (wb_pure _ _) (List.length_set ..)
  refine ⟨N, o, as, r3, w3, t3, j', ⟨by show 2 ≤ 2 + g; omega, by show 2 + g ≤ 5; omega, ho, ⟨A, hA, hperm⟩, hasc⟩, ?_⟩
  rw [call_eq h.self rfl, ← hj]
  refine congrArg (fin st) ?_
  rw [runD_eq (env := [some (.ref a), some (.int 5), none, none, none, none, none, none, none]) rfl]
  have hfirst : evE (callD Φ (k + 1)) (.tup (.cons (.ls (.listR (.bin .add (.c (.int 2)) (.call 35 (.cons (.v 0) (.cons (.bin .sub (.v 1) (.c (.int 1))) .nil)))))) (.cons (.ls (.disp .nil)) (.cons (.fz (.disp .nil)) .nil)))) [some (.ref a), some (.int 5), none, none, none, none, none, none, none] st
      = .ok (.tup [.ref st.length, .ref (st.length + 1), .lst []]) (sto st a (bagO r1 w1 t1) (List.range N) []) := by
    have hl1 : evE (callD Φ (k + 1)) (.ls (.listR (.bin .add (.c (.int 2)) (.call 35 (.cons (.v 0) (.cons (.bin .sub (.v 1) (.c (.int 1))) .nil)))))) [some (.ref a), some (.int 5), none, none, none, none, none, none, none] st = .ok (.ref (st.set a (bagO r1 w1 t1)).length) (st.set a (bagO r1 w1 t1) ++ [MO.lst (nD (List.range N))]) := by
      refine e_ls ?_
      rw [evL, e_bin (x := .int 2) (y := .int (g : Int)) (st1 := st) (st2 := st.set a (bagO r1 w1 t1)) (r := .ok (.int (N : Int)) (st.set a (bagO r1 w1 t1))) rfl (e_call (s_cons rfl (s_cons rfl s_nil)) hc1) (by
        show R.ok (D.int (2 + (g : Int))) _ = R.ok (D.int ((2 + g : Nat) : Int)) _
        rw [Int.natCast_add]; rfl), R.bind_ok]
      simp only
      rw [if_pos (by
        rw [smallI_le (by omega) (by show 4 * ((2 + g : Nat) : Int) < _; omega), small_of (by rw [Int.toNat_natCast]; show 2 + g ≤ _; omega)]; rfl), Int.toNat_natCast]
      rfl
    have hl2 : evE (callD Φ (k + 1)) (.ls (.disp .nil)) [some (.ref a), some (.int 5), none, none, none, none, none, none, none] (st.set a (bagO r1 w1 t1) ++ [MO.lst (nD (List.range N))]) = .ok (.ref (st.set a (bagO r1 w1 t1) ++ [MO.lst (nD (List.range N))]).length) ((st.set a (bagO r1 w1 t1) ++ [MO.lst (nD (List.range N))]) ++ [MO.lst []]) := e_ls (l_disp s_nil (by decide))
    have hl := e_tup (s_cons hl1 (s_cons hl2 (s_cons (e_fz (l_disp s_nil (by decide))) s_nil))) (by show 3 ≤ 16777216; decide)
    rw [hl, List.length_append, List.length_set, List.append_assoc]
    rfl
  refine ss_asg (env1 := [some (.ref a), some (.int 5), none, some (.ref st.length), some (.ref (st.length + 1)), some (.lst []), none, none, none]) hfirst rfl ?_
  refine ss_s h2 (ss_s h3 (ss_ret ?_))
  refine e_tup (s_cons (e_b1 (x := .ref (st.length + 1)) rfl ?_) (s_cons (e_tupOf (l_sorted (l_of (x := .lst (A.map ar)) rfl rfl) hsort)) s_nil)) (by show 2 ≤ 16777216; decide)
  simp only [b1D, sto_o]
  unfold nD
  rw [List.length_map, hol]
  rfl
end
end PyD
namespace PyD
open PySem
theorem mem_insU {x y : Int} : ∀ {l : List Int}, y ∈ insU x l ↔ y = x ∨ y ∈ l
  | [] => by simp [insU]
  | z :: l => by
    unfold insU
    split
    · simp
    · split
      · rename_i h1 h2
        simp only [List.mem_cons]
        constructor
        · intro h; exact .inr h
        · rintro (h | h)
          · exact .inl (by simp_all)
          · exact h
      · simp only [List.mem_cons, mem_insU (l := l)]
        constructor
        · rintro (h | h | h)
          · exact .inr (.inl h)
          · exact .inl h
          · exact .inr (.inr h)
        · rintro (h | h | h)
          · exact .inr (.inl h)
          · exact .inl h
          · exact .inr (.inr h)
theorem mem_usort {y : Int} : ∀ {l : List Int}, y ∈ usort l ↔ y ∈ l
  | [] => by simp [usort]
  | z :: l => by rw [usort, mem_insU, mem_usort, List.mem_cons]
theorem insU_asc {x : Int} : ∀ {l : List Int}, l.Pairwise (· < ·) → (insU x l).Pairwise (· < ·)
  | [], _ => by unfold insU; exact List.pairwise_singleton _ _
  | z :: l, h => by
    have hz := List.pairwise_cons.mp h
    unfold insU
    split
    · rename_i h1
      refine List.pairwise_cons.mpr ⟨fun y hy => ?_, h⟩
      rcases List.mem_cons.mp hy with rfl | hy
      · exact h1
      · exact Int.lt_trans h1 (hz.1 y hy)
    · split
      · exact h
      · rename_i h1 h2
        refine List.pairwise_cons.mpr ⟨fun y hy => ?_, insU_asc hz.2⟩
        rcases mem_insU.mp hy with rfl | hy
        · omega
        · exact hz.1 y hy
theorem usort_asc : ∀ l : List Int, (usort l).Pairwise (· < ·)
  | [] => List.Pairwise.nil
  | z :: l => by rw [usort]; exact insU_asc (usort_asc l)
theorem isin_nL (l : List Nat) (t : Nat) (st : Store) : cmpD .isin (.int (t : Int)) (nL l) st = .ok (.bl (decide (t ∈ l))) st := by
  have e0 : nL l = .lst ((nI l).map .int) := by unfold nL nI; rw [List.map_map]; rfl
  have h2 : see st depthL (nL l) = some (.lst ((nI l).map .int)) := by
    rw [e0]
    have := depth_ints (nI l)
    exact see_pure st depthL _ (e0 ▸ nL_pure l) (by simp only [D.py, pys_ints, PyData.depth, depthL]; omega)
  have h : inD (.int (t : Int)) (nL l) st = some (decide (t ∈ l)) := by
    rw [e0] at h2 ⊢
    unfold inD
    simp only [h2, see_int]
    rw [any_int]
    exact congrArg some (decide_eq_decide.mpr mem_nI)
  show (match inD (.int (t : Int)) (nL l) st with | some b => okB b st | none => .stuck) = _
  rw [h]
  rfl
theorem notin_nL (l : List Nat) (t : Nat) (st : Store) : cmpD .notin (.int (t : Int)) (nL l) st = .ok (.bl (!decide (t ∈ l))) st := by
  have h := isin_nL l t st
  simp only [cmpD] at h ⊢
  cases e : inD (.int (t : Int)) (nL l) st with
  | none => rw [e] at h; cases h
  | some b => rw [e] at h; simp only [okB, R.ok.injEq, D.bl.injEq] at h; rw [← h.1]; rfl
/-- what lies above, as the law goes up -/
def upF (n : Nat) (as : List (Nat × Nat)) (t : Nat) : List Nat := (List.range n).foldl (fun b _ => b ++ (as.filter fun p => decide (p.2 ∈ b) && !decide (p.1 ∈ b)).map (·.1)) [t]
def upS (n : Nat) (as : List (Nat × Nat)) (t : Nat) : List Nat := (usort (nI (upF n as t))).map Int.toNat
theorem upS_nI (n : Nat) (as : List (Nat × Nat)) (t : Nat) : nI (upS n as t) = usort (nI (upF n as t)) := by
  unfold upS
  conv => rhs; rw [← List.map_id (usort (nI (upF n as t)))]
  unfold nI
  rw [List.map_map]
  refine List.map_congr_left fun x hx => ?_
  have h := mem_usort.mp hx
  obtain ⟨y, _, rfl⟩ := List.mem_map.mp h
  rfl
theorem mem_upS {n : Nat} {as : List (Nat × Nat)} {t x : Nat} : x ∈ upS n as t ↔ x ∈ upF n as t := by
  rw [← mem_nI, upS_nI, mem_usort, mem_nI]
theorem upS_asc (n : Nat) (as : List (Nat × Nat)) (t : Nat) : (upS n as t).Pairwise (· < ·) := by
  have h := usort_asc (nI (upF n as t))
  rw [← upS_nI] at h
  unfold nI at h
  rw [List.pairwise_map] at h
  exact h.imp fun h => by omega
theorem fold_len (as : List (Nat × Nat)) : ∀ (l : List Nat) (b : List Nat), (l.foldl (fun b _ => b ++ (as.filter fun p => decide (p.2 ∈ b) && !decide (p.1 ∈ b)).map (·.1)) b).length ≤ b.length + l.length * as.length
  | [], b => by simp
  | x :: l, b => by
    rw [List.foldl_cons]
    refine Nat.le_trans (fold_len as l _) ?_
    rw [List.length_append, List.length_map, List.length_cons, Nat.add_mul]
    have := List.length_filter_le (fun p : Nat × Nat => decide (p.2 ∈ b) && !decide (p.1 ∈ b)) as
    omega
theorem upF_len (n : Nat) (as : List (Nat × Nat)) (t : Nat) : (upF n as t).length ≤ 1 + n * as.length := by
  have := fold_len as (List.range n) [t]
  rwa [List.length_range] at this
section
variable {Φ : Nat → Option FD} {k : Nat}
theorem e37 (h : H37 Φ) (n : Nat) (as : List (Nat × Nat)) (t : Nat) (hn : n ≤ 5) (hl : as.length ≤ 10) (st : Store) : callD Φ (k + 1) 37 [wb n as, .int (t : Int)] st = .ok (nT (upS n as t)) st := by
  refine call_ev0 h.self rfl ?_ (nT_pure _)
  rw [runD_eq (env := [some (wb n as), some (.int (t : Int)), none, none, none, none]) rfl]
  refine ss_asg (d := nL [t]) (e_fz (l_disp (s_cons rfl s_nil) (by show 1 ≤ 16777216; decide))) rfl ?_
  obtain ⟨env1, st1, h1, hb, o1, o2, o3, rfl, rfl⟩ := s_forI (cal := callD Φ k) (t := .nm 3) (i := .rng1 (.ix (.v 0) (.c (.int 0)))) (bd := (.cons (.asg (.nm 2) (.bin .add (.v 2) (.fz (.comp [("one", 4), ("two", 5)] (.tp (.cons (.nm 4) (.cons (.nm 5) .nil))) (.of (.of (.ix (.v 0) (.c (.int 1))))) (.cons (.bools true (.cons (.cmp .isin (.v 5) (.v 2)) (.cons (.cmp .notin (.v 4) (.v 2)) .nil))) .nil) (.v 4))))) .nil))
    (List.range n) (fun (i : Nat) => D.int (i : Int))
    (fun (i : Nat) (b : List Nat) (env : Env) (s : Store) => b.length ≤ 1 + i * 10 ∧ ∃ o1 o2 o3, env = [some (wb n as), some (.int (t : Int)), some (nL b), o1, o2, o3] ∧ s = st)
    (fun b _ => b ++ (as.filter fun p => decide (p.2 ∈ b) && !decide (p.1 ∈ b)).map (·.1))
    (i_rng1 (env := [some (wb n as), some (.int (t : Int)), some (nL [t]), none, none, none]) (st := st) rfl (smallI_le (by omega) (by omega))) (b0 := [t]) ⟨by simp, _, _, _, rfl, rfl⟩ (fun _ _ _ s _ => all_rng0 n s)
    (by
      intro i y hy b env s ⟨hb, o1, o2, o3, he, hs⟩
      subst he hs
      have hi : i < n := by
        have := (List.getElem?_eq_some_iff.mp hy).1
        rwa [List.length_range] at this
      have hfl := List.length_filter_le (fun p : Nat × Nat => decide (p.2 ∈ b) && !decide (p.1 ∈ b)) as
      refine ⟨_, [some (wb n as), some (.int (t : Int)), some (nL (b ++ (as.filter fun p => decide (p.2 ∈ b) && !decide (p.1 ∈ b)).map (·.1))), some (.int (y : Int)), o2, o3], s, rfl, ?_, ?_, _, _, _, rfl, rfl⟩
      · refine bs_asg (e_bin (x := nL b) (y := .lst ((as.filter fun p => decide (p.2 ∈ b) && !decide (p.1 ∈ b)).map fun p => .int (p.1 : Int))) (st1 := s) (st2 := s) rfl (e_fz (comp_filter as ar (fun p => decide (p.2 ∈ b) && !decide (p.1 ∈ b)) (fun p => .int (p.1 : Int)) (i_tup rfl) rfl (by omega) fun p _ => ⟨_, rfl, e_bools (b_and ?_ fun _ => b_last ?_), fun _ => rfl⟩)) (cat_lst _ ?_)) ?_ bs_nil
        · exact e_cmp rfl rfl (isin_nL b p.2 s)
        · exact e_cmp rfl rfl (notin_nL b p.1 s)
        · rw [List.length_map, List.length_map]; omega
        · show R.ok _ _ = R.ok _ _
          unfold nL
          rw [List.map_append, List.map_map]
          rfl
      · rw [List.length_append, List.length_map, Nat.add_mul]
        omega)
  refine ss_s h1 (ss_ret ?_)
  have hlen := upF_len n as t
  have hle : n * as.length ≤ 5 * 10 := Nat.mul_le_mul hn hl
  have hin : (upF n as t).map (fun (i : Nat) => D.int (i : Int)) = (nI (upF n as t)).map D.int := by unfold nI; rw [List.map_map]; rfl
  have hL : evL (callD Φ k) (.of (.v 2)) [some (wb n as), some (.int (t : Int)), some (nL (upF n as t)), o1, o2, o3] st1 = .ok (true, (nI (upF n as t)).map D.int) st1 := by
    rw [← hin]
    exact l_of (x := nL (upF n as t)) rfl rfl
  have h9 := e_tupOf (l_sset hL (by unfold nI; rw [List.length_map]; omega))
  rw [← upS_nI, ← nT_eq] at h9
  exact h9
end
end PyD
namespace PyD
open PySem
theorem prs_before {x y : Nat} : ∀ {l1 l2 : List Nat}, (l1 ++ x :: l2).Nodup → (y, x) ∈ prs (l1 ++ x :: l2) → y ∈ l1
  | [], l2, h, hm => by
    rw [List.nil_append, prs, List.mem_append] at hm
    rw [List.nil_append, List.nodup_cons] at h
    rcases hm with hm | hm
    · obtain ⟨z, hz, e⟩ := List.mem_map.mp hm
      have : z = x := (Prod.mk.inj e).2
      exact absurd (this ▸ hz) h.1
    · exact absurd (prs_mem hm).2 h.1
  | z :: l1, l2, h, hm => by
    rw [List.cons_append, prs, List.mem_append] at hm
    rw [List.cons_append, List.nodup_cons] at h
    rcases hm with hm | hm
    · obtain ⟨u, hu, e⟩ := List.mem_map.mp hm
      have : z = y := (Prod.mk.inj e).1
      exact this ▸ List.mem_cons_self
    · exact List.mem_cons_of_mem _ (prs_before h.2 hm)
/-- the first that is not in b -/
theorem first_out (b : List Nat) : ∀ {o : List Nat}, (∃ x ∈ o, x ∉ b) → ∃ l1 x l2, o = l1 ++ x :: l2 ∧ x ∉ b ∧ ∀ y ∈ l1, y ∈ b
  | [], h => by obtain ⟨x, hx, _⟩ := h; cases hx
  | z :: o, h => by
    by_cases hz : z ∈ b
    · obtain ⟨x, hx, hb⟩ := h
      obtain ⟨l1, y, l2, e, h1, h2⟩ := first_out b (o := o) ⟨x, (List.mem_cons.mp hx).resolve_left (fun e => hb (e ▸ hz)), hb⟩
      refine ⟨z :: l1, y, l2, by rw [e]; rfl, h1, fun u hu => ?_⟩
      rcases List.mem_cons.mp hu with rfl | hu
      · exact hz
      · exact h2 u hu
    · exact ⟨[], z, o, rfl, hz, fun y hy => by cases hy⟩
theorem len_sub : ∀ {l b : List Nat}, l.Nodup → (∀ x ∈ l, x ∈ b) → l.length ≤ b.length
  | [], _, _, _ => Nat.zero_le _
  | x :: l, b, h, hs => by
    rw [List.nodup_cons] at h
    have h1 := len_sub (l := l) (b := b.erase x) h.2 fun y hy => (List.mem_erase_of_ne (fun e : y = x => h.1 (e ▸ hy))).mpr (hs y (List.mem_cons_of_mem _ hy))
    have h2 := List.length_erase_of_mem (hs x List.mem_cons_self)
    have h3 : 0 < b.length := List.length_pos_of_mem (hs x List.mem_cons_self)
    rw [List.length_cons]
    omega
theorem mem_as {N : Nat} {o : List Nat} {as : List (Nat × Nat)} (d : Drawn N o as) {p : Nat × Nat} (h : p ∈ as) : p ∈ prs o := by
  obtain ⟨A, hA, hp⟩ := d.sub
  exact hA.subset (hp.mem_iff.mp h)
theorem free_ne {N : Nat} {o : List Nat} {as : List (Nat × Nat)} (d : Drawn N o as) (b : List Nat) (hb : b.length < N) : free N as b ≠ [] := by
  have hnod : o.Nodup := d.perm.nodup_iff.mpr List.nodup_range
  have hex : ∃ x ∈ o, x ∉ b := by
    refine Classical.byContradiction fun hn => ?_
    have hsub : ∀ x ∈ o, x ∈ b := fun x hx => Classical.byContradiction fun hx2 => hn ⟨x, hx, hx2⟩
    have := len_sub hnod hsub
    rw [d.perm.length_eq, List.length_range] at this
    omega
  obtain ⟨l1, x, l2, e, h1, h2⟩ := first_out b hex
  have hx : x < N := List.mem_range.mp (d.perm.mem_iff.mp (by rw [e]; exact List.mem_append_right _ List.mem_cons_self))
  have : x ∈ free N as b := by
    unfold free
    refine List.mem_filter.mpr ⟨List.mem_filter.mpr ⟨List.mem_range.mpr hx, by simp [h1]⟩, ?_⟩
    rw [List.all_eq_true]
    intro y hy
    unfold pars at hy
    obtain ⟨p, hp, rfl⟩ := List.mem_map.mp hy
    obtain ⟨hp1, hp2⟩ := List.mem_filter.mp hp
    have hp3 : p.2 = x := of_decide_eq_true hp2
    have hm := mem_as d hp1
    have : p = (p.1, x) := Prod.ext rfl hp3
    rw [this, e] at hm
    exact decide_eq_true (h2 _ (prs_before (e ▸ hnod) hm))
  intro h0
  rw [h0] at this
  cases this
theorem fold_order {N : Nat} {o : List Nat} {as : List (Nat × Nat)} (d : Drawn N o as) : ∀ (l : List Nat) (b : List Nat), b.length + l.length ≤ N → (l.foldl (fun b _ => b ++ (free N as b).take 1) b).length = b.length + l.length
  | [], b, _ => rfl
  | x :: l, b, h => by
    rw [List.length_cons] at h
    have h1 := free_ne d b (by omega)
    have h2 : ((free N as b).take 1).length = 1 := by
      rw [List.length_take]
      have := List.length_pos_iff.mpr h1
      omega
    rw [List.foldl_cons, fold_order d l _ (by rw [List.length_append, h2]; omega), List.length_append, h2, List.length_cons]
    omega
theorem drawn_ord {N : Nat} {o : List Nat} {as : List (Nat × Nat)} (d : Drawn N o as) : (order N as).length = N := by
  have h := fold_order d (List.range N) [] (by simp)
  unfold order
  rw [h]
  simp
theorem drawn_len {N : Nat} {o : List Nat} {as : List (Nat × Nat)} (d : Drawn N o as) : as.length ≤ 10 := by
  obtain ⟨A, hA, hp⟩ := d.sub
  rw [hp.length_eq]
  refine Nat.le_trans hA.length_le ?_
  have h1 : ∀ l : List Nat, 2 * (prs l).length + l.length = l.length * l.length := by
    intro l
    induction l with
    | nil => rfl
    | cons x l ih =>
      rw [prs, List.length_append, List.length_map, List.length_cons]
      have : (l.length + 1) * (l.length + 1) = l.length * l.length + l.length + (l.length + 1) := by
        rw [Nat.add_mul, Nat.mul_add]; omega
      omega
  have h2 := h1 o
  have h3 : o.length = N := by rw [d.perm.length_eq, List.length_range]
  rw [h3] at h2
  have h4 := d.five
  have h5 := d.two
  have : N = 2 ∨ N = 3 ∨ N = 4 ∨ N = 5 := by omega
  rcases this with e | e | e | e <;> rw [e] at h2 <;> omega
theorem drawn_wv {N : Nat} {o : List Nat} {as : List (Nat × Nat)} (d : Drawn N o as) : WV N as where
  hn := Nat.le_trans d.five (by decide)
  len := Nat.le_trans (drawn_len d) (by decide)
  lt := fun p hp => by
    have h := prs_mem (mem_as d hp)
    exact ⟨List.mem_range.mp (d.perm.mem_iff.mp h.1), List.mem_range.mp (d.perm.mem_iff.mp h.2)⟩
  pos := Nat.le_trans (by decide) d.two
  ne := fun p hp => prs_ne (d.perm.nodup_iff.mpr List.nodup_range) p (mem_as d hp)
  asc := d.asc
  ord := drawn_ord d
end PyD
namespace PyD
open PySem
section
variable {Φ : Nat → Option FD} {k : Nat}
theorem filt_nil (as : List (Nat × Nat)) (t : Nat) (b : List Nat) : ((as.filter fun p => decide (p.2 = t) && !decide (p.1 ∈ b)).map (fun p => D.int (p.1 : Int))).isEmpty = (pars as t).all fun x => decide (x ∈ b) := by
  unfold pars
  induction as with
  | nil => rfl
  | cons p as ih =>
    rw [List.filter_cons, List.filter_cons]
    by_cases h1 : p.2 = t
    · by_cases h2 : p.1 ∈ b
      · simp [h1, h2] at ih ⊢
        exact ih
      · simp [h1, h2]
    · simp [h1] at ih ⊢
      exact ih
theorem eq_nil (xs : List D) (hp : D.pures xs = true) (st : Store) (hd : (D.lst xs).py.depth < 40) : cmpD .eq (.lst xs) (.lst []) st = .ok (.bl xs.isEmpty) st := by
  rw [cmp_eqP st (by simpa only [D.pure] using hp) hd rfl (by simp only [D.py, D.pys, PyData.depth, PyData.depthAll, depthL]; omega)]
  cases xs <;> rfl
theorem depth_nL (l : List Nat) : (nL l).py.depth < 40 := by
  have e0 : nL l = .lst ((nI l).map .int) := by unfold nL nI; rw [List.map_map]; rfl
  have := depth_ints (nI l)
  rw [e0]
  simp only [D.py, pys_ints, PyData.depth]
  omega
theorem e38 (h : H38 Φ) (n : Nat) (as : List (Nat × Nat)) (hn : n ≤ 5) (hz : as.length ≤ 10) (hf : ∀ b : List Nat, b.length < n → free n as b ≠ []) (st : Store) : callD Φ (k + 1) 38 [wb n as] st = .ok (nT (order n as)) st := by
  obtain ⟨env1, st1, h1, hb, o2, o3, o4, o5, o6, he, hs⟩ := s_forI (cal := callD Φ k) (t := .nm 2) (i := .rng1 (.ix (.v 0) (.c (.int 0)))) (bd := (.cons (.asg (.nm 3) (.fz (.comp [("thing", 4)] (.nm 4) (.rng1 (.ix (.v 0) (.c (.int 0)))) (.cons (.cmp .notin (.v 4) (.v 1)) .nil) (.v 4)))) (.cons (.asg (.nm 3) (.fz (.comp [("thing", 4)] (.nm 4) (.of (.of (.v 3))) (.cons (.cmp .eq (.fz (.comp [("one", 5), ("two", 6)] (.tp (.cons (.nm 5) (.cons (.nm 6) .nil))) (.of (.of (.ix (.v 0) (.c (.int 1))))) (.cons (.bools true (.cons (.cmp .eq (.v 6) (.v 4)) (.cons (.cmp .notin (.v 5) (.v 1)) .nil))) .nil) (.v 5))) (.fz (.disp .nil))) .nil) (.v 4)))) (.cons (.ex (.app (.v 1) (.ix (.v 3) (.c (.int 0))))) .nil))))
    (env := [some (wb n as), some (.ref st.length), none, none, none, none, none]) (st := st ++ [.lst []]) (st0 := st ++ [.lst []]) (List.range n) (fun (i : Nat) => D.int (i : Int))
    (fun i (b : List Nat) env s => b.length = i ∧ ∃ o2 o3 o4 o5 o6, env = [some (wb n as), some (.ref st.length), o2, o3, o4, o5, o6] ∧ s = st ++ [.lst (nD b)]) (fun b _ => b ++ (free n as b).take 1)
    (J := .rng 0 n) (i_rng1 (j := (n : Int)) rfl (smallI_le (by omega) (by omega))) (b0 := []) ⟨rfl, _, _, _, _, _, rfl, rfl⟩ (fun _ _ _ s _ => all_rng0 n s)
    (by
      intro i t hi b env s ⟨hb, o2, o3, o4, o5, o6, he, hs⟩
      subst he hs
      have hi2 : i < n := by
        have := (List.getElem?_eq_some_iff.mp hi).1
        rwa [List.length_range] at this
      have hfl : (free n as b).length ≤ n := by
        unfold free
        exact Nat.le_trans (List.length_filter_le _ _) (Nat.le_trans (List.length_filter_le _ _) (by rw [List.length_range]; exact Nat.le_refl _))
      obtain ⟨x, xs, hx⟩ := List.exists_cons_of_ne_nil (hf b (by omega))
      have ht : (free n as b).take 1 = [x] := by rw [hx]; rfl
      let out := (List.range n).filter fun t => !decide (t ∈ b)
      have hol : out.length ≤ n := Nat.le_trans (List.length_filter_le _ _) (by rw [List.length_range]; exact Nat.le_refl _)
      refine ⟨_, [some (wb n as), some (.ref st.length), some (.int (t : Int)), some (nL (free n as b)), o4, o5, o6], st ++ [.lst (nD (b ++ [x]))], rfl, ?_, by rw [ht, List.length_append, hb]; rfl, some (.int (t : Int)), some (nL (free n as b)), o4, o5, o6, rfl, by rw [ht]⟩
      refine bs_asg (env1 := [some (wb n as), some (.ref st.length), some (.int (t : Int)), some (nL out), o4, o5, o6]) (e_fz (comp_filter (List.range n) (fun (i : Nat) => D.int (i : Int)) (fun t => !decide (t ∈ b)) (fun (i : Nat) => D.int (i : Int)) (i_rng1 (j := (n : Int)) rfl (smallI_le (by omega) (by omega))) (all_rng0 n _) (by rw [List.length_range]; omega) fun y _ => ⟨_, rfl, e_cmp rfl rfl (notin_ref b y st.length _ (get_last _ _)), fun _ => rfl⟩)) rfl ?_
      refine bs_asg (env1 := [some (wb n as), some (.ref st.length), some (.int (t : Int)), some (nL (free n as b)), o4, o5, o6]) (e_fz (comp_filter out (fun (i : Nat) => D.int (i : Int)) (fun t => (pars as t).all fun x => decide (x ∈ b)) (fun (i : Nat) => D.int (i : Int)) (i_lst rfl) rfl (by omega) fun y _ => ⟨[some (wb n as), some (.ref st.length), some (.int (t : Int)), some (nL out), some (.int (y : Int)), o5, o6], rfl, ?_, fun _ => rfl⟩)) rfl ?_
      · rw [← filt_nil]
        refine e_cmp (e_fz (comp_filter as ar (fun p => decide (p.2 = y) && !decide (p.1 ∈ b)) (fun p => .int (p.1 : Int)) (i_tup rfl) rfl (by omega) fun p _ => ⟨_, rfl, e_bools (b_and ?_ fun _ => b_last ?_), fun _ => rfl⟩)) (e_fz (l_disp s_nil (by decide))) (eq_nil _ (pures_map _ (fun _ => rfl) _) _ ?_)
        · exact (e_cmp rfl rfl (cmp_eq _ _ _)).trans (by rw [deq])
        · exact e_cmp rfl rfl (notin_ref b p.1 st.length _ (get_last _ _))
        · have := depth_nL ((as.filter fun p => decide (p.2 = y) && !decide (p.1 ∈ b)).map (·.1))
          unfold nL at this
          rw [List.map_map] at this
          exact this
      · have h9 := e_app (cal := callD Φ k) (a := .v 1) (e := .ix (.v 3) (.c (.int 0))) (env := [some (wb n as), some (.ref st.length), some (.int (t : Int)), some (nL (free n as b)), o4, o5, o6]) (st := st ++ [.lst (nD b)]) (i := st.length) (ds := nD b) (d := .int (x : Int)) rfl (get_last _ _) (e_ix rfl rfl (ix_lst (t := 0) _ (by rw [hx]; rfl))) (by unfold nD; rw [List.length_map]; omega)
        rw [set_last] at h9
        have h8 : nD b ++ [D.int (x : Int)] = nD (b ++ [x]) := by unfold nD; rw [List.map_append]; rfl
        rw [h8] at h9
        exact bs_ex h9 bs_nil)
  refine call_ev [.lst (nD (order n as))] h.self rfl ?_ (nT_pure _)
  rw [runD_eq (env := [some (wb n as), none, none, none, none, none, none]) rfl]
  subst he hs
  refine ss_asg (e_ls (l_disp s_nil (by decide))) rfl (ss_s h1 (ss_ret (e_tupOf (l_of (bb := true) (x := .ref st.length) rfl ?_))))
  unfold items
  simp only [get_last]
  rfl
end
end PyD
namespace PyD
open PySem
theorem eqv_ar (p q : Nat × Nat) : D.eqv (ar p) (ar q) = decide (q = p) := by
  show (decide ((p.1 : Int) = (q.1 : Int)) && (decide ((p.2 : Int) = (q.2 : Int)) && true)) = _
  rw [deq, deq, Bool.and_true]
  by_cases h1 : p.1 = q.1
  · by_cases h2 : p.2 = q.2
    · rw [decide_eq_true h1, decide_eq_true h2, decide_eq_true (Prod.ext h1 h2).symm]; rfl
    · rw [decide_eq_false h2, Bool.and_false, decide_eq_false fun e => h2 (by rw [e])]
  · rw [decide_eq_false h1, Bool.false_and, decide_eq_false fun e => h1 (by rw [e])]
theorem any_ar (l : List (Nat × Nat)) (q : Nat × Nat) : ((l.map ar).any fun z => D.eqv z (ar q)) = decide (q ∈ l) := by
  induction l with
  | nil => rfl
  | cons p l ih =>
    rw [List.map_cons, List.any_cons, ih, eqv_ar]
    by_cases h : q = p
    · subst h; simp
    · simp [h]
theorem ars_pure (l : List (Nat × Nat)) : (D.tup (l.map ar)).pure = true := by simp only [D.pure]; exact pures_map _ (fun _ => rfl) _
theorem ars_depth (l : List (Nat × Nat)) : (D.tup (l.map ar)).py.depth < 40 := by
  have h : ∀ l : List (Nat × Nat), PyData.depthAll (D.pys (l.map ar)) ≤ 3 := by
    intro l
    induction l with
    | nil => simp [D.pys, PyData.depthAll]
    | cons p l ih =>
      have h1 : (ar p).py.depth ≤ 3 := by
        rw [ar_iT, iT_py]
        have := depth_ints [(p.1 : Int), (p.2 : Int)]
        simp only [PyData.depth]
        omega
      rw [List.map_cons, D.pys, PyData.depthAll]
      omega
  have := h l
  simp only [D.py, PyData.depth]
  omega
theorem isin_ars (l : List (Nat × Nat)) (p : Nat × Nat) (st : Store) : cmpD .isin (ar p) (.tup (l.map ar)) st = .ok (.bl (decide (p ∈ l))) st := by
  have h1 : see st depthL (ar p) = some (ar p) := see_iT [(p.1 : Int), (p.2 : Int)] st
  have h2 : see st depthL (.tup (l.map ar)) = some (.tup (l.map ar)) := see_pure st depthL _ (ars_pure l) (ars_depth l)
  have h : inD (ar p) (.tup (l.map ar)) st = some (decide (p ∈ l)) := by
    unfold inD
    simp only [h1, h2]
    rw [any_ar]
  show (match inD (ar p) (.tup (l.map ar)) st with | some b => okB b st | none => .stuck) = _
  rw [h]
  rfl
theorem notin_ars (l : List (Nat × Nat)) (p : Nat × Nat) (st : Store) : cmpD .notin (ar p) (.tup (l.map ar)) st = .ok (.bl (!decide (p ∈ l))) st := by
  have h := isin_ars l p st
  simp only [cmpD] at h ⊢
  cases e : inD (ar p) (.tup (l.map ar)) st with
  | none => rw [e] at h; cases h
  | some b => rw [e] at h; simp only [okB, R.ok.injEq, D.bl.injEq] at h; rw [← h.1]; rfl
end PyD
namespace PyD
open PySem
def lm1 (n : Nat) (as : List (Nat × Nat)) (a b : Nat) : List (List Nat) := ((List.range n).filter fun t => decide ((a, t) ∈ as) && decide ((b, t) ∈ as)).map fun t => [a, t, b]
def later (n a : Nat) : List Nat := (List.range (n - (a + 1))).map fun j => a + 1 + j
def lmeets (n : Nat) (as : List (Nat × Nat)) : List (List Nat) := (List.range n).flatMap fun a => (later n a).flatMap fun b => lm1 n as a b
theorem lm1_len (n : Nat) (as : List (Nat × Nat)) (a b : Nat) : (lm1 n as a b).length ≤ n := by
  unfold lm1
  rw [List.length_map]
  exact Nat.le_trans (List.length_filter_le _ _) (by rw [List.length_range]; exact Nat.le_refl _)
theorem later_len (n a : Nat) : (later n a).length ≤ n := by unfold later; rw [List.length_map, List.length_range]; omega
theorem lmeets_ne {n : Nat} {as : List (Nat × Nat)} : ∀ r ∈ lmeets n as, r ≠ [] := by
  intro r hr
  unfold lmeets lm1 at hr
  simp only [List.mem_flatMap, List.mem_map] at hr
  obtain ⟨a, _, b, _, t, _, rfl⟩ := hr
  simp
def nR (l : List (List Nat)) : D := .lst (l.map nT)
theorem all_later (n a : Nat) (st : Store) : It.all (.rng ((a : Int) + 1) (n - (a + 1))) st = some ((later n a).map fun (i : Nat) => D.int (i : Int)) := by
  unfold later
  rw [List.map_map]
  show some _ = some _
  congr 1
section
variable {Φ : Nat → Option FD} {k : Nat}
theorem e39 (h : H39 Φ) (n : Nat) (as : List (Nat × Nat)) (hn : n ≤ 5) (st : Store) : callD Φ (k + 1) 39 [wb n as] st = .ok (rT (rowsort (lmeets n as))) st := by
  refine call_ev0 h.self rfl ?_ (rT_pure _)
  rw [runD_eq (env := [some (wb n as), none, none, none, none, none]) rfl]
  refine ss_asg (d := nR []) (e_fz (l_disp s_nil (by decide))) rfl ?_
  obtain ⟨env1, st1, h1, hb, o2, o3, o4, o5, he, rfl⟩ := s_forI (cal := callD Φ k) (t := .nm 2) (i := .rng1 (.ix (.v 0) (.c (.int 0)))) (bd := (.cons (.for (.nm 3) (.rng2 (.bin .add (.v 2) (.c (.int 1))) (.ix (.v 0) (.c (.int 0)))) (.cons (.asg (.nm 4) (.fz (.comp [("third", 5)] (.nm 5) (.rng1 (.ix (.v 0) (.c (.int 0)))) (.cons (.bools true (.cons (.cmp .isin (.tup (.cons (.v 2) (.cons (.v 5) .nil))) (.ix (.v 0) (.c (.int 1)))) (.cons (.cmp .isin (.tup (.cons (.v 3) (.cons (.v 5) .nil))) (.ix (.v 0) (.c (.int 1)))) .nil))) .nil) (.v 5)))) (.cons (.asg (.nm 1) (.bin .add (.v 1) (.fz (.comp [("third", 5)] (.nm 5) (.of (.of (.v 4))) .nil (.tup (.cons (.v 2) (.cons (.v 5) (.cons (.v 3) .nil)))))))) .nil))) .nil))
    (env := [some (wb n as), some (nR []), none, none, none, none]) (st := st) (st0 := st) (List.range n) (fun (i : Nat) => D.int (i : Int))
    (fun i (b : List (List Nat)) env s => b.length ≤ i * 25 ∧ ∃ o2 o3 o4 o5, env = [some (wb n as), some (nR b), o2, o3, o4, o5] ∧ s = st) (fun b one => b ++ (later n one).flatMap fun two => lm1 n as one two)
    (J := .rng 0 n) (i_rng1 (j := (n : Int)) rfl (smallI_le (by omega) (by omega))) (b0 := []) ⟨by simp, _, _, _, _, rfl, rfl⟩ (fun _ _ _ s _ => all_rng0 n s)
    (by
      intro i a hi b env s ⟨hb, o2, o3, o4, o5, he, hs⟩
      subst he hs
      obtain ⟨hin, hia⟩ := List.getElem?_eq_some_iff.mp hi
      rw [List.length_range] at hin
      rw [List.getElem_range] at hia
      obtain ⟨env2, st2, h2, hb2, p3, p4, p5, rfl, rfl⟩ := s_forI (cal := callD Φ k) (t := .nm 3) (i := .rng2 (.bin .add (.v 2) (.c (.int 1))) (.ix (.v 0) (.c (.int 0)))) (bd := (.cons (.asg (.nm 4) (.fz (.comp [("third", 5)] (.nm 5) (.rng1 (.ix (.v 0) (.c (.int 0)))) (.cons (.bools true (.cons (.cmp .isin (.tup (.cons (.v 2) (.cons (.v 5) .nil))) (.ix (.v 0) (.c (.int 1)))) (.cons (.cmp .isin (.tup (.cons (.v 3) (.cons (.v 5) .nil))) (.ix (.v 0) (.c (.int 1)))) .nil))) .nil) (.v 5)))) (.cons (.asg (.nm 1) (.bin .add (.v 1) (.fz (.comp [("third", 5)] (.nm 5) (.of (.of (.v 4))) .nil (.tup (.cons (.v 2) (.cons (.v 5) (.cons (.v 3) .nil)))))))) .nil)))
        (env := [some (wb n as), some (nR b), some (.int (a : Int)), o3, o4, o5]) (st := s) (st0 := s) (later n a) (fun (i : Nat) => D.int (i : Int))
        (fun j (c : List (List Nat)) env s' => c.length ≤ b.length + j * 5 ∧ ∃ o3 o4 o5, env = [some (wb n as), some (nR c), some (.int (a : Int)), o3, o4, o5] ∧ s' = s) (fun c two => c ++ lm1 n as a two)
        (J := .rng ((a : Int) + 1) (n - (a + 1))) ((i_rng2 (i := (a : Int) + 1) (j := (n : Int)) (e_bin rfl rfl rfl) rfl (smallI_le (by omega) (by omega)) (smallI_le (by omega) (by omega))).trans (by
          show R.ok (It.rng _ _) _ = R.ok (It.rng _ _) _
          congr 2
          omega)) (b0 := b) ⟨by omega, _, _, _, rfl, rfl⟩ (fun _ _ _ s' _ => all_later n a s')
        (by
          intro j two hj c env s' ⟨hc, o3, o4, o5, he, hs⟩
          subst he hs
          have hjn : j < n := by
            have h1 := (List.getElem?_eq_some_iff.mp hj).1
            have := later_len n a
            omega
          have hl := lm1_len n as a two
          let far := (List.range n).filter fun t => decide ((a, t) ∈ as) && decide ((two, t) ∈ as)
          have hfl : far.length ≤ n := Nat.le_trans (List.length_filter_le _ _) (by rw [List.length_range]; exact Nat.le_refl _)
          refine ⟨_, [some (wb n as), some (nR (c ++ lm1 n as a two)), some (.int (a : Int)), some (.int (two : Int)), some (nL far), o5], s', rfl, ?_, by rw [List.length_append]; omega, _, _, _, rfl, rfl⟩
          refine bs_asg (env1 := [some (wb n as), some (nR c), some (.int (a : Int)), some (.int (two : Int)), some (nL far), o5]) (e_fz (comp_filter (List.range n) (fun (i : Nat) => D.int (i : Int)) (fun t => decide ((a, t) ∈ as) && decide ((two, t) ∈ as)) (fun (i : Nat) => D.int (i : Int)) (i_rng1 (j := (n : Int)) rfl (smallI_le (by omega) (by omega))) (all_rng0 n _) (by rw [List.length_range]; omega) fun y _ => ⟨_, rfl, e_bools (b_and (e_cmp (e_tup (s_cons rfl (s_cons rfl s_nil)) (by show 2 ≤ 16777216; decide)) rfl (isin_ars as (a, y) s')) fun _ => b_last (e_cmp (e_tup (s_cons rfl (s_cons rfl s_nil)) (by show 2 ≤ 16777216; decide)) rfl (isin_ars as (two, y) s'))), fun _ => rfl⟩)) rfl ?_
          refine bs_asg (e_bin (x := nR c) (y := .lst (far.map fun t => nT [a, t, two])) (st1 := s') (st2 := s') rfl (e_fz (comp_map far (fun (i : Nat) => D.int (i : Int)) (fun t => nT [a, t, two]) (i_lst rfl) rfl (by omega) fun y _ => ⟨_, rfl, e_tup (s_cons rfl (s_cons rfl (s_cons rfl s_nil))) (by show 3 ≤ 16777216; decide)⟩)) (cat_lst _ ?_)) ?_ bs_nil
          · rw [List.length_map, List.length_map]
            omega
          · show R.ok _ _ = R.ok _ _
            unfold nR lm1
            rw [List.map_append, List.map_map]
            rfl)
      rw [foldl_app] at *
      have hll := later_len n a
      refine ⟨_, _, _, rfl, bs_s h2 bs_nil, Nat.le_trans hb2 ?_, _, p3, p4, p5, rfl, rfl⟩
      omega)
  rw [foldl_app, List.nil_append] at *
  subst he
  have hz : (lmeets n as).length ≤ 16777216 := by
    rw [List.length_range] at hb
    unfold lmeets
    omega
  refine ss_s h1 (ss_ret (e_tupOf (l_sorted (l_of (x := nR (lmeets n as)) rfl rfl) ?_)))
  exact sortD_nT _ hz lmeets_ne
end
end PyD
namespace PyD
open PySem
theorem perm_same {α : Type} [BEq α] [LawfulBEq α] {l m : List α} (hl : l.Nodup) (hm : m.Nodup) (h : ∀ x, x ∈ l ↔ x ∈ m) : l.Perm m := by
  rw [List.perm_iff_count]
  intro a
  rw [hl.count, hm.count]
  by_cases ha : a ∈ l
  · rw [if_pos ha, if_pos ((h a).mp ha)]
  · rw [if_neg ha, if_neg fun hb => ha ((h a).mpr hb)]
theorem nI_inj {a b : List Nat} (h : nI a = nI b) : a = b := by
  have : (nI a).map Int.toNat = (nI b).map Int.toNat := by rw [h]
  unfold nI at this
  rw [List.map_map, List.map_map] at this
  have e : ∀ l : List Nat, l.map (Int.toNat ∘ fun (i : Nat) => (i : Int)) = l := fun l => (List.map_congr_left fun x _ => rfl).trans (List.map_id l)
  rwa [e, e] at this
theorem rowsort_le (l : List (List Nat)) : (rowsort l).Pairwise fun a b => nI a ≤ nI b := by
  have h := List.pairwise_mergeSort (le := fun a b => decide (nI a ≤ nI b)) (fun a b c h1 h2 => decide_eq_true (List.le_trans (of_decide_eq_true h1) (of_decide_eq_true h2))) (fun a b => by
    rcases List.le_total (nI a) (nI b) with h | h
    · rw [decide_eq_true h]; rfl
    · rw [decide_eq_true h, Bool.or_true]) l
  exact h.imp fun h => of_decide_eq_true h
theorem rowsort_eq {l m : List (List Nat)} (h : l.Perm m) : rowsort l = rowsort m :=
  List.Perm.eq_of_pairwise (le := fun a b => nI a ≤ nI b) (fun a b _ _ h1 h2 => nI_inj (List.le_antisymm h1 h2)) (rowsort_le l) (rowsort_le m) (((List.mergeSort_perm l _).trans h).trans (List.mergeSort_perm m _).symm)
theorem pars_mem {as : List (Nat × Nat)} {t x : Nat} : x ∈ pars as t ↔ (x, t) ∈ as := by
  unfold pars
  rw [List.mem_map]
  constructor
  · rintro ⟨p, hp, rfl⟩
    obtain ⟨h1, h2⟩ := List.mem_filter.mp hp
    have h3 : p.2 = t := of_decide_eq_true h2
    rw [← h3]; exact h1
  · exact fun h => ⟨(x, t), List.mem_filter.mpr ⟨h, decide_eq_true rfl⟩, rfl⟩
theorem asc_nodup {as : List (Nat × Nat)} (h : as.Pairwise ltA) : as.Nodup := h.imp fun h e => by
  subst e
  unfold ltA at h
  omega
theorem pars_nodup {as : List (Nat × Nat)} (h : as.Nodup) (t : Nat) : (pars as t).Nodup := by
  unfold pars
  refine List.pairwise_map.mpr ?_
  have h2 := List.Pairwise.filter (fun p : Nat × Nat => decide (p.2 = t)) h
  refine (List.Pairwise.and_mem.mp h2).imp ?_
  rintro p q ⟨hp, hq, hne⟩ e
  have h3 : p.2 = t := of_decide_eq_true (List.mem_filter.mp hp).2
  have h4 : q.2 = t := of_decide_eq_true (List.mem_filter.mp hq).2
  exact hne (Prod.ext e (h3.trans h4.symm))
end PyD
namespace PyD
open PySem
theorem mem_trips {n : Nat} {as : List (Nat × Nat)} {r : List Nat} : r ∈ trips n as ↔ ∃ a t b, r = [a, t, b] ∧ t < n ∧ (a, t) ∈ as ∧ (b, t) ∈ as ∧ a < b := by
  unfold trips trip
  simp only [List.mem_flatMap, List.mem_map, List.mem_filter, List.mem_range, pars_mem, decide_eq_true_eq]
  constructor
  · rintro ⟨t, ht, a, ha, b, ⟨hb, hab⟩, rfl⟩
    exact ⟨a, t, b, rfl, ht, ha, hb, hab⟩
  · rintro ⟨a, t, b, rfl, ht, ha, hb, hab⟩
    exact ⟨t, ht, a, ha, b, ⟨hb, hab⟩, rfl⟩
theorem mem_later {n a b : Nat} : b ∈ later n a ↔ a < b ∧ b < n := by
  unfold later
  rw [List.mem_map]
  constructor
  · rintro ⟨j, hj, rfl⟩
    have := List.mem_range.mp hj
    omega
  · rintro ⟨h1, h2⟩
    exact ⟨b - (a + 1), List.mem_range.mpr (by omega), by omega⟩
theorem mem_lmeets {n : Nat} {as : List (Nat × Nat)} {r : List Nat} : r ∈ lmeets n as ↔ ∃ a t b, r = [a, t, b] ∧ a < n ∧ b < n ∧ t < n ∧ (a, t) ∈ as ∧ (b, t) ∈ as ∧ a < b := by
  unfold lmeets lm1
  simp only [List.mem_flatMap, List.mem_map, List.mem_filter, List.mem_range, mem_later, Bool.and_eq_true, decide_eq_true_eq]
  constructor
  · rintro ⟨a, ha, b, ⟨hab, hb⟩, t, ⟨ht, h1, h2⟩, rfl⟩
    exact ⟨a, t, b, rfl, ha, hb, ht, h1, h2, hab⟩
  · rintro ⟨a, t, b, rfl, ha, hb, ht, h1, h2, hab⟩
    exact ⟨a, ha, b, ⟨hab, hb⟩, t, ⟨ht, h1, h2⟩, rfl⟩
theorem trips_nodup {n : Nat} {as : List (Nat × Nat)} (h : as.Nodup) : (trips n as).Nodup := by
  unfold trips
  refine List.pairwise_flatMap.mpr ⟨fun t _ => ?_, ?_⟩
  · unfold trip
    refine List.pairwise_flatMap.mpr ⟨fun a _ => ?_, ?_⟩
    · refine List.pairwise_map.mpr ((List.Pairwise.filter _ (pars_nodup h t)).imp ?_)
      intro x y hne e
      exact hne (by injection e with _ e; injection e with _ e; injection e)
    · refine (pars_nodup h t).imp ?_
      intro x y hne u hu v hv e
      obtain ⟨_, _, rfl⟩ := List.mem_map.mp hu
      obtain ⟨_, _, rfl⟩ := List.mem_map.mp hv
      exact hne (by injection e)
  · refine List.nodup_range.imp ?_
    intro x y hne u hu v hv e
    unfold trip at hu hv
    simp only [List.mem_flatMap, List.mem_map] at hu hv
    obtain ⟨_, _, _, _, rfl⟩ := hu
    obtain ⟨_, _, _, _, rfl⟩ := hv
    exact hne (by injection e with _ e; injection e)
theorem lmeets_nodup {n : Nat} {as : List (Nat × Nat)} : (lmeets n as).Nodup := by
  unfold lmeets
  refine List.pairwise_flatMap.mpr ⟨fun a _ => ?_, ?_⟩
  · refine List.pairwise_flatMap.mpr ⟨fun b _ => ?_, ?_⟩
    · unfold lm1
      refine List.pairwise_map.mpr ((List.Pairwise.filter _ List.nodup_range).imp ?_)
      intro x y hne e
      exact hne (by injection e with _ e; injection e)
    · have h : (later n a).Nodup := by
        unfold later
        refine List.pairwise_map.mpr (List.nodup_range.imp ?_)
        intro x y hne e
        exact hne (by omega)
      refine h.imp ?_
      intro x y hne u hu v hv e
      unfold lm1 at hu hv
      obtain ⟨_, _, rfl⟩ := List.mem_map.mp hu
      obtain ⟨_, _, rfl⟩ := List.mem_map.mp hv
      exact hne (by injection e with _ e; injection e with _ e; injection e)
  · refine List.nodup_range.imp ?_
    intro x y hne u hu v hv e
    unfold lm1 at hu hv
    simp only [List.mem_flatMap, List.mem_map] at hu hv
    obtain ⟨_, _, _, _, rfl⟩ := hu
    obtain ⟨_, _, _, _, rfl⟩ := hv
    exact hne (by injection e)
theorem meets_same {n : Nat} {as : List (Nat × Nat)} (w : WOk n as) (h : as.Nodup) : rowsort (lmeets n as) = meets n as := by
  unfold meets
  refine rowsort_eq (perm_same lmeets_nodup (trips_nodup h) fun r => ?_)
  rw [mem_trips, mem_lmeets]
  constructor
  · rintro ⟨a, t, b, e, ha, hb, ht, h1, h2, h3⟩
    exact ⟨a, t, b, e, ht, h1, h2, h3⟩
  · rintro ⟨a, t, b, e, ht, h1, h2, h3⟩
    exact ⟨a, t, b, e, (w.lt _ h1).1, (w.lt _ h2).1, ht, h1, h2, h3⟩
end PyD
namespace PyD
open PySem
theorem bit_add (i x j : Nat) (h : x.testBit i = false) : (2 ^ i + x).testBit j = (x.testBit j || decide (i = j)) := by
  rcases Nat.lt_trichotomy j i with hj | hj | hj
  · rw [Nat.testBit_two_pow_add_gt hj, decide_eq_false (by omega), Bool.or_false]
  · subst hj
    rw [Nat.testBit_two_pow_add_eq, h, decide_eq_true rfl]; rfl
  · rw [decide_eq_false (by omega), Bool.or_false]
    obtain ⟨d, rfl⟩ : ∃ d, j = d + (i + 1) := ⟨j - (i + 1), by omega⟩
    rw [Nat.testBit_add, Nat.testBit_add]
    congr 1
    rw [Nat.pow_succ, ← Nat.div_div_eq_div_mul, ← Nat.div_div_eq_div_mul]
    have h1 : (2 ^ i + x) / 2 ^ i = x / 2 ^ i + 1 := by
      rw [Nat.add_comm, Nat.add_div_right _ (Nat.two_pow_pos i)]
    have h2 : x / 2 ^ i % 2 = 0 := by
      rw [Nat.testBit_eq_decide_div_mod_eq] at h
      have := of_decide_eq_false h
      omega
    rw [h1]
    omega
theorem bits_test (x : Nat) : ∀ {l : List Nat}, l.Nodup → (bitsN l).testBit x = decide (x ∈ l)
  | [], _ => by
    show (0 : Nat).testBit x = _
    rw [Nat.zero_testBit]; rfl
  | y :: l, h => by
    rw [List.nodup_cons] at h
    have h1 : bitsN (y :: l) = 2 ^ y + bitsN l := by unfold bitsN; rw [List.map_cons, List.sum_cons]
    rw [h1, bit_add _ _ _ (by rw [bits_test y h.2]; exact decide_eq_false h.1), bits_test x h.2]
    by_cases e : y = x
    · subst e; simp
    · have e2 : ¬ x = y := fun h => e h.symm
      simp [e, e2]
end PyD
namespace PyD
open PySem
inductive Up (as : List (Nat × Nat)) (t : Nat) : Nat → Prop
  | refl : Up as t t
  | step {x y : Nat} : Up as t y → (x, y) ∈ as → Up as t x
def Clo (as : List (Nat × Nat)) (p : Nat → Bool) : Prop := ∀ x y, (x, y) ∈ as → p y = true → p x = true
def cnt (n : Nat) (p : Nat → Bool) : Nat := ((List.range n).filter p).length
theorem cnt_le (n : Nat) (p : Nat → Bool) : cnt n p ≤ n := Nat.le_trans (List.length_filter_le _ _) (by rw [List.length_range]; exact Nat.le_refl _)
theorem cnt_lt {n x : Nat} {p q : Nat → Bool} (h : ∀ y, p y = true → q y = true) (hx : x < n) (hq : q x = true) (hp : p x = false) : cnt n p + 1 ≤ cnt n q := by
  unfold cnt
  refine len_sub (l := x :: (List.range n).filter p) ?_ ?_
  · refine List.nodup_cons.mpr ⟨fun hm => ?_, List.Pairwise.filter _ List.nodup_range⟩
    have := (List.mem_filter.mp hm).2
    rw [hp] at this
    cases this
  · intro y hy
    rcases List.mem_cons.mp hy with rfl | hy
    · exact List.mem_filter.mpr ⟨List.mem_range.mpr hx, hq⟩
    · obtain ⟨h1, h2⟩ := List.mem_filter.mp hy
      exact List.mem_filter.mpr ⟨h1, h y h2⟩
/-- a step that only finds what is above, and all that is right above -/
structure Climb {β : Type} (as : List (Nat × Nat)) (step : β → β) (mem : β → Nat → Bool) : Prop where
  mono : ∀ b x, mem b x = true → mem (step b) x = true
  grow : ∀ b x y, (x, y) ∈ as → mem b y = true → mem (step b) x = true
  snd : ∀ b (Q : Nat → Prop), (∀ x y, (x, y) ∈ as → Q y → Q x) → (∀ x, mem b x = true → Q x) → ∀ x, mem (step b) x = true → Q x
section
variable {β : Type} {as : List (Nat × Nat)} {step : β → β} {mem : β → Nat → Bool}
theorem Climb.clo (c : Climb as step mem) {b : β} (h : Clo as (mem b)) : Clo as (mem (step b)) := by
  have hk := c.snd b (fun x => mem b x = true) (fun x y hxy hy => h x y hxy hy) fun x hx => hx
  exact fun x y hxy hy => c.mono b x (h x y hxy (hk y hy))
theorem Climb.clo_fold (c : Climb as step mem) : ∀ (l : List Nat) {b : β}, Clo as (mem b) → Clo as (mem (l.foldl (fun b _ => step b) b))
  | [], _, h => h
  | _ :: l, _, h => c.clo_fold l (c.clo h)
theorem Climb.mono_fold (c : Climb as step mem) : ∀ (l : List Nat) {b : β} {x : Nat}, mem b x = true → mem (l.foldl (fun b _ => step b) b) x = true
  | [], _, _, h => h
  | _ :: l, _, _, h => c.mono_fold l (c.mono _ _ h)
theorem Climb.snd_fold (c : Climb as step mem) (Q : Nat → Prop) (hQ : ∀ x y, (x, y) ∈ as → Q y → Q x) : ∀ (l : List Nat) {b : β}, (∀ x, mem b x = true → Q x) → ∀ x, mem (l.foldl (fun b _ => step b) b) x = true → Q x
  | [], _, h => h
  | _ :: l, b, h => c.snd_fold Q hQ l (c.snd b Q hQ h)
theorem Climb.count (c : Climb as step mem) {n : Nat} (hlt : ∀ p ∈ as, p.1 < n) : ∀ (l : List Nat) (b : β), Clo as (mem (l.foldl (fun b _ => step b) b)) ∨ cnt n (mem b) + l.length ≤ cnt n (mem (l.foldl (fun b _ => step b) b))
  | [], b => .inr (Nat.le_refl _)
  | z :: l, b => by
    by_cases h : Clo as (mem b)
    · exact .inl (c.clo_fold (z :: l) h)
    · have hex : ∃ x y, (x, y) ∈ as ∧ mem b y = true ∧ mem b x = false := by
        refine Classical.byContradiction fun hn => h fun x y hxy hy => ?_
        cases hx : mem b x with
        | true => rfl
        | false => exact absurd ⟨x, y, hxy, hy, hx⟩ hn
      obtain ⟨x, y, hxy, hy, hx⟩ := hex
      have h1 := cnt_lt (n := n) (c.mono b) (hlt _ hxy) (c.grow b x y hxy hy) hx
      rcases c.count hlt l (step b) with h2 | h2
      · exact .inl h2
      · refine .inr ?_
        rw [List.foldl_cons, List.length_cons]
        omega
/-- what n steps find from t: all that is above t -/
theorem Climb.all (c : Climb as step mem) {n t : Nat} (hlt : ∀ p ∈ as, p.1 < n) (ht : t < n) {b : β} (hb : ∀ x, mem b x = true ↔ x = t) (x : Nat) : mem ((List.range n).foldl (fun b _ => step b) b) x = true ↔ Up as t x := by
  have hc : Clo as (mem ((List.range n).foldl (fun b _ => step b) b)) := by
    rcases c.count hlt (List.range n) b with h | h
    · exact h
    · have h1 := cnt_le n (mem ((List.range n).foldl (fun b _ => step b) b))
      have h2 : 0 < cnt n (mem b) := List.length_pos_of_mem (List.mem_filter.mpr ⟨List.mem_range.mpr ht, (hb t).mpr rfl⟩)
      rw [List.length_range] at h
      omega
  constructor
  · exact c.snd_fold (Up as t) (fun x y hxy hy => .step hy hxy) _ (fun x hx => by rw [(hb x).mp hx]; exact .refl) x
  · intro h
    induction h with
    | refl => exact c.mono_fold _ ((hb t).mpr rfl)
    | step _ hxy ih => exact hc _ _ hxy ih
end
end PyD
namespace PyD
open PySem
def sw (as : List (Nat × Nat)) (m i : Nat) : Nat := if m.testBit i then m ||| bitsN (pars as i) else m
theorem sw_iff {as : List (Nat × Nat)} (h : as.Nodup) (m i x : Nat) : (sw as m i).testBit x = true ↔ m.testBit x = true ∨ (m.testBit i = true ∧ (x, i) ∈ as) := by
  unfold sw
  cases hb : m.testBit i with
  | true =>
    rw [if_pos rfl, Nat.testBit_or, bits_test x (pars_nodup h i), Bool.or_eq_true, decide_eq_true_iff, pars_mem]
    simp
  | false => rw [if_neg (by simp)]; simp
theorem sw_mono {as : List (Nat × Nat)} (h : as.Nodup) {x : Nat} : ∀ (l : List Nat) (m : Nat), m.testBit x = true → (l.foldl (sw as) m).testBit x = true
  | [], _, hm => hm
  | i :: l, m, hm => sw_mono h l _ ((sw_iff h m i x).mpr (.inl hm))
theorem sw_grow {as : List (Nat × Nat)} (h : as.Nodup) {x y : Nat} (hxy : (x, y) ∈ as) : ∀ (l : List Nat) (m : Nat), y ∈ l → m.testBit y = true → (l.foldl (sw as) m).testBit x = true
  | i :: l, m, hl, hm => by
    rw [List.foldl_cons]
    by_cases e : y = i
    · subst e
      exact sw_mono h l _ ((sw_iff h m y x).mpr (.inr ⟨hm, hxy⟩))
    · exact sw_grow h hxy l _ ((List.mem_cons.mp hl).resolve_left e) ((sw_iff h m i y).mpr (.inl hm))
theorem sw_snd {as : List (Nat × Nat)} (h : as.Nodup) (Q : Nat → Prop) (hQ : ∀ x y, (x, y) ∈ as → Q y → Q x) : ∀ (l : List Nat) (m : Nat), (∀ x, m.testBit x = true → Q x) → ∀ x, (l.foldl (sw as) m).testBit x = true → Q x
  | [], _, hm => hm
  | i :: l, m, hm => sw_snd h Q hQ l _ fun x hx => by
    rcases (sw_iff h m i x).mp hx with hx | ⟨h1, h2⟩
    · exact hm x hx
    · exact hQ x i h2 (hm i h1)
theorem climb_sweep {n : Nat} {as : List (Nat × Nat)} (h : as.Nodup) (hlt : ∀ p ∈ as, p.1 < n ∧ p.2 < n) : Climb as (sweep n as) (fun m x => m.testBit x) where
  mono := fun b x hb => sw_mono h _ b hb
  grow := fun b x y hxy hy => sw_grow h hxy _ b (List.mem_range.mpr (hlt _ hxy).2) hy
  snd := fun b Q hQ hb => sw_snd h Q hQ _ b hb
theorem climb_up {as : List (Nat × Nat)} : Climb as (fun b : List Nat => b ++ (as.filter fun p => decide (p.2 ∈ b) && !decide (p.1 ∈ b)).map (·.1)) (fun b x => decide (x ∈ b)) where
  mono := fun b x hb => decide_eq_true (List.mem_append_left _ (of_decide_eq_true hb))
  grow := fun b x y hxy hy => decide_eq_true (by
    by_cases hx : x ∈ b
    · exact List.mem_append_left _ hx
    · refine List.mem_append_right _ (List.mem_map.mpr ⟨(x, y), List.mem_filter.mpr ⟨hxy, ?_⟩, rfl⟩)
      have hy := of_decide_eq_true hy
      simp [hx, hy])
  snd := fun b Q hQ hb x hx => by
    rcases List.mem_append.mp (of_decide_eq_true hx) with hx | hx
    · exact hb x (decide_eq_true hx)
    · obtain ⟨p, hp, rfl⟩ := List.mem_map.mp hx
      obtain ⟨h1, h2⟩ := List.mem_filter.mp hp
      rw [Bool.and_eq_true] at h2
      exact hQ p.1 p.2 h1 (hb _ h2.1)
theorem closed_iff {n t : Nat} {as : List (Nat × Nat)} (w : WOk n as) (h : as.Nodup) (ht : t < n) (x : Nat) : (closed n as (bitsN [t])).testBit x = true ↔ Up as t x := by
  refine (climb_sweep h w.lt).all (fun p hp => (w.lt p hp).1) ht (fun x => ?_) x
  rw [bits_test x (List.nodup_cons.mpr ⟨List.not_mem_nil, List.nodup_nil⟩)]
  simp
theorem mem_upF {n t : Nat} {as : List (Nat × Nat)} (w : WOk n as) (ht : t < n) (x : Nat) : x ∈ upF n as t ↔ Up as t x := by
  have := climb_up.all (as := as) (n := n) (t := t) (fun p hp => (w.lt p hp).1) ht (b := [t]) (fun x => by simp) x
  rw [← this]
  unfold upF
  simp
theorem up_lt {n t : Nat} {as : List (Nat × Nat)} (w : WOk n as) (ht : t < n) {x : Nat} (h : Up as t x) : x < n := by
  induction h with
  | refl => exact ht
  | step _ hxy _ => exact (w.lt _ hxy).1
theorem asc_same {l m : List Nat} (hl : l.Pairwise (· < ·)) (hm : m.Pairwise (· < ·)) (h : ∀ x, x ∈ l ↔ x ∈ m) : l = m := by
  have hp : l.Perm m := perm_same (hl.imp fun h => Nat.ne_of_lt h) (hm.imp fun h => Nat.ne_of_lt h) h
  exact List.Perm.eq_of_pairwise (le := (· < ·)) (fun a b _ _ h1 h2 => absurd h1 (Nat.lt_asymm h2)) hl hm hp
theorem mem_abv {n t : Nat} {as : List (Nat × Nat)} (w : WOk n as) (h : as.Nodup) (ht : t < n) (x : Nat) : x ∈ abv n as t ↔ Up as t x := by
  unfold abv
  rw [List.mem_filter, closed_iff w h ht, List.mem_range]
  exact ⟨fun h => h.2, fun h => ⟨Nat.lt_of_lt_of_le (up_lt w ht h) w.hn, h⟩⟩
theorem abv_same {n t : Nat} {as : List (Nat × Nat)} (w : WOk n as) (h : as.Nodup) (ht : t < n) : upS n as t = abv n as t := by
  refine asc_same (upS_asc n as t) ?_ fun x => ?_
  · unfold abv
    exact List.Pairwise.filter _ List.pairwise_lt_range
  · rw [mem_upS, mem_upF w ht, mem_abv w h ht]
end PyD
namespace PyD
open PySem
/-- data whose text is short -/
structure Txt (w dep : Nat) (d : D) : Prop where
  pu : d.pure = true
  sh : d.py.showable = true
  lv : d.py.leavesShort 13 = true
  wt : d.py.weight ≤ w
  dp : d.py.depth ≤ dep
theorem Txt.repr {w dep : Nat} {d : D} (h : Txt w dep d) (hw : w ≤ 1048576) (hd : dep < 40) (st : Store) : reprD d st = .ok (.str d.py.shown) st := by
  have h1 : see st depthL d = some d := see_pure st depthL d h.pu (Nat.lt_of_le_of_lt h.dp hd)
  have h2 : d.py.shown.length ≤ sizeLine := PyData.shown_fits (by decide) (by decide) h.lv (Nat.le_trans h.wt hw)
  rw [sizeLine_eq] at h2
  unfold reprD
  simp only [h1, h.sh, small_of h2, Bool.and_self, if_true]
theorem log_lt {x k : Nat} (h : x < 2 ^ k) : Nat.log2 x ≤ k := by
  by_cases h0 : x = 0
  · subst h0; exact Nat.zero_le _
  · exact Nat.le_of_lt ((Nat.log2_lt h0).mpr h)
theorem txt_nat {x : Nat} (h : x < 64) : Txt 7 1 (.int (x : Int)) where
  pu := rfl
  sh := by
    have := log_lt (k := 6) h
    simp only [D.py, PyData.showable, Int.natAbs_natCast, decide_eq_true_eq]
    omega
  lv := by
    simp only [D.py, PyData.leavesShort, decide_eq_true_eq]
    exact PyData.shown_int_le (by rw [Int.natAbs_natCast]; omega)
  wt := by
    have := log_lt (k := 6) h
    simp only [D.py, PyData.weight, Int.natAbs_natCast]
    split <;> omega
  dp := by simp only [D.py, PyData.depth]; omega
theorem txt_all {w dep : Nat} : ∀ {ds : List D}, (∀ d ∈ ds, Txt w dep d) → D.pures ds = true ∧ PyData.showableAll (D.pys ds) = true ∧ PyData.leavesShortAll 13 (D.pys ds) = true ∧ PyData.weightAll (D.pys ds) ≤ (w + 1) * ds.length ∧ PyData.depthAll (D.pys ds) ≤ dep
  | [], _ => ⟨rfl, rfl, rfl, by simp [D.pys, PyData.weightAll], by simp [D.pys, PyData.depthAll]⟩
  | d :: ds, h => by
    obtain ⟨h1, h2, h3, h4, h5⟩ := txt_all (ds := ds) fun x hx => h x (List.mem_cons_of_mem _ hx)
    have hd := h d List.mem_cons_self
    refine ⟨by simp only [D.pures, hd.pu, h1, Bool.and_self], by simp only [D.pys, PyData.showableAll, hd.sh, h2, Bool.and_self], by simp only [D.pys, PyData.leavesShortAll, hd.lv, h3, Bool.and_self], ?_, ?_⟩
    · simp only [D.pys, PyData.weightAll, List.length_cons, Nat.mul_add, Nat.mul_one]
      have := hd.wt
      omega
    · simp only [D.pys, PyData.depthAll]
      have := hd.dp
      omega
theorem txt_tup {w dep : Nat} {ds : List D} (h : ∀ d ∈ ds, Txt w dep d) : Txt ((w + 1) * ds.length) (dep + 1) (.tup ds) := by
  obtain ⟨h1, h2, h3, h4, h5⟩ := txt_all h
  exact ⟨by simpa only [D.pure] using h1, by simpa only [D.py, PyData.showable] using h2, by simpa only [D.py, PyData.leavesShort] using h3, by simpa only [D.py, PyData.weight] using h4, by simp only [D.py, PyData.depth]; omega⟩
theorem txt_lst {w dep : Nat} {ds : List D} (h : ∀ d ∈ ds, Txt w dep d) : Txt ((w + 1) * ds.length) (dep + 1) (.lst ds) := by
  obtain ⟨h1, h2, h3, h4, h5⟩ := txt_all h
  exact ⟨by simpa only [D.pure] using h1, by simpa only [D.py, PyData.showable] using h2, by simpa only [D.py, PyData.leavesShort] using h3, by simpa only [D.py, PyData.weight] using h4, by simp only [D.py, PyData.depth]; omega⟩
theorem Txt.le {w w2 dep dep2 : Nat} {d : D} (h : Txt w dep d) (hw : w ≤ w2) (hd : dep ≤ dep2) : Txt w2 dep2 d := ⟨h.pu, h.sh, h.lv, Nat.le_trans h.wt hw, Nat.le_trans h.dp hd⟩
theorem txt_nT {l : List Nat} (h : ∀ x ∈ l, x < 64) : Txt (8 * l.length) 2 (nT l) := by
  have := txt_tup (w := 7) (dep := 1) (ds := l.map fun (i : Nat) => .int (i : Int)) fun d hd => by
    obtain ⟨x, hx, rfl⟩ := List.mem_map.mp hd
    exact txt_nat (h x hx)
  rw [List.length_map] at this
  exact this
theorem nsort_le (l : List Nat) : (nsort l).Pairwise (· ≤ ·) := by
  have h := List.pairwise_mergeSort (le := fun a b : Nat => decide (a ≤ b)) (fun a b c h1 h2 => by simp only [decide_eq_true_eq] at *; omega) (fun a b => by simp only [Bool.or_eq_true, decide_eq_true_eq]; omega) l
  exact h.imp fun h => of_decide_eq_true h
theorem nsort_perm (l : List Nat) : (nsort l).Perm l := List.mergeSort_perm l _
theorem nsort_eq {l m : List Nat} (h : l.Perm m) : nsort l = nsort m :=
  List.Perm.eq_of_pairwise (le := fun a b => a ≤ b) (fun a b _ _ h1 h2 => Nat.le_antisymm h1 h2) (nsort_le l) (nsort_le m) (((nsort_perm l).trans h).trans (nsort_perm m).symm)
theorem nbrs_perm (t : Nat) : ∀ as : List (Nat × Nat), (∀ p ∈ as, p.1 ≠ p.2) → (pars as t ++ kids as t).Perm ((as.filter fun p => decide (t ∈ [p.1, p.2])).map fun p => if p.1 = t then p.2 else p.1)
  | [], _ => List.Perm.refl _
  | p :: as, h => by
    have ih := nbrs_perm t as fun q hq => h q (List.mem_cons_of_mem _ hq)
    have hp := h p List.mem_cons_self
    unfold pars kids at *
    rw [List.filter_cons, List.filter_cons, List.filter_cons]
    by_cases h1 : p.1 = t
    · have h2 : p.2 ≠ t := fun e => hp (h1.trans e.symm)
      have h3 : t ∈ [p.1, p.2] := by rw [h1]; exact List.mem_cons_self
      rw [if_neg (by rw [decide_eq_false h2]; decide), if_pos (decide_eq_true h1), if_pos (decide_eq_true h3), List.map_cons, List.map_cons, if_pos h1]
      exact List.perm_middle.trans (ih.cons _)
    · by_cases h2 : p.2 = t
      · have h3 : t ∈ [p.1, p.2] := by rw [h2]; simp
        rw [if_pos (decide_eq_true h2), if_neg (by rw [decide_eq_false h1]; decide), if_pos (decide_eq_true h3), List.map_cons, List.map_cons, if_neg h1]
        exact ih.cons _
      · have h3 : ¬ t ∈ [p.1, p.2] := by
          simp only [List.mem_cons, List.not_mem_nil, or_false, not_or]
          exact ⟨fun e => h1 e.symm, fun e => h2 e.symm⟩
        rw [if_neg (by rw [decide_eq_false h2]; decide), if_neg (by rw [decide_eq_false h1]; decide), if_neg (by rw [decide_eq_false h3]; decide)]
        exact ih
theorem nbrs_same (as : List (Nat × Nat)) (h : ∀ p ∈ as, p.1 ≠ p.2) (t : Nat) : nsort (pars as t ++ kids as t) = nbrs as t := nsort_eq (nbrs_perm t as h)
end PyD
namespace PyD
open PySem
theorem e_repr {cal : Cal} {env : Env} {st st1 : Store} {a : E} {x : D} {w dep : Nat} (ha : evE cal a env st = .ok x st1) (h : Txt w dep x) (hw : w ≤ 1048576) (hd : dep < 40) (hx : (∃ ds, x = .tup ds) ∨ ∃ ds, x = .lst ds) : evE cal (.b1 .repr a) env st = .ok (.str x.py.shown) st1 := by
  refine e_b1 ha ?_
  have hr := h.repr hw hd st1
  rcases hx with ⟨ds, rfl⟩ | ⟨ds, rfl⟩ <;> exact hr
theorem e_reprR {cal : Cal} {env : Env} {st st1 : Store} {a : E} {ds : List D} {i w dep : Nat} (ha : evE cal a env st = .ok (.ref i) st1) (hi : st1[i]? = some (.lst ds)) (h : Txt w dep (.lst ds)) (hw : w ≤ 1048576) (hd : dep < 40) : evE cal (.b1 .repr a) env st = .ok (.str (D.lst ds).py.shown) st1 := by
  refine e_b1 ha ?_
  have hr := h.repr hw hd st1
  have h1 : see st1 depthL (.lst ds) = some (.lst ds) := see_pure st1 depthL _ h.pu (Nat.lt_of_le_of_lt h.dp hd)
  have h2 : see st1 depthL (.ref i) = see st1 depthL (.lst ds) := by
    show (match st1[i]? with | some (.lst ds) => (ds.mapM (see st1 39)).map D.lst | _ => none) = _
    rw [hi]
    rfl
  show reprD (.ref i) st1 = _
  unfold reprD at hr ⊢
  rw [h2]
  exact hr
theorem cmp_str (x y : Str) (st : Store) : cmpD .eq (.str x) (.str y) st = .ok (.bl (decide (x = y))) st := rfl
theorem cmp_strn (x y : Str) (st : Store) : cmpD .ne (.str x) (.str y) st = .ok (.bl (!decide (x = y))) st := rfl
theorem kids_len {n : Nat} {as : List (Nat × Nat)} (w : WOk n as) (t : Nat) : (kids as t).length ≤ 36 := by
  unfold kids
  rw [List.length_map]
  exact Nat.le_trans (List.length_filter_le _ _) w.len
theorem abv_lt {n t x : Nat} {as : List (Nat × Nat)} (h : x ∈ abv n as t) : x < 6 := List.mem_range.mp (List.mem_filter.mp h).1
theorem blw_lt {n t x : Nat} {as : List (Nat × Nat)} (h : x ∈ blw n as t) : x < n := List.mem_range.mp (List.mem_filter.mp h).1
theorem abv_len {n : Nat} {as : List (Nat × Nat)} (t : Nat) : (abv n as t).length ≤ 6 := Nat.le_trans (List.length_filter_le _ _) (by rw [List.length_range]; exact Nat.le_refl _)
theorem blw_len {n : Nat} {as : List (Nat × Nat)} (t : Nat) : (blw n as t).length ≤ n := Nat.le_trans (List.length_filter_le _ _) (by rw [List.length_range]; exact Nat.le_refl _)
theorem nbrs_mem {n t x : Nat} {as : List (Nat × Nat)} (w : WOk n as) (h : x ∈ nbrs as t) : x < n := by
  have h1 := (nsort_perm _).mem_iff.mp h
  obtain ⟨p, hp, rfl⟩ := List.mem_map.mp h1
  obtain ⟨h2, h3⟩ := w.lt p (List.mem_filter.mp hp).1
  show (if p.1 = t then p.2 else p.1) < n
  split
  · exact h3
  · exact h2
theorem nbrs_len {n : Nat} {as : List (Nat × Nat)} (w : WOk n as) (t : Nat) : (nbrs as t).length ≤ 36 := by
  unfold nbrs
  rw [(nsort_perm _).length_eq, List.length_map]
  exact Nat.le_trans (List.length_filter_le _ _) w.len
def told (n : Nat) (as : List (Nat × Nat)) (t : Nat) : List D := [nT (pars as t), nT (abv n as t), nT (blw n as t), nT (nbrs as t)]
theorem told_txt {n : Nat} {as : List (Nat × Nat)} (w : WOk n as) (t : Nat) : Txt 1156 3 (.lst (told n as t)) := by
  have hn := w.hn
  have h : ∀ d ∈ told n as t, Txt 288 2 d := by
    intro d hd
    unfold told at hd
    simp only [List.mem_cons, List.not_mem_nil, or_false] at hd
    rcases hd with rfl | rfl | rfl | rfl
    · exact (txt_nT fun x hx => by have := pars_lt w hx; omega).le (by have := pars_len w t; omega) (Nat.le_refl _)
    · exact (txt_nT fun x hx => by have := abv_lt hx; omega).le (by have := abv_len (n := n) (as := as) t; omega) (Nat.le_refl _)
    · exact (txt_nT fun x hx => by have := blw_lt hx; omega).le (by have := blw_len (n := n) (as := as) t; omega) (Nat.le_refl _)
    · exact (txt_nT fun x hx => by have := nbrs_mem w hx; omega).le (by have := nbrs_len w t; omega) (Nat.le_refl _)
  exact (txt_lst h).le (by show 289 * 4 ≤ _; decide) (Nat.le_refl _)
theorem blw_same {n t : Nat} {as : List (Nat × Nat)} (w : WOk n as) (h : as.Nodup) : ((List.range n).filter fun o => decide (t ∈ upS n as o)) = blw n as t := by
  unfold blw
  refine List.filter_congr fun o ho => ?_
  rw [abv_same w h (List.mem_range.mp ho)]
section
variable {Φ : Nat → Option FD} {k : Nat}
theorem e40 (h : H40 Φ) (n : Nat) (as : List (Nat × Nat)) (w : WV n as) (hn : n ≤ 5) (hz : as.length ≤ 10) (t : Nat) (ht : t < n) (st : Store) : callD Φ (k + 9) 40 [wb n as, .int (t : Int)] st = .ok (.bl true) st := by
  have hnd := asc_nodup w.asc
  have hpl := pars_len w.toWOk t
  have hkl := kids_len w.toWOk t
  refine call_ev [.lst (told n as t)] h.self rfl ?_ rfl
  rw [runD_eq (env := [some (wb n as), some (.int t), none, none, none, none, none, none]) rfl]
  have a1 : evE (callD Φ (k + 8)) (.tupOf (.comp [("one", 6), ("two", 7)] (.tp (.cons (.nm 6) (.cons (.nm 7) .nil))) (.of (.of (.ix (.v 0) (.c (.int 1))))) (.cons (.cmp .eq (.v 7) (.v 1)) .nil) (.v 6))) [some (wb n as), some (.int t), none, none, none, none, none, none] st = .ok (nT (pars as t)) st := pars_comp as t rfl rfl (by omega) fun p => ⟨_, rfl, rfl, rfl⟩
  have a2 := e_call (cal := callD Φ (k + 8)) (f := 37) (env := [some (wb n as), some (.int t), none, none, none, none, none, none]) (es := .cons (.v 0) (.cons (.v 1) .nil)) (s_cons rfl (s_cons rfl s_nil)) (e37 (k := k + 7) h.c37 n as t hn hz st)
  rw [abv_same w.toWOk hnd ht] at a2
  refine ss_asg (d := .ref st.length) (st1 := st ++ [.lst [nT (pars as t), nT (abv n as t)]]) (e_ls (l_disp (s_cons a1 (s_cons a2 s_nil)) (by show 2 ≤ 16777216; decide))) rfl ?_
  have b1 : evE (callD Φ (k + 8)) (.tupOf (.comp [("other", 5)] (.nm 5) (.rng1 (.ix (.v 0) (.c (.int 0)))) (.cons (.cmp .isin (.v 1) (.call 37 (.cons (.v 0) (.cons (.v 5) .nil)))) .nil) (.v 5))) [some (wb n as), some (.int t), some (.ref st.length), none, none, none, none, none] (st ++ [.lst [nT (pars as t), nT (abv n as t)]]) = .ok (nT (blw n as t)) (st ++ [.lst [nT (pars as t), nT (abv n as t)]]) := by
    rw [← blw_same w.toWOk hnd]
    exact e_tupOf (comp_filter (List.range n) (fun (i : Nat) => D.int (i : Int)) (fun o => decide (t ∈ upS n as o)) (fun (i : Nat) => D.int (i : Int)) (i_rng1 (j := (n : Int)) rfl (smallI_le (by omega) (by omega))) (all_rng0 n _) (by rw [List.length_range]; omega)
      fun o ho => ⟨_, rfl, e_cmp rfl (e_call (s_cons rfl (s_cons rfl s_nil)) (e37 (k := k + 7) h.c37 n as o hn hz _)) (isin_nT _ _ _), fun _ => rfl⟩)
  have b2 := e_app (cal := callD Φ (k + 8)) (a := .v 2) (env := [some (wb n as), some (.int t), some (.ref st.length), none, none, none, none, none]) (i := st.length) rfl (get_last st (.lst [nT (pars as t), nT (abv n as t)])) b1 (by show 2 + 1 ≤ 16777216; decide)
  rw [set_last] at b2
  refine ss_ex b2 ?_
  have c1 : evE (callD Φ (k + 8)) (.bin .add (.fz (.comp [("one", 6), ("two", 7)] (.tp (.cons (.nm 6) (.cons (.nm 7) .nil))) (.of (.of (.ix (.v 0) (.c (.int 1))))) (.cons (.cmp .eq (.v 7) (.v 1)) .nil) (.v 6))) (.fz (.comp [("one", 6), ("two", 7)] (.tp (.cons (.nm 6) (.cons (.nm 7) .nil))) (.of (.of (.ix (.v 0) (.c (.int 1))))) (.cons (.cmp .eq (.v 6) (.v 1)) .nil) (.v 7)))) [some (wb n as), some (.int t), some (.ref st.length), none, none, none, none, none] (st ++ [.lst ([nT (pars as t), nT (abv n as t)] ++ [nT (blw n as t)])]) = .ok (nL (pars as t ++ kids as t)) (st ++ [.lst ([nT (pars as t), nT (abv n as t)] ++ [nT (blw n as t)])]) := by
    have hfl := List.length_filter_le (fun p : Nat × Nat => decide (p.2 = t)) as
    have hgl := List.length_filter_le (fun p : Nat × Nat => decide (p.1 = t)) as
    refine (e_bin (x := .lst ((as.filter fun p => decide (p.2 = t)).map fun p => .int (p.1 : Int))) (y := .lst ((as.filter fun p => decide (p.1 = t)).map fun p => .int (p.2 : Int))) (e_fz (comp_filter as ar (fun p => decide (p.2 = t)) (fun p => .int (p.1 : Int)) (i_tup rfl) rfl (by omega) fun p _ => ⟨_, rfl, (e_cmp rfl rfl (cmp_eq _ _ _)).trans (by rw [deq]), fun _ => rfl⟩)) (e_fz (comp_filter as ar (fun p => decide (p.1 = t)) (fun p => .int (p.2 : Int)) (i_tup rfl) rfl (by omega) fun p _ => ⟨_, rfl, (e_cmp rfl rfl (cmp_eq _ _ _)).trans (by rw [deq]), fun _ => rfl⟩)) (cat_lst _ (by rw [List.length_map, List.length_map]; omega))).trans ?_
    unfold nL pars kids
    rw [List.map_append, List.map_map, List.map_map]
    rfl
  refine ss_asg c1 rfl ?_
  have d1 : evE (callD Φ (k + 8)) (.tupOf (.sorted (.of (.v 3)))) [some (wb n as), some (.int t), some (.ref st.length), some (nL (pars as t ++ kids as t)), none, none, none, none] (st ++ [.lst ([nT (pars as t), nT (abv n as t)] ++ [nT (blw n as t)])]) = .ok (nT (nbrs as t)) (st ++ [.lst ([nT (pars as t), nT (abv n as t)] ++ [nT (blw n as t)])]) := by
    rw [← nbrs_same as w.ne t]
    exact e_tupOf (l_sorted (l_of (x := nL (pars as t ++ kids as t)) rfl rfl) (sortD_nats _ (by rw [List.length_append]; omega)))
  have d2 := e_app (cal := callD Φ (k + 8)) (a := .v 2) (env := [some (wb n as), some (.int t), some (.ref st.length), some (nL (pars as t ++ kids as t)), none, none, none, none]) (i := st.length) rfl (get_last st (.lst ([nT (pars as t), nT (abv n as t)] ++ [nT (blw n as t)]))) d1 (by show 3 + 1 ≤ 16777216; decide)
  rw [set_last] at d2
  refine ss_ex d2 ?_
  have f1 : evE (callD Φ (k + 8)) (.fz (.disp (.cons (.call 25 (.cons (.v 0) (.cons (.v 1) .nil))) (.cons (.call 26 (.cons (.v 0) (.cons (.v 1) .nil))) (.cons (.callk 27 .nil (.cons (.v 1) (.cons (.v 0) .nil)) [1, 0]) (.cons (.call 28 (.cons (.v 0) (.cons (.v 1) .nil))) .nil)))))) [some (wb n as), some (.int t), some (.ref st.length), some (nL (pars as t ++ kids as t)), none, none, none, none] (st ++ [.lst (told n as t)]) = .ok (.lst (told n as t)) (st ++ [.lst (told n as t)]) :=
    e_fz (l_disp (s_cons (e_call (s_cons rfl (s_cons rfl s_nil)) (e25 (k := k) h.c25 n as w t ht _)) (s_cons (e_call (s_cons rfl (s_cons rfl s_nil)) (e26 (k := k) h.c26 n as w t ht _)) (s_cons (e_callk (ds := []) s_nil (s_cons rfl (s_cons rfl s_nil)) (e27 (k := k) h.c27 n as w t ht _)) (s_cons (e_call (s_cons rfl (s_cons rfl s_nil)) (e28 (k := k) h.c28 n as w t ht _)) s_nil)))) (by show 4 ≤ 16777216; decide))
  refine ss_asg f1 rfl (ss_ret ?_)
  have hT := told_txt w.toWOk t
  refine (e_cmp (e_repr (x := .lst (told n as t)) rfl hT (by decide) (by decide) (.inr ⟨_, rfl⟩)) (e_reprR (i := st.length) (ds := told n as t) rfl (get_last _ _) hT (by decide) (by decide)) (cmp_str _ _ _)).trans ?_
  rw [decide_eq_true rfl]
end
end PyD
namespace PyD
open PySem
structure Ob (n : Nat) (as : List (Nat × Nat)) (b : List Nat) : Prop where
  nod : b.Nodup
  lt : ∀ x ∈ b, x < n
  up : ∀ y x, (y, x) ∈ as → x ∈ b → b.idxOf y < b.idxOf x
theorem mem_free {n x : Nat} {as : List (Nat × Nat)} {b : List Nat} (h : x ∈ free n as b) : x < n ∧ x ∉ b ∧ ∀ y, (y, x) ∈ as → y ∈ b := by
  unfold free at h
  obtain ⟨h1, h2⟩ := List.mem_filter.mp h
  obtain ⟨h3, h4⟩ := List.mem_filter.mp h1
  refine ⟨List.mem_range.mp h3, ?_, fun y hy => ?_⟩
  · intro hb
    rw [decide_eq_true hb] at h4
    cases h4
  · exact of_decide_eq_true (List.all_eq_true.mp h2 y (pars_mem.mpr hy))
theorem ob_step {n : Nat} {as : List (Nat × Nat)} {b : List Nat} (h : Ob n as b) : Ob n as (b ++ (free n as b).take 1) := by
  cases e : free n as b with
  | nil => rw [List.take_nil, List.append_nil]; exact h
  | cons x r =>
    obtain ⟨h1, h2, h3⟩ := mem_free (n := n) (as := as) (b := b) (x := x) (by rw [e]; exact List.mem_cons_self)
    show Ob n as (b ++ [x])
    refine ⟨?_, ?_, ?_⟩
    · refine List.nodup_append.mpr ⟨h.nod, List.nodup_cons.mpr ⟨List.not_mem_nil, List.nodup_nil⟩, fun u hu v hv e9 => ?_⟩
      rw [List.mem_singleton] at hv
      exact h2 (hv ▸ e9 ▸ hu)
    · intro u hu
      rcases List.mem_append.mp hu with hu | hu
      · exact h.lt u hu
      · rw [List.mem_singleton.mp hu]; exact h1
    · intro y z hyz hz
      rw [List.idxOf_append, List.idxOf_append]
      by_cases hzb : z ∈ b
      · have h4 := h.up y z hyz hzb
        have h5 := List.idxOf_lt_length_of_mem hzb
        have hy : y ∈ b := List.idxOf_lt_length_iff.mp (Nat.lt_trans h4 h5)
        rw [if_pos hzb, if_pos hy]
        exact h4
      · have e2 : z = x := by
          rcases List.mem_append.mp hz with hz | hz
          · exact absurd hz hzb
          · exact List.mem_singleton.mp hz
        subst e2
        have hy := h3 y hyz
        rw [if_neg hzb, if_pos hy]
        exact Nat.lt_of_lt_of_le (List.idxOf_lt_length_of_mem hy) (Nat.le_add_left _ _)
theorem ob_fold {n : Nat} {as : List (Nat × Nat)} : ∀ (l : List Nat) {b : List Nat}, Ob n as b → Ob n as (l.foldl (fun b _ => b ++ (free n as b).take 1) b)
  | [], _, h => h
  | _ :: l, _, h => ob_fold l (ob_step h)
theorem order_ob (n : Nat) (as : List (Nat × Nat)) : Ob n as (order n as) := ob_fold _ ⟨List.nodup_nil, (fun x hx => nomatch hx), (fun y x _ hx => nomatch hx)⟩
theorem order_mem {n : Nat} {as : List (Nat × Nat)} (h : (order n as).length = n) {x : Nat} (hx : x < n) : x ∈ order n as := by
  refine Classical.byContradiction fun hn => ?_
  have h1 := order_ob n as
  have h2 := len_sub (l := x :: order n as) (b := List.range n) (List.nodup_cons.mpr ⟨hn, h1.nod⟩) fun y hy => by
    rcases List.mem_cons.mp hy with rfl | hy
    · exact List.mem_range.mpr hx
    · exact List.mem_range.mpr (h1.lt y hy)
  rw [List.length_cons, List.length_range, h] at h2
  omega
theorem findIx_nD (t : Nat) : ∀ {l : List Nat}, t ∈ l → findIx (fun z => D.eqv z (.int (t : Int))) (nD l) = some (l.idxOf t)
  | x :: l, h => by
    show (if D.eqv (.int (x : Int)) (.int (t : Int)) = true then some 0 else (findIx (fun z => D.eqv z (.int (t : Int))) (nD l)).map (· + 1)) = _
    rw [List.idxOf_cons]
    have e : D.eqv (.int (x : Int)) (.int (t : Int)) = decide (x = t) := by simp only [D.eqv]; exact deq x t
    rw [e]
    by_cases hx : x = t
    · subst hx; simp
    · rw [if_neg (by rw [decide_eq_false hx]; decide), findIx_nD t ((List.mem_cons.mp h).resolve_left fun e => hx e.symm)]
      have : (x == t) = false := by simpa using hx
      rw [this]
      rfl
theorem e_idx {cal : Cal} {env : Env} {st : Store} {a e : E} {l : List Nat} {t : Nat} (ha : evE cal a env st = .ok (nT l) st) (he : evE cal e env st = .ok (.int (t : Int)) st) (ht : t ∈ l) (hz : l.length ≤ 16777216) : evE cal (.idx a e) env st = .ok (.int (l.idxOf t : Nat)) st := by
  have hf : (nD l).all D.flat = true := by
    rw [List.all_eq_true]
    intro d hd
    obtain ⟨i, _, rfl⟩ := List.mem_map.mp hd
    rfl
  have hs : small (nD l).length = true := small_of (by unfold nD; rw [List.length_map]; exact hz)
  have hi : items (nT l) st = some (false, nD l) := rfl
  rw [evE, ha, R.bind_ok]
  simp only [hi]
  rw [he, R.bind_ok]
  simp only [hi, hf, hs, findIx_nD t ht]
  rfl
mutual
theorem eqv_refl : ∀ d : D, D.eqv d d = true
  | .non => rfl
  | .bl b => by cases b <;> rfl
  | .int i => by simp [D.eqv]
  | .str x => by simp [D.eqv]
  | .tup ds => by simp only [D.eqv]; exact eqvs_refl ds
  | .lst ds => by simp only [D.eqv]; exact eqvs_refl ds
  | .ref a => rfl
theorem eqvs_refl : ∀ ds : List D, D.eqvs ds ds = true
  | [] => rfl
  | d :: ds => by simp only [D.eqvs, eqv_refl d, eqvs_refl ds, Bool.and_self]
end
theorem cmp_neS {d : D} (st : Store) (p : d.pure = true) (h : d.py.depth < 40) : cmpD .ne d d st = .ok (.bl false) st := by
  rw [cmp_neP st p h p h, eqv_refl]; rfl
theorem cmp_eqS {d : D} (st : Store) (p : d.pure = true) (h : d.py.depth < 40) : cmpD .eq d d st = .ok (.bl true) st := by
  rw [cmp_eqP st p h p h, eqv_refl]
theorem Txt.neS {w dep : Nat} {d : D} (h : Txt w dep d) (hd : dep < 40) (st : Store) : cmpD .ne d d st = .ok (.bl false) st := cmp_neS st h.pu (Nat.lt_of_le_of_lt h.dp hd)
theorem meets_lt {n : Nat} {as : List (Nat × Nat)} (w : WOk n as) : ∀ r ∈ meets n as, ∃ a t b, r = [a, t, b] ∧ a < n ∧ t < n ∧ b < n := by
  intro r hr
  have h := (List.mergeSort_perm (trips n as) _).mem_iff.mp hr
  unfold trips trip at h
  simp only [List.mem_flatMap, List.mem_map] at h
  obtain ⟨t, ht, a, ha, b, hb, rfl⟩ := h
  exact ⟨a, t, b, rfl, pars_lt w ha, List.mem_range.mp ht, pars_lt w (List.mem_filter.mp hb).1⟩
theorem txt_rows {n : Nat} (hn : n ≤ 6) {l : List (List Nat)} (h : ∀ r ∈ l, ∃ a t b, r = [a, t, b] ∧ a < n ∧ t < n ∧ b < n) : Txt (25 * l.length) 3 (rT l) := by
  have := txt_tup (w := 24) (dep := 2) (ds := l.map nT) fun d hd => by
    obtain ⟨r, hr, rfl⟩ := List.mem_map.mp hd
    obtain ⟨a, t, b, rfl, h1, h2, h3⟩ := h r hr
    exact (txt_nT fun x hx => by
      simp only [List.mem_cons, List.not_mem_nil, or_false] at hx
      omega).le (by show 8 * 3 ≤ 24; decide) (Nat.le_refl _)
  rw [List.length_map] at this
  exact this
theorem mem_nbrs {as : List (Nat × Nat)} (h : ∀ p ∈ as, p.1 ≠ p.2) (a b : Nat) : b ∈ nbrs as a ↔ (a, b) ∈ as ++ as.map fun p => (p.2, p.1) := by
  rw [← nbrs_same as h, (nsort_perm _).mem_iff, List.mem_append, List.mem_append, pars_mem]
  have h1 : b ∈ kids as a ↔ (a, b) ∈ as := by
    unfold kids
    rw [List.mem_map]
    constructor
    · rintro ⟨p, hp, rfl⟩
      obtain ⟨h1, h2⟩ := List.mem_filter.mp hp
      have h3 : p.1 = a := of_decide_eq_true h2
      rw [← h3]; exact h1
    · exact fun h => ⟨(a, b), List.mem_filter.mpr ⟨h, decide_eq_true rfl⟩, rfl⟩
  have h2 : (a, b) ∈ (as.map fun p => (p.2, p.1)) ↔ (b, a) ∈ as := by
    rw [List.mem_map]
    constructor
    · rintro ⟨p, hp, e⟩
      obtain ⟨e1, e2⟩ := Prod.mk.inj e
      have : p = (b, a) := Prod.ext e2 e1
      rw [← this]; exact hp
    · exact fun h => ⟨(b, a), h, rfl⟩
  rw [h1, h2]
  exact Or.comm
theorem bares_same {n : Nat} {as : List (Nat × Nat)} (h : ∀ p ∈ as, p.1 ≠ p.2) : ((meets n as).filter fun r => !decide ((r.getD 0 0, r.getD 2 0) ∈ as ++ as.map fun p => (p.2, p.1))) = bares n as := by
  unfold bares
  refine List.filter_congr fun r _ => ?_
  rw [decide_eq_decide.mpr (mem_nbrs h (r.getD 0 0) (r.getD 2 0))]
theorem cut_drawn {N : Nat} {o : List Nat} {as : List (Nat × Nat)} (d : Drawn N o as) (t : Nat) : Drawn N o (cutTo as t) := by
  obtain ⟨A, hA, hp⟩ := d.sub
  exact ⟨d.two, d.five, d.perm, ⟨A.filter fun p => !decide (p.2 ∈ [t]), (List.filter_sublist).trans hA, hp.filter _⟩, List.Pairwise.filter _ d.asc⟩
theorem cut_pars (as : List (Nat × Nat)) (t : Nat) : pars (cutTo as t) t = [] := by
  unfold pars cutTo
  rw [List.filter_filter, List.map_eq_nil_iff, List.filter_eq_nil_iff]
  intro p _
  by_cases h : p.2 = t <;> simp [h]
end PyD
namespace PyD
open PySem
theorem filt_no {α : Type} (l : List α) : (l.filter fun _ => false) = [] := List.filter_eq_nil_iff.mpr fun _ _ => Bool.false_ne_true
theorem fin_bl (st s : Store) (b : Bool) : ∃ s', fin st (.ok (.bl b) s) = .ok (.bl b) s' := by
  simp only [fin]
  split
  · exact ⟨_, rfl⟩
  · exact ⟨_, rfl⟩
theorem get_bag {st j : Store} {a : Nat} {b : MO} (h : a < st.length) : (st.set a b ++ j)[a]? = some b := by
  rw [List.getElem?_append_left (by rw [List.length_set]; exact h)]
  exact List.getElem?_set_self h
theorem wb_depth (n : Nat) (as : List (Nat × Nat)) : (wb n as).py.depth < 40 := by
  have h : (D.tup (as.map ar)).py.depth ≤ 4 := by
    have h : ∀ l : List (Nat × Nat), PyData.depthAll (D.pys (l.map ar)) ≤ 3 := by
      intro l
      induction l with
      | nil => simp [D.pys, PyData.depthAll]
      | cons p l ih =>
        have h1 : (ar p).py.depth ≤ 3 := by
          rw [ar_iT, iT_py]
          have := depth_ints [(p.1 : Int), (p.2 : Int)]
          simp only [PyData.depth]
          omega
        rw [List.map_cons, D.pys, PyData.depthAll]
        omega
    have := h as
    simp only [D.py, PyData.depth]
    omega
  unfold wb
  simp only [D.py, D.pys, PyData.depth, PyData.depthAll] at h ⊢
  omega
theorem txt_low {n : Nat} (hn : n ≤ 6) {l : List Nat} (h : ∀ x ∈ l, x < n) : Txt (8 * l.length) 2 (nT l) := txt_nT fun x hx => by have := h x hx; omega
section
variable {Φ : Nat → Option FD} {k : Nat}
theorem e41 (h : H41 Φ) (a r w t : Nat) (st : Store) (hs : st[a]? = some (bagO r w t)) : ∃ s', callD Φ (k + 10) 41 [.ref a] st = .ok (.bl true) s' := by
  have ha : a < st.length := (List.getElem?_eq_some_iff.mp hs).1
  obtain ⟨n, o, as, r1, w1, t1, j, dr, c36⟩ := e36 (k := k + 7) h.c36 a r w t st hs
  have W := drawn_wv dr
  have hn := dr.five
  have hn2 := dr.two
  have hz := drawn_len dr
  have hnd := asc_nodup W.asc
  obtain ⟨g, r2, w2, t2, hg, c35⟩ := e35 (k := k + 8) h.c35 a n r1 w1 t1 (by omega) (by omega) (st.set a (bagO r1 w1 t1) ++ j) (get_bag ha)
  have c39 := e39 (k := k + 8) h.c39 n as hn (st.set a (bagO r1 w1 t1) ++ j)
  rw [meets_same W.toWOk hnd] at c39
  generalize hS : (st.set a (bagO r1 w1 t1) ++ j).set a (bagO r2 w2 t2) = S at c35
  have hml := meets_len W.toWOk
  have hmt := txt_rows (by omega : n ≤ 6) (meets_lt W.toWOk)
  have c29 := fun s => e29 (k := k + 2) h.c29 n as W s
  have c30 := fun s => e30 (k := k + 2) h.c30 n as W s
  have c40 := fun (t : Nat) (ht : t < n) s => e40 (k := k) h.c40 n as W hn hz t ht s
  have c33 := fun s => e33 (k := k + 2) h.c33 n as W g hg s
  have dc := cut_drawn dr g
  have Wc := drawn_wv dc
  have c25 := fun s => e25 (k := k + 1) h.c25 n (cutTo as g) Wc g hg s
  rw [cut_pars] at c25
  have c31 := fun s => e31 (k := k + 2) h.c31 n as W s
  have c38 := fun s => e38 (k := k + 8) h.c38 n as hn hz (fun b hb => free_ne dr b hb) s
  have c26 := fun s => e26 (k := k + 1) h.c26 n as W g hg s
  have c27 := fun s => e27 (k := k + 1) h.c27 n as W g hg s
  have key : runD (callD Φ (k + 9)) td41.fd [.ref a] st = .ok (.bl true) S := by
    rw [runD_eq (env := [some (.ref a), none, none, none, none, none, none, none, none, none, none]) rfl]
    refine ss_asg (e_call (s_cons rfl (s_cons rfl s_nil)) c36) rfl ?_
    refine ss_asg (env1 := [some (.ref a), some (wb n as), none, none, none, some (rT (meets n as)), some (.int (g : Int)), none, none, none, none]) (st2 := S) (e_tup (s_cons (e_call (s_cons rfl s_nil) c39) (s_cons (e_call (s_cons rfl (s_cons rfl s_nil)) c35) s_nil)) (by show 2 ≤ 16777216; decide)) rfl ?_
    refine ss_asg (d := .tup ((as ++ as.map fun p => (p.2, p.1)).map ar)) (st1 := S) (e_bin (x := .tup (as.map ar)) (y := .tup ((as.map fun p => (p.2, p.1)).map ar)) (st1 := S) (st2 := S) rfl ?_ ?_) rfl ?_
    · refine (e_tupOf (comp_map as ar (fun p => ar (p.2, p.1)) (i_tup rfl) rfl (by omega) fun p _ => ⟨_, rfl, e_tup (s_cons rfl (s_cons rfl s_nil)) (by show 2 ≤ 16777216; decide)⟩)).trans ?_
      rw [List.map_map]
      rfl
    · simp only [binD, addD]
      rw [small_of (by simp only [List.length_map]; omega), if_pos rfl, List.map_append]
    refine ss_if_f (st1 := S) ?_ ?_
    · have hT : Txt 388802 4 (.lst [rT (meets n as), rT (meets n as)]) := (txt_lst (w := 194400) (dep := 3) (ds := [rT (meets n as), rT (meets n as)]) fun d hd => by
        simp only [List.mem_cons, List.not_mem_nil, or_false, or_self] at hd
        subst hd
        exact hmt.le (by omega) (Nat.le_refl _)).le (by show 194401 * 2 ≤ _; decide) (Nat.le_refl _)
      refine (e_cmp (e_repr (e_fz (l_disp (s_cons (e_call (s_cons rfl s_nil) (c29 S)) (s_cons (e_callk (ds := []) s_nil (s_cons rfl s_nil) (c29 S)) s_nil)) (by show 2 ≤ 16777216; decide))) hT (by decide) (by decide) (.inr ⟨_, rfl⟩)) (e_repr (e_fz (l_disp (s_cons rfl (s_cons rfl s_nil)) (by show 2 ≤ 16777216; decide))) hT (by decide) (by decide) (.inr ⟨_, rfl⟩)) (cmp_strn _ _ _)).trans ?_
      rw [decide_eq_true rfl]
      rfl
    refine ss_if_f (st1 := S) ?_ ?_
    · have hb : Txt (25 * (bares n as).length) 3 (rT (bares n as)) := txt_rows (by omega : n ≤ 6) fun r hr => meets_lt W.toWOk r (List.mem_filter.mp hr).1
      refine e_cmp (y := rT (bares n as)) (st2 := S) (e_call (s_cons rfl s_nil) (c30 S)) ?_ (hb.neS (by decide) S)
      rw [← bares_same W.ne]
      refine e_tupOf (comp_filter (meets n as) nT (fun r => !decide ((r.getD 0 0, r.getD 2 0) ∈ as ++ as.map fun p => (p.2, p.1))) nT (i_tup rfl) rfl (by omega) fun r hr => ?_)
      obtain ⟨x, y, z, rfl⟩ := meets_form r hr
      exact ⟨_, rfl, e_cmp (x := ar (x, z)) (e_tup (s_cons (e_ix rfl rfl (ix_tup (t := 0) S rfl)) (s_cons (e_ix rfl rfl (ix_tup (t := 2) S rfl)) s_nil)) (by show 2 ≤ 16777216; decide)) rfl (notin_ars _ (x, z) S), fun _ => rfl⟩
    refine ss_if_f (st1 := S) ?_ ?_
    · refine e_cmp (x := .lst []) (y := .lst []) (st2 := S) (e_fz ((comp_filter (List.range n) (fun (i : Nat) => D.int (i : Int)) (fun _ => false) (fun (i : Nat) => D.int (i : Int)) (i_rng1 (j := (n : Int)) rfl (smallI_le (by omega) (by omega))) (all_rng0 n S) (by rw [List.length_range]; omega)
        fun t ht => ⟨_, rfl, e_not (bb := true) (e_call (s_cons rfl (s_cons rfl s_nil)) (c40 t (List.mem_range.mp ht) S)), fun _ => rfl⟩).trans ?_)) (e_fz (l_disp s_nil (by decide))) rfl
      rw [filt_no]
      rfl
    refine ss_asg (e_call (s_cons rfl (s_cons rfl s_nil)) (c33 S)) rfl ?_
    refine ss_if_f (e_bools (b_on (e_cmp (y := wb n (cutTo as g)) (st2 := S) rfl (e_tup (s_cons rfl (s_cons (e_tupOf (comp_filter as ar (fun p => !decide (p.2 ∈ [g])) ar (i_tup rfl) rfl (by omega) fun p _ => ⟨_, rfl, (e_cmp rfl rfl (cmp_ne _ _ _)).trans ?_, fun _ => e_tup (s_cons rfl (s_cons rfl s_nil)) (by show 2 ≤ 16777216; decide)⟩)) s_nil)) (by show 2 ≤ 16777216; decide)) (cmp_neS S (wb_pure _ _) (wb_depth _ _))) (b_last (e_cmp (y := nT []) (st2 := S) (e_call (s_cons rfl (s_cons rfl s_nil)) (c25 S)) (e_tup s_nil (by decide)) rfl)))) ?_
    · rw [deq]
      congr 3
      exact decide_eq_decide.mpr (by rw [List.mem_singleton])
    refine ss_asg (e_call (s_cons rfl s_nil) (c31 S)) rfl ?_
    have hob := order_ob n as
    have hot := txt_low (by omega : n ≤ 6) hob.lt
    refine ss_if_f (st1 := S) (e_bools (b_on (e_cmp rfl (e_call (s_cons rfl s_nil) (c38 S)) (hot.neS (by decide) S)) (b_on (e_cmp (st2 := S) rfl (e_call (s_cons rfl (s_cons rfl s_nil)) (c26 S)) ?_) (b_last (e_cmp (st2 := S) rfl (e_call (s_cons rfl (s_cons rfl s_nil)) (c27 S)) ?_))))) ?_
    · rw [notin_nT, decide_eq_true ((mem_abv W.toWOk hnd hg g).mpr .refl)]; rfl
    · have hb : g ∈ blw n as g := List.mem_filter.mpr ⟨List.mem_range.mpr hg, decide_eq_true ((mem_abv W.toWOk hnd hg g).mpr .refl)⟩
      rw [notin_nT, decide_eq_true hb]; rfl
    refine ss_ret (e_cmp (x := .lst []) (y := .lst []) (st2 := S) (e_fz ((comp_filter as ar (fun p => false) (fun p => .int (p.1 : Int)) (i_tup rfl) rfl (by omega) fun p hp => ⟨_, rfl, (e_cmp (e_idx (l := order n as) (t := p.1) rfl rfl (order_mem W.ord (W.lt p hp).1) (by rw [W.ord]; omega)) (e_idx (l := order n as) (t := p.2) rfl rfl (order_mem W.ord (W.lt p hp).2) (by rw [W.ord]; omega)) (cmp_gt _ _ _)).trans ?_, fun _ => rfl⟩).trans ?_)) (e_fz (l_disp s_nil (by decide))) rfl)
    · have h1 := hob.up p.1 p.2 hp (order_mem W.ord (W.lt p hp).2)
      rw [decide_eq_false (by omega)]
    · rw [filt_no]
      rfl
  rw [call_eq h.self rfl, key]
  exact fin_bl _ _ _
theorem e42 (h : H42 Φ) (ns : List Int) (st : Store) : ∃ s', callD Φ (k + 11) 42 [.lst (ns.map D.int)] st = .ok (.bl true) s' := by
  obtain ⟨env1, st1, h1, o, he⟩ := s_forI (cal := callD Φ (k + 10)) (t := .nm 1) (i := .rng1 (.c (.int 2))) (bd := (.cons (.ifs (.not (.call 41 (.cons (.call 34 (.cons (.v 0) (.cons (.v 1) .nil))) .nil))) (.cons (.ret (.c (.bl false))) .nil) .nil) .nil))
    (env := [some (.lst (ns.map D.int)), none]) (st := st) (st0 := st) (List.range 2) (fun (i : Nat) => D.int (i : Int))
    (fun (i : Nat) (_ : Unit) env s => ∃ o, env = [some (.lst (ns.map D.int)), o]) (fun _ _ => ()) (J := .rng 0 2) (i_rng1 (j := 2) rfl rfl) (b0 := ()) ⟨_, rfl⟩ (fun _ _ _ s _ => all_rng0 2 s)
    (by
      intro i t hi b env s ⟨o, he⟩
      subst he
      obtain ⟨hin, hia⟩ := List.getElem?_eq_some_iff.mp hi
      rw [List.length_range] at hin
      rw [List.getElem_range] at hia
      obtain ⟨r, w, c34⟩ := e34 (k := k + 9) h.c34 ns t (by omega) s
      obtain ⟨s', c41⟩ := e41 (k := k) h.c41 s.length r w t (s ++ [bagO r w t]) (get_last _ _)
      refine ⟨_, [some (.lst (ns.map D.int)), some (.int (t : Int))], s', rfl, ?_, _, rfl⟩
      exact bs_if_f (e_not (bb := true) (e_call (s_cons (e_call (s_cons rfl (s_cons rfl s_nil)) c34) s_nil) c41)) bs_nil)
  subst he
  rw [call_eq h.self rfl]
  have key : runD (callD Φ (k + 10)) td42.fd [.lst (ns.map D.int)] st = .ok (.bl true) st1 := by
    rw [runD_eq (env := [some (.lst (ns.map D.int)), none]) rfl]
    exact ss_s h1 (ss_ret rfl)
  rw [key]
  exact fin_bl _ _ _
end
end PyD
namespace PyD
inductive Star {α : Type} (R : α → α → Prop) : α → α → Prop
  | nil {a : α} : Star R a a
  | cons {a b c : α} : R a b → Star R b c → Star R a c
section
variable {α : Type} {R : α → α → Prop} {a b c : α}
theorem Star.trans (h : Star R a b) (g : Star R b c) : Star R a c := by
  induction h with
  | nil => exact g
  | cons r _ ih => exact .cons r (ih g)
theorem Star.snoc (h : Star R a b) (r : R b c) : Star R a c := h.trans (.cons r .nil)
theorem Star.ind {P : α → Prop} (h : Star R a b) (h0 : P a) (hs : ∀ b c, Star R a b → P b → R b c → P c) : P b := by
  have go : ∀ {m b : α}, Star R m b → Star R a m → P m → P b := by
    intro m b g
    induction g with
    | nil => exact fun _ p => p
    | cons r _ ih => exact fun h p => ih (h.snoc r) (hs _ _ h p r)
  exact go h .nil h0
theorem Star.mono {R' : α → α → Prop} (f : ∀ x y, R x y → R' x y) (h : Star R a b) : Star R' a b := by
  induction h with
  | nil => exact .nil
  | cons r _ ih => exact .cons (f _ _ r) ih
end
section
variable {as : List (Nat × Nat)} {Z : List Nat}
/-- a step: led tells whether an arrow leads to where one stands -/
inductive S1 (as : List (Nat × Nat)) (Z : List Nat) : Nat × Bool → Nat × Bool → Prop
  | dn {t c : Nat} {l : Bool} : t ∉ Z → (t, c) ∈ as → S1 as Z (t, l) (c, true)
  | u0 {t p : Nat} : t ∉ Z → (p, t) ∈ as → S1 as Z (t, false) (p, false)
  | u1 {t p : Nat} : t ∈ Z → (p, t) ∈ as → S1 as Z (t, true) (p, false)
abbrev Go (as : List (Nat × Nat)) (Z : List Nat) := Star (S1 as Z)
def Con (as : List (Nat × Nat)) (Z : List Nat) (x y : Nat) : Prop := ∃ l, Go as Z (x, false) (y, l)
/-- between two ends, either way -/
inductive Wk (as : List (Nat × Nat)) (Z : List Nat) : Nat → Bool → Nat → Bool → Prop
  | dn {x y : Nat} : (x, y) ∈ as → Wk as Z x false y true
  | up {x y : Nat} : (y, x) ∈ as → Wk as Z x true y false
  | tr {x y z : Nat} {f l g m : Bool} : Wk as Z x f y l → Wk as Z y g z m → ((l = true ∧ g = true ∧ y ∈ Z) ∨ ((l = false ∨ g = false) ∧ y ∉ Z)) → Wk as Z x f z m
theorem Wk.rev {x y : Nat} {f l : Bool} (h : Wk as Z x f y l) : Wk as Z y l x f := by
  induction h with
  | dn e => exact .up e
  | up e => exact .dn e
  | tr _ _ c ih1 ih2 => exact .tr ih2 ih1 (c.imp (fun ⟨a, b, h⟩ => ⟨b, a, h⟩) fun ⟨a, h⟩ => ⟨a.symm, h⟩)
theorem go_wk {a c : Nat × Bool} (h : Go as Z a c) : a = c ∨ ∃ f, Wk as Z a.1 f c.1 c.2 ∧ ((a.2 = true ∧ f = true ∧ a.1 ∈ Z) ∨ ((a.2 = false ∨ f = false) ∧ a.1 ∉ Z)) := by
  induction h with
  | nil => exact .inl rfl
  | cons r _ ih =>
    refine .inr ?_
    cases r with
    | dn h e =>
      refine ⟨false, ?_, .inr ⟨.inr rfl, h⟩⟩
      rcases ih with rfl | ⟨f, w, q⟩
      · exact .dn e
      · exact .tr (.dn e) w q
    | u0 h e =>
      refine ⟨true, ?_, .inr ⟨.inl rfl, h⟩⟩
      rcases ih with rfl | ⟨f, w, q⟩
      · exact .up e
      · exact .tr (.up e) w q
    | u1 h e =>
      refine ⟨true, ?_, .inl ⟨rfl, rfl, h⟩⟩
      rcases ih with rfl | ⟨f, w, q⟩
      · exact .up e
      · exact .tr (.up e) w q
theorem wk_go {x y : Nat} {f l : Bool} (h : Wk as Z x f y l) : ∀ led : Bool, ((led = true ∧ f = true ∧ x ∈ Z) ∨ ((led = false ∨ f = false) ∧ x ∉ Z)) → Go as Z (x, led) (y, l) := by
  induction h with
  | dn e =>
    intro led q
    rcases q with ⟨_, q, _⟩ | ⟨_, q⟩
    · cases q
    · exact .cons (.dn q e) .nil
  | up e =>
    intro led q
    rcases q with ⟨q1, _, q⟩ | ⟨q1, q⟩
    · subst q1; exact .cons (.u1 q e) .nil
    · rcases q1 with q1 | q1
      · subst q1; exact .cons (.u0 q e) .nil
      · cases q1
  | tr _ _ c ih1 ih2 => exact fun led q => (ih1 led q).trans (ih2 _ c)
theorem Con.symm {x y : Nat} (hy : y ∉ Z) (h : Con as Z x y) : Con as Z y x := by
  obtain ⟨l, h⟩ := h
  rcases go_wk h with e | ⟨f, w, _⟩
  · cases e; exact ⟨_, .nil⟩
  · exact ⟨f, wk_go w.rev false (.inr ⟨.inl rfl, hy⟩)⟩
/-- the steps of the program: a meeting is open, too, where one below it is given -/
inductive N1 (as : List (Nat × Nat)) (Z O : List Nat) : Nat × Bool → Nat × Bool → Prop
  | dn {t c : Nat} {l : Bool} : t ∉ Z → (t, c) ∈ as → N1 as Z O (t, l) (c, true)
  | u0 {t p : Nat} : t ∉ Z → (p, t) ∈ as → N1 as Z O (t, false) (p, false)
  | uo {t p : Nat} : t ∉ Z → t ∈ O → (p, t) ∈ as → N1 as Z O (t, true) (p, false)
  | u1 {t p : Nat} : t ∈ Z → (p, t) ∈ as → N1 as Z O (t, true) (p, false)
theorem there_back {g t : Nat} (hg : g ∈ Z) (h : Up as g t) : t ∉ Z → Go as Z (t, true) (t, false) := by
  induction h with
  | refl => exact fun h => absurd hg h
  | step _ e ih =>
    rename_i x y _
    intro hx
    refine .cons (.dn hx e) ?_
    by_cases hy : y ∈ Z
    · exact .cons (.u1 hy e) .nil
    · exact (ih hy).snoc (.u0 hy e)
theorem star_same {O : List Nat} (hO : ∀ x, x ∈ O ↔ ∃ g ∈ Z, Up as g x) {a b : Nat × Bool} : Star (N1 as Z O) a b ↔ Go as Z a b := by
  constructor
  · intro h
    induction h with
    | nil => exact .nil
    | cons r _ ih =>
      refine Star.trans ?_ ih
      cases r with
      | dn h e => exact .cons (.dn h e) .nil
      | u0 h e => exact .cons (.u0 h e) .nil
      | uo h o e =>
        obtain ⟨g, hg, hu⟩ := (hO _).mp o
        exact (there_back hg hu h).snoc (.u0 h e)
      | u1 h e => exact .cons (.u1 h e) .nil
  · exact Star.mono fun a b r => by
      cases r with
      | dn h e => exact .dn h e
      | u0 h e => exact .u0 h e
      | u1 h e => exact .u1 h e
/-- with more given one gets as far, or one gets to what is given more -/
theorem less_given {Y : List Nat} {x : Nat} {s : Nat × Bool} {Z2 : List Nat} (h2 : ∀ t, t ∈ Z2 ↔ t ∈ Z ∨ t ∈ Y) (h : Go as Z2 (x, false) s) : Go as Z (x, false) s ∨ ∃ y ∈ Y, Con as Z x y := by
  refine h.ind (P := fun s => Go as Z (x, false) s ∨ ∃ y ∈ Y, Con as Z x y) (.inl .nil) fun b c _ ih r => ?_
  rcases ih with ih | ih
  · cases r with
    | dn h e => exact .inl (ih.snoc (.dn (fun hz => h ((h2 _).mpr (.inl hz))) e))
    | u0 h e => exact .inl (ih.snoc (.u0 (fun hz => h ((h2 _).mpr (.inl hz))) e))
    | u1 h e =>
      rcases (h2 _).mp h with h | h
      · exact .inl (ih.snoc (.u1 h e))
      · exact .inr ⟨_, h, _, ih⟩
  · exact .inr ih
theorem more_given {Y : List Nat} {x : Nat} {s : Nat × Bool} {Z2 : List Nat} (h2 : ∀ t, t ∈ Z2 ↔ t ∈ Z ∨ t ∈ Y) (h : Go as Z (x, false) s) : Go as Z2 (x, false) s ∨ ∃ y ∈ Y, Con as Z x y := by
  refine h.ind (P := fun s => Go as Z2 (x, false) s ∨ ∃ y ∈ Y, Con as Z x y) (.inl .nil) fun b c hb ih r => ?_
  rcases ih with ih | ih
  · by_cases hy : b.1 ∈ Y
    · exact .inr ⟨_, hy, b.2, hb⟩
    · have hn : b.1 ∉ Z → b.1 ∉ Z2 := fun hz h => ((h2 _).mp h).elim hz hy
      cases r with
      | dn h e => exact .inl (ih.snoc (.dn (hn h) e))
      | u0 h e => exact .inl (ih.snoc (.u0 (hn h) e))
      | u1 h e => exact .inl (ih.snoc (.u1 ((h2 _).mpr (.inl h)) e))
  · exact .inr ih
theorem both_given {Y W : List Nat} {x : Nat} {s : Nat × Bool} {ZY ZW : List Nat} (hY : ∀ t, t ∈ ZY ↔ t ∈ Z ∨ t ∈ Y) (hW : ∀ t, t ∈ ZW ↔ t ∈ Z ∨ t ∈ W) (h : Go as Z (x, false) s) :
    (Go as ZY (x, false) s ∧ Go as ZW (x, false) s) ∨ (∃ y ∈ Y, Con as ZW x y) ∨ ∃ w ∈ W, Con as ZY x w := by
  refine h.ind (P := fun s => (Go as ZY (x, false) s ∧ Go as ZW (x, false) s) ∨ (∃ y ∈ Y, Con as ZW x y) ∨ ∃ w ∈ W, Con as ZY x w) (.inl ⟨.nil, .nil⟩) fun b c hb ih r => ?_
  rcases ih with ⟨i1, i2⟩ | ih
  · by_cases hy : b.1 ∈ Y
    · exact .inr (.inl ⟨_, hy, b.2, i2⟩)
    · by_cases hw : b.1 ∈ W
      · exact .inr (.inr ⟨_, hw, b.2, i1⟩)
      · have n1 : b.1 ∉ Z → b.1 ∉ ZY := fun hz h => ((hY _).mp h).elim hz hy
        have n2 : b.1 ∉ Z → b.1 ∉ ZW := fun hz h => ((hW _).mp h).elim hz hw
        cases r with
        | dn h e => exact .inl ⟨i1.snoc (.dn (n1 h) e), i2.snoc (.dn (n2 h) e)⟩
        | u0 h e => exact .inl ⟨i1.snoc (.u0 (n1 h) e), i2.snoc (.u0 (n2 h) e)⟩
        | u1 h e => exact .inl ⟨i1.snoc (.u1 ((hY _).mpr (.inl h)) e), i2.snoc (.u1 ((hW _).mpr (.inl h)) e)⟩
  · exact .inr ih
theorem Con.sub {as2 : List (Nat × Nat)} {x y : Nat} (hs : ∀ p ∈ as, p ∈ as2) (h : Con as Z x y) : Con as2 Z x y := by
  obtain ⟨l, h⟩ := h
  exact ⟨l, h.mono fun a b r => by
    cases r with
    | dn h e => exact .dn h (hs _ e)
    | u0 h e => exact .u0 h (hs _ e)
    | u1 h e => exact .u1 h (hs _ e)⟩
theorem Up.trans {a b c : Nat} (h1 : Up as a b) (h2 : Up as b c) : Up as a c := by
  induction h2 with
  | refl => exact h1
  | step _ e ih => exact .step ih e
theorem Up.pos {pos : Nat → Nat} (hp : ∀ x y, (x, y) ∈ as → pos x < pos y) {a b : Nat} (h : Up as a b) : pos b ≤ pos a := by
  induction h with
  | refl => exact Nat.le_refl _
  | step _ e ih => exact Nat.le_trans (Nat.le_of_lt (hp _ _ e)) ih
/-- a thing, its parents given: one gets to it, to these, to what is below it -/
theorem own_parents {pos : Nat → Nat} (hp : ∀ x y, (x, y) ∈ as → pos x < pos y) {t : Nat} (hZ : ∀ x, x ∈ Z ↔ (x, t) ∈ as) {s : Nat × Bool} (h : Go as Z (t, false) s) : s.1 ∈ Z ∨ Up as s.1 t := by
  have hzt : ∀ x, x ∈ Z → pos x < pos t := fun x hx => hp _ _ ((hZ x).mp hx)
  have := h.ind (P := fun s => (s.1 = t ∧ s.2 = false) ∨ (s.1 ∈ Z ∧ s.2 = false) ∨ (s.2 = true ∧ Up as s.1 t ∧ pos t < pos s.1)) (.inl ⟨rfl, rfl⟩) fun b c _ ih r => by
    rcases ih with ⟨h1, h2⟩ | ⟨h1, h2⟩ | ⟨h2, h3, h4⟩
    · cases r with
      | dn h e => subst h1; exact .inr (.inr ⟨rfl, .step .refl e, hp _ _ e⟩)
      | u0 h e => subst h1; exact .inr (.inl ⟨(hZ _).mpr e, rfl⟩)
      | u1 h e => cases h2
    · cases r with
      | dn h e => exact absurd h1 h
      | u0 h e => exact absurd h1 h
      | u1 h e => cases h2
    · cases r with
      | dn h e => exact .inr (.inr ⟨rfl, Up.trans (.step .refl e) h3, Nat.lt_trans h4 (hp _ _ e)⟩)
      | u0 h e => cases h2
      | u1 h e =>
        have := hzt _ h
        exact absurd h4 (Nat.lt_asymm this)
  rcases this with ⟨h1, _⟩ | ⟨h1, _⟩ | ⟨_, h3, _⟩
  · rw [h1]; exact .inr .refl
  · exact .inl h1
  · exact .inr h3
end
end PyD
namespace PyD
section
variable {as : List (Nat × Nat)} {Z : List Nat} {E S : Nat → Prop}
theorem co_every (hE : ∀ x y, (x, y) ∈ as → E y → E x) (hZ : ∀ z ∈ Z, E z) {a c : Nat × Bool} (h : Go as Z a c) (hc : E c.1) : a.2 = true → E a.1 := by
  induction h with
  | nil => exact fun _ => hc
  | cons r _ ih =>
    intro ha
    cases r with
    | dn h e => exact hE _ _ e (ih hc rfl)
    | u0 h e => cases ha
    | u1 h e => exact hZ _ h
theorem end_free {p y : Nat} {l : Bool} (h : Go as Z (p, false) (y, l)) (hy : y ∉ Z) : p ∉ Z := by
  cases h with
  | nil => exact hy
  | cons r _ =>
    cases r with
    | dn h e => exact h
    | u0 h e => exact h
theorem cut_apart (hE : ∀ x y, (x, y) ∈ as → E y → E x) (hZ : ∀ z ∈ Z, E z) {y : Nat} (hy : y ∉ Z) (hyS : ¬ S y) (hyE : E y)
    (pair : ∀ a b, (a, b) ∈ as → E a → E b → (S a ↔ S b) ∨ a ∈ Z ∨ b ∈ Z) (meet : ∀ a b m, (a, m) ∈ as → (b, m) ∈ as → a ≠ b → E m → (S a ↔ S b) ∨ a ∈ Z ∨ b ∈ Z)
    {x : Nat} (hx : S x) (hxE : E x) : ¬ Con as Z x y := by
  rintro ⟨l, h⟩
  have go : ∀ {a c : Nat × Bool}, Go as Z a c → c.1 = y → ((a.2 = false ∧ S a.1 ∧ E a.1) ∨ (a.2 = true ∧ ∃ p, (p, a.1) ∈ as ∧ S p ∧ p ∉ Z)) → False := by
    intro a c h
    induction h with
    | nil =>
      rintro rfl (⟨_, h, _⟩ | ⟨_, p, h1, h2, h3⟩)
      · exact hyS h
      · rcases pair p _ h1 (hE _ _ h1 hyE) hyE with q | q | q
        · exact hyS (q.mp h2)
        · exact h3 q
        · exact hy q
    | cons r rest ih =>
      intro hc hP
      have hcE : E _ := hc ▸ hyE
      have hcZ : _ ∉ Z := hc ▸ hy
      rcases hP with ⟨q1, q2, q3⟩ | ⟨q1, p0, q2, q3, q4⟩
      · cases r with
        | dn h e => exact ih hc (.inr ⟨rfl, _, e, q2, h⟩)
        | u0 h e =>
          refine ih hc (.inl ⟨rfl, ?_, hE _ _ e q3⟩)
          rcases pair _ _ e (hE _ _ e q3) q3 with q | q | q
          · exact q.mpr q2
          · exact absurd q (end_free rest hcZ)
          · exact absurd q h
        | u1 h e => cases q1
      · have hEt := co_every hE hZ (.cons r rest) hcE q1
        cases r with
        | dn h e =>
          refine ih hc (.inr ⟨rfl, _, e, ?_, h⟩)
          rcases pair _ _ q2 (hE _ _ q2 hEt) hEt with q | q | q
          · exact q.mp q3
          · exact absurd q q4
          · exact absurd q h
        | u0 h e => cases q1
        | u1 h e =>
          rename_i t b
          refine ih hc (.inl ⟨rfl, ?_, hE _ _ e hEt⟩)
          by_cases hb : p0 = b
          · rw [← hb]; exact q3
          · rcases meet _ _ _ q2 e hb hEt with q | q | q
            · exact q.mp q3
            · exact absurd q q4
            · exact absurd q (end_free rest hcZ)
  exact go h rfl (.inl ⟨rfl, hx, hxE⟩)
def An (as : List (Nat × Nat)) (Z : List Nat) (v : Nat) : Prop := ∃ g ∈ Z, Up as g v
def Adj (as : List (Nat × Nat)) (u v : Nat) : Prop := (u, v) ∈ as ∨ (v, u) ∈ as
def tri3 (as : List (Nat × Nat)) (Z : List Nat) (u v w : Nat) : Prop := ((u, v) ∈ as ∧ (w, v) ∈ as → An as Z v) ∧ (¬ ((u, v) ∈ as ∧ (w, v) ∈ as) → v ∉ Z)
def tri2 (as : List (Nat × Nat)) (Z : List Nat) (l : Bool) (v w : Nat) : Prop := (l = true ∧ (w, v) ∈ as → An as Z v) ∧ (¬ (l = true ∧ (w, v) ∈ as) → v ∉ Z)
def Og (as : List (Nat × Nat)) (Z : List Nat) : Nat → List Nat → Prop
  | _, [] => True
  | u, v :: r => Adj as u v ∧ (∀ w, r.head? = some w → tri3 as Z u v w) ∧ Og as Z v r
theorem An.up {x y : Nat} (h : An as Z y) (e : (x, y) ∈ as) : An as Z x := by
  obtain ⟨g, hg, hu⟩ := h
  exact ⟨g, hg, .step hu e⟩
theorem og_suffix {v : Nat} {T : List Nat} : ∀ (P : List Nat) {u : Nat}, Og as Z u (P ++ v :: T) → Og as Z v T
  | [], _, h => h.2.2
  | _ :: P, _, h => og_suffix P h.2.2
theorem og_prefix {T : List Nat} : ∀ (P : List Nat) {u : Nat}, Og as Z u (P ++ T) → Og as Z u P
  | [], _, _ => trivial
  | p :: P, _, h => ⟨h.1, fun w hw => h.2.1 w (by
      cases P with
      | nil => cases hw
      | cons q P => exact hw), og_prefix P h.2.2⟩
theorem og_junc {v w : Nat} {T : List Nat} : ∀ (P : List Nat) {u : Nat}, Og as Z u (P ++ v :: w :: T) → tri3 as Z (P.getLastD u) v w
  | [], _, h => h.2.1 w rfl
  | p :: P, _, h => by
    have := og_junc P h.2.2
    rwa [List.getLastD_cons]
theorem og_down {pos : Nat → Nat} (hp : ∀ x y, (x, y) ∈ as → pos x < pos y) : ∀ (r : List Nat) {p q : Nat}, (p, q) ∈ as → Og as Z p (q :: r) → An as Z p ∨ pos p < pos (r.getLastD q)
  | [], p, q, e, _ => .inr (hp _ _ e)
  | s :: r, p, q, e, h => by
    have h1 := h.2.1 s rfl
    rw [List.getLastD_cons]
    by_cases hs : (s, q) ∈ as
    · exact .inl ((h1.1 ⟨e, hs⟩).up e)
    · have e2 : (q, s) ∈ as := h.2.2.1.resolve_right hs
      rcases og_down hp r e2 h.2.2 with h3 | h3
      · exact .inl (h3.up e)
      · exact .inr (Nat.lt_trans (hp _ _ e) h3)
theorem og_cut {pos : Nat → Nat} (hp : ∀ x y, (x, y) ∈ as → pos x < pos y) {v : Nat} {B C : List Nat} : ∀ (P : List Nat) {u : Nat}, Og as Z u (P ++ v :: (B ++ v :: C)) → Og as Z u (P ++ v :: C)
  | p :: P, u, h => ⟨h.1, fun w hw => h.2.1 w (by cases P <;> exact hw), og_cut hp P h.2.2⟩
  | [], u, h => by
    obtain ⟨h1, h2, h3⟩ := h
    refine ⟨h1, fun w hw => ?_, og_suffix B h3⟩
    cases B with
    | nil =>
      rcases h3.1 with e | e <;> exact absurd (hp _ _ e) (Nat.lt_irrefl _)
    | cons b B =>
      have k1 := h2 b rfl
      cases C with
      | nil => cases hw
      | cons c C =>
        cases hw
        have k2 : tri3 as Z ((b :: B).getLastD v) v w := og_junc (b :: B) h3
        refine ⟨fun ⟨q1, q2⟩ => ?_, fun q => ?_⟩
        · by_cases hb : (b, v) ∈ as
          · exact k1.1 ⟨q1, hb⟩
          · have e2 : (v, b) ∈ as := h3.1.resolve_right hb
            have h4 : Og as Z v ((b :: B ++ [v]) ++ w :: C) := by rw [List.append_assoc]; exact h3
            rcases og_down hp (B ++ [v]) e2 (og_prefix (b :: B ++ [v]) h4) with h5 | h5
            · exact h5
            · rw [List.getLastD_concat] at h5
              exact absurd h5 (Nat.lt_irrefl _)
        · by_cases hu : (u, v) ∈ as
          · exact k2.2 fun z => q ⟨hu, z.2⟩
          · exact k1.2 fun z => hu z.1
theorem dup_split : ∀ {l : List Nat}, ¬ l.Nodup → ∃ P v B C, l = P ++ v :: (B ++ v :: C)
  | [], h => absurd List.nodup_nil h
  | x :: l, h => by
    by_cases hx : x ∈ l
    · obtain ⟨B, C, rfl⟩ := List.append_of_mem hx
      exact ⟨[], x, B, C, rfl⟩
    · obtain ⟨P, v, B, C, rfl⟩ := dup_split (l := l) fun hn => h (List.nodup_cons.mpr ⟨hx, hn⟩)
      exact ⟨x :: P, v, B, C, rfl⟩
theorem lastD_app (v x : Nat) (C : List Nat) : ∀ P : List Nat, (P ++ v :: C).getLastD x = C.getLastD v
  | [] => by rw [List.nil_append, List.getLastD_cons]
  | p :: P => by rw [List.cons_append, List.getLastD_cons]; exact lastD_app v p C P
theorem og_simple {pos : Nat → Nat} (hp : ∀ x y, (x, y) ∈ as → pos x < pos y) : ∀ (k : Nat) (x : Nat) (l : List Nat), l.length ≤ k → Og as Z x l → ∃ l', Og as Z x l' ∧ (x :: l').Nodup ∧ l'.getLastD x = l.getLastD x
  | 0, x, l, hl, h => by
    have : l = [] := List.eq_nil_of_length_eq_zero (by omega)
    subst this
    exact ⟨[], h, by simp, rfl⟩
  | k + 1, x, l, hl, h => by
    by_cases hn : (x :: l).Nodup
    · exact ⟨l, h, hn, rfl⟩
    · by_cases hx : x ∈ l
      · obtain ⟨B, C, rfl⟩ := List.append_of_mem hx
        rw [List.length_append, List.length_cons] at hl
        obtain ⟨l', h1, h2, h3⟩ := og_simple hp k x C (by omega) (og_suffix B h)
        exact ⟨l', h1, h2, by rw [h3, lastD_app]⟩
      · obtain ⟨P, v, B, C, rfl⟩ := dup_split (l := l) fun h => hn (List.nodup_cons.mpr ⟨hx, h⟩)
        simp only [List.length_append, List.length_cons] at hl
        obtain ⟨l', h1, h2, h3⟩ := og_simple hp k x (P ++ v :: C) (by simp only [List.length_append, List.length_cons]; omega) (og_cut hp P h)
        refine ⟨l', h1, h2, ?_⟩
        rw [h3, lastD_app, lastD_app, lastD_app]
theorem go_og {pos : Nat → Nat} (hp : ∀ x y, (x, y) ∈ as → pos x < pos y) {a c : Nat × Bool} (h : Go as Z a c) : ∃ l : List Nat, l.getLastD a.1 = c.1 ∧ Og as Z a.1 l ∧ ∀ w, l.head? = some w → tri2 as Z a.2 a.1 w := by
  have no2 : ∀ x y, (x, y) ∈ as → (y, x) ∉ as := fun x y h1 h2 => absurd (hp _ _ h1) (Nat.lt_asymm (hp _ _ h2))
  induction h with
  | nil => exact ⟨[], rfl, trivial, fun w hw => nomatch hw⟩
  | cons r rest ih =>
    obtain ⟨l, h1, h2, h3⟩ := ih
    cases r with
    | dn h e =>
      rename_i t c' led
      refine ⟨c' :: l, by rw [List.getLastD_cons]; exact h1, ⟨.inl e, fun w hw => ?_, h2⟩, fun w hw => ?_⟩
      · have := h3 w hw
        exact ⟨fun z => this.1 ⟨rfl, z.2⟩, fun z => this.2 fun q => z ⟨e, q.2⟩⟩
      · cases hw
        exact ⟨fun z => absurd z.2 (no2 _ _ e), fun _ => h⟩
    | u0 h e =>
      rename_i t p
      refine ⟨p :: l, by rw [List.getLastD_cons]; exact h1, ⟨.inr e, fun w hw => ?_, h2⟩, fun w hw => ?_⟩
      · have := h3 w hw
        exact ⟨fun z => absurd z.1 (no2 _ _ e), fun _ => this.2 fun q => absurd q.1 Bool.false_ne_true⟩
      · cases hw
        exact ⟨fun z => absurd z.1 Bool.false_ne_true, fun _ => h⟩
    | u1 h e =>
      rename_i t p
      refine ⟨p :: l, by rw [List.getLastD_cons]; exact h1, ⟨.inr e, fun w hw => ?_, h2⟩, fun w hw => ?_⟩
      · have := h3 w hw
        exact ⟨fun z => absurd z.1 (no2 _ _ e), fun _ => this.2 fun q => absurd q.1 Bool.false_ne_true⟩
      · cases hw
        exact ⟨fun _ => ⟨_, h, .refl⟩, fun z => absurd ⟨rfl, e⟩ z⟩
theorem og_n1 {O : List Nat} (hO : ∀ x, x ∈ O ↔ An as Z x) (no2 : ∀ x y, (x, y) ∈ as → (y, x) ∉ as) : ∀ (l : List Nat) (v : Nat) (led : Bool), Og as Z v l → (∀ w, l.head? = some w → tri2 as Z led v w) → ∃ b, Star (N1 as Z O) (v, led) (l.getLastD v, b)
  | [], v, led, _, _ => ⟨led, .nil⟩
  | w :: l, v, led, h, hh => by
    have k := hh w rfl
    rw [List.getLastD_cons]
    by_cases e : (v, w) ∈ as
    · have hvZ : v ∉ Z := k.2 fun z => no2 _ _ e z.2
      obtain ⟨b, g⟩ := og_n1 hO no2 l w true h.2.2 fun u hu => by
        have := h.2.1 u hu
        exact ⟨fun z => this.1 ⟨e, z.2⟩, fun z => this.2 fun q => z ⟨rfl, q.2⟩⟩
      exact ⟨b, .cons (.dn hvZ e) g⟩
    · have e2 : (w, v) ∈ as := h.1.resolve_left e
      obtain ⟨b, g⟩ := og_n1 hO no2 l w false h.2.2 fun u hu => by
        have := h.2.1 u hu
        exact ⟨fun z => absurd z.1 Bool.false_ne_true, fun _ => this.2 fun q => e q.1⟩
      refine ⟨b, .cons ?_ g⟩
      cases led with
      | false => exact .u0 (k.2 fun z => nomatch z.1) e2
      | true =>
        by_cases hvZ : v ∈ Z
        · exact .u1 hvZ e2
        · exact .uo hvZ ((hO v).mpr (k.1 ⟨rfl, e2⟩)) e2
end
end PyD
namespace PyD
def Chn (as : List (Nat × Nat)) : Nat → List Nat → Prop
  | _, [] => True
  | u, v :: r => Adj as u v ∧ Chn as v r
section
variable {as : List (Nat × Nat)} {Z : List Nat}
theorem chn_snoc {v : Nat} : ∀ {l : List Nat} {x : Nat}, Chn as x (l ++ [v]) ↔ Chn as x l ∧ Adj as (l.getLastD x) v
  | [], x => by simp [Chn]
  | y :: l, x => by
    rw [List.cons_append, Chn, Chn, chn_snoc (l := l) (x := y), List.getLastD_cons]
    exact ⟨fun ⟨a, b, c⟩ => ⟨⟨a, b⟩, c⟩, fun ⟨⟨a, b⟩, c⟩ => ⟨a, b, c⟩⟩
theorem og_chn : ∀ {l : List Nat} {x : Nat}, Og as Z x l → Chn as x l
  | [], _, _ => trivial
  | _ :: _, _, h => ⟨h.1, og_chn h.2.2⟩
theorem og_iff : ∀ {l : List Nat} {x : Nat}, Og as Z x l ↔ Chn as x l ∧ ∀ i, i + 2 ≤ l.length → tri3 as Z ((x :: l).getD i 0) ((x :: l).getD (i + 1) 0) ((x :: l).getD (i + 2) 0)
  | [], x => by simp [Og, Chn]
  | [v], x => by
    simp only [Og, Chn, List.head?_nil]
    constructor
    · exact fun h => ⟨⟨h.1, trivial⟩, fun i hi => by simp at hi⟩
    · exact fun h => ⟨h.1.1, (fun w hw => nomatch hw), trivial⟩
  | v :: w :: r, x => by
    have ih := og_iff (l := w :: r) (x := v)
    constructor
    · intro h
      have h2 := ih.mp h.2.2
      refine ⟨⟨h.1, h2.1⟩, fun i hi => ?_⟩
      cases i with
      | zero => exact h.2.1 w rfl
      | succ i => exact h2.2 i (by simpa using hi)
    · intro h
      refine ⟨h.1.1, fun u hu => ?_, ih.mpr ⟨h.1.2, fun i hi => h.2 (i + 1) (by simpa using hi)⟩⟩
      cases hu
      exact h.2 0 (by simp)
def prow (as : List (Nat × Nat)) : List (Nat × Nat) := as ++ as.map fun p => (p.2, p.1)
theorem mem_prow {a b : Nat} : (a, b) ∈ prow as ↔ Adj as a b := by
  unfold prow Adj
  rw [List.mem_append, List.mem_map]
  refine or_congr Iff.rfl ⟨?_, fun h => ⟨(b, a), h, rfl⟩⟩
  rintro ⟨p, hp, e⟩
  obtain ⟨e1, e2⟩ := Prod.mk.inj e
  have : p = (b, a) := Prod.ext e2 e1
  rw [← this]; exact hp
def exts (as : List (Nat × Nat)) (row : List Nat) : List (List Nat) := ((prow as).filter fun p => decide (p.1 = row.getLastD 0) && !decide (p.2 ∈ row)).map fun p => row ++ [p.2]
def rowsK (n : Nat) (as : List (Nat × Nat)) : Nat → List (List Nat)
  | 0 => (List.range n).map fun t => [t]
  | k + 1 => (rowsK n as k).flatMap (exts as)
def trails (n : Nat) (as : List (Nat × Nat)) : List (List Nat) := (List.range (n - 1)).flatMap fun k => rowsK n as (k + 1)
theorem lastD_any {l : List Nat} {x : Nat} (d : Nat) : (x :: l).getLastD d = l.getLastD x := by rw [List.getLastD_cons]
theorem mem_rowsK {n : Nat} : ∀ {k : Nat} {r : List Nat}, r ∈ rowsK n as k ↔ ∃ x l, r = x :: l ∧ l.length = k ∧ x < n ∧ Chn as x l ∧ (x :: l).Nodup
  | 0, r => by
    unfold rowsK
    rw [List.mem_map]
    constructor
    · rintro ⟨t, ht, rfl⟩
      exact ⟨t, [], rfl, rfl, List.mem_range.mp ht, trivial, by simp⟩
    · rintro ⟨x, l, rfl, hl, hx, _, _⟩
      have : l = [] := List.eq_nil_of_length_eq_zero hl
      subst this
      exact ⟨x, List.mem_range.mpr hx, rfl⟩
  | k + 1, r => by
    unfold rowsK
    rw [List.mem_flatMap]
    constructor
    · rintro ⟨r0, h0, h1⟩
      obtain ⟨x, l, rfl, hl, hx, hc, hn⟩ := mem_rowsK.mp h0
      obtain ⟨p, hp, rfl⟩ := List.mem_map.mp h1
      obtain ⟨h2, h3⟩ := List.mem_filter.mp hp
      rw [Bool.and_eq_true] at h3
      have h4 : p.1 = l.getLastD x := by rw [← lastD_any 0]; exact of_decide_eq_true h3.1
      have h5 : p.2 ∉ x :: l := by
        intro h
        rw [decide_eq_true h] at h3
        cases h3.2
      refine ⟨x, l ++ [p.2], by rw [List.cons_append], by rw [List.length_append, hl]; rfl, hx, chn_snoc.mpr ⟨hc, ?_⟩, ?_⟩
      · rw [← h4]; exact mem_prow.mp h2
      · rw [← List.cons_append]
        exact List.nodup_append.mpr ⟨hn, List.nodup_cons.mpr ⟨List.not_mem_nil, List.nodup_nil⟩, fun a ha b hb e => by
          rw [List.mem_singleton] at hb
          exact h5 (hb ▸ e ▸ ha)⟩
    · rintro ⟨x, l, rfl, hl, hx, hc, hn⟩
      have hne : l ≠ [] := fun e => by rw [e] at hl; cases hl
      obtain ⟨l0, v, rfl⟩ : ∃ l0 v, l = l0 ++ [v] := ⟨l.dropLast, l.getLast hne, (List.dropLast_concat_getLast hne).symm⟩
      rw [List.length_append] at hl
      obtain ⟨hc1, hc2⟩ := chn_snoc.mp hc
      rw [← List.cons_append] at hn
      obtain ⟨hn1, _, hn2⟩ := List.nodup_append.mp hn
      refine ⟨x :: l0, mem_rowsK.mpr ⟨x, l0, rfl, by simpa using hl, hx, hc1, hn1⟩, List.mem_map.mpr ⟨(l0.getLastD x, v), List.mem_filter.mpr ⟨mem_prow.mpr hc2, ?_⟩, by rw [List.cons_append]⟩⟩
      rw [Bool.and_eq_true]
      refine ⟨decide_eq_true (by rw [lastD_any]), ?_⟩
      have : v ∉ x :: l0 := fun h => hn2 v h v (List.mem_singleton.mpr rfl) rfl
      show (!decide (v ∈ x :: l0)) = true
      rw [decide_eq_false this]; rfl
theorem chn_lt {n : Nat} (hlt : ∀ p ∈ as, p.1 < n ∧ p.2 < n) : ∀ {l : List Nat} {x : Nat}, Chn as x l → ∀ y ∈ l, y < n
  | v :: l, x, h, y, hy => by
    rcases List.mem_cons.mp hy with rfl | hy
    · rcases h.1 with e | e
      · exact (hlt _ e).2
      · exact (hlt _ e).1
    · exact chn_lt hlt h.2 y hy
theorem mem_trails {n : Nat} (hlt : ∀ p ∈ as, p.1 < n ∧ p.2 < n) {r : List Nat} : r ∈ trails n as ↔ ∃ x l, r = x :: l ∧ l ≠ [] ∧ x < n ∧ Chn as x l ∧ (x :: l).Nodup := by
  unfold trails
  rw [List.mem_flatMap]
  constructor
  · rintro ⟨k, _, h⟩
    obtain ⟨x, l, h1, h2, h3⟩ := mem_rowsK.mp h
    exact ⟨x, l, h1, (fun e => by rw [e] at h2; cases h2), h3⟩
  · rintro ⟨x, l, rfl, hl, hx, hc, hn⟩
    have h1 := len_sub (l := x :: l) (b := List.range n) hn fun y hy => by
      rcases List.mem_cons.mp hy with rfl | hy
      · exact List.mem_range.mpr hx
      · exact List.mem_range.mpr (chn_lt hlt hc y hy)
    rw [List.length_cons, List.length_range] at h1
    have h2 := List.length_pos_iff.mpr hl
    exact ⟨l.length - 1, List.mem_range.mpr (by omega), mem_rowsK.mpr ⟨x, l, rfl, by omega, hx, hc, hn⟩⟩
/-- the law's test at the inner things -/
def okAt (n : Nat) (as : List (Nat × Nat)) (Z tr : List Nat) (i : Nat) : Bool :=
  if decide ((tr.getD i 0, tr.getD (i + 1) 0) ∈ as) && decide ((tr.getD (i + 2) 0, tr.getD (i + 1) 0) ∈ as) then Z.any fun g => decide (tr.getD (i + 1) 0 ∈ upS n as g) else !decide (tr.getD (i + 1) 0 ∈ Z)
def openB (n : Nat) (as : List (Nat × Nat)) (Z tr : List Nat) : Bool := !decide (tr.getD 0 0 ∈ Z) && (!decide (tr.getLastD 0 ∈ Z) && (List.range (tr.length - 2)).all (okAt n as Z tr))
theorem okAt_iff {n : Nat} (w : WOk n as) (hZ : ∀ z ∈ Z, z < n) (tr : List Nat) (i : Nat) : okAt n as Z tr i = true ↔ tri3 as Z (tr.getD i 0) (tr.getD (i + 1) 0) (tr.getD (i + 2) 0) := by
  unfold okAt tri3
  by_cases h : (tr.getD i 0, tr.getD (i + 1) 0) ∈ as ∧ (tr.getD (i + 2) 0, tr.getD (i + 1) 0) ∈ as
  · rw [if_pos (by rw [decide_eq_true h.1, decide_eq_true h.2]; rfl), List.any_eq_true]
    constructor
    · rintro ⟨g, hg, h1⟩
      exact ⟨fun _ => ⟨g, hg, (mem_upF w (hZ g hg) _).mp (mem_upS.mp (of_decide_eq_true h1))⟩, fun q => absurd h q⟩
    · rintro ⟨h1, _⟩
      obtain ⟨g, hg, hu⟩ := h1 h
      exact ⟨g, hg, decide_eq_true (mem_upS.mpr ((mem_upF w (hZ g hg) _).mpr hu))⟩
  · rw [if_neg (by
      intro q
      rw [Bool.and_eq_true] at q
      exact h ⟨of_decide_eq_true q.1, of_decide_eq_true q.2⟩), Bool.not_eq_true', decide_eq_false_iff_not]
    exact ⟨fun q => ⟨fun z => absurd z h, fun _ => q⟩, fun q => q.2 h⟩
theorem open_iff {n : Nat} (w : WOk n as) (hZ : ∀ z ∈ Z, z < n) {x : Nat} {l : List Nat} (hc : Chn as x l) : openB n as Z (x :: l) = true ↔ x ∉ Z ∧ l.getLastD x ∉ Z ∧ Og as Z x l := by
  unfold openB
  rw [Bool.and_eq_true, Bool.and_eq_true, lastD_any, List.all_eq_true, og_iff]
  simp only [List.getD_cons_zero, Bool.not_eq_true', decide_eq_false_iff_not]
  refine and_congr Iff.rfl (and_congr Iff.rfl ⟨fun h => ⟨hc, fun i hi => (okAt_iff w hZ _ _).mp (h i (List.mem_range.mpr ?_))⟩, fun h i hi => (okAt_iff w hZ _ _).mpr (h.2 i ?_)⟩)
  · rw [List.length_cons]; omega
  · have := List.mem_range.mp hi
    rw [List.length_cons] at this
    omega
theorem order_pos {n : Nat} (w : WV n as) : ∀ x y, (x, y) ∈ as → (order n as).idxOf x < (order n as).idxOf y := fun x y h => (order_ob n as).up x y h (order_mem w.ord (w.lt _ h).2)
theorem open_con {n : Nat} (w : WV n as) (hZ : ∀ z ∈ Z, z < n) {x : Nat} {l : List Nat} (hx : x ∉ Z) (h : Og as Z x l) : Con as Z x (l.getLastD x) := by
  have no2 : ∀ x y, (x, y) ∈ as → (y, x) ∉ as := fun x y h1 h2 => absurd (order_pos w _ _ h1) (Nat.lt_asymm (order_pos w _ _ h2))
  have hO : ∀ y, y ∈ (List.range n).flatMap (fun t => if t ∈ Z then upF n as t else []) ↔ ∃ g ∈ Z, Up as g y := fun y => by
    rw [List.mem_flatMap]
    constructor
    · rintro ⟨t, _, h⟩
      by_cases ht : t ∈ Z
      · rw [if_pos ht] at h
        exact ⟨t, ht, (mem_upF w.toWOk (hZ t ht) y).mp h⟩
      · rw [if_neg ht] at h
        cases h
    · rintro ⟨g, hg, hu⟩
      exact ⟨g, List.mem_range.mpr (hZ g hg), by rw [if_pos hg]; exact (mem_upF w.toWOk (hZ g hg) y).mpr hu⟩
  obtain ⟨b, g⟩ := og_n1 hO no2 l x false h fun u _ => ⟨fun z => absurd z.1 Bool.false_ne_true, fun _ => hx⟩
  exact ⟨b, (star_same hO).mp g⟩
theorem con_open {n : Nat} (w : WV n as) (hZ : ∀ z ∈ Z, z < n) {x y : Nat} (hxn : x < n) (hx : x ∉ Z) (hy : y ∉ Z) (hxy : x ≠ y) (h : Con as Z x y) : ∃ r ∈ trails n as, r.getD 0 0 = x ∧ r.getLastD 0 = y ∧ openB n as Z r = true := by
  obtain ⟨b, h⟩ := h
  obtain ⟨l, h1, h2, _⟩ := go_og (order_pos w) h
  obtain ⟨l', h3, h4, h5⟩ := og_simple (order_pos w) l.length x l (Nat.le_refl _) h2
  have h1 : l.getLastD x = y := h1
  have hne : l' ≠ [] := fun e => by rw [e, h1] at h5; exact hxy h5
  refine ⟨x :: l', (mem_trails w.lt).mpr ⟨x, l', rfl, hne, hxn, og_chn h3, h4⟩, rfl, by rw [lastD_any, h5, h1], (open_iff w.toWOk hZ (og_chn h3)).mpr ⟨hx, by rw [h5, h1]; exact hy, h3⟩⟩
end
end PyD
namespace PyD
open PySem
/-- are_numbers_upto -/
def td43 : TD := ⟨"are_numbers_upto", ["value", "most"], ["value", "most", "each"], (.cons (.ret (.bools true (.cons (.isi .tuple (.v 0)) (.cons (.allOf (.comp [("each", 2)] (.nm 2) (.of (.of (.v 0))) .nil (.call 1 (.cons (.v 2) (.cons (.c (.int 0)) (.cons (.v 1) .nil)))))) (.cons (.call 3 (.cons (.v 0) .nil)) .nil))))) .nil), []⟩
/-- is_lot_by -/
def td44 : TD := ⟨"is_lot_by", ["web", "value"], ["web", "value"], (.cons (.ret (.call 43 (.cons (.v 1) (.cons (.bin .sub (.ix (.v 0) (.c (.int 0))) (.c (.int 1))) .nil)))) .nil), []⟩
/-- nexts_by -/
def td45 : TD := ⟨"nexts_by", ["rows", "here", "state"], ["rows", "here", "state", "ups", "downs", "thing", "is_led", "parents", "given", "over", "own"], (.cons (.asg (.tp (.cons (.nm 5) (.cons (.nm 6) .nil))) (.v 2)) (.cons (.asg (.tp (.cons (.nm 7) (.cons (.nm 8) (.cons (.nm 9) .nil)))) (.v 0)) (.cons (.asg (.nm 3) (.fz (.comp [("own", 10)] (.nm 10) (.of (.of (.ix (.v 7) (.v 5)))) .nil (.tup (.cons (.v 10) (.cons (.c (.bl false)) .nil)))))) (.cons (.asg (.nm 4) (.fz (.comp [("own", 10)] (.nm 10) (.of (.of (.v 1))) (.cons (.cmp .isin (.v 5) (.ix (.v 7) (.v 10))) .nil) (.tup (.cons (.v 10) (.cons (.c (.bl true)) .nil)))))) (.cons (.ifs (.cmp .notin (.v 5) (.v 8)) (.cons (.ret (.bin .add (.v 4) (.ite (.bools false (.cons (.not (.v 6)) (.cons (.cmp .isin (.v 5) (.v 9)) .nil))) (.v 3) (.fz (.disp .nil))))) .nil) .nil) (.cons (.ret (.ite (.v 6) (.v 3) (.fz (.disp .nil)))) .nil)))))), []⟩
/-- reach_by -/
def td46 : TD := ⟨"reach_by", ["web", "one", "given"], ["web", "one", "given", "seen", "line", "found", "rows", "things", "more", "thing", "own", "is_led"], (.cons (.asg (.tp (.cons (.nm 6) (.cons (.nm 7) .nil))) (.tup (.cons (.tup (.cons (.call 10 (.cons (.v 0) .nil)) (.cons (.v 2) (.cons (.call 13 (.cons (.v 0) (.cons (.v 2) .nil))) .nil)))) (.cons (.fz (.listR (.ix (.v 0) (.c (.int 0))))) .nil)))) (.cons (.asg (.nm 3) (.ls (.comp [("thing", 9)] (.nm 9) (.of (.of (.v 1))) .nil (.tup (.cons (.v 9) (.cons (.c (.bl false)) .nil)))))) (.cons (.asg (.nm 4) (.ls (.listOf (.of (.v 3))))) (.cons (.whil (.cmp .ne (.v 4) (.fz (.disp .nil))) (.cons (.asg (.nm 8) (.fz (.comp [("own", 10)] (.nm 10) (.of (.of (.call 45 (.cons (.v 6) (.cons (.v 7) (.cons (.pop (.v 4)) .nil)))))) (.cons (.cmp .notin (.v 10) (.v 3)) .nil) (.v 10)))) (.cons (.ex (.ext (.v 3) (.of (.v 8)))) (.cons (.ex (.ext (.v 4) (.of (.v 8)))) .nil)))) (.cons (.asg (.nm 5) (.fz (.sortedSet (.comp [("thing", 9), ("is_led", 11)] (.tp (.cons (.nm 9) (.cons (.nm 11) .nil))) (.of (.of (.v 3))) .nil (.v 9))))) (.cons (.ret (.tupOf (.comp [("thing", 9)] (.nm 9) (.of (.of (.v 5))) (.cons (.bools true (.cons (.cmp .notin (.v 9) (.v 1)) (.cons (.cmp .notin (.v 9) (.v 2)) .nil))) .nil) (.v 9)))) .nil)))))), []⟩
/-- are_apart_by -/
def td47 : TD := ⟨"are_apart_by", ["web", "one", "other", "given"], ["web", "one", "other", "given", "found", "thing"], (.cons (.asg (.nm 4) (.call 46 (.cons (.v 0) (.cons (.v 1) (.cons (.v 3) .nil))))) (.cons (.ret (.not (.anyOf (.comp [("thing", 5)] (.nm 5) (.of (.of (.v 2))) .nil (.cmp .isin (.v 5) (.v 4)))))) .nil)), []⟩
/-- check_beside -/
def td48 : TD := ⟨"check_beside", ["web", "lots", "least"], ["web", "lots", "least", "ahead", "lot", "few", "thing"], (.cons (.asg (.nm 3) (.ls (.disp .nil))) (.cons (.for (.tp (.cons (.nm 4) (.cons (.nm 5) .nil))) (.zip (.of (.of (.v 1))) (.of (.of (.v 2)))) (.cons (.ifs (.bools false (.cons (.not (.call 44 (.cons (.v 0) (.cons (.v 4) .nil)))) (.cons (.cmp .lt (.b1 .len (.v 4)) (.v 5)) (.cons (.anyOf (.comp [("thing", 6)] (.nm 6) (.of (.of (.v 4))) .nil (.cmp .isin (.v 6) (.v 3)))) .nil)))) (.cons .never .nil) .nil) (.cons (.ex (.ext (.v 3) (.of (.v 4)))) .nil))) .nil)), []⟩
/-- check_lots -/
def td49 : TD := ⟨"check_lots", ["web", "one", "other", "given"], ["web", "one", "other", "given"], (.cons (.ex (.call 22 (.cons (.v 0) .nil))) (.cons (.ex (.call 48 (.cons (.v 0) (.cons (.fz (.disp (.cons (.v 1) (.cons (.v 2) (.cons (.v 3) .nil))))) (.cons (.fz (.disp (.cons (.c (.int 1)) (.cons (.c (.int 1)) (.cons (.c (.int 0)) .nil))))) .nil))))) .nil)), []⟩
/-- are_apart -/
def td50 : TD := ⟨"are_apart", ["web", "one", "other", "given"], ["web", "one", "other", "given"], (.cons (.ex (.call 49 (.cons (.v 0) (.cons (.v 1) (.cons (.v 2) (.cons (.v 3) .nil)))))) (.cons (.ret (.call 47 (.cons (.v 0) (.cons (.v 1) (.cons (.v 2) (.cons (.v 3) .nil)))))) .nil)), []⟩
/-- reach -/
def td51 : TD := ⟨"reach", ["web", "one", "given"], ["web", "one", "given"], (.cons (.ex (.call 22 (.cons (.v 0) .nil))) (.cons (.ex (.call 48 (.cons (.v 0) (.cons (.fz (.disp (.cons (.v 1) (.cons (.v 2) .nil)))) (.cons (.fz (.disp (.cons (.c (.int 1)) (.cons (.c (.int 0)) .nil)))) .nil))))) (.cons (.ret (.call 46 (.cons (.v 0) (.cons (.v 1) (.cons (.v 2) .nil))))) .nil))), []⟩
/-- kept_by -/
def td52 : TD := ⟨"kept_by", ["web", "one", "other", "given"], ["web", "one", "other", "given"], (.cons (.ret (.call 13 (.cons (.v 0) (.cons (.tup (.star (.of (.v 1)) (.star (.of (.v 2)) (.star (.of (.v 3)) .nil)))) .nil)))) .nil), []⟩
/-- joined_pairs -/
def td53 : TD := ⟨"joined_pairs", ["web", "some"], ["web", "some", "pairs", "own", "one", "thing", "other"], (.cons (.asg (.nm 2) (.fz (.comp [("own", 3)] (.nm 3) (.of (.of (.ix (.v 0) (.c (.int 1))))) (.cons (.bools true (.cons (.cmp .isin (.ix (.v 3) (.c (.int 0))) (.v 1)) (.cons (.cmp .isin (.ix (.v 3) (.c (.int 1))) (.v 1)) .nil))) .nil) (.tup (.cons (.mnx false (.of (.v 3))) (.cons (.mnx true (.of (.v 3))) .nil)))))) (.cons (.asg (.nm 2) (.bin .add (.v 2) (.fz (.comp [("one", 4), ("thing", 5), ("other", 6)] (.tp (.cons (.nm 4) (.cons (.nm 5) (.cons (.nm 6) .nil)))) (.of (.of (.call 16 (.cons (.v 0) .nil)))) (.cons (.cmp .isin (.v 5) (.v 1)) .nil) (.tup (.cons (.v 4) (.cons (.v 6) .nil))))))) (.cons (.ret (.tupOf (.sortedSet (.of (.v 2))))) .nil))), []⟩
/-- is_closed -/
def td54 : TD := ⟨"is_closed", ["pairs", "lot", "given"], ["pairs", "lot", "given", "out", "own", "one", "other"], (.cons (.asg (.nm 3) (.fz (.comp [("own", 4)] (.nm 4) (.of (.of (.v 0))) (.cons (.cmp .ne (.cmp .isin (.ix (.v 4) (.c (.int 0))) (.v 1)) (.cmp .isin (.ix (.v 4) (.c (.int 1))) (.v 1))) .nil) (.v 4)))) (.cons (.ret (.allOf (.comp [("one", 5), ("other", 6)] (.tp (.cons (.nm 5) (.cons (.nm 6) .nil))) (.of (.of (.v 3))) .nil (.bools false (.cons (.cmp .isin (.v 5) (.v 2)) (.cons (.cmp .isin (.v 6) (.v 2)) .nil)))))) .nil)), []⟩
/-- is_cut_by -/
def td55 : TD := ⟨"is_cut_by", ["web", "one", "other", "given", "value"], ["web", "one", "other", "given", "value", "some", "thing"], (.cons (.asg (.nm 5) (.call 52 (.cons (.v 0) (.cons (.v 1) (.cons (.v 2) (.cons (.v 3) .nil)))))) (.cons (.ifs (.bools false (.cons (.not (.call 44 (.cons (.v 0) (.cons (.v 4) .nil)))) (.cons (.not (.allOf (.comp [("thing", 6)] (.nm 6) (.of (.of (.v 4))) .nil (.cmp .isin (.v 6) (.v 5))))) .nil))) (.cons (.ret (.c (.bl false))) .nil) .nil) (.cons (.ifs (.bools false (.cons (.not (.allOf (.comp [("thing", 6)] (.nm 6) (.of (.of (.v 1))) .nil (.cmp .isin (.v 6) (.v 4))))) (.cons (.anyOf (.comp [("thing", 6)] (.nm 6) (.of (.of (.tup (.star (.of (.v 2)) (.star (.of (.v 3)) .nil))))) .nil (.cmp .isin (.v 6) (.v 4)))) .nil))) (.cons (.ret (.c (.bl false))) .nil) .nil) (.cons (.ret (.call 54 (.cons (.call 53 (.cons (.v 0) (.cons (.v 5) .nil))) (.cons (.v 4) (.cons (.v 3) .nil))))) .nil)))), []⟩
/-- kept -/
def td56 : TD := ⟨"kept", ["web", "one", "other", "given"], ["web", "one", "other", "given"], (.cons (.ex (.call 49 (.cons (.v 0) (.cons (.v 1) (.cons (.v 2) (.cons (.v 3) .nil)))))) (.cons (.ret (.call 52 (.cons (.v 0) (.cons (.v 1) (.cons (.v 2) (.cons (.v 3) .nil)))))) .nil)), []⟩
/-- is_cut -/
def td57 : TD := ⟨"is_cut", ["web", "one", "other", "given", "value"], ["web", "one", "other", "given", "value"], (.cons (.ex (.call 49 (.cons (.v 0) (.cons (.v 1) (.cons (.v 2) (.cons (.v 3) .nil)))))) (.cons (.ret (.call 55 (.cons (.v 0) (.cons (.v 1) (.cons (.v 2) (.cons (.v 3) (.cons (.v 4) .nil))))))) .nil)), []⟩
/-- _law_parts -/
def td58 : TD := ⟨"_law_parts", ["bag", "many"], ["bag", "many", "one", "thing", "two", "lots", "lot"], (.cons (.asg (.nm 2) (.call 35 (.cons (.v 0) (.cons (.v 1) .nil)))) (.cons (.asg (.tp (.cons (.nm 4) (.cons (.nm 5) .nil))) (.tup (.cons (.bin .mod (.bin .add (.bin .add (.v 2) (.c (.int 1))) (.call 35 (.cons (.v 0) (.cons (.bin .sub (.v 1) (.c (.int 1))) .nil)))) (.v 1)) (.cons (.ls (.disp (.cons (.ls (.disp (.cons (.v 2) .nil))) (.cons (.ls (.disp .nil)) (.cons (.ls (.disp .nil)) (.cons (.ls (.disp .nil)) .nil)))))) .nil)))) (.cons (.ex (.app (.ix (.v 5) (.c (.int 1))) (.v 4))) (.cons (.for (.nm 3) (.rng1 (.v 1)) (.cons (.ifs (.cmp .notin (.v 3) (.tup (.cons (.v 2) (.cons (.v 4) .nil)))) (.cons (.ex (.app (.ix (.v 5) (.ix (.tup (.cons (.c (.int 2)) (.cons (.c (.int 3)) (.cons (.c (.int 2)) (.cons (.c (.int 0)) (.cons (.c (.int 1)) .nil)))))) (.call 35 (.cons (.v 0) (.cons (.c (.int 5)) .nil))))) (.v 3))) .nil) .nil) .nil)) (.cons (.ret (.tupOf (.comp [("lot", 6)] (.nm 6) (.of (.of (.sl (.v 5) .no (.at (.c (.int 3)))))) .nil (.tupOf (.sorted (.of (.v 6))))))) .nil))))), []⟩
/-- _law_inward -/
def td59 : TD := ⟨"_law_inward", ["web", "trail", "at"], ["web", "trail", "at"], (.cons (.ret (.bools true (.cons (.cmp .isin (.tup (.cons (.ix (.v 1) (.bin .sub (.v 2) (.c (.int 1)))) (.cons (.ix (.v 1) (.v 2)) .nil))) (.ix (.v 0) (.c (.int 1)))) (.cons (.cmp .isin (.tup (.cons (.ix (.v 1) (.bin .add (.v 2) (.c (.int 1)))) (.cons (.ix (.v 1) (.v 2)) .nil))) (.ix (.v 0) (.c (.int 1)))) .nil)))) .nil), []⟩
/-- _law_is_open -/
def td60 : TD := ⟨"_law_is_open", ["web", "trail", "given"], ["web", "trail", "given", "at", "thing"], (.cons (.ifs (.bools false (.cons (.cmp .isin (.ix (.v 1) (.c (.int 0))) (.v 2)) (.cons (.cmp .isin (.ix (.v 1) (.neg (.c (.int 1)))) (.v 2)) .nil))) (.cons (.ret (.c (.bl false))) .nil) .nil) (.cons (.for (.nm 3) (.rng2 (.c (.int 1)) (.bin .sub (.b1 .len (.v 1)) (.c (.int 1)))) (.cons (.ifs (.call 59 (.cons (.v 0) (.cons (.v 1) (.cons (.v 3) .nil)))) (.cons (.ifs (.cmp .eq (.fz (.comp [("thing", 4)] (.nm 4) (.of (.of (.v 2))) (.cons (.cmp .isin (.ix (.v 1) (.v 3)) (.call 37 (.cons (.v 0) (.cons (.v 4) .nil)))) .nil) (.v 4))) (.fz (.disp .nil))) (.cons (.ret (.c (.bl false))) .nil) .nil) .nil) (.cons (.ifs (.cmp .isin (.ix (.v 1) (.v 3)) (.v 2)) (.cons (.ret (.c (.bl false))) .nil) .nil) .nil)) .nil)) (.cons (.ret (.c (.bl true))) .nil))), []⟩
/-- _law_trails -/
def td61 : TD := ⟨"_law_trails", ["web"], ["web", "pairs", "turn", "found", "rows", "more", "row", "thing", "one", "two"], (.cons (.asg (.nm 1) (.bin .add (.fz (.listOf (.of (.ix (.v 0) (.c (.int 1)))))) (.fz (.comp [("one", 8), ("two", 9)] (.tp (.cons (.nm 8) (.cons (.nm 9) .nil))) (.of (.of (.ix (.v 0) (.c (.int 1))))) .nil (.tup (.cons (.v 9) (.cons (.v 8) .nil))))))) (.cons (.asg (.tp (.cons (.nm 3) (.cons (.nm 4) .nil))) (.tup (.cons (.fz (.disp .nil)) (.cons (.fz (.comp [("thing", 7)] (.nm 7) (.rng1 (.ix (.v 0) (.c (.int 0)))) .nil (.tup (.cons (.v 7) .nil)))) .nil)))) (.cons (.for (.nm 2) (.rng1 (.bin .sub (.ix (.v 0) (.c (.int 0))) (.c (.int 1)))) (.cons (.asg (.nm 5) (.fz (.disp .nil))) (.cons (.for (.nm 6) (.of (.of (.v 4))) (.cons (.asg (.nm 5) (.bin .add (.v 5) (.fz (.comp [("one", 8), ("two", 9)] (.tp (.cons (.nm 8) (.cons (.nm 9) .nil))) (.of (.of (.v 1))) (.cons (.bools true (.cons (.cmp .eq (.v 8) (.ix (.v 6) (.neg (.c (.int 1))))) (.cons (.cmp .notin (.v 9) (.v 6)) .nil))) .nil) (.bin .add (.v 6) (.tup (.cons (.v 9) .nil))))))) .nil)) (.cons (.asg (.tp (.cons (.nm 3) (.cons (.nm 4) .nil))) (.tup (.cons (.bin .add (.v 3) (.v 5)) (.cons (.v 5) .nil)))) .nil)))) (.cons (.ret (.v 3)) .nil)))), []⟩
/-- _law_opens -/
def td62 : TD := ⟨"_law_opens", ["web", "one", "other", "given"], ["web", "one", "other", "given", "rows", "row", "size"], (.cons (.asg (.nm 4) (.fz (.comp [("row", 5)] (.nm 5) (.of (.of (.call 61 (.cons (.v 0) .nil)))) (.cons (.bools true (.cons (.cmp .isin (.ix (.v 5) (.c (.int 0))) (.v 1)) (.cons (.cmp .isin (.ix (.v 5) (.neg (.c (.int 1)))) (.v 2)) .nil))) .nil) (.v 5)))) (.cons (.asg (.nm 4) (.fz (.comp [("row", 5)] (.nm 5) (.of (.of (.v 4))) (.cons (.call 60 (.cons (.v 0) (.cons (.v 5) (.cons (.v 3) .nil)))) .nil) (.v 5)))) (.cons (.ret (.fz (.comp [("size", 6), ("row", 5)] (.tp (.cons (.nm 6) (.cons (.nm 5) .nil))) (.of (.sorted (.comp [("row", 5)] (.nm 5) (.of (.of (.v 4))) .nil (.tup (.cons (.b1 .len (.v 5)) (.cons (.v 5) .nil)))))) .nil (.v 5)))) .nil))), []⟩
/-- _law_without -/
def td63 : TD := ⟨"_law_without", ["lot", "other"], ["lot", "other", "thing"], (.cons (.ret (.tupOf (.comp [("thing", 2)] (.nm 2) (.of (.of (.v 0))) (.cons (.cmp .notin (.v 2) (.v 1)) .nil) (.v 2)))) .nil), []⟩
/-- _law_with -/
def td64 : TD := ⟨"_law_with", ["lot", "other"], ["lot", "other"], (.cons (.ret (.tupOf (.sortedSet (.of (.bin .add (.v 0) (.v 1)))))) .nil), []⟩
/-- _law_is_so -/
def td65 : TD := ⟨"_law_is_so", ["web", "one", "two", "more", "given"], ["web", "one", "two", "more", "given", "together", "last", "both", "told"], (.cons (.asg (.tp (.cons (.nm 7) (.cons (.nm 8) .nil))) (.tup (.cons (.call 64 (.cons (.v 2) (.cons (.v 3) .nil))) (.cons (.fz (.disp (.cons (.call 50 (.cons (.v 0) (.cons (.v 1) (.cons (.v 2) (.cons (.v 4) .nil))))) (.cons (.call 50 (.cons (.v 0) (.cons (.v 1) (.cons (.v 3) (.cons (.v 4) .nil))))) .nil)))) .nil)))) (.cons (.asg (.nm 5) (.call 50 (.cons (.v 0) (.cons (.v 1) (.cons (.v 7) (.cons (.v 4) .nil)))))) (.cons (.ifs (.bools false (.cons (.cmp .ne (.v 5) (.bools true (.cons (.ix (.v 8) (.c (.int 0))) (.cons (.ix (.v 8) (.c (.int 1))) .nil)))) (.cons (.cmp .ne (.call 50 (.cons (.v 0) (.cons (.v 7) (.cons (.v 1) (.cons (.v 4) .nil))))) (.v 5)) .nil))) (.cons (.ret (.c (.bl false))) .nil) .nil) (.cons (.asg (.nm 6) (.fz (.disp (.cons (.call 50 (.cons (.v 0) (.cons (.v 1) (.cons (.v 2) (.cons (.call 64 (.cons (.v 4) (.cons (.v 3) .nil))) .nil))))) (.cons (.call 50 (.cons (.v 0) (.cons (.v 1) (.cons (.v 3) (.cons (.call 64 (.cons (.v 4) (.cons (.v 2) .nil))) .nil))))) .nil))))) (.cons (.ifs (.bools false (.cons (.bools true (.cons (.v 5) (.cons (.cmp .ne (.v 6) (.fz (.disp (.cons (.c (.bl true)) (.cons (.c (.bl true)) .nil))))) .nil))) (.cons (.bools true (.cons (.cmp .eq (.v 6) (.fz (.disp (.cons (.c (.bl true)) (.cons (.c (.bl true)) .nil))))) (.cons (.not (.v 5)) .nil))) .nil))) (.cons (.ret (.c (.bl false))) .nil) .nil) (.cons (.ret (.bools false (.cons (.not (.bools true (.cons (.ix (.v 8) (.c (.int 0))) (.cons (.ix (.v 6) (.c (.int 1))) .nil)))) (.cons (.v 5) .nil)))) .nil)))))), []⟩
/-- _law_right -/
def td66 : TD := ⟨"_law_right", ["bag"], ["bag", "web", "more", "thing", "rest", "less", "every", "side", "one", "two", "given", "far"], (.cons (.asg (.nm 1) (.call 36 (.cons (.v 0) (.cons (.c (.int 5)) .nil)))) (.cons (.asg (.tp (.cons (.nm 8) (.cons (.nm 9) (.cons (.nm 10) .nil)))) (.call 58 (.cons (.v 0) (.cons (.ix (.v 1) (.c (.int 0))) .nil)))) (.cons (.asg (.nm 2) (.tupOf (.comp [("thing", 3)] (.nm 3) (.rng1 (.ix (.v 1) (.c (.int 0)))) (.cons (.cmp .notin (.v 3) (.bin .add (.bin .add (.v 8) (.v 9)) (.v 10))) .nil) (.v 3)))) (.cons (.ifs (.bools true (.cons (.cmp .ne (.v 2) (.tup .nil)) (.cons (.not (.call 65 (.cons (.v 1) (.cons (.v 8) (.cons (.v 9) (.cons (.v 2) (.cons (.v 10) .nil))))))) .nil))) (.cons (.ret (.c (.bl false))) .nil) .nil) (.cons (.asg (.nm 3) (.call 35 (.cons (.v 0) (.cons (.ix (.v 1) (.c (.int 0))) .nil)))) (.cons (.asg (.nm 4) (.call 63 (.cons (.tupR (.ix (.v 1) (.c (.int 0)))) (.cons (.bin .add (.call 27 (.cons (.v 1) (.cons (.v 3) .nil))) (.call 25 (.cons (.v 1) (.cons (.v 3) .nil)))) .nil)))) (.cons (.ifs (.bools true (.cons (.cmp .ne (.v 4) (.tup .nil)) (.cons (.notB true (.call 50 (.cons (.v 1) (.cons (.tup (.cons (.v 3) .nil)) (.cons (.v 4) (.cons (.call 25 (.cons (.v 1) (.cons (.v 3) .nil))) .nil)))))) .nil))) (.cons (.ret (.c (.bl false))) .nil) .nil) (.cons (.ifs (.cmp .ne (.call 50 (.cons (.v 1) (.cons (.v 8) (.cons (.v 9) (.cons (.v 10) .nil))))) (.cmp .eq (.call 62 (.cons (.v 1) (.cons (.v 8) (.cons (.v 9) (.cons (.v 10) .nil))))) (.fz (.disp .nil)))) (.cons (.ret (.c (.bl false))) .nil) .nil) (.cons (.asg (.nm 5) (.call 33 (.cons (.v 1) (.cons (.v 3) .nil)))) (.cons (.ifs (.bools true (.cons (.call 50 (.cons (.v 1) (.cons (.v 8) (.cons (.v 9) (.cons (.v 10) .nil))))) (.cons (.notB true (.call 50 (.cons (.v 5) (.cons (.v 8) (.cons (.v 9) (.cons (.v 10) .nil)))))) .nil))) (.cons (.ret (.c (.bl false))) .nil) .nil) (.cons (.ifs (.cmp .ne (.call 50 (.cons (.v 1) (.cons (.v 8) (.cons (.v 9) (.cons (.v 10) .nil))))) (.cmp .eq (.fz (.comp [("far", 11)] (.nm 11) (.of (.of (.call 51 (.cons (.v 1) (.cons (.v 8) (.cons (.v 10) .nil)))))) (.cons (.cmp .isin (.v 11) (.v 9)) .nil) (.v 11))) (.fz (.disp .nil)))) (.cons (.ret (.c (.bl false))) .nil) .nil) (.cons (.asg (.nm 6) (.call 56 (.cons (.v 1) (.cons (.v 8) (.cons (.v 9) (.cons (.v 10) .nil)))))) (.cons (.ifs (.cmp .ne (.fz (.comp [("far", 11)] (.nm 11) (.of (.of (.v 6))) (.cons (.cmp .ne (.call 63 (.cons (.call 26 (.cons (.v 1) (.cons (.v 11) .nil))) (.cons (.v 6) .nil))) (.tup .nil)) .nil) (.v 11))) (.fz (.disp .nil))) (.cons (.ret (.c (.bl false))) .nil) .nil) (.cons (.asg (.nm 7) (.tupOf (.comp [("far", 11)] (.nm 11) (.of (.of (.v 6))) (.cons (.bools true (.cons (.cmp .notin (.v 11) (.v 9)) (.cons (.cmp .notin (.v 11) (.v 10)) .nil))) .nil) (.v 11)))) (.cons (.ret (.bools false (.cons (.not (.call 57 (.cons (.v 1) (.cons (.v 8) (.cons (.v 9) (.cons (.v 10) (.cons (.v 7) .nil))))))) (.cons (.call 50 (.cons (.v 1) (.cons (.v 8) (.cons (.v 9) (.cons (.v 10) .nil))))) .nil)))) .nil))))))))))))))), []⟩
/-- law -/
def td67 : TD := ⟨"law", ["cells"], ["cells", "spot"], (.cons (.for (.nm 1) (.rng1 (.c (.int 2))) (.cons (.ifs (.not (.call 66 (.cons (.call 34 (.cons (.v 0) (.cons (.v 1) .nil))) .nil))) (.cons (.ret (.c (.bl false))) .nil) .nil) .nil)) (.cons (.ret (.c (.bl true))) .nil)), []⟩
structure H43 (Φ : Nat → Option FD) : Prop where
  self : Φ 43 = some td43.fd
  c1 : H1 Φ
  c3 : H3 Φ
structure H44 (Φ : Nat → Option FD) : Prop where
  self : Φ 44 = some td44.fd
  c43 : H43 Φ
structure H45 (Φ : Nat → Option FD) : Prop where
  self : Φ 45 = some td45.fd
structure H46 (Φ : Nat → Option FD) : Prop where
  self : Φ 46 = some td46.fd
  c10 : H10 Φ
  c13 : H13 Φ
  c45 : H45 Φ
structure H47 (Φ : Nat → Option FD) : Prop where
  self : Φ 47 = some td47.fd
  c46 : H46 Φ
structure H48 (Φ : Nat → Option FD) : Prop where
  self : Φ 48 = some td48.fd
  c44 : H44 Φ
structure H49 (Φ : Nat → Option FD) : Prop where
  self : Φ 49 = some td49.fd
  c22 : H22 Φ
  c48 : H48 Φ
structure H50 (Φ : Nat → Option FD) : Prop where
  self : Φ 50 = some td50.fd
  c47 : H47 Φ
  c49 : H49 Φ
structure H51 (Φ : Nat → Option FD) : Prop where
  self : Φ 51 = some td51.fd
  c22 : H22 Φ
  c46 : H46 Φ
  c48 : H48 Φ
structure H52 (Φ : Nat → Option FD) : Prop where
  self : Φ 52 = some td52.fd
  c13 : H13 Φ
structure H53 (Φ : Nat → Option FD) : Prop where
  self : Φ 53 = some td53.fd
  c16 : H16 Φ
structure H54 (Φ : Nat → Option FD) : Prop where
  self : Φ 54 = some td54.fd
structure H55 (Φ : Nat → Option FD) : Prop where
  self : Φ 55 = some td55.fd
  c44 : H44 Φ
  c52 : H52 Φ
  c53 : H53 Φ
  c54 : H54 Φ
structure H56 (Φ : Nat → Option FD) : Prop where
  self : Φ 56 = some td56.fd
  c49 : H49 Φ
  c52 : H52 Φ
structure H57 (Φ : Nat → Option FD) : Prop where
  self : Φ 57 = some td57.fd
  c49 : H49 Φ
  c55 : H55 Φ
structure H58 (Φ : Nat → Option FD) : Prop where
  self : Φ 58 = some td58.fd
  c35 : H35 Φ
structure H59 (Φ : Nat → Option FD) : Prop where
  self : Φ 59 = some td59.fd
structure H60 (Φ : Nat → Option FD) : Prop where
  self : Φ 60 = some td60.fd
  c37 : H37 Φ
  c59 : H59 Φ
structure H61 (Φ : Nat → Option FD) : Prop where
  self : Φ 61 = some td61.fd
structure H62 (Φ : Nat → Option FD) : Prop where
  self : Φ 62 = some td62.fd
  c60 : H60 Φ
  c61 : H61 Φ
structure H63 (Φ : Nat → Option FD) : Prop where
  self : Φ 63 = some td63.fd
structure H64 (Φ : Nat → Option FD) : Prop where
  self : Φ 64 = some td64.fd
structure H65 (Φ : Nat → Option FD) : Prop where
  self : Φ 65 = some td65.fd
  c50 : H50 Φ
  c64 : H64 Φ
structure H66 (Φ : Nat → Option FD) : Prop where
  self : Φ 66 = some td66.fd
  c25 : H25 Φ
  c26 : H26 Φ
  c27 : H27 Φ
  c33 : H33 Φ
  c35 : H35 Φ
  c36 : H36 Φ
  c50 : H50 Φ
  c51 : H51 Φ
  c56 : H56 Φ
  c57 : H57 Φ
  c58 : H58 Φ
  c62 : H62 Φ
  c63 : H63 Φ
  c65 : H65 Φ
structure H67 (Φ : Nat → Option FD) : Prop where
  self : Φ 67 = some td67.fd
  c34 : H34 Φ
  c66 : H66 Φ
end PyD
namespace PyD
open PySem
section
variable {β : Type} {as : List (Nat × Nat)} {step : β → β} {mem : β → Nat → Bool}
theorem Climb.allS (c : Climb as step mem) {n : Nat} (hlt : ∀ p ∈ as, p.1 < n) {l : List Nat} (hl : ∀ t ∈ l, t < n) {b : β} (hb : ∀ x, mem b x = true ↔ x ∈ l) (x : Nat) : mem ((List.range n).foldl (fun b _ => step b) b) x = true ↔ ∃ t ∈ l, Up as t x := by
  have hc : Clo as (mem ((List.range n).foldl (fun b _ => step b) b)) := by
    cases l with
    | nil => exact c.clo_fold _ fun x y _ hy => by cases (hb y).mp hy
    | cons t l =>
      rcases c.count hlt (List.range n) b with h | h
      · exact h
      · have h1 := cnt_le n (mem ((List.range n).foldl (fun b _ => step b) b))
        have h2 : 0 < cnt n (mem b) := List.length_pos_of_mem (List.mem_filter.mpr ⟨List.mem_range.mpr (hl t List.mem_cons_self), (hb t).mpr List.mem_cons_self⟩)
        rw [List.length_range] at h
        omega
  constructor
  · exact c.snd_fold (fun x => ∃ t ∈ l, Up as t x) (fun x y hxy ⟨t, ht, hy⟩ => ⟨t, ht, .step hy hxy⟩) _ (fun x hx => ⟨x, (hb x).mp hx, .refl⟩) x
  · rintro ⟨t, ht, h⟩
    induction h with
    | refl => exact c.mono_fold _ ((hb _).mpr ht)
    | step _ hxy ih => exact hc _ _ hxy ih
end
def abvL (n : Nat) (as : List (Nat × Nat)) (l : List Nat) : List Nat := (List.range 6).filter fun x => (closed n as (bitsN l)).testBit x
theorem mem_abvL {n : Nat} {as : List (Nat × Nat)} (w : WOk n as) (h : as.Nodup) {l : List Nat} (hl : ∀ t ∈ l, t < n) (hn : l.Nodup) (x : Nat) : x ∈ abvL n as l ↔ ∃ t ∈ l, Up as t x := by
  have h1 := (climb_sweep h w.lt).allS (fun p hp => (w.lt p hp).1) hl (b := bitsN l) (fun x => by rw [bits_test x hn, decide_eq_true_iff]) x
  unfold abvL
  rw [List.mem_filter, List.mem_range, ← h1]
  refine ⟨fun h => h.2, fun h2 => ⟨?_, h2⟩⟩
  obtain ⟨t, ht, hu⟩ := h1.mp h2
  exact Nat.lt_of_lt_of_le (up_lt w (hl t ht) hu) w.hn
structure Lot (n : Nat) (l : List Nat) : Prop where
  asc : l.Pairwise (· < ·)
  lt : ∀ x ∈ l, x < n
theorem Lot.nodup {n : Nat} {l : List Nat} (h : Lot n l) : l.Nodup := h.asc.imp fun h => Nat.ne_of_lt h
theorem Lot.len {n : Nat} {l : List Nat} (h : Lot n l) : l.length ≤ n := by
  have := len_sub (l := l) (b := List.range n) h.nodup fun x hx => List.mem_range.mpr (h.lt x hx)
  rwa [List.length_range] at this
theorem Lot.filter {n : Nat} {l : List Nat} (h : Lot n l) (p : Nat → Bool) : Lot n (l.filter p) := ⟨h.asc.filter p, fun x hx => h.lt x (List.mem_filter.mp hx).1⟩
theorem Lot.range (n : Nat) : Lot n (List.range n) := ⟨List.pairwise_lt_range, fun x hx => List.mem_range.mp hx⟩
theorem Lot.same {n : Nat} {l m : List Nat} (hl : Lot n l) (hm : Lot n m) (h : ∀ x, x ∈ l ↔ x ∈ m) : l = m := asc_same hl.asc hm.asc h
structure Enc {α : Type} [DecidableEq α] (enc : α → D) : Prop where
  eq : ∀ a b, D.eqv (enc a) (enc b) = decide (b = a)
  pu : ∀ a, (enc a).pure = true
  dp : ∀ a, (enc a).py.depth ≤ 30
section
variable {α : Type} [DecidableEq α] {enc : α → D} (E : Enc enc)
include E
theorem Enc.any (l : List α) (q : α) : ((l.map enc).any fun z => D.eqv z (enc q)) = decide (q ∈ l) := by
  induction l with
  | nil => rfl
  | cons p l ih =>
    rw [List.map_cons, List.any_cons, ih, E.eq]
    by_cases h : q = p
    · subst h; simp
    · simp [h]
theorem Enc.pures (l : List α) : D.pures (l.map enc) = true := pures_map _ E.pu _
theorem Enc.deep (l : List α) : PyData.depthAll (D.pys (l.map enc)) ≤ 30 := by
  induction l with
  | nil => simp [D.pys, PyData.depthAll]
  | cons p l ih =>
    have := E.dp p
    rw [List.map_cons, D.pys, PyData.depthAll]
    omega
theorem Enc.see (x : α) (st : Store) : see st depthL (enc x) = some (enc x) := see_pure st depthL _ (E.pu x) (by have := E.dp x; unfold depthL; omega)
theorem Enc.isinT (l : List α) (x : α) (st : Store) : cmpD .isin (enc x) (.tup (l.map enc)) st = .ok (.bl (decide (x ∈ l))) st := by
  have h2 : PyD.see st depthL (.tup (l.map enc)) = some (.tup (l.map enc)) := see_pure st depthL _ (by simpa only [D.pure] using E.pures l) (by have := E.deep l; simp only [D.py, PyData.depth, depthL]; omega)
  have h : inD (enc x) (.tup (l.map enc)) st = some (decide (x ∈ l)) := by
    unfold inD
    simp only [E.see x st, h2]
    rw [E.any]
  simp only [cmpD, h]
  rfl
theorem Enc.isinL (l : List α) (x : α) (st : Store) : cmpD .isin (enc x) (.lst (l.map enc)) st = .ok (.bl (decide (x ∈ l))) st := by
  have h2 : PyD.see st depthL (.lst (l.map enc)) = some (.lst (l.map enc)) := see_pure st depthL _ (by simpa only [D.pure] using E.pures l) (by have := E.deep l; simp only [D.py, PyData.depth, depthL]; omega)
  have h : inD (enc x) (.lst (l.map enc)) st = some (decide (x ∈ l)) := by
    unfold inD
    simp only [E.see x st, h2]
    rw [E.any]
  simp only [cmpD, h]
  rfl
theorem Enc.inR (l : List α) (x : α) (a : Nat) (st : Store) (hs : st[a]? = some (.lst (l.map enc))) : inD (enc x) (.ref a) st = some (decide (x ∈ l)) := by
  have h2 : PyD.see st depthL (.ref a) = some (.lst (l.map enc)) := by
    show (match st[a]? with | some (.lst ds) => (ds.mapM (PyD.see st 39)).map D.lst | _ => none) = _
    rw [hs]
    simp only
    rw [see_pures st 39 _ (E.pures l) (by have := E.deep l; omega)]
    rfl
  unfold inD
  simp only [hs, h2, E.see x st]
  rw [E.any]
theorem Enc.isinR (l : List α) (x : α) (a : Nat) (st : Store) (hs : st[a]? = some (.lst (l.map enc))) : cmpD .isin (enc x) (.ref a) st = .ok (.bl (decide (x ∈ l))) st := by
  simp only [cmpD, E.inR l x a st hs]
  rfl
theorem Enc.notinR (l : List α) (x : α) (a : Nat) (st : Store) (hs : st[a]? = some (.lst (l.map enc))) : cmpD .notin (enc x) (.ref a) st = .ok (.bl (!decide (x ∈ l))) st := by
  simp only [cmpD, E.inR l x a st hs]
  rfl
end
def stD (s : Nat × Bool) : D := .tup [.int (s.1 : Int), .bl s.2]
theorem enc_st : Enc stD where
  eq := fun a b => by
    show (decide ((a.1 : Int) = (b.1 : Int)) && ((a.2 == b.2) && true)) = _
    rw [deq, Bool.and_true]
    obtain ⟨a1, a2⟩ := a
    obtain ⟨b1, b2⟩ := b
    by_cases h1 : a1 = b1
    · subst h1
      cases a2 <;> cases b2 <;> simp
    · have : ¬ b1 = a1 := fun e => h1 e.symm
      simp [h1, this]
  pu := fun _ => rfl
  dp := fun a => by simp only [stD, D.py, D.pys, PyData.depth, PyData.depthAll]; omega
def kidsR (n : Nat) (as : List (Nat × Nat)) (t : Nat) : List Nat := (List.range n).filter fun o => decide (t ∈ pars as o)
def nxL (n : Nat) (as : List (Nat × Nat)) (Z O : List Nat) (s : Nat × Bool) : List (Nat × Bool) :=
  if decide (s.1 ∈ Z) then (if s.2 then (pars as s.1).map fun p => (p, false) else []) else ((kidsR n as s.1).map fun c => (c, true)) ++ (if !s.2 || decide (s.1 ∈ O) then (pars as s.1).map fun p => (p, false) else [])
theorem mem_kidsR {n : Nat} {as : List (Nat × Nat)} (w : WOk n as) (t c : Nat) : c ∈ kidsR n as t ↔ (t, c) ∈ as := by
  unfold kidsR
  rw [List.mem_filter, decide_eq_true_iff, pars_mem, List.mem_range]
  exact ⟨fun h => h.2, fun h => ⟨(w.lt _ h).2, h⟩⟩
theorem mem_nxL {n : Nat} {as : List (Nat × Nat)} (w : WOk n as) (Z O : List Nat) (s s' : Nat × Bool) : s' ∈ nxL n as Z O s ↔ N1 as Z O s s' := by
  obtain ⟨t, l⟩ := s
  obtain ⟨t', l'⟩ := s'
  have hup : ((t', l') ∈ (pars as t).map fun p => (p, false)) ↔ ((t', t) ∈ as ∧ l' = false) := by
    rw [List.mem_map]
    constructor
    · rintro ⟨p, hp, e⟩
      cases e
      exact ⟨pars_mem.mp hp, rfl⟩
    · rintro ⟨h, rfl⟩
      exact ⟨t', pars_mem.mpr h, rfl⟩
  have hdn : ((t', l') ∈ (kidsR n as t).map fun c => (c, true)) ↔ ((t, t') ∈ as ∧ l' = true) := by
    rw [List.mem_map]
    constructor
    · rintro ⟨p, hp, e⟩
      cases e
      exact ⟨(mem_kidsR w _ _).mp hp, rfl⟩
    · rintro ⟨h, rfl⟩
      exact ⟨t', (mem_kidsR w _ _).mpr h, rfl⟩
  unfold nxL
  by_cases hZ : t ∈ Z
  · rw [if_pos (decide_eq_true hZ)]
    cases l with
    | true =>
      rw [if_pos rfl, hup]
      constructor
      · rintro ⟨h, rfl⟩; exact .u1 hZ h
      · intro h
        cases h with
        | dn q _ => exact absurd hZ q
        | uo q _ _ => exact absurd hZ q
        | u1 _ e => exact ⟨e, rfl⟩
    | false =>
      rw [if_neg (by simp)]
      constructor
      · intro h; cases h
      · intro h
        cases h with
        | dn q _ => exact absurd hZ q
        | u0 q _ => exact absurd hZ q
  · rw [if_neg (by simp [hZ]), List.mem_append, hdn]
    constructor
    · rintro (⟨h, rfl⟩ | h)
      · exact .dn hZ h
      · split at h
        · rename_i hc
          obtain ⟨h1, rfl⟩ := hup.mp h
          cases l with
          | false => exact .u0 hZ h1
          | true =>
            have : t ∈ O := by simpa using hc
            exact .uo hZ this h1
        · cases h
    · intro h
      cases h with
      | dn q e => exact .inl ⟨e, rfl⟩
      | u0 q e =>
        refine .inr ?_
        rw [if_pos (by simp)]
        exact hup.mpr ⟨e, rfl⟩
      | uo q o e =>
        refine .inr ?_
        rw [if_pos (by simp [o])]
        exact hup.mpr ⟨e, rfl⟩
      | u1 q e => exact absurd q hZ
section
variable {Φ : Nat → Option FD} {k : Nat}
theorem e13 (h : H13 Φ) (n : Nat) (as : List (Nat × Nat)) (w : WOk n as) (l : List Nat) (hz : l.length ≤ 1000) (hl : ∀ t ∈ l, t ≤ 1000) (st : Store) : callD Φ (k + 4) 13 [wb n as, nT l] st = .ok (nT (abvL n as l)) st := by
  refine call_ev0 h.self rfl ?_ (nT_pure _)
  rw [runD_eq (env := [some (wb n as), some (nT l)]) rfl]
  exact ss_ret (e_call (s_cons (e_call (s_cons rfl (s_cons (e_call (s_cons rfl s_nil) (e18 h.c18 l hz hl st)) s_nil)) (e21 h.c21 n as w (bitsN l) st)) s_nil) (e19 h.c19 _ st))
theorem e3n (h : H3 Φ) (l : List Nat) (hz : l.length ≤ 16777216) (ha : l.Pairwise (· < ·)) (st : Store) : callD Φ (k + 1) 3 [nT l] st = .ok (.bl true) st := by
  refine call_ev0 h.self rfl ?_ rfl
  rw [runD_eq (env := [some (nT l), none, none]) rfl]
  have hc : evE (callD Φ k) (.sl (.v 0) (.at (.c (.int 1))) .no) [some (nT l), none, none] st = .ok (nT (l.drop 1)) st := by
    show R.ok (D.tup (cutL (l.map fun (i : Nat) => D.int (i : Int)) (some 1) none)) st = _
    rw [cut_from1]
    unfold nT
    rw [List.map_drop]
  have hl : evL (callD Φ k) (.comp [("one", 1), ("other", 2)] (.tp (.cons (.nm 1) (.cons (.nm 2) .nil))) (.zip (.of (.of (.v 0))) (.of (.of (.sl (.v 0) (.at (.c (.int 1))) .no)))) .nil (.cmp .lt (.v 1) (.v 2))) [some (nT l), none, none] st = .ok (true, ((l.zip (l.drop 1)).map fun _ => true).map D.bl) st := by
    refine (comp_map (l.zip (l.drop 1)) (fun q => D.tup [.int (q.1 : Int), .int (q.2 : Int)]) (fun _ => D.bl true) (i_zipT rfl hc) ?_ (by rw [List.length_zip]; omega) fun q hq => ⟨_, rfl, e_cmp rfl rfl ?_⟩).trans ?_
    · show some (((l.map fun (i : Nat) => D.int (i : Int)).zip ((l.drop 1).map fun (i : Nat) => D.int (i : Int))).map fun p => D.tup [p.1, p.2]) = _
      rw [List.zip_map, List.map_map]
      rfl
    · have := zip_adj ha q hq
      rw [cmp_lt, decide_eq_true (by omega)]
    · rw [List.map_map]; rfl
  refine ss_ret ((e_allOf hl).trans ?_)
  rw [List.all_map]
  simp
theorem e43 (h : H43 Φ) (n : Nat) (l : List Nat) (hl : Lot n l) (hn : n ≤ 1000) (st : Store) : callD Φ (k + 3) 43 [nT l, .int ((n : Int) - 1)] st = .ok (.bl true) st := by
  have hz := hl.len
  refine call_ev0 h.self rfl ?_ rfl
  rw [runD_eq (env := [some (nT l), some (.int ((n : Int) - 1)), none]) rfl]
  have hc : evL (callD Φ (k + 2)) (.comp [("each", 2)] (.nm 2) (.of (.of (.v 0))) .nil (.call 1 (.cons (.v 2) (.cons (.c (.int 0)) (.cons (.v 1) .nil))))) [some (nT l), some (.int ((n : Int) - 1)), none] st = .ok (true, (l.map fun _ => true).map D.bl) st := by
    refine (comp_map l (fun (i : Nat) => D.int (i : Int)) (fun _ => D.bl true) (i_tup rfl) rfl (by omega) fun t ht => ⟨_, rfl, e_call (s_cons rfl (s_cons rfl (s_cons rfl s_nil))) ?_⟩).trans (by rw [List.map_map]; rfl)
    have := e1 (k := k) h.c1 t 0 ((n : Int) - 1) st
    have ht := hl.lt t ht
    rw [decide_eq_true (by omega : (0 : Int) ≤ t), decide_eq_true (by omega : (t : Int) ≤ (n : Int) - 1)] at this
    exact this
  refine ss_ret (e_bools (b_on rfl (b_on ((e_allOf hc).trans ?_) (b_last (e_call (s_cons rfl s_nil) (e3n (k := k + 1) h.c3 l (by omega) hl.asc st))))))
  rw [List.all_map]
  simp
theorem e44 (h : H44 Φ) (n : Nat) (as : List (Nat × Nat)) (l : List Nat) (hl : Lot n l) (hn : n ≤ 1000) (st : Store) : callD Φ (k + 4) 44 [wb n as, nT l] st = .ok (.bl true) st := by
  refine call_ev0 h.self rfl ?_ rfl
  rw [runD_eq (env := [some (wb n as), some (nT l)]) rfl]
  exact ss_ret (e_call (s_cons rfl (s_cons (e_bin rfl rfl rfl) s_nil)) (e43 (k := k) h.c43 n l hl hn st))
def rowsD (n : Nat) (as : List (Nat × Nat)) (Z O : List Nat) : D := .tup [rowsL n (pars as), nT Z, nT O]
theorem e45 (h : H45 Φ) (n : Nat) (as : List (Nat × Nat)) (w : WOk n as) (Z O : List Nat) (s : Nat × Bool) (hs : s.1 < n) (st : Store) : callD Φ (k + 1) 45 [rowsD n as Z O, nL (List.range n), stD s] st = .ok (.lst ((nxL n as Z O s).map stD)) st := by
  obtain ⟨t, led⟩ := s
  have hn := w.hn
  have hpl := pars_len w t
  have hs : t < n := hs
  refine call_ev0 h.self rfl ?_ (by simp only [D.pure]; exact pures_map _ (fun _ => rfl) _)
  rw [runD_eq (env := [some (rowsD n as Z O), some (nL (List.range n)), some (stD (t, led)), none, none, none, none, none, none, none, none]) rfl]
  refine ss_asg rfl rfl (ss_asg rfl rfl ?_)
  have hix : ∀ y, y < n → ixD (rowsL n (pars as)) (.int (y : Int)) st = .ok (nT (pars as y)) st := fun y hy => ix_lst st (by rw [List.getElem?_map, List.getElem?_range hy]; rfl)
  refine ss_asg (d := .lst ((pars as t).map fun p => stD (p, false))) (st1 := st) (e_fz (comp_map (pars as t) (fun (p : Nat) => D.int (p : Int)) (fun p => stD (p, false)) (i_tup (ds := (pars as t).map fun (p : Nat) => .int (p : Int)) (e_ix rfl rfl (hix t hs))) rfl (by omega) fun p _ => ⟨_, rfl, e_tup (s_cons rfl (s_cons rfl s_nil)) (by show 2 ≤ 16777216; decide)⟩)) rfl ?_
  refine ss_asg (d := .lst ((kidsR n as t).map fun p => stD (p, true))) (st1 := st) (e_fz (comp_filter (List.range n) (fun (p : Nat) => D.int (p : Int)) (fun o => decide (t ∈ pars as o)) (fun p => stD (p, true)) (i_lst rfl) rfl (by rw [List.length_range]; omega) fun p hp => ⟨_, rfl, e_cmp rfl (e_ix rfl rfl (hix p (List.mem_range.mp hp))) (isin_nT _ _ _), fun _ => e_tup (s_cons rfl (s_cons rfl s_nil)) (by show 2 ≤ 16777216; decide)⟩)) rfl ?_
  have hkl : (kidsR n as t).length ≤ n := Nat.le_trans (List.length_filter_le _ _) (by rw [List.length_range]; exact Nat.le_refl _)
  have hno : evE (callD Φ k) (.fz (.disp .nil)) [some (rowsD n as Z O), some (nL (List.range n)), some (stD (t, led)), some (.lst ((pars as t).map fun p => stD (p, false))), some (.lst ((kidsR n as t).map fun p => stD (p, true))), some (.int (t : Int)), some (.bl led), some (rowsL n (pars as)), some (nT Z), some (nT O), none] st = .ok (.lst []) st := e_fz (l_disp s_nil (by decide))
  by_cases hZ : t ∈ Z
  · refine ss_if_f (st1 := st) (e_cmp rfl rfl ((notin_nT Z t st).trans (by rw [decide_eq_true hZ]; rfl))) (ss_ret ?_)
    unfold nxL
    rw [if_pos (decide_eq_true hZ)]
    refine (e_ite (bb := led) (v := .lst ((pars as t).map fun p => stD (p, false))) (w := .lst []) rfl (fun _ => rfl) fun _ => hno).trans ?_
    cases led with
    | true => simp only [if_true, List.map_map]; rfl
    | false => rfl
  · refine ss_if_t (st1 := st) (e_cmp rfl rfl ((notin_nT Z t st).trans (by rw [decide_eq_false hZ]; rfl))) ?_
    unfold nxL
    rw [if_neg (by simp [hZ])]
    refine (e_bin (x := .lst ((kidsR n as t).map fun p => stD (p, true))) (st1 := st) (st2 := st) rfl (e_ite (bb := !led || decide (t ∈ O)) (v := .lst ((pars as t).map fun p => stD (p, false))) (w := .lst []) (e_bools (b_or (e_not rfl) fun _ => b_last (e_cmp rfl rfl (isin_nT O t st)))) (fun _ => rfl) fun _ => hno) ?_)
    cases (!led || decide (t ∈ O)) with
    | true =>
      refine (cat_lst st (by simp only [List.length_map]; omega)).trans ?_
      simp only [if_true, List.map_append, List.map_map]
      rfl
    | false =>
      refine (cat_lst st (by simp only [List.length_map, List.length_nil]; omega)).trans ?_
      simp
end
end PyD
namespace PyD
open PySem
theorem s_whil {σ : Type} {cal : Cal} {c : E} {bd : Ss} (m : σ → Nat) (I : σ → Env → Store → Prop) (done : σ → Prop)
    (hs : ∀ s env st, I s env st → (done s ∧ evE cal c env st = .ok (.bl false) st) ∨ (∃ s' env' st', evE cal c env st = .ok (.bl true) st ∧ evSs cal bd env st = .ok (.nx, env') st' ∧ I s' env' st' ∧ m s' < m s))
    {s : σ} {env : Env} {st : Store} (h : I s env st) (hm : m s < fuelW) : ∃ s' env' st', evS cal (.whil c bd) env st = .ok (.nx, env') st' ∧ I s' env' st' ∧ done s' := by
  have go : ∀ (n : Nat) (s : σ) (env : Env) (st : Store), m s < n → I s env st → ∃ s' env' st', whileL (fun env st => evE cal c env st) (fun env st => evSs cal bd env st) n env st = .ok (.nx, env') st' ∧ I s' env' st' ∧ done s' := by
    intro n
    induction n with
    | zero => intro s env st h; omega
    | succ n ih =>
      intro s env st hn h
      unfold whileL
      rcases hs s env st h with ⟨h1, h2⟩ | ⟨s', env', st', h1, h2, h3, h4⟩
      · simp only [h2, R.bind_ok]
        exact ⟨s, env, st, rfl, h, h1⟩
      · simp only [h1, R.bind_ok, h2]
        exact ih s' env' st' (by omega) h3
  have e : evS cal (.whil c bd) env st = whileL (fun env st => evE cal c env st) (fun env st => evSs cal bd env st) fuelW env st := by rw [evS]
  rw [e]
  exact go fuelW s env st hm h
theorem comp_from {cal : Cal} {own : List (Str × Nat)} {t : T} {i i2 : I} {cs : Es} {elt : E} {env : Env} {st st0 : Store} {J : It} (h : evI cal i env st = .ok J st0) (h2 : evI cal i2 env st0 = .ok J st0) : evL cal (.comp own t i cs elt) env st = evL cal (.comp own t i2 cs elt) env st0 := by rw [evL, evL, h, h2]
theorem i_ref {cal : Cal} {env : Env} {st st1 : Store} {e : E} {a : Nat} {ds : List D} (h : evE cal e env st = .ok (.ref a) st1) (hi : st1[a]? = some (.lst ds)) : evI cal (.of (.of e)) env st = .ok (.lv a) st1 := by
  rw [evI, h, R.bind_ok]
  simp only [lstAt, hi]
theorem all_ref {st : Store} {a : Nat} {ds : List D} (hi : st[a]? = some (.lst ds)) : It.all (.lv a) st = some ds := by simp only [It.all, lstAt, hi]
/-- each once, ascending -/
def uN (l : List Nat) : List Nat := (usort (nI l)).map Int.toNat
theorem uN_nI (l : List Nat) : nI (uN l) = usort (nI l) := by
  unfold uN
  conv => rhs; rw [← List.map_id (usort (nI l))]
  unfold nI
  rw [List.map_map]
  refine List.map_congr_left fun x hx => ?_
  have h := mem_usort.mp hx
  obtain ⟨y, _, rfl⟩ := List.mem_map.mp h
  rfl
theorem mem_uN {l : List Nat} {x : Nat} : x ∈ uN l ↔ x ∈ l := by rw [← mem_nI, uN_nI, mem_usort, mem_nI]
theorem uN_asc (l : List Nat) : (uN l).Pairwise (· < ·) := by
  have h := usort_asc (nI l)
  rw [← uN_nI] at h
  unfold nI at h
  rw [List.pairwise_map] at h
  exact h.imp fun h => by omega
theorem uN_lot {n : Nat} {l : List Nat} (h : ∀ x ∈ l, x < n) : Lot n (uN l) := ⟨uN_asc l, fun x hx => h x (mem_uN.mp hx)⟩
theorem l_uN {cal : Cal} {env : Env} {st st1 : Store} {l : L} {bb : Bool} {ns : List Nat} (h : evL cal l env st = .ok (bb, ns.map fun (i : Nat) => D.int (i : Int)) st1) (hz : ns.length < 64) : evL cal (.sortedSet l) env st = .ok (true, (uN ns).map fun (i : Nat) => D.int (i : Int)) st1 := by
  have e : ∀ l : List Nat, (l.map fun (i : Nat) => D.int (i : Int)) = (nI l).map .int := fun l => by unfold nI; rw [List.map_map]; rfl
  rw [e] at h
  rw [e, uN_nI]
  exact l_sset h (by unfold nI; rw [List.length_map]; exact hz)
theorem e_pop {cal : Cal} {env : Env} {st : Store} {a : E} {i : Nat} {ds : List D} {d : D} (ha : evE cal a env st = .ok (.ref i) st) (hi : st[i]? = some (.lst (ds ++ [d]))) : evE cal (.pop a) env st = .ok d (st.set i (.lst ds)) := by
  rw [evE, ha, R.bind_ok]
  simp only [hi]
  rw [List.length_append, List.getElem?_append_right (by simp)]
  simp
/-- what one gets to -/
noncomputable def reachL (n : Nat) (as : List (Nat × Nat)) (one Z : List Nat) : List Nat := (List.range n).filter fun t => @decide (t ∉ one ∧ t ∉ Z ∧ ∃ x ∈ one, Con as Z x t) (Classical.propDecidable _)
theorem mem_reachL {n : Nat} {as : List (Nat × Nat)} {one Z : List Nat} {t : Nat} : t ∈ reachL n as one Z ↔ t < n ∧ t ∉ one ∧ t ∉ Z ∧ ∃ x ∈ one, Con as Z x t := by
  unfold reachL
  rw [List.mem_filter, List.mem_range, @decide_eq_true_iff _ (Classical.propDecidable _)]
theorem reachL_lot (n : Nat) (as : List (Nat × Nat)) (one Z : List Nat) : Lot n (reachL n as one Z) := (Lot.range n).filter _
theorem st_notinR (l : List (Nat × Bool)) (x : Nat × Bool) (a : Nat) (st : Store) (hs : st[a]? = some (.lst (l.map stD))) : cmpD .notin (stD x) (.ref a) st = .ok (.bl (!decide (x ∈ l))) st := by
  rw [enc_st.notinR l x a st hs]
  congr 3
  exact decide_eq_decide.mpr Iff.rfl
/-- a code of a state -/
def cdS (s : Nat × Bool) : Nat := 2 * s.1 + (if s.2 then 1 else 0)
theorem cdS_inj {a b : Nat × Bool} (h : cdS a = cdS b) : a = b := by
  obtain ⟨a1, a2⟩ := a
  obtain ⟨b1, b2⟩ := b
  unfold cdS at h
  cases a2 <;> cases b2 <;> simp at h ⊢ <;> omega
theorem seen_len {n : Nat} {l : List (Nat × Bool)} (hn : l.Nodup) (hl : ∀ s ∈ l, s.1 < n) : l.length ≤ 2 * n := by
  have h1 : (l.map cdS).Nodup := List.pairwise_map.mpr (hn.imp fun h e => h (cdS_inj e))
  have := len_sub (l := l.map cdS) (b := List.range (2 * n)) h1 fun x hx => by
    obtain ⟨s, hs, rfl⟩ := List.mem_map.mp hx
    have := hl s hs
    refine List.mem_range.mpr ?_
    unfold cdS
    split <;> omega
  rwa [List.length_map, List.length_range] at this
theorem nxL_nodup {n : Nat} {as : List (Nat × Nat)} (h : as.Nodup) (Z O : List Nat) (s : Nat × Bool) : (nxL n as Z O s).Nodup := by
  have hu : ((pars as s.1).map fun p => (p, false)).Nodup := List.pairwise_map.mpr ((pars_nodup h s.1).imp fun h e => h (Prod.mk.inj e).1)
  have hd : ((kidsR n as s.1).map fun c => (c, true)).Nodup := List.pairwise_map.mpr ((List.Pairwise.filter _ List.nodup_range).imp fun h e => h (Prod.mk.inj e).1)
  unfold nxL
  split
  · split
    · exact hu
    · exact List.nodup_nil
  · refine List.nodup_append.mpr ⟨hd, ?_, fun a ha b hb e => ?_⟩
    · split
      · exact hu
      · exact List.nodup_nil
    · obtain ⟨c, _, rfl⟩ := List.mem_map.mp ha
      split at hb
      · obtain ⟨p, _, rfl⟩ := List.mem_map.mp hb
        cases e
      · cases hb
theorem nxL_lt {n : Nat} {as : List (Nat × Nat)} (w : WOk n as) {Z O : List Nat} {s s' : Nat × Bool} (h : s' ∈ nxL n as Z O s) : s'.1 < n := by
  have := (mem_nxL w Z O s s').mp h
  cases this with
  | dn _ e => exact (w.lt _ e).2
  | u0 _ e => exact (w.lt _ e).1
  | uo _ _ e => exact (w.lt _ e).1
  | u1 _ e => exact (w.lt _ e).1
/-- what holds while one goes on: what was seen, what is left in line -/
structure Rin (n : Nat) (as : List (Nat × Nat)) (one Z O : List Nat) (p : List (Nat × Bool) × List (Nat × Bool)) : Prop where
  nod : p.1.Nodup
  lt : ∀ s ∈ p.1, s.1 < n
  lin : ∀ s ∈ p.2, s ∈ p.1
  rch : ∀ s ∈ p.1, ∃ x ∈ one, Star (N1 as Z O) (x, false) s
  clo : ∀ s ∈ p.1, s ∉ p.2 → ∀ s' ∈ nxL n as Z O s, s' ∈ p.1
  beg : ∀ x ∈ one, (x, false) ∈ p.1
  len : p.2.length ≤ p.1.length
theorem Rin.step {n : Nat} {as : List (Nat × Nat)} {one Z O : List Nat} (w : WOk n as) (h : as.Nodup) {seen line : List (Nat × Bool)} {s : Nat × Bool} (r : Rin n as one Z O (seen, line ++ [s])) :
    Rin n as one Z O (seen ++ (nxL n as Z O s).filter fun s' => !decide (s' ∈ seen), line ++ (nxL n as Z O s).filter fun s' => !decide (s' ∈ seen)) := by
  have hs : s ∈ seen := r.lin s (List.mem_append_right _ (List.mem_singleton.mpr rfl))
  have hm : ∀ {x : Nat × Bool}, x ∈ ((nxL n as Z O s).filter fun s' => !decide (s' ∈ seen)) ↔ x ∈ nxL n as Z O s ∧ x ∉ seen := by
    intro x
    rw [List.mem_filter, Bool.not_eq_true', decide_eq_false_iff_not]
  refine ⟨?_, ?_, ?_, ?_, ?_, ?_, ?_⟩
  · exact List.nodup_append.mpr ⟨r.nod, (nxL_nodup h Z O s).filter _, fun a ha b hb e => (hm.mp hb).2 (e ▸ ha)⟩
  · intro x hx
    rcases List.mem_append.mp hx with hx | hx
    · exact r.lt x hx
    · exact nxL_lt w (hm.mp hx).1
  · intro x hx
    rcases List.mem_append.mp hx with hx | hx
    · exact List.mem_append_left _ (r.lin x (List.mem_append_left _ hx))
    · exact List.mem_append_right _ hx
  · intro x hx
    rcases List.mem_append.mp hx with hx | hx
    · exact r.rch x hx
    · obtain ⟨o, ho, hg⟩ := r.rch s hs
      exact ⟨o, ho, hg.snoc ((mem_nxL w Z O s x).mp (hm.mp hx).1)⟩
  · intro x hx hx2 y hy
    rcases List.mem_append.mp hx with hx | hx
    · by_cases hxs : x = s
      · subst hxs
        by_cases hys : y ∈ seen
        · exact List.mem_append_left _ hys
        · exact List.mem_append_right _ (hm.mpr ⟨hy, hys⟩)
      · refine List.mem_append_left _ (r.clo x hx (fun hl => ?_) y hy)
        rcases List.mem_append.mp hl with hl | hl
        · exact hx2 (List.mem_append_left _ hl)
        · exact hxs (List.mem_singleton.mp hl)
    · exact absurd (List.mem_append_right _ hx) hx2
  · exact fun x hx => List.mem_append_left _ (r.beg x hx)
  · have := r.len
    simp only [List.length_append, List.length_cons] at this ⊢
    omega
theorem Rin.all {n : Nat} {as : List (Nat × Nat)} {one Z O : List Nat} (w : WOk n as) {seen : List (Nat × Bool)} (r : Rin n as one Z O (seen, [])) (s : Nat × Bool) : s ∈ seen ↔ ∃ x ∈ one, Star (N1 as Z O) (x, false) s := by
  refine ⟨r.rch s, ?_⟩
  rintro ⟨x, hx, h⟩
  exact h.ind (P := fun s => s ∈ seen) (r.beg x hx) fun b c _ hb hr => r.clo b hb (fun h => nomatch h) c ((mem_nxL w Z O b c).mpr hr)
section
variable {Φ : Nat → Option FD} {k : Nat}
theorem e46 (h : H46 Φ) (n : Nat) (as : List (Nat × Nat)) (w : WOk n as) (hnd : as.Nodup) (one Z : List Nat) (ho : Lot n one) (hZ : Lot n Z) (st : Store) : callD Φ (k + 5) 46 [wb n as, nT one, nT Z] st = .ok (nT (reachL n as one Z)) st := by
  have hn := w.hn
  have hl := w.len
  have hol := ho.len
  have hzl := hZ.len
  let O := abvL n as Z
  have hO : ∀ x, x ∈ O ↔ ∃ g ∈ Z, Up as g x := fun x => mem_abvL w hnd hZ.lt hZ.nodup x
  let env := fun (o8 : Option D) => [some (wb n as), some (nT one), some (nT Z), some (.ref st.length), some (.ref (st.length + 1)), none, some (rowsD n as Z O), some (nL (List.range n)), o8, none, none, none]
  let sto2 := fun (seen line : List (Nat × Bool)) => st ++ [MO.lst (seen.map stD), MO.lst (line.map stD)]
  have g1 : ∀ seen line, (sto2 seen line)[st.length]? = some (.lst (seen.map stD)) := fun seen line => by
    show (st ++ _)[st.length]? = _
    rw [List.getElem?_append_right (Nat.le_refl _), Nat.sub_self]; rfl
  have g2 : ∀ seen line, (sto2 seen line)[st.length + 1]? = some (.lst (line.map stD)) := fun seen line => by
    show (st ++ _)[st.length + 1]? = _
    rw [List.getElem?_append_right (by omega), Nat.add_sub_cancel_left]; rfl
  have s1 : ∀ seen line seen', (sto2 seen line).set st.length (.lst (seen'.map stD)) = sto2 seen' line := fun seen line seen' => by
    show (st ++ _).set st.length _ = st ++ _
    rw [List.set_append_right _ _ (Nat.le_refl _), Nat.sub_self]; rfl
  have s2 : ∀ seen line line', (sto2 seen line).set (st.length + 1) (.lst (line'.map stD)) = sto2 seen line' := fun seen line line' => by
    show (st ++ _).set (st.length + 1) _ = st ++ _
    rw [List.set_append_right _ _ (by omega), Nat.add_sub_cancel_left]; rfl
  let beg : List (Nat × Bool) := one.map fun t => (t, false)
  have R0 : Rin n as one Z O (beg, beg) := by
    refine ⟨List.pairwise_map.mpr (ho.nodup.imp fun h e => h (Prod.mk.inj e).1), fun s hs => ?_, fun s hs => hs, fun s hs => ?_, fun s hs hn => absurd hs hn, fun x hx => List.mem_map.mpr ⟨x, hx, rfl⟩, Nat.le_refl _⟩
    · obtain ⟨t, ht, rfl⟩ := List.mem_map.mp hs
      exact ho.lt t ht
    · obtain ⟨t, ht, rfl⟩ := List.mem_map.mp hs
      exact ⟨t, ht, .nil⟩
  obtain ⟨⟨seen, line⟩, env1, st1, hw, ⟨hR, o8, he, hst⟩, hd⟩ := s_whil (cal := callD Φ (k + 4)) (c := .cmp .ne (.v 4) (.fz (.disp .nil))) (bd := (.cons (.asg (.nm 8) (.fz (.comp [("own", 10)] (.nm 10) (.of (.of (.call 45 (.cons (.v 6) (.cons (.v 7) (.cons (.pop (.v 4)) .nil)))))) (.cons (.cmp .notin (.v 10) (.v 3)) .nil) (.v 10)))) (.cons (.ex (.ext (.v 3) (.of (.v 8)))) (.cons (.ex (.ext (.v 4) (.of (.v 8)))) .nil))))
    (fun p : List (Nat × Bool) × List (Nat × Bool) => 2 * (2 * n - p.1.length) + p.2.length)
    (fun p e s => Rin n as one Z O p ∧ ∃ o8, e = env o8 ∧ s = sto2 p.1 p.2) (fun p => p.2 = [])
    (by
      rintro ⟨seen, line⟩ e s ⟨R, o8, rfl, rfl⟩
      have hsl := seen_len R.nod R.lt
      have hcmp : evE (callD Φ (k + 4)) (.cmp .ne (.v 4) (.fz (.disp .nil))) (env o8) (sto2 seen line) = .ok (.bl (!D.eqv (.lst (line.map stD)) (.lst []))) (sto2 seen line) := by
        refine e_cmp rfl (e_fz (l_disp s_nil (by decide))) ?_
        have h2 : see (sto2 seen line) depthL (.ref (st.length + 1)) = some (.lst (line.map stD)) := by
          show (match (sto2 seen line)[st.length + 1]? with | some (.lst ds) => (ds.mapM (PyD.see (sto2 seen line) 39)).map D.lst | _ => none) = _
          rw [g2]
          simp only
          rw [see_pures _ 39 _ (enc_st.pures line) (by have := enc_st.deep line; omega)]
          rfl
        have h3 : see (sto2 seen line) depthL (.lst []) = some (.lst []) := rfl
        simp only [cmpD, h2, h3]
        rfl
      by_cases hln : line = []
      · left
        refine ⟨hln, ?_⟩
        rw [hcmp, hln]
        rfl
      · right
        obtain ⟨l0, x, rfl⟩ : ∃ l0 x, line = l0 ++ [x] := ⟨line.dropLast, line.getLast hln, (List.dropLast_concat_getLast hln).symm⟩
        have hx : x.1 < n := R.lt x (R.lin x (List.mem_append_right _ (List.mem_singleton.mpr rfl)))
        let more := (nxL n as Z O x).filter fun s' => !decide (s' ∈ seen)
        have R' := R.step w hnd
        have hsl' := seen_len R'.nod R'.lt
        have hll : ∀ p ∈ l0, p ∈ seen := fun p hp => R.lin p (List.mem_append_left _ hp)
        have hnl : (nxL n as Z O x).length ≤ 2 * n := seen_len (nxL_nodup hnd Z O x) fun s' hs' => nxL_lt w hs'
        have hml : more.length ≤ 2 * n := Nat.le_trans (List.length_filter_le _ _) hnl
        have hlen := R.len
        have hlen' := R'.len
        simp only [List.length_append, List.length_cons, List.length_nil] at hlen hsl'
        have hpop : evE (callD Φ (k + 4)) (.pop (.v 4)) (env o8) (sto2 seen (l0 ++ [x])) = .ok (stD x) (sto2 seen l0) := by
          refine (e_pop (i := st.length + 1) (ds := l0.map stD) (d := stD x) rfl ((g2 _ _).trans (by rw [List.map_append]; rfl))).trans ?_
          rw [s2]
        have hmore : evE (callD Φ (k + 4)) (.fz (.comp [("own", 10)] (.nm 10) (.of (.of (.call 45 (.cons (.v 6) (.cons (.v 7) (.cons (.pop (.v 4)) .nil)))))) (.cons (.cmp .notin (.v 10) (.v 3)) .nil) (.v 10))) (env o8) (sto2 seen (l0 ++ [x])) = .ok (.lst (more.map stD)) (sto2 seen l0) := by
          refine e_fz ((comp_from (i2 := .of (.of (.c (.lst ((nxL n as Z O x).map stD))))) (i_lst (e_call (s_cons rfl (s_cons rfl (s_cons hpop s_nil))) (e45 (k := k + 3) h.c45 n as w Z O x hx _))) rfl).trans ?_)
          exact comp_filter (nxL n as Z O x) stD (fun s' => !decide (s' ∈ seen)) stD rfl rfl (by omega) fun y _ => ⟨_, rfl, e_cmp rfl rfl (st_notinR seen y st.length _ (g1 _ _)), fun _ => rfl⟩
        refine ⟨(seen ++ more, l0 ++ more), env (some (.lst (more.map stD))), sto2 (seen ++ more) (l0 ++ more), ?_, ?_, ⟨R', _, rfl, rfl⟩, ?_⟩
        · rw [hcmp]
          have : (l0 ++ [x]).map stD ≠ [] := by simp
          cases e : (l0 ++ [x]).map stD with
          | nil => exact absurd e this
          | cons a b => rfl
        · refine bs_asg hmore rfl ?_
          have x1 := e_ext (cal := callD Φ (k + 4)) (a := .v 3) (l := .of (.v 8)) (env := env (some (.lst (more.map stD)))) (i := st.length) (ds := seen.map stD) (xs := more.map stD) rfl (g1 seen l0) (l_of (x := .lst (more.map stD)) rfl rfl) (by rw [List.length_map, List.length_map]; omega)
          rw [← List.map_append, s1] at x1
          have x2 := e_ext (cal := callD Φ (k + 4)) (a := .v 4) (l := .of (.v 8)) (env := env (some (.lst (more.map stD)))) (i := st.length + 1) (ds := l0.map stD) (xs := more.map stD) rfl (g2 (seen ++ more) l0) (l_of (x := .lst (more.map stD)) rfl rfl) (by rw [List.length_map, List.length_map]; omega)
          rw [← List.map_append, s2] at x2
          exact bs_ex x1 (bs_ex x2 bs_nil)
        · show 2 * (2 * n - (seen ++ more).length) + (l0 ++ more).length < 2 * (2 * n - seen.length) + (l0 ++ [x]).length
          have hsl2 : (seen ++ more).length ≤ 2 * n := seen_len R'.nod R'.lt
          rw [List.length_append] at hsl2
          rw [List.length_append, List.length_append, List.length_append, List.length_singleton]
          omega)
    (s := (beg, beg)) (env := env none) (st := sto2 beg beg) ⟨R0, none, rfl, rfl⟩ (by
      show 2 * (2 * n - (one.map _).length) + (one.map _).length < 1000000
      rw [List.length_map]
      omega)
  subst he hst
  have hd : line = [] := hd
  subst hd
  have hsl : seen.length ≤ 2 * n := seen_len hR.nod hR.lt
  have hall := hR.all w
  refine call_ev [MO.lst (seen.map stD), MO.lst []] h.self rfl ?_ (nT_pure _)
  rw [runD_eq (env := [some (wb n as), some (nT one), some (nT Z), none, none, none, none, none, none, none, none, none]) rfl]
  have c10 := e10 (k := k + 3) h.c10 n as (by omega) (by omega) st
  have c13 := e13 (k := k) h.c13 n as w Z (by omega) (fun t ht => by have := hZ.lt t ht; omega) st
  have hrange : (List.range n).map (fun (i : Nat) => D.int (i : Int)) = (List.range ((n : Int)).toNat).map fun (i : Nat) => D.int (i : Int) := by rw [Int.toNat_natCast]
  have hthings : evE (callD Φ (k + 4)) (.fz (.listR (.ix (.v 0) (.c (.int 0))))) [some (wb n as), some (nT one), some (nT Z), none, none, none, none, none, none, none, none, none] st = .ok (nL (List.range n)) st := by
    have hl1 : evL (callD Φ (k + 4)) (.listR (.ix (.v 0) (.c (.int 0)))) [some (wb n as), some (nT one), some (nT Z), none, none, none, none, none, none, none, none, none] st = .ok (true, (List.range n).map fun (i : Nat) => D.int (i : Int)) st := by
      rw [evL, e_ix (x := wb n as) (y := .int 0) (r := .ok (.int (n : Int)) st) rfl rfl rfl, R.bind_ok]
      simp only [Int.toNat_natCast]
      rw [if_pos (by rw [smallI_le (by omega) (by omega), small_of (by omega)]; rfl)]
    exact e_fz hl1
  refine ss_asg (env1 := [some (wb n as), some (nT one), some (nT Z), none, none, none, some (rowsD n as Z O), some (nL (List.range n)), none, none, none, none]) (e_tup (s_cons (e_tup (s_cons (e_call (s_cons rfl s_nil) c10) (s_cons rfl (s_cons (e_call (s_cons rfl (s_cons rfl s_nil)) c13) s_nil))) (by show 3 ≤ 16777216; decide)) (s_cons hthings s_nil)) (by show 2 ≤ 16777216; decide)) rfl ?_
  refine ss_asg (d := .ref st.length) (st1 := st ++ [.lst (beg.map stD)]) (e_ls ((comp_map one (fun (i : Nat) => D.int (i : Int)) (fun t => stD (t, false)) (i_tup rfl) rfl (by omega) fun y _ => ⟨_, rfl, e_tup (s_cons rfl (s_cons rfl s_nil)) (by show 2 ≤ 16777216; decide)⟩).trans (by show R.ok (true, _) st = R.ok (true, _) st; rw [List.map_map]; rfl))) rfl ?_
  have hline : evE (callD Φ (k + 4)) (.ls (.listOf (.of (.v 3)))) [some (wb n as), some (nT one), some (nT Z), some (.ref st.length), none, none, some (rowsD n as Z O), some (nL (List.range n)), none, none, none, none] (st ++ [.lst (beg.map stD)]) = .ok (.ref (st.length + 1)) (sto2 beg beg) := by
    have hl1 : evL (callD Φ (k + 4)) (.listOf (.of (.v 3))) [some (wb n as), some (nT one), some (nT Z), some (.ref st.length), none, none, some (rowsD n as Z O), some (nL (List.range n)), none, none, none, none] (st ++ [.lst (beg.map stD)]) = .ok (true, beg.map stD) (st ++ [.lst (beg.map stD)]) := by
      rw [evL, l_of (x := .ref st.length) (bb := true) (ds := beg.map stD) rfl (items_ref (get_last _ _)), R.bind_ok]
    refine (e_ls hl1).trans ?_
    rw [List.length_append, List.append_assoc]
    rfl
  refine ss_asg hline rfl (ss_s hw ?_)
  have hseen : evL (callD Φ (k + 4)) (.comp [("thing", 9), ("is_led", 11)] (.tp (.cons (.nm 9) (.cons (.nm 11) .nil))) (.of (.of (.v 3))) .nil (.v 9)) (env o8) (sto2 seen []) = .ok (true, (seen.map (·.1)).map fun (i : Nat) => D.int (i : Int)) (sto2 seen []) := by
    refine (comp_map seen stD (fun s => D.int (s.1 : Int)) (i_ref rfl (g1 _ _)) (all_ref (g1 _ _)) (by omega) fun s _ => ⟨_, rfl, rfl⟩).trans ?_
    rw [List.map_map]
    rfl
  have hus : (uN (seen.map (·.1))).length ≤ n := (uN_lot (n := n) fun x hx => by
    obtain ⟨s, hs, rfl⟩ := List.mem_map.mp hx
    exact hR.lt s hs).len
  refine ss_asg (e_fz (l_uN hseen (by rw [List.length_map]; omega))) rfl (ss_ret ?_)
  refine (e_tupOf (comp_filter (uN (seen.map (·.1))) (fun (i : Nat) => D.int (i : Int)) (fun t => !decide (t ∈ one) && !decide (t ∈ Z)) (fun (i : Nat) => D.int (i : Int)) (i_lst rfl) rfl (by omega) fun t _ => ⟨_, rfl, e_bools (b_and (e_cmp rfl rfl (notin_nT one t _)) fun _ => b_last (e_cmp rfl rfl (notin_nT Z t _))), fun _ => rfl⟩)).trans ?_
  have key : (uN (seen.map (·.1))).filter (fun t => !decide (t ∈ one) && !decide (t ∈ Z)) = reachL n as one Z := by
    refine Lot.same (n := n) (Lot.filter (uN_lot fun x hx => by
      obtain ⟨s, hs, rfl⟩ := List.mem_map.mp hx
      exact hR.lt s hs) _) (reachL_lot n as one Z) fun t => ?_
    rw [List.mem_filter, mem_uN, mem_reachL, List.mem_map, Bool.and_eq_true, Bool.not_eq_true', Bool.not_eq_true', decide_eq_false_iff_not, decide_eq_false_iff_not]
    constructor
    · rintro ⟨⟨s, hs, rfl⟩, h1, h2⟩
      obtain ⟨x, hx, hg⟩ := (hall s).mp hs
      exact ⟨hR.lt s hs, h1, h2, x, hx, s.2, (star_same hO).mp hg⟩
    · rintro ⟨h0, h1, h2, x, hx, b, hg⟩
      exact ⟨⟨(t, b), (hall _).mpr ⟨x, hx, (star_same hO).mpr hg⟩, rfl⟩, h1, h2⟩
  rw [key]
  rfl
end
end PyD
namespace PyD
open PySem
section
variable {cal : Cal} {env env1 : Env} {st st1 st2 : Store} {a b e : E} {l : L} {es : Es} {bb : Bool} {ds ds2 : List D}
theorem e_anyOf {bs : List Bool} (h : evL cal l env st = .ok (true, bs.map D.bl) st1) : evE cal (.anyOf l) env st = .ok (.bl (bs.any id)) st1 := by
  have e : blsD (bs.map D.bl) = some bs := by
    clear h
    induction bs with
    | nil => rfl
    | cons b bs ih => simp only [List.map_cons, blsD, ih, Option.map_some]
  rw [evE, h, R.bind_ok]
  simp only [anyD, e, Option.map_some]
  rfl
theorem s_star (h : evL cal l env st = .ok (bb, ds) st1) (hs : evEs cal es env st1 = .ok ds2 st2) : evEs cal (.star l es) env st = .ok (ds ++ ds2) st2 := by rw [evEs, h, R.bind_ok, hs, R.bind_ok]
theorem i_zipL {xs ys : List D} (ha : evE cal a env st = .ok (.lst xs) st) (hb : evE cal b env st = .ok (.lst ys) st) : evI cal (.zip (.of (.of a)) (.of (.of b))) env st = .ok (.zip (.ds true xs) (.ds true ys)) st := by
  rw [evI, i_lst ha, R.bind_ok, i_lst hb, R.bind_ok]
  rfl
theorem any_in {i : I} {t : T} {own : List (Str × Nat)} {e : E} {J : It} (xs : List Nat) (p : Nat → Bool) (hi : evI cal i env st = .ok J st) (hJ : J.all st = some (xs.map fun (i : Nat) => D.int (i : Int))) (hz : xs.length ≤ 16777216)
    (ht : ∀ y ∈ xs, ∃ env1, asT cal t (.int (y : Int)) (wipeE env (own.map (·.2))) st = .ok env1 st ∧ evE cal e env1 st = .ok (.bl (p y)) st) : evE cal (.anyOf (.comp own t i .nil e)) env st = .ok (.bl (xs.any p)) st := by
  have h := e_anyOf (bs := xs.map p) ((comp_map xs (fun (i : Nat) => D.int (i : Int)) (fun y => D.bl (p y)) hi hJ hz ht).trans (by rw [List.map_map]; rfl))
  rw [List.any_map] at h
  exact h
theorem all_in {i : I} {t : T} {own : List (Str × Nat)} {e : E} {J : It} (xs : List Nat) (p : Nat → Bool) (hi : evI cal i env st = .ok J st) (hJ : J.all st = some (xs.map fun (i : Nat) => D.int (i : Int))) (hz : xs.length ≤ 16777216)
    (ht : ∀ y ∈ xs, ∃ env1, asT cal t (.int (y : Int)) (wipeE env (own.map (·.2))) st = .ok env1 st ∧ evE cal e env1 st = .ok (.bl (p y)) st) : evE cal (.allOf (.comp own t i .nil e)) env st = .ok (.bl (xs.all p)) st := by
  have h := e_allOf (bs := xs.map p) ((comp_map xs (fun (i : Nat) => D.int (i : Int)) (fun y => D.bl (p y)) hi hJ hz ht).trans (by rw [List.map_map]; rfl))
  rw [List.all_map] at h
  exact h
end
noncomputable def apartB (n : Nat) (as : List (Nat × Nat)) (one other Z : List Nat) : Bool := !(other.any fun t => decide (t ∈ reachL n as one Z))
structure L3 (n : Nat) (one other Z : List Nat) : Prop where
  l1 : Lot n one
  l2 : Lot n other
  l3 : Lot n Z
  n1 : one ≠ []
  n2 : other ≠ []
  d12 : ∀ x ∈ one, x ∉ other
  d13 : ∀ x ∈ one, x ∉ Z
  d23 : ∀ x ∈ other, x ∉ Z
theorem apartB_iff {n : Nat} {as : List (Nat × Nat)} {one other Z : List Nat} (h : L3 n one other Z) : apartB n as one other Z = true ↔ ∀ x ∈ one, ∀ y ∈ other, ¬ Con as Z x y := by
  unfold apartB
  rw [Bool.not_eq_true', List.any_eq_false]
  constructor
  · intro q x hx y hy hc
    exact q y hy (decide_eq_true (mem_reachL.mpr ⟨h.l2.lt y hy, fun z => h.d12 y z hy, h.d23 y hy, x, hx, hc⟩))
  · intro q y hy hd
    obtain ⟨_, _, _, x, hx, hc⟩ := mem_reachL.mp (of_decide_eq_true hd)
    exact q x hx y hy hc
def kptL (n : Nat) (as : List (Nat × Nat)) (one other Z : List Nat) : List Nat := abvL n as (one ++ (other ++ Z))
section
variable {Φ : Nat → Option FD} {k : Nat}
theorem e47 (h : H47 Φ) (n : Nat) (as : List (Nat × Nat)) (w : WOk n as) (hnd : as.Nodup) (one other Z : List Nat) (ho : Lot n one) (hp : Lot n other) (hZ : Lot n Z) (st : Store) : callD Φ (k + 6) 47 [wb n as, nT one, nT other, nT Z] st = .ok (.bl (apartB n as one other Z)) st := by
  have hn := w.hn
  have hpl := hp.len
  refine call_ev0 h.self rfl ?_ rfl
  rw [runD_eq (env := [some (wb n as), some (nT one), some (nT other), some (nT Z), none, none]) rfl]
  refine ss_asg (e_call (s_cons rfl (s_cons rfl (s_cons rfl s_nil))) (e46 (k := k) h.c46 n as w hnd one Z ho hZ st)) rfl (ss_ret ?_)
  exact e_not (any_in other (fun t => decide (t ∈ reachL n as one Z)) (i_tup rfl) rfl (by omega) fun y _ => ⟨_, rfl, e_cmp rfl rfl (isin_nT _ _ _)⟩)
theorem e48 (h : H48 Φ) (n : Nat) (as : List (Nat × Nat)) (hn : n ≤ 6) (ls : List (List Nat × Nat)) (hz : ls.length ≤ 10) (hl : ∀ p ∈ ls, Lot n p.1 ∧ p.2 ≤ p.1.length) (hd : ∀ (i : Nat) p, ls[i]? = some p → ∀ x ∈ p.1, x ∉ (ls.take i).flatMap (·.1)) (st : Store) :
    callD Φ (k + 5) 48 [wb n as, .lst (ls.map fun p => nT p.1), .lst (ls.map fun p => .int (p.2 : Int))] st = .ok .non st := by
  obtain ⟨env1, st1, h1, hb, o4, o5, he, hs⟩ := s_forI (cal := callD Φ (k + 4)) (t := .tp (.cons (.nm 4) (.cons (.nm 5) .nil))) (i := .zip (.of (.of (.v 1))) (.of (.of (.v 2)))) (bd := (.cons (.ifs (.bools false (.cons (.not (.call 44 (.cons (.v 0) (.cons (.v 4) .nil)))) (.cons (.cmp .lt (.b1 .len (.v 4)) (.v 5)) (.cons (.anyOf (.comp [("thing", 6)] (.nm 6) (.of (.of (.v 4))) .nil (.cmp .isin (.v 6) (.v 3)))) .nil)))) (.cons .never .nil) .nil) (.cons (.ex (.ext (.v 3) (.of (.v 4)))) .nil)))
    (env := [some (wb n as), some (.lst (ls.map fun p => nT p.1)), some (.lst (ls.map fun p => .int (p.2 : Int))), some (.ref st.length), none, none, none]) (st := st ++ [.lst []]) (st0 := st ++ [.lst []])
    ls (fun p => D.tup [nT p.1, .int (p.2 : Int)])
    (fun i (b : List Nat) env s => (b = (ls.take i).flatMap (·.1) ∧ b.length ≤ 6 * i) ∧ ∃ o4 o5, env = [some (wb n as), some (.lst (ls.map fun p => nT p.1)), some (.lst (ls.map fun p => .int (p.2 : Int))), some (.ref st.length), o4, o5, none] ∧ s = st ++ [.lst (nD b)]) (fun b p => b ++ p.1)
    (i_zipL rfl rfl) (b0 := []) ⟨⟨rfl, by simp⟩, none, none, rfl, rfl⟩
    (fun _ _ _ s _ => by
      show some (((ls.map fun p => nT p.1).zip (ls.map fun p => D.int (p.2 : Int))).map fun p => D.tup [p.1, p.2]) = _
      rw [List.zip_map', List.map_map]
      rfl)
    (by
      intro i p hi b env s ⟨⟨hb, hbl⟩, o4, o5, he, hs⟩
      subst he hs
      obtain ⟨hL, hfew⟩ := hl p (List.mem_of_getElem? hi)
      have hpl := hL.len
      have hil : i < ls.length := (List.getElem?_eq_some_iff.mp hi).1
      have hdi := hd i p hi
      rw [← hb] at hdi
      refine ⟨_, [some (wb n as), some (.lst (ls.map fun p => nT p.1)), some (.lst (ls.map fun p => .int (p.2 : Int))), some (.ref st.length), some (nT p.1), some (.int (p.2 : Int)), none], st ++ [.lst (nD (b ++ p.1))], rfl, ?_, ⟨?_, ?_⟩, _, _, rfl, rfl⟩
      · refine bs_if_f (st1 := st ++ [.lst (nD b)]) (e_bools (b_on (e_not (e_call (s_cons rfl (s_cons rfl s_nil)) (e44 (k := k) h.c44 n as p.1 hL (by omega) _))) (b_on ((e_cmp (e_b1 (x := nT p.1) rfl rfl) rfl (cmp_lt _ _ _)).trans ?_) (b_last ((any_in p.1 (fun x => decide (x ∈ b)) (i_tup rfl) rfl (by omega) fun y _ => ⟨_, rfl, e_cmp rfl rfl (isin_ref b y st.length _ (get_last _ _))⟩).trans ?_))))) ?_
        · rw [decide_eq_false (by rw [List.length_map]; omega)]; rfl
        · have : (p.1.any fun x => decide (x ∈ b)) = false := List.any_eq_false.mpr fun x hx => by rw [decide_eq_true_iff]; exact hdi x hx
          rw [this]; rfl
        · have x1 := e_ext2 (cal := callD Φ (k + 4)) (a := .v 3) (l := .of (.v 4)) (env := [some (wb n as), some (.lst (ls.map fun p => nT p.1)), some (.lst (ls.map fun p => .int (p.2 : Int))), some (.ref st.length), some (nT p.1), some (.int (p.2 : Int)), none]) (i := st.length) (ds := nD b) (xs := nD p.1) rfl (get_last st (.lst (nD b))) (l_of (x := nT p.1) rfl rfl) (by unfold nD; rw [List.length_map, List.length_map]; omega)
          rw [set_last] at x1
          have : nD b ++ nD p.1 = nD (b ++ p.1) := by unfold nD; rw [List.map_append]
          rw [this] at x1
          exact bs_ex x1 bs_nil
      · rw [hb, List.take_add_one, hi, List.flatMap_append]
        simp
      · rw [List.length_append]; omega)
  refine call_ev [MO.lst (nD (ls.foldl (fun b p => b ++ p.1) []))] h.self rfl ?_ rfl
  subst he hs
  rw [runD_eq (env := [some (wb n as), some (.lst (ls.map fun p => nT p.1)), some (.lst (ls.map fun p => .int (p.2 : Int))), none, none, none, none]) rfl]
  exact ss_asg (e_ls (l_disp s_nil (by decide))) rfl (ss_s h1 ss_nil)
theorem hd3 {one other Z : List Nat} (d12 : ∀ x ∈ one, x ∉ other) (d13 : ∀ x ∈ one, x ∉ Z) (d23 : ∀ x ∈ other, x ∉ Z) : ∀ (i : Nat) p, [(one, 1), (other, 1), (Z, 0)][i]? = some p → ∀ x ∈ p.1, x ∉ ([(one, 1), (other, 1), (Z, 0)].take i).flatMap (fun p : List Nat × Nat => p.1)
  | 0, p, e, x, hx => by simp
  | 1, p, e, x, hx => by
    cases e
    simp only [List.take_succ_cons, List.take_zero, List.flatMap_cons, List.flatMap_nil, List.append_nil]
    exact fun h => d12 x h hx
  | 2, p, e, x, hx => by
    cases e
    simp only [List.take_succ_cons, List.take_zero, List.flatMap_cons, List.flatMap_nil, List.append_nil, List.mem_append]
    rintro (h | h)
    · exact d13 x h hx
    · exact d23 x h hx
  | i + 3, p, e, x, hx => by simp at e
theorem len1 {l : List Nat} (h : l ≠ []) : 1 ≤ l.length := List.length_pos_iff.mpr h
theorem e49 (h : H49 Φ) (n : Nat) (as : List (Nat × Nat)) (w : WV n as) (one other Z : List Nat) (L : L3 n one other Z) (st : Store) : callD Φ (k + 7) 49 [wb n as, nT one, nT other, nT Z] st = .ok .non st := by
  refine call_ev0 h.self rfl ?_ rfl
  rw [runD_eq (env := [some (wb n as), some (nT one), some (nT other), some (nT Z)]) rfl]
  refine ss_ex (e_call (s_cons rfl s_nil) (e22 (k := k) h.c22 n as w st)) (ss_ex (d := .non) (st1 := st) (e_call (s_cons rfl (s_cons (e_fz (l_disp (s_cons rfl (s_cons rfl (s_cons rfl s_nil))) (by show 3 ≤ 16777216; decide))) (s_cons (e_fz (l_disp (s_cons rfl (s_cons rfl (s_cons rfl s_nil))) (by show 3 ≤ 16777216; decide))) s_nil))) ?_) ss_nil)
  refine e48 (k := k + 1) h.c48 n as w.hn [(one, 1), (other, 1), (Z, 0)] (by show 3 ≤ 10; decide) (fun p hp => ?_) (hd3 L.d12 L.d13 L.d23) st
  simp only [List.mem_cons, List.not_mem_nil, or_false] at hp
  rcases hp with rfl | rfl | rfl
  · exact ⟨L.l1, len1 L.n1⟩
  · exact ⟨L.l2, len1 L.n2⟩
  · exact ⟨L.l3, Nat.zero_le _⟩
theorem e50 (h : H50 Φ) (n : Nat) (as : List (Nat × Nat)) (w : WV n as) (one other Z : List Nat) (L : L3 n one other Z) (st : Store) : callD Φ (k + 8) 50 [wb n as, nT one, nT other, nT Z] st = .ok (.bl (apartB n as one other Z)) st := by
  refine call_ev0 h.self rfl ?_ rfl
  rw [runD_eq (env := [some (wb n as), some (nT one), some (nT other), some (nT Z)]) rfl]
  exact ss_ex (e_call (s_cons rfl (s_cons rfl (s_cons rfl (s_cons rfl s_nil)))) (e49 (k := k) h.c49 n as w one other Z L st)) (ss_ret (e_call (s_cons rfl (s_cons rfl (s_cons rfl (s_cons rfl s_nil)))) (e47 (k := k + 1) h.c47 n as w.toWOk (asc_nodup w.asc) one other Z L.l1 L.l2 L.l3 st)))
theorem e51 (h : H51 Φ) (n : Nat) (as : List (Nat × Nat)) (w : WV n as) (one Z : List Nat) (l1 : Lot n one) (l3 : Lot n Z) (n1 : one ≠ []) (d13 : ∀ x ∈ one, x ∉ Z) (st : Store) : callD Φ (k + 7) 51 [wb n as, nT one, nT Z] st = .ok (nT (reachL n as one Z)) st := by
  refine call_ev0 h.self rfl ?_ (nT_pure _)
  rw [runD_eq (env := [some (wb n as), some (nT one), some (nT Z)]) rfl]
  refine ss_ex (e_call (s_cons rfl s_nil) (e22 (k := k) h.c22 n as w st)) (ss_ex (d := .non) (st1 := st) (e_call (s_cons rfl (s_cons (e_fz (l_disp (s_cons rfl (s_cons rfl s_nil)) (by show 2 ≤ 16777216; decide))) (s_cons (e_fz (l_disp (s_cons rfl (s_cons rfl s_nil)) (by show 2 ≤ 16777216; decide))) s_nil))) ?_) (ss_ret (e_call (s_cons rfl (s_cons rfl (s_cons rfl s_nil))) (e46 (k := k + 1) h.c46 n as w.toWOk (asc_nodup w.asc) one Z l1 l3 st))))
  refine e48 (k := k + 1) h.c48 n as w.hn [(one, 1), (Z, 0)] (by show 2 ≤ 10; decide) (fun p hp => ?_) (fun i p e x hx => ?_) st
  · simp only [List.mem_cons, List.not_mem_nil, or_false] at hp
    rcases hp with rfl | rfl
    · exact ⟨l1, len1 n1⟩
    · exact ⟨l3, Nat.zero_le _⟩
  · match i with
    | 0 => simp
    | 1 =>
      cases e
      simp only [List.take_succ_cons, List.take_zero, List.flatMap_cons, List.flatMap_nil, List.append_nil]
      exact fun h => d13 x h hx
    | i + 2 => simp at e
theorem e52 (h : H52 Φ) (n : Nat) (as : List (Nat × Nat)) (w : WOk n as) (one other Z : List Nat) (l1 : Lot n one) (l2 : Lot n other) (l3 : Lot n Z) (st : Store) : callD Φ (k + 5) 52 [wb n as, nT one, nT other, nT Z] st = .ok (nT (kptL n as one other Z)) st := by
  have hn := w.hn
  have z1 := l1.len
  have z2 := l2.len
  have z3 := l3.len
  have hlen : (one ++ (other ++ Z)).length ≤ 18 := by rw [List.length_append, List.length_append]; omega
  refine call_ev0 h.self rfl ?_ (nT_pure _)
  rw [runD_eq (env := [some (wb n as), some (nT one), some (nT other), some (nT Z)]) rfl]
  have ht : evE (callD Φ (k + 4)) (.tup (.star (.of (.v 1)) (.star (.of (.v 2)) (.star (.of (.v 3)) .nil)))) [some (wb n as), some (nT one), some (nT other), some (nT Z)] st = .ok (nT (one ++ (other ++ Z))) st := by
    refine (e_tup (s_star (l_of (x := nT one) rfl rfl) (s_star (l_of (x := nT other) rfl rfl) (s_star (l_of (x := nT Z) rfl rfl) s_nil))) ?_).trans ?_
    · simp only [List.length_append, List.length_map, List.length_nil]; omega
    · unfold nT
      rw [List.map_append, List.map_append, List.append_nil]
  refine ss_ret (e_call (s_cons rfl (s_cons ht s_nil)) (e13 (k := k) h.c13 n as w _ (by omega) (fun t ht => ?_) st))
  rcases List.mem_append.mp ht with h | h
  · have := l1.lt t h; omega
  · rcases List.mem_append.mp h with h | h
    · have := l2.lt t h; omega
    · have := l3.lt t h; omega
end
def cdP (p : Nat × Nat) : Nat := p.1 * 64 + p.2
def uP (P : List (Nat × Nat)) : List (Nat × Nat) := (uN (P.map cdP)).map fun c => (c / 64, c % 64)
theorem mem_uP {P : List (Nat × Nat)} (hP : ∀ p ∈ P, p.2 < 64) {q : Nat × Nat} : q ∈ uP P ↔ q ∈ P := by
  unfold uP
  rw [List.mem_map]
  constructor
  · rintro ⟨c, hc, rfl⟩
    obtain ⟨p, hp, rfl⟩ := List.mem_map.mp (mem_uN.mp hc)
    have := hP p hp
    have e : (cdP p / 64, cdP p % 64) = p := by
      unfold cdP
      refine Prod.ext ?_ ?_
      · show (p.1 * 64 + p.2) / 64 = p.1; omega
      · show (p.1 * 64 + p.2) % 64 = p.2; omega
    rw [e]; exact hp
  · intro hq
    refine ⟨cdP q, mem_uN.mpr (List.mem_map_of_mem hq), ?_⟩
    have := hP q hq
    unfold cdP
    refine Prod.ext ?_ ?_
    · show (q.1 * 64 + q.2) / 64 = q.1; omega
    · show (q.1 * 64 + q.2) % 64 = q.2; omega
theorem prs_ar : ∀ {P : List (Nat × Nat)}, (∀ p ∈ P, p.1 < 64 ∧ p.2 < 64) → prsD (P.map ar) = some (nI (P.map cdP))
  | [], _ => rfl
  | p :: P, h => by
    have ih := prs_ar (P := P) fun q hq => h q (List.mem_cons_of_mem _ hq)
    have hp := h p List.mem_cons_self
    show (if decide (0 ≤ (p.1 : Int)) && decide ((p.1 : Int) < 64) && decide (0 ≤ (p.2 : Int)) && decide ((p.2 : Int) < 64) then (prsD (P.map ar)).map (((p.1 : Int) * 64 + (p.2 : Int)) :: ·) else none) = _
    rw [decide_eq_true (by omega : 0 ≤ (p.1 : Int)), decide_eq_true (by omega : (p.1 : Int) < 64), decide_eq_true (by omega : 0 ≤ (p.2 : Int)), decide_eq_true (by omega : (p.2 : Int) < 64), ih]
    have : ((cdP p : Nat) : Int) = (p.1 : Int) * 64 + (p.2 : Int) := by unfold cdP; push_cast; rfl
    simp only [nI, List.map_cons, Bool.and_self, if_true, Option.map_some, this]
theorem l_uP {cal : Cal} {env : Env} {st st1 : Store} {l : L} {P : List (Nat × Nat)} (h : evL cal l env st = .ok (true, P.map ar) st1) (hz : P.length < 64) (hP : ∀ p ∈ P, p.1 < 64 ∧ p.2 < 64) : evL cal (.sortedSet l) env st = .ok (true, (uP P).map ar) st1 := by
  rw [evL, h, R.bind_ok]
  cases P with
  | nil => rfl
  | cons p P =>
    have e1 : intsD ((p :: P).map ar) = none := rfl
    have e2 := prs_ar hP
    simp only [e1, e2]
    have hl : (nI ((p :: P).map cdP)).length < 64 := by unfold nI; rw [List.length_map, List.length_map]; exact hz
    rw [if_pos (decide_eq_true hl), ← uN_nI]
    unfold uP nI
    rw [List.map_map, List.map_map]
    congr 2
def jn (n : Nat) (as : List (Nat × Nat)) (S : List Nat) : List (Nat × Nat) :=
  ((as.filter fun p => decide (p.1 ∈ S) && decide (p.2 ∈ S)).map fun p => (min p.1 p.2, max p.1 p.2)) ++ ((meets n as).filter fun r => decide (r.getD 1 0 ∈ S)).map fun r => (r.getD 0 0, r.getD 2 0)
def closedB (P : List (Nat × Nat)) (lot Z : List Nat) : Bool := (P.filter fun p => !(decide (p.1 ∈ lot) == decide (p.2 ∈ lot))).all fun p => decide (p.1 ∈ Z) || decide (p.2 ∈ Z)
def isCutB (n : Nat) (as : List (Nat × Nat)) (one other Z side : List Nat) : Bool :=
  side.all (fun t => decide (t ∈ kptL n as one other Z)) && (one.all (fun t => decide (t ∈ side)) && (!((other ++ Z).any fun t => decide (t ∈ side)) && closedB (uP (jn n as (kptL n as one other Z))) side Z))
theorem e_mnx {cal : Cal} {env : Env} {st st1 : Store} {l : L} {g bb : Bool} {i j : Nat} (h : evL cal l env st = .ok (bb, [.int (i : Int), .int (j : Int)]) st1) : evE cal (.mnx g l) env st = .ok (.int ((if g then max i j else min i j : Nat) : Int)) st1 := by
  rw [evE, h, R.bind_ok]
  show R.ok (D.int (mnxI g (i : Int) [(j : Int)])) st1 = _
  cases g with
  | true =>
    show R.ok (D.int (max (i : Int) (j : Int))) st1 = R.ok (D.int ((max i j : Nat) : Int)) st1
    congr 2
    omega
  | false =>
    show R.ok (D.int (min (i : Int) (j : Int))) st1 = R.ok (D.int ((min i j : Nat) : Int)) st1
    congr 2
    omega
theorem jn_lt {n : Nat} {as : List (Nat × Nat)} (w : WOk n as) (S : List Nat) : ∀ p ∈ jn n as S, p.1 < 64 ∧ p.2 < 64 := by
  have hn := w.hn
  intro p hp
  rcases List.mem_append.mp hp with hp | hp
  · obtain ⟨q, hq, rfl⟩ := List.mem_map.mp hp
    have := w.lt q (List.mem_filter.mp hq).1
    show min q.1 q.2 < 64 ∧ max q.1 q.2 < 64
    omega
  · obtain ⟨r, hr, rfl⟩ := List.mem_map.mp hp
    obtain ⟨a, t, b, rfl, h1, h2, h3⟩ := meets_lt w r (List.mem_filter.mp hr).1
    show a < 64 ∧ b < 64
    omega
section
variable {Φ : Nat → Option FD} {k : Nat}
theorem e53 (h : H53 Φ) (n : Nat) (as : List (Nat × Nat)) (w : WOk n as) (S : List Nat) (hz : (jn n as S).length < 64) (st : Store) : callD Φ (k + 3) 53 [wb n as, nT S] st = .ok (.tup ((uP (jn n as S)).map ar)) st := by
  have hl := w.len
  have hml := meets_len w
  refine call_ev0 h.self rfl ?_ (ars_pure _)
  rw [runD_eq (env := [some (wb n as), some (nT S), none, none, none, none, none]) rfl]
  refine ss_asg (d := .lst (((as.filter fun p => decide (p.1 ∈ S) && decide (p.2 ∈ S)).map fun p => (min p.1 p.2, max p.1 p.2)).map ar)) (st1 := st) ((e_fz (comp_filter as ar (fun p => decide (p.1 ∈ S) && decide (p.2 ∈ S)) (fun p => ar (min p.1 p.2, max p.1 p.2)) (i_tup rfl) rfl (by omega) fun p _ => ⟨_, rfl, e_bools (b_and (e_cmp (e_ix rfl rfl (ix_tup (t := 0) st rfl)) rfl (isin_nT S p.1 st)) fun _ => b_last (e_cmp (e_ix rfl rfl (ix_tup (t := 1) st rfl)) rfl (isin_nT S p.2 st))), fun _ => e_tup (s_cons (e_mnx (g := false) (l_of (x := ar p) rfl rfl)) (s_cons (e_mnx (g := true) (l_of (x := ar p) rfl rfl)) s_nil)) (by show 2 ≤ 16777216; decide)⟩)).trans (by rw [List.map_map]; rfl)) rfl ?_
  refine ss_asg (d := .lst ((jn n as S).map ar)) (st1 := st) ((e_bin (x := .lst (((as.filter fun p => decide (p.1 ∈ S) && decide (p.2 ∈ S)).map fun p => (min p.1 p.2, max p.1 p.2)).map ar)) (y := .lst ((((meets n as).filter fun r => decide (r.getD 1 0 ∈ S)).map fun r => (r.getD 0 0, r.getD 2 0)).map ar)) (st1 := st) (st2 := st) rfl ((e_fz (comp_filter (meets n as) nT (fun r => decide (r.getD 1 0 ∈ S)) (fun r => ar (r.getD 0 0, r.getD 2 0)) (i_tup (e_call (s_cons rfl s_nil) (e16 (k := k) h.c16 n as w st))) rfl (by omega) fun r hr => ?_)).trans (by rw [List.map_map]; rfl)) (cat_lst st ?_)).trans (by unfold jn; rw [List.map_append])) rfl ?_
  · obtain ⟨a, t, b, rfl⟩ := meets_form r hr
    exact ⟨_, rfl, e_cmp rfl rfl (isin_nT S t st), fun _ => e_tup (s_cons rfl (s_cons rfl s_nil)) (by show 2 ≤ 16777216; decide)⟩
  · have := hz
    unfold jn at this
    rw [List.length_append] at this
    rw [List.length_map (f := ar), List.length_map (f := ar)]
    omega
  · exact ss_ret (e_tupOf (l_uP (l_of (x := .lst ((jn n as S).map ar)) rfl rfl) hz (jn_lt w S)))
theorem e54 (h : H54 Φ) (P : List (Nat × Nat)) (lot Z : List Nat) (hz : P.length ≤ 16777216) (st : Store) : callD Φ (k + 1) 54 [.tup (P.map ar), nT lot, nT Z] st = .ok (.bl (closedB P lot Z)) st := by
  refine call_ev0 h.self rfl ?_ rfl
  rw [runD_eq (env := [some (.tup (P.map ar)), some (nT lot), some (nT Z), none, none, none, none]) rfl]
  let out := P.filter fun p => !(decide (p.1 ∈ lot) == decide (p.2 ∈ lot))
  have hol : out.length ≤ P.length := List.length_filter_le _ _
  refine ss_asg (d := .lst (out.map ar)) (st1 := st) (e_fz (comp_filter P ar (fun p => !(decide (p.1 ∈ lot) == decide (p.2 ∈ lot))) ar (i_tup rfl) rfl hz fun p _ => ⟨_, rfl, e_cmp (e_cmp (e_ix rfl rfl (ix_tup (t := 0) st rfl)) rfl (isin_nT lot p.1 st)) (e_cmp (e_ix rfl rfl (ix_tup (t := 1) st rfl)) rfl (isin_nT lot p.2 st)) rfl, fun _ => rfl⟩)) rfl (ss_ret ?_)
  have hb := e_allOf (bs := out.map fun p => decide (p.1 ∈ Z) || decide (p.2 ∈ Z)) ((comp_map (cal := callD Φ k) (own := [("one", 5), ("other", 6)]) (t := .tp (.cons (.nm 5) (.cons (.nm 6) .nil))) (i := .of (.of (.v 3))) (elt := .bools false (.cons (.cmp .isin (.v 5) (.v 2)) (.cons (.cmp .isin (.v 6) (.v 2)) .nil)))
    (env := [some (.tup (P.map ar)), some (nT lot), some (nT Z), some (.lst (out.map ar)), none, none, none]) (st := st) out ar (fun p => D.bl (decide (p.1 ∈ Z) || decide (p.2 ∈ Z))) (i_lst rfl) rfl (by omega) fun p _ => ⟨_, rfl, e_bools (b_or (e_cmp rfl rfl (isin_nT Z p.1 st)) fun _ => b_last (e_cmp rfl rfl (isin_nT Z p.2 st)))⟩).trans (by rw [List.map_map]; rfl))
  rw [List.all_map] at hb
  exact hb
theorem e55 (h : H55 Φ) (n : Nat) (as : List (Nat × Nat)) (w : WOk n as) (one other Z side : List Nat) (l1 : Lot n one) (l2 : Lot n other) (l3 : Lot n Z) (l4 : Lot n side) (hz : (jn n as (kptL n as one other Z)).length < 64) (hu : (uP (jn n as (kptL n as one other Z))).length ≤ 16777216) (st : Store) :
    callD Φ (k + 6) 55 [wb n as, nT one, nT other, nT Z, nT side] st = .ok (.bl (isCutB n as one other Z side)) st := by
  have hn := w.hn
  have z1 := l1.len
  have z2 := l2.len
  have z3 := l3.len
  have z4 := l4.len
  refine call_ev0 h.self rfl ?_ rfl
  rw [runD_eq (env := [some (wb n as), some (nT one), some (nT other), some (nT Z), some (nT side), none, none]) rfl]
  refine ss_asg (e_call (s_cons rfl (s_cons rfl (s_cons rfl (s_cons rfl s_nil)))) (e52 (k := k) h.c52 n as w one other Z l1 l2 l3 st)) rfl ?_
  unfold isCutB
  generalize kptL n as one other Z = K at hz hu ⊢
  have a1 : evE (callD Φ (k + 5)) (.allOf (.comp [("thing", 6)] (.nm 6) (.of (.of (.v 4))) .nil (.cmp .isin (.v 6) (.v 5)))) [some (wb n as), some (nT one), some (nT other), some (nT Z), some (nT side), some (nT K), none] st = .ok (.bl (side.all fun t => decide (t ∈ K))) st := all_in side (fun t => decide (t ∈ K)) (i_tup rfl) rfl (by omega) fun y _ => ⟨_, rfl, e_cmp rfl rfl (isin_nT K y st)⟩
  have a2 : evE (callD Φ (k + 5)) (.allOf (.comp [("thing", 6)] (.nm 6) (.of (.of (.v 1))) .nil (.cmp .isin (.v 6) (.v 4)))) [some (wb n as), some (nT one), some (nT other), some (nT Z), some (nT side), some (nT K), none] st = .ok (.bl (one.all fun t => decide (t ∈ side))) st := all_in one (fun t => decide (t ∈ side)) (i_tup rfl) rfl (by omega) fun y _ => ⟨_, rfl, e_cmp rfl rfl (isin_nT side y st)⟩
  have ht : evE (callD Φ (k + 5)) (.tup (.star (.of (.v 2)) (.star (.of (.v 3)) .nil))) [some (wb n as), some (nT one), some (nT other), some (nT Z), some (nT side), some (nT K), none] st = .ok (nT (other ++ Z)) st := by
    refine (e_tup (s_star (l_of (x := nT other) rfl rfl) (s_star (l_of (x := nT Z) rfl rfl) s_nil)) ?_).trans ?_
    · simp only [List.length_append, List.length_map, List.length_nil]; omega
    · unfold nT
      rw [List.map_append, List.append_nil]
  have a3 : evE (callD Φ (k + 5)) (.anyOf (.comp [("thing", 6)] (.nm 6) (.of (.of (.tup (.star (.of (.v 2)) (.star (.of (.v 3)) .nil))))) .nil (.cmp .isin (.v 6) (.v 4)))) [some (wb n as), some (nT one), some (nT other), some (nT Z), some (nT side), some (nT K), none] st = .ok (.bl ((other ++ Z).any fun t => decide (t ∈ side))) st := any_in (other ++ Z) (fun t => decide (t ∈ side)) (i_tup ht) rfl (by rw [List.length_append]; omega) fun y _ => ⟨_, rfl, e_cmp rfl rfl (isin_nT side y st)⟩
  cases b1 : side.all fun t => decide (t ∈ K) with
  | false =>
    rw [b1] at a1
    exact ss_if_t (st1 := st) (e_bools (b_on (e_not (e_call (s_cons rfl (s_cons rfl s_nil)) (e44 (k := k + 1) h.c44 n as side l4 (by omega) st))) (b_last (e_not a1)))) rfl
  | true =>
    rw [b1] at a1
    refine ss_if_f (st1 := st) (e_bools (b_on (e_not (e_call (s_cons rfl (s_cons rfl s_nil)) (e44 (k := k + 1) h.c44 n as side l4 (by omega) st))) (b_last (e_not a1)))) ?_
    cases b2 : one.all fun t => decide (t ∈ side) with
    | false =>
      rw [b2] at a2
      exact ss_if_t (st1 := st) (e_bools (b_stop (k := false) (e_not a2))) rfl
    | true =>
      rw [b2] at a2
      cases b3 : (other ++ Z).any fun t => decide (t ∈ side) with
      | true =>
        rw [b3] at a3
        exact ss_if_t (st1 := st) (e_bools (b_on (e_not a2) (b_last a3))) rfl
      | false =>
        rw [b3] at a3
        refine ss_if_f (st1 := st) (e_bools (b_on (e_not a2) (b_last a3))) (ss_ret (e_call (s_cons (e_call (s_cons rfl (s_cons rfl s_nil)) (e53 (k := k + 2) h.c53 n as w K hz st)) (s_cons rfl (s_cons rfl s_nil))) ?_))
        exact e54 (k := k + 4) h.c54 _ side Z hu st
theorem e56 (h : H56 Φ) (n : Nat) (as : List (Nat × Nat)) (w : WV n as) (one other Z : List Nat) (L : L3 n one other Z) (st : Store) : callD Φ (k + 8) 56 [wb n as, nT one, nT other, nT Z] st = .ok (nT (kptL n as one other Z)) st := by
  refine call_ev0 h.self rfl ?_ (nT_pure _)
  rw [runD_eq (env := [some (wb n as), some (nT one), some (nT other), some (nT Z)]) rfl]
  exact ss_ex (e_call (s_cons rfl (s_cons rfl (s_cons rfl (s_cons rfl s_nil)))) (e49 (k := k) h.c49 n as w one other Z L st)) (ss_ret (e_call (s_cons rfl (s_cons rfl (s_cons rfl (s_cons rfl s_nil)))) (e52 (k := k + 2) h.c52 n as w.toWOk one other Z L.l1 L.l2 L.l3 st)))
theorem e57 (h : H57 Φ) (n : Nat) (as : List (Nat × Nat)) (w : WV n as) (one other Z side : List Nat) (L : L3 n one other Z) (l4 : Lot n side) (hz : (jn n as (kptL n as one other Z)).length < 64) (hu : (uP (jn n as (kptL n as one other Z))).length ≤ 16777216) (st : Store) :
    callD Φ (k + 8) 57 [wb n as, nT one, nT other, nT Z, nT side] st = .ok (.bl (isCutB n as one other Z side)) st := by
  refine call_ev0 h.self rfl ?_ rfl
  rw [runD_eq (env := [some (wb n as), some (nT one), some (nT other), some (nT Z), some (nT side)]) rfl]
  exact ss_ex (e_call (s_cons rfl (s_cons rfl (s_cons rfl (s_cons rfl s_nil)))) (e49 (k := k) h.c49 n as w one other Z L st)) (ss_ret (e_call (s_cons rfl (s_cons rfl (s_cons rfl (s_cons rfl (s_cons rfl s_nil))))) (e55 (k := k + 1) h.c55 n as w.toWOk one other Z side L.l1 L.l2 L.l3 l4 hz hu st)))
end
end PyD
namespace PyD
open PySem
theorem one_hit (c : Nat) : ∀ {l : List Nat}, l.Nodup → (l.map fun t => if c = t then 1 else 0).sum ≤ 1
  | [], _ => by simp
  | x :: l, h => by
    rw [List.nodup_cons] at h
    have ih := one_hit c h.2
    rw [List.map_cons, List.sum_cons]
    by_cases e : c = x
    · subst e
      have : (l.map fun t => if c = t then 1 else 0).sum = 0 := by
        have : ∀ m : List Nat, c ∉ m → (m.map fun t => if c = t then 1 else 0).sum = 0 := by
          intro m
          induction m with
          | nil => intro _; rfl
          | cons y m ihm =>
            intro hm
            rw [List.mem_cons, not_or] at hm
            rw [List.map_cons, List.sum_cons, if_neg hm.1, ihm hm.2]
        exact this l h.1
      rw [this, if_pos rfl]
      exact Nat.le_refl _
    · rw [if_neg e]; omega
theorem sum_add2 {α : Type} (f g : α → Nat) : ∀ l : List α, (l.map fun t => f t + g t).sum = (l.map f).sum + (l.map g).sum
  | [] => rfl
  | x :: l => by simp only [List.map_cons, List.sum_cons, sum_add2 f g l]; omega
theorem sum_pars (n : Nat) : ∀ as : List (Nat × Nat), ((List.range n).map fun t => (pars as t).length).sum ≤ as.length
  | [] => by
    have : ∀ l : List Nat, (l.map fun t => (pars [] t).length).sum = 0 := fun l => by
      induction l with
      | nil => rfl
      | cons x l ih => rw [List.map_cons, List.sum_cons, ih]; rfl
    rw [this]
    exact Nat.zero_le _
  | p :: as => by
    have ih := sum_pars n as
    have e : ∀ t, (pars (p :: as) t).length = (if p.2 = t then 1 else 0) + (pars as t).length := fun t => by
      unfold pars
      rw [List.filter_cons]
      by_cases h : p.2 = t
      · rw [if_pos (decide_eq_true h), if_pos h, List.map_cons, List.length_cons]; omega
      · rw [if_neg (by rw [decide_eq_false h]; decide), if_neg h]; omega
    have h1 := one_hit p.2 (l := List.range n) List.nodup_range
    rw [List.map_congr_left fun t _ => e t, sum_add2, List.length_cons]
    omega
theorem sum_le {α : Type} (f g : α → Nat) : ∀ l : List α, (∀ x ∈ l, f x ≤ g x) → (l.map f).sum ≤ (l.map g).sum
  | [], _ => Nat.le_refl _
  | x :: l, h => by
    have := sum_le f g l fun y hy => h y (List.mem_cons_of_mem _ hy)
    have h1 := h x List.mem_cons_self
    simp only [List.map_cons, List.sum_cons]
    omega
theorem trip_le {n : Nat} {as : List (Nat × Nat)} (w : WV n as) (hn : n ≤ 5) {t : Nat} (ht : t < n) : (trip as t).length ≤ 3 * (pars as t).length := by
  have hnd := pars_nodup (asc_nodup w.asc) t
  have htt : t ∉ pars as t := fun h => w.ne _ (pars_mem.mp h) rfl
  have h4 : (pars as t).length + 1 ≤ n := by
    have := len_sub (l := t :: pars as t) (b := List.range n) (List.nodup_cons.mpr ⟨htt, hnd⟩) fun x hx => by
      rcases List.mem_cons.mp hx with rfl | hx
      · exact List.mem_range.mpr ht
      · exact List.mem_range.mpr (pars_lt w.toWOk hx)
    rwa [List.length_cons, List.length_range] at this
  have hin : ∀ a ∈ pars as t, ((pars as t).filter fun b => decide (a < b)).length ≤ 3 := fun a ha => by
    have := len_sub (l := a :: (pars as t).filter fun b => decide (a < b)) (b := pars as t) (List.nodup_cons.mpr ⟨fun h => by
      have := of_decide_eq_true (List.mem_filter.mp h).2
      omega, hnd.filter _⟩) fun x hx => by
      rcases List.mem_cons.mp hx with rfl | hx
      · exact ha
      · exact (List.mem_filter.mp hx).1
    rw [List.length_cons] at this
    omega
  unfold trip
  rw [List.length_flatMap]
  refine Nat.le_trans (sum_le _ (fun _ => 3) _ fun a ha => by rw [List.length_map]; exact hin a ha) ?_
  have : ∀ l : List Nat, (l.map fun _ => 3).sum = 3 * l.length := fun l => by
    induction l with
    | nil => rfl
    | cons x l ih => rw [List.map_cons, List.sum_cons, ih, List.length_cons]; omega
  rw [this]
  exact Nat.le_refl _
theorem jn_len {n : Nat} {as : List (Nat × Nat)} (w : WV n as) (hn : n ≤ 5) (hz : as.length ≤ 10) (S : List Nat) : (jn n as S).length < 64 := by
  have h1 : (meets n as).length ≤ 30 := by
    unfold meets rowsort
    rw [List.length_mergeSort]
    unfold trips
    rw [List.length_flatMap]
    have h2 := sum_le (fun t => (trip as t).length) (fun t => 3 * (pars as t).length) (List.range n) fun t ht => trip_le w hn (List.mem_range.mp ht)
    have h3 : ((List.range n).map fun t => 3 * (pars as t).length).sum = 3 * ((List.range n).map fun t => (pars as t).length).sum := by
      have : ∀ l : List Nat, (l.map fun t => 3 * (pars as t).length).sum = 3 * (l.map fun t => (pars as t).length).sum := fun l => by
        induction l with
        | nil => rfl
        | cons x l ih => simp only [List.map_cons, List.sum_cons, ih]; omega
      exact this _
    have h4 := sum_pars n as
    omega
  have h2 := List.length_filter_le (fun p : Nat × Nat => decide (p.1 ∈ S) && decide (p.2 ∈ S)) as
  have h3 := List.length_filter_le (fun r : List Nat => decide (r.getD 1 0 ∈ S)) (meets n as)
  unfold jn
  rw [List.length_append, List.length_map, List.length_map]
  omega
theorem uN_len (l : List Nat) : (uN l).length ≤ l.length := len_sub ((uN_asc l).imp fun h => Nat.ne_of_lt h) fun x hx => mem_uN.mp hx
theorem uP_len (P : List (Nat × Nat)) : (uP P).length ≤ P.length := by
  unfold uP
  rw [List.length_map]
  exact Nat.le_trans (uN_len _) (by rw [List.length_map]; exact Nat.le_refl _)
theorem L3.all_nodup {n : Nat} {one other Z : List Nat} (L : L3 n one other Z) : (one ++ (other ++ Z)).Nodup :=
  List.nodup_append.mpr ⟨L.l1.nodup, List.nodup_append.mpr ⟨L.l2.nodup, L.l3.nodup, fun a ha b hb e => L.d23 a ha (e ▸ hb)⟩, fun a ha b hb e => by
    subst e
    rcases List.mem_append.mp hb with hb | hb
    · exact L.d12 a ha hb
    · exact L.d13 a ha hb⟩
theorem L3.all_lt {n : Nat} {one other Z : List Nat} (L : L3 n one other Z) : ∀ t ∈ one ++ (other ++ Z), t < n := fun t ht => by
  rcases List.mem_append.mp ht with h | h
  · exact L.l1.lt t h
  · rcases List.mem_append.mp h with h | h
    · exact L.l2.lt t h
    · exact L.l3.lt t h
theorem mem_kpt {n : Nat} {as : List (Nat × Nat)} (w : WV n as) {one other Z : List Nat} (L : L3 n one other Z) (x : Nat) : x ∈ kptL n as one other Z ↔ ∃ t ∈ one ++ (other ++ Z), Up as t x := mem_abvL w.toWOk (asc_nodup w.asc) L.all_lt L.all_nodup x
theorem mem_meets {n : Nat} {as : List (Nat × Nat)} (w : WOk n as) {a b m : Nat} (h1 : (a, m) ∈ as) (h2 : (b, m) ∈ as) (hlt : a < b) : [a, m, b] ∈ meets n as := by
  refine (List.mergeSort_perm (trips n as) _).mem_iff.mpr ?_
  unfold trips trip
  rw [List.mem_flatMap]
  exact ⟨m, List.mem_range.mpr (w.lt _ h1).2, List.mem_flatMap.mpr ⟨a, pars_mem.mpr h1, List.mem_map.mpr ⟨b, List.mem_filter.mpr ⟨pars_mem.mpr h2, decide_eq_true hlt⟩, rfl⟩⟩⟩
theorem closed_at {P : List (Nat × Nat)} {lot Z : List Nat} (h : closedB P lot Z = true) {p : Nat × Nat} (hp : p ∈ P) : (p.1 ∈ lot ↔ p.2 ∈ lot) ∨ p.1 ∈ Z ∨ p.2 ∈ Z := by
  unfold closedB at h
  by_cases e : p.1 ∈ lot ↔ p.2 ∈ lot
  · exact .inl e
  · have hf : p ∈ P.filter fun p => !(decide (p.1 ∈ lot) == decide (p.2 ∈ lot)) := List.mem_filter.mpr ⟨hp, by
      rw [Bool.not_eq_true', beq_eq_false_iff_ne]
      exact fun h => e (decide_eq_decide.mp h)⟩
    have := List.all_eq_true.mp h p hf
    rw [Bool.or_eq_true, decide_eq_true_iff, decide_eq_true_iff] at this
    exact .inr this
theorem cutB_apart {n : Nat} {as : List (Nat × Nat)} (w : WV n as) {one other Z side : List Nat} (L : L3 n one other Z) (h : isCutB n as one other Z side = true) : apartB n as one other Z = true := by
  unfold isCutB at h
  simp only [Bool.and_eq_true, Bool.not_eq_true'] at h
  obtain ⟨_, h2, h3, h4⟩ := h
  rw [apartB_iff L]
  intro x hx y hy
  have hyS : y ∉ side := fun hs => by
    have := List.any_eq_false.mp h3 y (List.mem_append_left _ hy)
    exact this (decide_eq_true hs)
  have hxS : x ∈ side := of_decide_eq_true (List.all_eq_true.mp h2 x hx)
  have hK := mem_kpt w L
  have hmem : ∀ q, q ∈ uP (jn n as (kptL n as one other Z)) ↔ q ∈ jn n as (kptL n as one other Z) := fun q => mem_uP fun p hp => (jn_lt w.toWOk _ p hp).2
  refine cut_apart (E := fun v => v ∈ kptL n as one other Z) (S := fun v => v ∈ side) (fun a b e hb => ?_) (fun z hz => (hK z).mpr ⟨z, List.mem_append_right _ (List.mem_append_right _ hz), .refl⟩) (L.d23 y hy) hyS ((hK y).mpr ⟨y, List.mem_append_right _ (List.mem_append_left _ hy), .refl⟩) (fun a b e ha hb => ?_) (fun a b m e1 e2 hab hm => ?_) hxS ((hK x).mpr ⟨x, List.mem_append_left _ hx, .refl⟩)
  · obtain ⟨t, ht, hu⟩ := (hK b).mp hb
    exact (hK a).mpr ⟨t, ht, .step hu e⟩
  · have hq : (min a b, max a b) ∈ uP (jn n as (kptL n as one other Z)) := (hmem _).mpr (List.mem_append_left _ (List.mem_map.mpr ⟨(a, b), List.mem_filter.mpr ⟨e, by rw [Bool.and_eq_true]; exact ⟨decide_eq_true ha, decide_eq_true hb⟩⟩, rfl⟩))
    have := closed_at h4 hq
    rcases Nat.lt_or_ge a b with c | c
    · rw [Nat.min_eq_left (Nat.le_of_lt c), Nat.max_eq_right (Nat.le_of_lt c)] at this
      exact this
    · rw [Nat.min_eq_right c, Nat.max_eq_left c] at this
      rcases this with q | q | q
      · exact .inl q.symm
      · exact .inr (.inr q)
      · exact .inr (.inl q)
  · have key : ∀ a b, (a, m) ∈ as → (b, m) ∈ as → a < b → (a ∈ side ↔ b ∈ side) ∨ a ∈ Z ∨ b ∈ Z := fun a b e1 e2 c => by
      have hq : (a, b) ∈ uP (jn n as (kptL n as one other Z)) := (hmem _).mpr (List.mem_append_right _ (List.mem_map.mpr ⟨[a, m, b], List.mem_filter.mpr ⟨mem_meets w.toWOk e1 e2 c, decide_eq_true hm⟩, rfl⟩))
      exact closed_at h4 hq
    rcases Nat.lt_or_gt_of_ne hab with c | c
    · exact key a b e1 e2 c
    · rcases key b a e2 e1 c with q | q | q
      · exact .inl q.symm
      · exact .inr (.inr q)
      · exact .inr (.inl q)
end PyD
namespace PyD
open PySem
/-- a loop whose body may tell at once -/
theorem s_for_ret {α : Type} {cal : Cal} {t : T} {i : I} {bd : Ss} {J : It} {env : Env} {st : Store} {d : D} (ys : List α) (enc : α → D) (p : α → Bool) (I : Env → Prop) (hi : evI cal i env st = .ok J st) (hJ : J.all st = some (ys.map enc)) (h0 : I env)
    (hs : ∀ y ∈ ys, ∀ env, I env → ∃ env1, asT cal t (enc y) env st = .ok env1 st ∧ ((p y = true ∧ ∃ env2, evSs cal bd env1 st = .ok (.nx, env2) st ∧ I env2) ∨ (p y = false ∧ ∃ env2, evSs cal bd env1 st = .ok (.rt d, env2) st))) :
    (ys.all p = true ∧ ∃ env1, evS cal (.for t i bd) env st = .ok (.nx, env1) st ∧ I env1) ∨ (ys.all p = false ∧ ∃ env1, evS cal (.for t i bd) env st = .ok (.rt d, env1) st) := by
  have go : ∀ (n i : Nat) (env : Env), ys.length - i < n → i ≤ ys.length → I env →
      ((ys.drop i).all p = true ∧ ∃ env1, forL J (fun d env st => asT cal t d env st) (fun env st => evSs cal bd env st) n i env st = .ok (.nx, env1) st ∧ I env1) ∨ ((ys.drop i).all p = false ∧ ∃ env1, forL J (fun d env st => asT cal t d env st) (fun env st => evSs cal bd env st) n i env st = .ok (.rt d, env1) st) := by
    intro n
    induction n with
    | zero => intro i env h; omega
    | succ n ih =>
      intro i env hn hi h
      unfold forL
      rw [It.next_all i hJ]
      by_cases e : i = ys.length
      · subst e
        rw [List.getElem?_eq_none (by rw [List.length_map]; exact Nat.le_refl _), List.drop_length]
        exact .inl ⟨rfl, env, rfl, h⟩
      · have hlt : i < ys.length := by omega
        have e2 : ys.drop i = ys[i] :: ys.drop (i + 1) := List.drop_eq_getElem_cons hlt
        rw [List.getElem?_map, List.getElem?_eq_getElem hlt, e2, List.all_cons]
        simp only [Option.map_some]
        obtain ⟨env1, h1, h2⟩ := hs ys[i] (List.getElem_mem hlt) env h
        rw [h1, R.bind_ok]
        rcases h2 with ⟨hp, env2, h2, h3⟩ | ⟨hp, env2, h2⟩
        · rw [h2, R.bind_ok, hp, Bool.true_and]
          exact ih (i + 1) env2 (by omega) (by omega) h3
        · rw [h2, R.bind_ok, hp, Bool.false_and]
          exact .inr ⟨rfl, env2, rfl⟩
  have h := go (J.len st + 1) 0 env (by rw [It.len_all hJ, List.length_map]; omega) (Nat.zero_le _) h0
  rw [List.drop_zero] at h
  rw [evS, hi, R.bind_ok]
  exact h
section
variable {cal : Cal} {env env1 : Env} {st st1 st2 : Store} {e a b c i : E} {d : D} {r : R D} {p q ss : Ss}
theorem ss_rt {s : S} (h : evS cal s env st = .ok (.rt d, env1) st1) : (evSs cal (.cons s ss) env st).bind endD = .ok d st1 := by
  rw [evSs, h, R.bind_ok]
  rfl
theorem bs_if_t {r : R (Fl × Env)} (h : evE cal c env st = .ok (.bl true) st1) (hp : evSs cal p env st1 = r) (hr : ∃ d env2 st2, r = .ok (.rt d, env2) st2) : evSs cal (.cons (.ifs c p q) ss) env st = r := by
  obtain ⟨d, env2, st2, rfl⟩ := hr
  rw [evSs, evS, h, R.bind_ok]
  simp only
  rw [hp, R.bind_ok]
theorem bs_ret (h : evE cal e env st = .ok d st1) : evSs cal (.cons (.ret e) ss) env st = .ok (.rt d, env) st1 := by
  rw [evSs, evS, h, R.bind_ok, R.bind_ok]
theorem bs_if_t0 {p : Ss} (h : evE cal c env st = .ok (.bl true) st1) (hp : evSs cal p env st1 = .ok (.nx, env1) st2) {r : R (Fl × Env)} (hr : evSs cal ss env1 st2 = r) : evSs cal (.cons (.ifs c p q) ss) env st = r := by
  rw [evSs, evS, h, R.bind_ok]
  simp only
  rw [hp, R.bind_ok]
  exact hr
theorem bs_if_fe {r : R (Fl × Env)} (h : evE cal c env st = .ok (.bl false) st1) (hq : evSs cal q env st1 = .ok (.nx, env1) st2) (hr : evSs cal ss env1 st2 = r) : evSs cal (.cons (.ifs c p q) ss) env st = r := by
  rw [evSs, evS, h, R.bind_ok]
  simp only
  rw [hq, R.bind_ok]
  exact hr
theorem bs_if_fr (h : evE cal c env st = .ok (.bl false) st1) (hq : evSs cal q env st1 = .ok (.rt d, env1) st2) : evSs cal (.cons (.ifs c p q) ss) env st = .ok (.rt d, env1) st2 := by
  rw [evSs, evS, h, R.bind_ok]
  simp only
  rw [hq, R.bind_ok]
end
theorem getT {tr : List Nat} {i : Nat} (h : i < tr.length) : (tr.map fun (i : Nat) => D.int (i : Int))[i]? = some (.int (tr.getD i 0 : Nat)) := by
  rw [List.getElem?_map, List.getElem?_eq_getElem h, List.getD_eq_getElem?_getD, List.getElem?_eq_getElem h]
  rfl
theorem ix_nT {tr : List Nat} {i : Nat} (h : i < tr.length) (st : Store) : ixD (nT tr) (.int (i : Int)) st = .ok (.int (tr.getD i 0 : Nat)) st := ix_tup st (getT h)
theorem ix_last {tr : List Nat} (h : tr ≠ []) (st : Store) : ixD (nT tr) (.int (-1)) st = .ok (.int (tr.getLastD 0 : Nat)) st := by
  have hl := List.length_pos_iff.mpr h
  have e1 : L2.ixN (tr.map fun (i : Nat) => D.int (i : Int)).length (-1) = some (tr.length - 1) := by
    unfold L2.ixN
    rw [List.length_map]
    have hneg : ¬ (0 : Int) ≤ -1 := by omega
    simp only [hneg, if_false]
    first
      | (rw [if_pos (by omega)]; congr 1; omega)
      | (simp; omega)
  have e2 : L2.atI (tr.map fun (i : Nat) => D.int (i : Int)) (-1) = some (.int (tr.getLastD 0 : Nat)) := by
    unfold L2.atI
    rw [e1]
    show (tr.map fun (i : Nat) => D.int (i : Int))[tr.length - 1]? = _
    rw [getT (by omega)]
    congr 2
    rw [List.getLastD_eq_getLast?, List.getLast?_eq_getElem?, List.getD_eq_getElem?_getD]
  unfold nT
  simp only [ixD, e2]
theorem perm_map_inv {α β : Type} (f : α → β) {l l2 : List β} (h : l.Perm l2) : ∀ {m : List α}, l2 = m.map f → ∃ m' : List α, m'.Perm m ∧ l = m'.map f := by
  induction h with
  | nil =>
    intro m hm
    exact ⟨m, .refl _, hm⟩
  | cons x _ ih =>
    intro m hm
    cases m with
    | nil => cases hm
    | cons y m =>
      rw [List.map_cons] at hm
      obtain ⟨h1, h2⟩ := List.cons.inj hm
      obtain ⟨m', h3, h4⟩ := ih h2
      exact ⟨y :: m', h3.cons y, by rw [List.map_cons, h1, h4]⟩
  | swap x y l =>
    intro m hm
    match m, hm with
    | a :: b :: m, hm =>
      simp only [List.map_cons, List.cons.injEq] at hm
      obtain ⟨h1, h2, h3⟩ := hm
      exact ⟨b :: a :: m, .swap a b m, by simp only [List.map_cons, h1, h2, h3]⟩
  | trans _ _ ih1 ih2 =>
    intro m hm
    obtain ⟨m2, h1, h2⟩ := ih2 hm
    obtain ⟨m1, h3, h4⟩ := ih1 h2
    exact ⟨m1, h3.trans h1, h4⟩
section
variable {Φ : Nat → Option FD} {k : Nat}
theorem sub1 (i : Nat) (st : Store) : binD .sub (.int ((i + 1 : Nat) : Int)) (.int 1) st = .ok (.int (i : Int)) st := by
  show R.ok (D.int (((i + 1 : Nat) : Int) - 1)) st = _
  congr 2
  omega
theorem add1 (i : Nat) (st : Store) : binD .add (.int ((i + 1 : Nat) : Int)) (.int 1) st = .ok (.int ((i + 2 : Nat) : Int)) st := by
  show R.ok (D.int (((i + 1 : Nat) : Int) + 1)) st = _
  congr 2
theorem e59 (h : H59 Φ) (n : Nat) (as : List (Nat × Nat)) (tr : List Nat) (i : Nat) (hi : i + 2 < tr.length) (st : Store) : callD Φ (k + 1) 59 [wb n as, nT tr, .int ((i + 1 : Nat) : Int)] st = .ok (.bl (decide ((tr.getD i 0, tr.getD (i + 1) 0) ∈ as) && decide ((tr.getD (i + 2) 0, tr.getD (i + 1) 0) ∈ as))) st := by
  refine call_ev0 h.self rfl ?_ rfl
  rw [runD_eq (env := [some (wb n as), some (nT tr), some (.int ((i + 1 : Nat) : Int))]) rfl]
  exact ss_ret (e_bools (b_and (e_cmp (e_tup (s_cons (e_ix rfl (e_bin rfl rfl (sub1 i st)) (ix_nT (by omega) st)) (s_cons (e_ix rfl rfl (ix_nT (by omega) st)) s_nil)) (by show 2 ≤ 16777216; decide)) rfl (isin_ars as (tr.getD i 0, tr.getD (i + 1) 0) st)) fun _ => b_last (e_cmp (e_tup (s_cons (e_ix rfl (e_bin rfl rfl (add1 i st)) (ix_nT (by omega) st)) (s_cons (e_ix rfl rfl (ix_nT (by omega) st)) s_nil)) (by show 2 ≤ 16777216; decide)) rfl (isin_ars as (tr.getD (i + 2) 0, tr.getD (i + 1) 0) st))))
theorem e60 (h : H60 Φ) (n : Nat) (as : List (Nat × Nat)) (hn : n ≤ 5) (hz : as.length ≤ 10) (Z tr : List Nat) (hZ : Z.length ≤ 1000) (h2 : 2 ≤ tr.length) (h3 : tr.length ≤ 1000) (st : Store) : callD Φ (k + 2) 60 [wb n as, nT tr, nT Z] st = .ok (.bl (openB n as Z tr)) st := by
  have hne : tr ≠ [] := fun e => by rw [e] at h2; cases h2
  refine call_ev0 h.self rfl ?_ rfl
  rw [runD_eq (env := [some (wb n as), some (nT tr), some (nT Z), none, none]) rfl]
  unfold openB
  have a1 : evE (callD Φ (k + 1)) (.cmp .isin (.ix (.v 1) (.c (.int 0))) (.v 2)) [some (wb n as), some (nT tr), some (nT Z), none, none] st = .ok (.bl (decide (tr.getD 0 0 ∈ Z))) st := e_cmp (e_ix rfl rfl (ix_nT (i := 0) (by omega) st)) rfl (isin_nT Z _ st)
  have a2 : evE (callD Φ (k + 1)) (.cmp .isin (.ix (.v 1) (.neg (.c (.int 1)))) (.v 2)) [some (wb n as), some (nT tr), some (nT Z), none, none] st = .ok (.bl (decide (tr.getLastD 0 ∈ Z))) st := e_cmp (e_ix rfl (y := .int (-1)) (st2 := st) rfl (ix_last hne st)) rfl (isin_nT Z _ st)
  by_cases c1 : tr.getD 0 0 ∈ Z
  · rw [decide_eq_true c1] at a1 ⊢
    exact ss_if_t (st1 := st) (e_bools (b_stop (k := false) a1)) rfl
  · by_cases c2 : tr.getLastD 0 ∈ Z
    · rw [decide_eq_false c1] at a1 ⊢
      rw [decide_eq_true c2] at a2 ⊢
      exact ss_if_t (st1 := st) (e_bools (b_on a1 (b_last a2))) rfl
    · rw [decide_eq_false c1] at a1 ⊢
      rw [decide_eq_false c2] at a2 ⊢
      refine ss_if_f (st1 := st) (e_bools (b_on a1 (b_last a2))) ?_
      have hI : evI (callD Φ (k + 1)) (.rng2 (.c (.int 1)) (.bin .sub (.b1 .len (.v 1)) (.c (.int 1)))) [some (wb n as), some (nT tr), some (nT Z), none, none] st = .ok (.rng 1 (tr.length - 2)) st := by
        refine (i_rng2 (i := 1) (j := ((tr.length : Nat) : Int) - 1) rfl (e_bin (e_b1 (r := .ok (.int (tr.length : Int)) st) rfl (by
          show R.ok (D.int ((tr.map fun (i : Nat) => D.int (i : Int)).length : Nat)) st = _
          rw [List.length_map])) rfl rfl) rfl (smallI_le (by omega) (by omega))).trans ?_
        congr 2
        omega
      have hJ : It.all (.rng 1 (tr.length - 2)) st = some ((List.range (tr.length - 2)).map fun (i : Nat) => D.int ((i + 1 : Nat) : Int)) := by
        show some _ = some _
        congr 1
        refine List.map_congr_left fun i _ => ?_
        congr 1
        omega
      have hbody : ∀ i, i < tr.length - 2 → ∀ o4 : Option D, (okAt n as Z tr i = true ∧ evSs (callD Φ (k + 1)) (.cons (.ifs (.call 59 (.cons (.v 0) (.cons (.v 1) (.cons (.v 3) .nil)))) (.cons (.ifs (.cmp .eq (.fz (.comp [("thing", 4)] (.nm 4) (.of (.of (.v 2))) (.cons (.cmp .isin (.ix (.v 1) (.v 3)) (.call 37 (.cons (.v 0) (.cons (.v 4) .nil)))) .nil) (.v 4))) (.fz (.disp .nil))) (.cons (.ret (.c (.bl false))) .nil) .nil) .nil) (.cons (.ifs (.cmp .isin (.ix (.v 1) (.v 3)) (.v 2)) (.cons (.ret (.c (.bl false))) .nil) .nil) .nil)) .nil) [some (wb n as), some (nT tr), some (nT Z), some (.int ((i + 1 : Nat) : Int)), o4] st = .ok (.nx, [some (wb n as), some (nT tr), some (nT Z), some (.int ((i + 1 : Nat) : Int)), o4]) st) ∨
          (okAt n as Z tr i = false ∧ evSs (callD Φ (k + 1)) (.cons (.ifs (.call 59 (.cons (.v 0) (.cons (.v 1) (.cons (.v 3) .nil)))) (.cons (.ifs (.cmp .eq (.fz (.comp [("thing", 4)] (.nm 4) (.of (.of (.v 2))) (.cons (.cmp .isin (.ix (.v 1) (.v 3)) (.call 37 (.cons (.v 0) (.cons (.v 4) .nil)))) .nil) (.v 4))) (.fz (.disp .nil))) (.cons (.ret (.c (.bl false))) .nil) .nil) .nil) (.cons (.ifs (.cmp .isin (.ix (.v 1) (.v 3)) (.v 2)) (.cons (.ret (.c (.bl false))) .nil) .nil) .nil)) .nil) [some (wb n as), some (nT tr), some (nT Z), some (.int ((i + 1 : Nat) : Int)), o4] st = .ok (.rt (.bl false), [some (wb n as), some (nT tr), some (nT Z), some (.int ((i + 1 : Nat) : Int)), o4]) st) := by
        intro i hi o4
        have b1 := e59 (k := k) h.c59 n as tr i (by omega) st
        have b2 : evE (callD Φ (k + 1)) (.fz (.comp [("thing", 4)] (.nm 4) (.of (.of (.v 2))) (.cons (.cmp .isin (.ix (.v 1) (.v 3)) (.call 37 (.cons (.v 0) (.cons (.v 4) .nil)))) .nil) (.v 4))) [some (wb n as), some (nT tr), some (nT Z), some (.int ((i + 1 : Nat) : Int)), o4] st = .ok (nL (Z.filter fun g => decide (tr.getD (i + 1) 0 ∈ upS n as g))) st := e_fz (comp_filter Z (fun (i : Nat) => D.int (i : Int)) (fun g => decide (tr.getD (i + 1) 0 ∈ upS n as g)) (fun (i : Nat) => D.int (i : Int)) (i_tup rfl) rfl (by omega) fun g _ => ⟨_, rfl, e_cmp (e_ix rfl rfl (ix_nT (by omega) st)) (e_call (s_cons rfl (s_cons rfl s_nil)) (e37 (k := k) h.c37 n as g hn hz st)) (isin_nT _ _ st), fun _ => rfl⟩)
        have b3 : evE (callD Φ (k + 1)) (.cmp .isin (.ix (.v 1) (.v 3)) (.v 2)) [some (wb n as), some (nT tr), some (nT Z), some (.int ((i + 1 : Nat) : Int)), o4] st = .ok (.bl (decide (tr.getD (i + 1) 0 ∈ Z))) st := e_cmp (e_ix rfl rfl (ix_nT (by omega) st)) rfl (isin_nT Z _ st)
        have b4 : evE (callD Φ (k + 1)) (.cmp .eq (.fz (.comp [("thing", 4)] (.nm 4) (.of (.of (.v 2))) (.cons (.cmp .isin (.ix (.v 1) (.v 3)) (.call 37 (.cons (.v 0) (.cons (.v 4) .nil)))) .nil) (.v 4))) (.fz (.disp .nil))) [some (wb n as), some (nT tr), some (nT Z), some (.int ((i + 1 : Nat) : Int)), o4] st = .ok (.bl (!(Z.any fun g => decide (tr.getD (i + 1) 0 ∈ upS n as g)))) st := by
          refine (e_cmp b2 (e_fz (l_disp s_nil (by decide))) (eq_nil _ (pures_map _ (fun _ => rfl) _) st (depth_nL _))).trans ?_
          congr 2
          have : ∀ l : List Nat, ((l.filter fun g => decide (tr.getD (i + 1) 0 ∈ upS n as g)).map fun (i : Nat) => D.int (i : Int)).isEmpty = !(l.any fun g => decide (tr.getD (i + 1) 0 ∈ upS n as g)) := by
            intro l
            induction l with
            | nil => rfl
            | cons x l ih =>
              rw [List.filter_cons, List.any_cons]
              by_cases q : decide (tr.getD (i + 1) 0 ∈ upS n as x) = true
              · rw [if_pos q, q]; rfl
              · rw [if_neg q, ih, Bool.not_eq_true _ |>.mp q, Bool.false_or]
          exact this Z
        unfold okAt
        cases q1 : (decide ((tr.getD i 0, tr.getD (i + 1) 0) ∈ as) && decide ((tr.getD (i + 2) 0, tr.getD (i + 1) 0) ∈ as)) with
        | true =>
          rw [q1] at b1
          have b1 := e_call (cal := callD Φ (k + 1)) (es := .cons (.v 0) (.cons (.v 1) (.cons (.v 3) .nil))) (env := [some (wb n as), some (nT tr), some (nT Z), some (.int ((i + 1 : Nat) : Int)), o4]) (s_cons rfl (s_cons rfl (s_cons rfl s_nil))) b1
          cases q2 : Z.any fun g => decide (tr.getD (i + 1) 0 ∈ upS n as g) with
          | true =>
            rw [q2] at b4
            exact .inl ⟨rfl, bs_if_t0 b1 (bs_if_f b4 bs_nil) bs_nil⟩
          | false =>
            rw [q2] at b4
            exact .inr ⟨rfl, bs_if_t b1 (bs_if_t b4 (bs_ret rfl) ⟨_, _, _, rfl⟩) ⟨_, _, _, rfl⟩⟩
        | false =>
          rw [q1] at b1
          have b1 := e_call (cal := callD Φ (k + 1)) (es := .cons (.v 0) (.cons (.v 1) (.cons (.v 3) .nil))) (env := [some (wb n as), some (nT tr), some (nT Z), some (.int ((i + 1 : Nat) : Int)), o4]) (s_cons rfl (s_cons rfl (s_cons rfl s_nil))) b1
          by_cases q2 : tr.getD (i + 1) 0 ∈ Z
          · rw [decide_eq_true q2] at b3 ⊢
            exact .inr ⟨rfl, bs_if_fr b1 (bs_if_t b3 (bs_ret rfl) ⟨_, _, _, rfl⟩)⟩
          · rw [decide_eq_false q2] at b3 ⊢
            exact .inl ⟨rfl, bs_if_fe b1 (bs_if_f b3 bs_nil) bs_nil⟩
      have hfor := s_for_ret (cal := callD Φ (k + 1)) (t := .nm 3) (i := .rng2 (.c (.int 1)) (.bin .sub (.b1 .len (.v 1)) (.c (.int 1)))) (bd := (.cons (.ifs (.call 59 (.cons (.v 0) (.cons (.v 1) (.cons (.v 3) .nil)))) (.cons (.ifs (.cmp .eq (.fz (.comp [("thing", 4)] (.nm 4) (.of (.of (.v 2))) (.cons (.cmp .isin (.ix (.v 1) (.v 3)) (.call 37 (.cons (.v 0) (.cons (.v 4) .nil)))) .nil) (.v 4))) (.fz (.disp .nil))) (.cons (.ret (.c (.bl false))) .nil) .nil) .nil) (.cons (.ifs (.cmp .isin (.ix (.v 1) (.v 3)) (.v 2)) (.cons (.ret (.c (.bl false))) .nil) .nil) .nil)) .nil)) (d := .bl false)
        (List.range (tr.length - 2)) (fun (i : Nat) => D.int ((i + 1 : Nat) : Int)) (okAt n as Z tr) (fun env => ∃ o3 o4, env = [some (wb n as), some (nT tr), some (nT Z), o3, o4]) hI hJ ⟨none, none, rfl⟩ (fun i hi env ⟨o3, o4, he⟩ => by
          subst he
          refine ⟨_, rfl, ?_⟩
          rcases hbody i (List.mem_range.mp hi) o4 with ⟨q1, q2⟩ | ⟨q1, q2⟩
          · exact .inl ⟨q1, _, q2, _, _, rfl⟩
          · exact .inr ⟨q1, _, q2⟩)
      rcases hfor with ⟨q1, env1, q2, _⟩ | ⟨q1, env1, q2⟩
      · rw [q1]
        exact ss_s q2 (ss_ret rfl)
      · rw [q1]
        exact ss_rt q2
end
end PyD
namespace PyD
open PySem
theorem prow_len (as : List (Nat × Nat)) : (prow as).length = 2 * as.length := by
  unfold prow
  rw [List.length_append, List.length_map]
  omega
theorem exts_len (as : List (Nat × Nat)) (row : List Nat) : (exts as row).length ≤ 2 * as.length := by
  unfold exts
  rw [List.length_map]
  exact Nat.le_trans (List.length_filter_le _ _) (by rw [prow_len]; exact Nat.le_refl _)
theorem flat_le {α β : Type} (f : α → List β) (m : Nat) : ∀ l : List α, (∀ x ∈ l, (f x).length ≤ m) → (l.flatMap f).length ≤ l.length * m
  | [], _ => by simp
  | x :: l, h => by
    have ih := flat_le f m l fun y hy => h y (List.mem_cons_of_mem _ hy)
    have h1 := h x List.mem_cons_self
    rw [List.flatMap_cons, List.length_append, List.length_cons, Nat.add_mul, Nat.one_mul]
    omega
theorem rowsK_len (n : Nat) (as : List (Nat × Nat)) (hz : as.length ≤ 10) : ∀ k, (rowsK n as k).length ≤ n * 20 ^ k
  | 0 => by unfold rowsK; rw [List.length_map, List.length_range]; omega
  | k + 1 => by
    have ih := rowsK_len n as hz k
    unfold rowsK
    refine Nat.le_trans (flat_le (exts as) 20 _ fun r _ => Nat.le_trans (exts_len as r) (by omega)) ?_
    rw [Nat.pow_succ, ← Nat.mul_assoc]
    exact Nat.mul_le_mul_right _ ih
theorem rowsK_big (n : Nat) (as : List (Nat × Nat)) (hn : n ≤ 5) (hz : as.length ≤ 10) (k : Nat) (hk : k ≤ 4) : (rowsK n as k).length ≤ 800000 := by
  refine Nat.le_trans (rowsK_len n as hz k) ?_
  refine Nat.le_trans (Nat.mul_le_mul hn (Nat.pow_le_pow_right (by decide) hk)) ?_
  decide
/-- the trails of up to m steps -/
def upto (n : Nat) (as : List (Nat × Nat)) (m : Nat) : List (List Nat) := (List.range m).flatMap fun k => rowsK n as (k + 1)
theorem upto_succ (n : Nat) (as : List (Nat × Nat)) (m : Nat) : upto n as (m + 1) = upto n as m ++ rowsK n as (m + 1) := by
  unfold upto
  rw [List.range_succ, List.flatMap_append]
  simp
theorem upto_len (n : Nat) (as : List (Nat × Nat)) (hn : n ≤ 5) (hz : as.length ≤ 10) (m : Nat) (hm : m ≤ 4) : (upto n as m).length ≤ m * 800000 := by
  have := flat_le (fun k => rowsK n as (k + 1)) 800000 (List.range m) fun k hk => by
    have := List.mem_range.mp hk
    exact rowsK_big n as hn hz (k + 1) (by omega)
  rwa [List.length_range] at this
theorem rowsK_ne {n : Nat} {as : List (Nat × Nat)} {k : Nat} : ∀ r ∈ rowsK n as k, r ≠ [] := fun r hr => by
  obtain ⟨x, l, rfl, _⟩ := mem_rowsK.mp hr
  exact List.cons_ne_nil _ _
theorem cat_tup {xs ys : List D} (st : Store) (hz : xs.length + ys.length ≤ 16777216) : binD .add (.tup xs) (.tup ys) st = .ok (.tup (xs ++ ys)) st := by
  simp only [binD, addD]
  rw [small_of hz, if_pos rfl]
section
variable {Φ : Nat → Option FD} {k : Nat}
theorem e61 (h : H61 Φ) (n : Nat) (as : List (Nat × Nat)) (hn : n ≤ 5) (hn1 : 1 ≤ n) (hz : as.length ≤ 10) (hlt : ∀ p ∈ as, p.1 < n ∧ p.2 < n) (st : Store) : callD Φ (k + 1) 61 [wb n as] st = .ok (nR (trails n as)) st := by
  refine call_ev0 h.self rfl ?_ (by unfold nR; simp only [D.pure]; exact pures_map _ nT_pure _)
  rw [runD_eq (env := [some (wb n as), none, none, none, none, none, none, none, none, none]) rfl]
  have hpl := prow_len as
  refine ss_asg (d := .lst ((prow as).map ar)) (st1 := st) ((e_bin (x := .lst (as.map ar)) (y := .lst ((as.map fun p => (p.2, p.1)).map ar)) (st1 := st) (st2 := st) (e_fz (l := .listOf (.of (.ix (.v 0) (.c (.int 1))))) ?_) ((e_fz (comp_map as ar (fun p => ar (p.2, p.1)) (i_tup rfl) rfl (by omega) fun p _ => ⟨_, rfl, e_tup (s_cons rfl (s_cons rfl s_nil)) (by show 2 ≤ 16777216; decide)⟩)).trans (by rw [List.map_map]; rfl)) (cat_lst st (by simp only [List.length_map]; omega))).trans (by unfold prow; rw [List.map_append])) rfl ?_
  · rw [evL, l_of (x := .tup (as.map ar)) rfl rfl, R.bind_ok]
  refine ss_asg (env1 := [some (wb n as), some (.lst ((prow as).map ar)), none, some (nR []), some (nR (rowsK n as 0)), none, none, none, none, none]) (st2 := st) (e_tup (s_cons (e_fz (l_disp s_nil (by decide))) (s_cons ((e_fz (comp_map (List.range n) (fun (i : Nat) => D.int (i : Int)) (fun t => nT [t]) (i_rng1 (j := (n : Int)) rfl (smallI_le (by omega) (by omega))) (all_rng0 n st) (by rw [List.length_range]; omega) fun t _ => ⟨_, rfl, e_tup (s_cons rfl s_nil) (by show 1 ≤ 16777216; decide)⟩)).trans (by unfold nR rowsK; rw [List.map_map]; rfl)) s_nil)) (by show 2 ≤ 16777216; decide)) rfl ?_
  obtain ⟨env1, st1, h1, hb, o2, o5, o6, he, rfl⟩ := s_forI (cal := callD Φ k) (t := .nm 2) (i := .rng1 (.bin .sub (.ix (.v 0) (.c (.int 0))) (.c (.int 1)))) (bd := (.cons (.asg (.nm 5) (.fz (.disp .nil))) (.cons (.for (.nm 6) (.of (.of (.v 4))) (.cons (.asg (.nm 5) (.bin .add (.v 5) (.fz (.comp [("one", 8), ("two", 9)] (.tp (.cons (.nm 8) (.cons (.nm 9) .nil))) (.of (.of (.v 1))) (.cons (.bools true (.cons (.cmp .eq (.v 8) (.ix (.v 6) (.neg (.c (.int 1))))) (.cons (.cmp .notin (.v 9) (.v 6)) .nil))) .nil) (.bin .add (.v 6) (.tup (.cons (.v 9) .nil))))))) .nil)) (.cons (.asg (.tp (.cons (.nm 3) (.cons (.nm 4) .nil))) (.tup (.cons (.bin .add (.v 3) (.v 5)) (.cons (.v 5) .nil)))) .nil))))
    (env := [some (wb n as), some (.lst ((prow as).map ar)), none, some (nR []), some (nR (rowsK n as 0)), none, none, none, none, none]) (st := st) (st0 := st) (List.range (n - 1)) (fun (i : Nat) => D.int (i : Int))
    (fun i (b : List (List Nat)) env s => b = upto n as i ∧ ∃ o2 o5 o6, env = [some (wb n as), some (.lst ((prow as).map ar)), o2, some (nR b), some (nR (rowsK n as i)), o5, o6, none, none, none] ∧ s = st) (fun b i => b ++ rowsK n as (i + 1))
    (J := .rng 0 (n - 1)) ((i_rng1 (j := (n : Int) - 1) (e_bin rfl rfl rfl) (smallI_le (by omega) (by omega))).trans (by
      show R.ok (It.rng _ _) _ = R.ok (It.rng _ _) _
      congr 2
      omega)) (b0 := []) ⟨rfl, _, _, _, rfl, rfl⟩ (fun _ _ _ s _ => all_rng0 (n - 1) s)
    (by
      intro i y hi b env s ⟨hb, o2, o5, o6, he, hs⟩
      subst he hs
      obtain ⟨hin, hia⟩ := List.getElem?_eq_some_iff.mp hi
      rw [List.length_range] at hin
      rw [List.getElem_range] at hia
      subst hia
      have hrl := rowsK_big n as hn hz i (by omega)
      have hrl2 := rowsK_big n as hn hz (i + 1) (by omega)
      have hul := upto_len n as hn hz i (by omega)
      rw [← hb] at hul
      obtain ⟨env2, st2, h2, hc, p6, he2, rfl⟩ := s_forI (cal := callD Φ k) (t := .nm 6) (i := .of (.of (.v 4))) (bd := (.cons (.asg (.nm 5) (.bin .add (.v 5) (.fz (.comp [("one", 8), ("two", 9)] (.tp (.cons (.nm 8) (.cons (.nm 9) .nil))) (.of (.of (.v 1))) (.cons (.bools true (.cons (.cmp .eq (.v 8) (.ix (.v 6) (.neg (.c (.int 1))))) (.cons (.cmp .notin (.v 9) (.v 6)) .nil))) .nil) (.bin .add (.v 6) (.tup (.cons (.v 9) .nil))))))) .nil))
        (env := [some (wb n as), some (.lst ((prow as).map ar)), some (.int (i : Int)), some (nR b), some (nR (rowsK n as i)), some (nR []), o6, none, none, none]) (st := s) (st0 := s) (rowsK n as i) nT
        (fun j (c : List (List Nat)) env s' => c.length ≤ j * 20 ∧ ∃ p6, env = [some (wb n as), some (.lst ((prow as).map ar)), some (.int (i : Int)), some (nR b), some (nR (rowsK n as i)), some (nR c), p6, none, none, none] ∧ s' = s) (fun c row => c ++ exts as row)
        (J := .ds true ((rowsK n as i).map nT)) (i_lst rfl) (b0 := []) ⟨by simp, _, rfl, rfl⟩ (fun _ _ _ _ _ => rfl)
        (by
          intro j row hj c env s' ⟨hc, p6, he, hs⟩
          subst he hs
          have hrow := List.mem_of_getElem? hj
          obtain ⟨x, l, hxl, hk, hx, hch, hnd⟩ := mem_rowsK.mp hrow
          have hne := rowsK_ne row hrow
          have hjl : j < (rowsK n as i).length := (List.getElem?_eq_some_iff.mp hj).1
          have hel := exts_len as row
          have hrwl : row.length ≤ 5 := by rw [hxl, List.length_cons, hk]; omega
          refine ⟨_, [some (wb n as), some (.lst ((prow as).map ar)), some (.int (i : Int)), some (nR b), some (nR (rowsK n as i)), some (nR (c ++ exts as row)), some (nT row), none, none, none], s', rfl, ?_, by rw [List.length_append]; omega, _, rfl, rfl⟩
          refine bs_asg (e_bin (x := nR c) (y := nR (exts as row)) (st1 := s') (st2 := s') rfl ((e_fz (comp_filter (prow as) ar (fun p => decide (p.1 = row.getLastD 0) && !decide (p.2 ∈ row)) (fun p => nT (row ++ [p.2])) (i_lst rfl) rfl (by omega) fun p _ => ⟨_, rfl, e_bools (b_and ((e_cmp rfl (e_ix rfl (y := .int (-1)) (st2 := s') rfl (ix_last hne s')) (cmp_eq _ _ _)).trans (by rw [deq])) fun _ => b_last (e_cmp rfl rfl (notin_nT row p.2 s'))), fun _ => ?_⟩)).trans (by unfold nR exts; rw [List.map_map]; rfl)) (cat_lst s' (by rw [List.length_map, List.length_map]; omega))) ?_ bs_nil
          · refine (e_bin (x := nT row) (y := nT [p.2]) (st1 := s') (st2 := s') rfl (e_tup (s_cons rfl s_nil) (by show 1 ≤ 16777216; decide)) (cat_tup s' (by simp only [List.length_map, List.length_cons, List.length_nil]; omega))).trans ?_
            unfold nT
            rw [List.map_append]
          · show R.ok _ _ = R.ok _ _
            unfold nR
            rw [List.map_append]
            rfl)
      rw [foldl_app, List.nil_append] at *
      have hkey : (rowsK n as i).flatMap (exts as) = rowsK n as (i + 1) := rfl
      rw [hkey] at *
      subst he2
      refine ⟨_, [some (wb n as), some (.lst ((prow as).map ar)), some (.int (i : Int)), some (nR (b ++ rowsK n as (i + 1))), some (nR (rowsK n as (i + 1))), some (nR (rowsK n as (i + 1))), p6, none, none, none], st2, rfl, ?_, by rw [hb, upto_succ], some (.int (i : Int)), some (nR (rowsK n as (i + 1))), p6, rfl, rfl⟩
      refine bs_asg (d := nR []) (st1 := st2) (env1 := [some (wb n as), some (.lst ((prow as).map ar)), some (.int (i : Int)), some (nR b), some (nR (rowsK n as i)), some (nR []), o6, none, none, none]) (e_fz (l_disp s_nil (by decide))) rfl (bs_s h2 ?_)
      refine bs_asg (d := .tup [nR (b ++ rowsK n as (i + 1)), nR (rowsK n as (i + 1))]) (st1 := st2) (e_tup (s_cons ((e_bin (x := nR b) (y := nR (rowsK n as (i + 1))) (st1 := st2) (st2 := st2) rfl rfl (cat_lst st2 (by rw [List.length_map, List.length_map]; omega))).trans (by unfold nR; rw [List.map_append])) (s_cons rfl s_nil)) (by show 2 ≤ 16777216; decide)) rfl bs_nil)
  subst he
  refine ss_s h1 (ss_ret ?_)
  rw [List.length_range] at hb
  rw [hb]
  rfl
/-- trails from the one to the other that are open -/
def opensF (n : Nat) (as : List (Nat × Nat)) (one other Z : List Nat) : List (List Nat) := (((trails n as).filter fun r => decide (r.getD 0 0 ∈ one) && decide (r.getLastD 0 ∈ other))).filter fun r => openB n as Z r
def szD (r : List Nat) : D := .tup [.int (r.length : Int), nT r]
theorem szD_py (r : List Nat) : (szD r).py = .tuple [.int (r.length : Int), .tuple ((nI r).map .int)] := by
  unfold szD
  simp only [D.py, D.pys]
  rw [nT_eq]
  have := iT_py (nI r)
  unfold iT at this
  rw [this]
theorem sort_sz (l : List (List Nat)) (hz : l.length ≤ 16777216) : ∃ l' : List (List Nat), l'.Perm l ∧ sortD (l.map szD) = some (l'.map szD) := by
  have hs : sortD (l.map szD) = some ((l.map szD).mergeSort (PySem.W.dataLe false D.py)) := by
    unfold sortD
    rw [if_pos]
    simp only [Bool.and_eq_true]
    refine ⟨⟨⟨?_, ?_⟩, ?_⟩, by rw [List.length_map]; exact small_of hz⟩
    · rw [List.all_eq_true]
      intro d hd
      obtain ⟨r, _, rfl⟩ := List.mem_map.mp hd
      unfold D.flat
      have h1 : (szD r).pure = true := by
        unfold szD
        simp only [D.pure, D.pures, Bool.and_true, Bool.true_and]
        have := nT_pure r
        unfold nT at this ⊢
        exact this
      rw [h1, szD_py, Bool.true_and]
      have := depth_ints (nI r)
      simp only [PyData.depth, PyData.depthAll]
      exact decide_eq_true (by omega)
    · unfold alikeD
      rw [List.all_eq_true]
      intro d hd
      rw [List.all_eq_true]
      intro d' hd'
      obtain ⟨r, _, rfl⟩ := List.mem_map.mp hd
      obtain ⟨q, _, rfl⟩ := List.mem_map.mp hd'
      rw [szD_py, szD_py]
      simp only [PySem.W.alike, PySem.W.alikeAll, alike_ints, Bool.and_self]
    · unfold sortableD
      rw [Bool.or_eq_true]
      refine .inl (List.all_eq_true.mpr fun d hd => ?_)
      obtain ⟨r, _, rfl⟩ := List.mem_map.mp hd
      rfl
  obtain ⟨l', h1, h2⟩ := perm_map_inv szD (List.mergeSort_perm (l.map szD) (PySem.W.dataLe false D.py)) rfl
  exact ⟨l', h1, by rw [hs, h2]⟩
theorem e62 (h : H62 Φ) (n : Nat) (as : List (Nat × Nat)) (w : WV n as) (hn : n ≤ 5) (hz : as.length ≤ 10) (one other Z : List Nat) (hZ : Lot n Z) (st : Store) : ∃ rows : List (List Nat), rows.Perm (opensF n as one other Z) ∧ callD Φ (k + 3) 62 [wb n as, nT one, nT other, nT Z] st = .ok (nR rows) st := by
  have hzl := hZ.len
  have htl : (trails n as).length ≤ 3200000 := upto_len n as hn hz (n - 1) (by omega) |> fun h => Nat.le_trans h (by
    have : n - 1 ≤ 4 := by omega
    exact Nat.le_trans (Nat.mul_le_mul_right _ this) (by decide))
  let F1 := (trails n as).filter fun r => decide (r.getD 0 0 ∈ one) && decide (r.getLastD 0 ∈ other)
  have hF1 : F1.length ≤ 3200000 := Nat.le_trans (List.length_filter_le _ _) htl
  have hF2 : (opensF n as one other Z).length ≤ 3200000 := Nat.le_trans (List.length_filter_le _ _) hF1
  obtain ⟨rows, hp, hs⟩ := sort_sz (opensF n as one other Z) (by omega)
  refine ⟨rows, hp, ?_⟩
  refine call_ev0 h.self rfl ?_ (by unfold nR; simp only [D.pure]; exact pures_map _ nT_pure _)
  rw [runD_eq (env := [some (wb n as), some (nT one), some (nT other), some (nT Z), none, none, none]) rfl]
  have hform : ∀ r ∈ trails n as, 2 ≤ r.length ∧ r.length ≤ 1000 := fun r hr => by
    obtain ⟨x, l, rfl, hl, hx, hc, hnd⟩ := (mem_trails w.lt).mp hr
    have := len_sub (l := x :: l) (b := List.range n) hnd fun y hy => by
      rcases List.mem_cons.mp hy with rfl | hy
      · exact List.mem_range.mpr hx
      · exact List.mem_range.mpr (chn_lt w.lt hc y hy)
    rw [List.length_range] at this
    have h1 := List.length_pos_iff.mpr hl
    rw [List.length_cons] at *
    omega
  refine ss_asg (d := nR F1) (st1 := st) (e_fz (comp_filter (trails n as) nT (fun r => decide (r.getD 0 0 ∈ one) && decide (r.getLastD 0 ∈ other)) nT (i_lst (e_call (s_cons rfl s_nil) (e61 (k := k + 1) h.c61 n as hn w.pos hz w.lt st))) rfl (by omega) fun r hr => ?_)) rfl ?_
  · have hr2 := hform r hr
    have hne : r ≠ [] := fun e => by rw [e] at hr2; simp at hr2
    exact ⟨_, rfl, e_bools (b_and (e_cmp (e_ix rfl rfl (ix_nT (i := 0) (by omega) st)) rfl (isin_nT one _ st)) fun _ => b_last (e_cmp (e_ix rfl (y := .int (-1)) (st2 := st) rfl (ix_last hne st)) rfl (isin_nT other _ st))), fun _ => rfl⟩
  refine ss_asg (d := nR (opensF n as one other Z)) (st1 := st) (e_fz (comp_filter F1 nT (fun r => openB n as Z r) nT (i_lst rfl) rfl (by omega) fun r hr => ⟨_, rfl, e_call (s_cons rfl (s_cons rfl (s_cons rfl s_nil))) (e60 (k := k) h.c60 n as hn hz Z r (by omega) (hform r (List.mem_filter.mp hr).1).1 (hform r (List.mem_filter.mp hr).1).2 st), fun _ => rfl⟩)) rfl (ss_ret ?_)
  have hrl : rows.length = (opensF n as one other Z).length := hp.length_eq
  have hsz : evL (callD Φ (k + 2)) (.comp [("row", 5)] (.nm 5) (.of (.of (.v 4))) .nil (.tup (.cons (.b1 .len (.v 5)) (.cons (.v 5) .nil)))) [some (wb n as), some (nT one), some (nT other), some (nT Z), some (nR (opensF n as one other Z)), none, none] st = .ok (true, (opensF n as one other Z).map szD) st := by
    refine comp_map (opensF n as one other Z) nT szD (i_lst rfl) rfl (by omega) fun r _ => ⟨_, rfl, e_tup (s_cons (e_b1 (x := nT r) (r := .ok (.int (r.length : Int)) st) rfl (by
      show R.ok (D.int ((r.map fun (i : Nat) => D.int (i : Int)).length : Nat)) st = _
      rw [List.length_map])) (s_cons rfl s_nil)) (by show 2 ≤ 16777216; decide)⟩
  have hI : evI (callD Φ (k + 2)) (.of (.sorted (.comp [("row", 5)] (.nm 5) (.of (.of (.v 4))) .nil (.tup (.cons (.b1 .len (.v 5)) (.cons (.v 5) .nil)))))) [some (wb n as), some (nT one), some (nT other), some (nT Z), some (nR (opensF n as one other Z)), none, none] st = .ok (.ds true (rows.map szD)) st := by
    rw [evI, l_sorted hsz hs, R.bind_ok]
    exact fun e h => nomatch h
  exact e_fz (comp_map rows szD nT hI rfl (by omega) fun r _ => ⟨_, rfl, rfl⟩)
end
end PyD
namespace PyD
open PySem
theorem apart_opens {n : Nat} {as : List (Nat × Nat)} (w : WV n as) {one other Z : List Nat} (L : L3 n one other Z) : apartB n as one other Z = true ↔ opensF n as one other Z = [] := by
  rw [apartB_iff L]
  unfold opensF
  constructor
  · intro h
    refine List.eq_nil_iff_forall_not_mem.mpr fun r hr => ?_
    obtain ⟨h1, h2⟩ := List.mem_filter.mp hr
    obtain ⟨h3, h4⟩ := List.mem_filter.mp h1
    rw [Bool.and_eq_true] at h4
    obtain ⟨x, l, rfl, hl, hx, hc, hnd⟩ := (mem_trails w.lt).mp h3
    have h5 : x ∈ one := of_decide_eq_true h4.1
    have h6 := of_decide_eq_true h4.2
    rw [lastD_any] at h6
    obtain ⟨_, _, h7⟩ := (open_iff w.toWOk L.l3.lt hc).mp h2
    exact h x h5 _ h6 (open_con w L.l3.lt (L.d13 x h5) h7)
  · intro h x hx y hy hc
    obtain ⟨r, h1, h2, h3, h4⟩ := con_open w L.l3.lt (L.l1.lt x hx) (L.d13 x hx) (L.d23 y hy) (fun e => L.d12 x hx (e ▸ hy)) hc
    have : r ∈ ((trails n as).filter fun r => decide (r.getD 0 0 ∈ one) && decide (r.getLastD 0 ∈ other)).filter fun r => openB n as Z r := List.mem_filter.mpr ⟨List.mem_filter.mpr ⟨h1, by rw [h2, h3, decide_eq_true hx, decide_eq_true hy]; rfl⟩, h4⟩
    rw [h] at this
    cases this
theorem nsort_lot {n : Nat} {l : List Nat} (hn : l.Nodup) (hl : ∀ x ∈ l, x < n) : Lot n (nsort l) := by
  refine ⟨?_, fun x hx => hl x ((nsort_perm l).mem_iff.mp hx)⟩
  have h1 := nsort_le l
  have h2 := (nsort_perm l).nodup_iff.mpr hn
  exact (List.Pairwise.and h1 h2).imp fun ⟨a, b⟩ => Nat.lt_of_le_of_ne a b
section
variable {cal : Cal} {env : Env} {st st1 : Store} {a e : E} {i : Nat} {ds : List D} {d : D}
theorem e_app3 (ha : evE cal a env st = .ok (.ref i) st1) (hi : st1[i]? = some (.lst ds)) (he : evE cal e env st1 = .ok d st1) (hz : ds.length + 1 ≤ 16777216) : evE cal (.app a e) env st = .ok .non (st1.set i (.lst (ds ++ [d]))) := by
  rw [evE, ha, R.bind_ok]
  simp only [items_ref hi]
  rw [he, R.bind_ok]
  simp only [hi, small_of hz, if_true]
theorem ix_ref {t : Nat} (hi : st[i]? = some (.lst ds)) (h : ds[t]? = some d) : ixD (.ref i) (.int (t : Int)) st = .ok d st := by
  simp only [ixD, hi, atI_nat h]
end
section
variable {st tl : Store} {a : Nat} {b b' : MO}
theorem sT_get (i : Nat) : (st.set a b ++ tl)[st.length + i]? = tl[i]? := by
  rw [List.getElem?_append_right (by rw [List.length_set]; omega), List.length_set, Nat.add_sub_cancel_left]
theorem sT_set (i : Nat) (x : MO) : (st.set a b ++ tl).set (st.length + i) x = st.set a b ++ tl.set i x := by
  rw [List.set_append_right _ _ (by rw [List.length_set]; omega), List.length_set, Nat.add_sub_cancel_left]
theorem sT_bag (h : a < st.length) : (st.set a b ++ tl).set a b' = st.set a b' ++ tl := by
  rw [List.set_append_left _ _ (by rw [List.length_set]; exact h), List.set_set]
end
/-- the four lots in the store -/
def lots4 (p : Nat) (ls : Nat → List Nat) : Store := [.lst (nD (ls 0)), .lst (nD (ls 1)), .lst (nD (ls 2)), .lst (nD (ls 3)), .lst [.ref p, .ref (p + 1), .ref (p + 2), .ref (p + 3)]]
def put (ls : Nat → List Nat) (j y : Nat) : Nat → List Nat := fun m => if m = j then ls m ++ [y] else ls m
theorem lots4_set (p : Nat) (ls : Nat → List Nat) (y : Nat) : ∀ j, j < 4 → (lots4 p ls).set j (.lst (nD (ls j ++ [y]))) = lots4 p (put ls j y)
  | 0, _ => rfl
  | 1, _ => rfl
  | 2, _ => rfl
  | 3, _ => rfl
  | j + 4, h => by omega
theorem lots4_get (p : Nat) (ls : Nat → List Nat) : ∀ j, j < 4 → (lots4 p ls)[j]? = some (.lst (nD (ls j)))
  | 0, _ => rfl
  | 1, _ => rfl
  | 2, _ => rfl
  | 3, _ => rfl
  | j + 4, h => by omega
structure Four (n one two y : Nat) (ls : Nat → List Nat) : Prop where
  nod : ∀ i, i < 4 → (ls i).Nodup
  dis : ∀ i j, i < 4 → j < 4 → i ≠ j → ∀ x ∈ ls i, x ∉ ls j
  mem : ∀ i, i < 4 → ∀ x ∈ ls i, x < n ∧ (x = one ∨ x = two ∨ x < y)
  n0 : ls 0 ≠ []
  n1 : ls 1 ≠ []
theorem Four.put {n one two y j : Nat} {ls : Nat → List Nat} (F : Four n one two y ls) (hj : j < 4) (hy : y < n) (h1 : y ≠ one) (h2 : y ≠ two) : Four n one two (y + 1) (put ls j y) := by
  have hno : ∀ i, i < 4 → y ∉ ls i := fun i hi h => by
    rcases (F.mem i hi y h).2 with e | e | e
    · exact h1 e
    · exact h2 e
    · omega
  have hm : ∀ i x, x ∈ PyD.put ls j y i → x ∈ ls i ∨ (i = j ∧ x = y) := fun i x hx => by
    unfold PyD.put at hx
    split at hx
    · rename_i e
      rcases List.mem_append.mp hx with hx | hx
      · exact .inl hx
      · exact .inr ⟨e, List.mem_singleton.mp hx⟩
    · exact .inl hx
  have hne : ∀ i, ls i ≠ [] → PyD.put ls j y i ≠ [] := fun i h => by
    unfold PyD.put
    split
    · exact fun e => h (List.append_eq_nil_iff.mp e).1
    · exact h
  refine ⟨fun i hi => ?_, fun i i' hi hi' hii x hx hx' => ?_, fun i hi x hx => ?_, hne 0 F.n0, hne 1 F.n1⟩
  · unfold PyD.put
    split
    · exact List.nodup_append.mpr ⟨F.nod i hi, List.nodup_cons.mpr ⟨List.not_mem_nil, List.nodup_nil⟩, fun x hx z hz e => by
        rw [List.mem_singleton] at hz
        exact hno i hi (hz ▸ e ▸ hx)⟩
    · exact F.nod i hi
  · rcases hm i x hx with q | ⟨q1, q2⟩
    · rcases hm i' x hx' with r | ⟨r1, r2⟩
      · exact F.dis i i' hi hi' hii x q r
      · exact hno i hi (r2 ▸ q)
    · rcases hm i' x hx' with r | ⟨r1, r2⟩
      · exact hno i' hi' (q2 ▸ r)
      · exact hii (q1.trans r1.symm)
  · rcases hm i x hx with q | ⟨q1, q2⟩
    · have := F.mem i hi x q
      refine ⟨this.1, ?_⟩
      rcases this.2 with e | e | e
      · exact .inl e
      · exact .inr (.inl e)
      · exact .inr (.inr (by omega))
    · subst q2
      exact ⟨hy, .inr (.inr (by omega))⟩
theorem Four.next {n one two y : Nat} {ls : Nat → List Nat} (F : Four n one two y ls) : Four n one two (y + 1) ls :=
  ⟨F.nod, F.dis, fun i hi x hx => by
    have := F.mem i hi x hx
    refine ⟨this.1, ?_⟩
    rcases this.2 with e | e | e
    · exact .inl e
    · exact .inr (.inl e)
    · exact .inr (.inr (by omega)), F.n0, F.n1⟩
section
variable {Φ : Nat → Option FD} {k : Nat}
theorem e58 (h : H58 Φ) (a n r w t : Nat) (hn : 2 ≤ n) (hn2 : n ≤ 6) (st : Store) (hs : st[a]? = some (bagO r w t)) :
    ∃ one two Z r' w' t' j, L3 n one two Z ∧ callD Φ (k + 2) 58 [.ref a, .int (n : Int)] st = .ok (.tup [nT one, nT two, nT Z]) (st.set a (bagO r' w' t') ++ j) := by
  have ha : a < st.length := (List.getElem?_eq_some_iff.mp hs).1
  obtain ⟨one, r1, w1, t1, hone, c1⟩ := e35 (k := k) h.c35 a n r w t (by omega) (by omega) st hs
  obtain ⟨g, r2, w2, t2, hg, c2⟩ := e35 (k := k) h.c35 a (n - 1) r1 w1 t1 (by omega) (by omega) (st.set a (bagO r1 w1 t1)) (List.getElem?_set_self ha)
  rw [List.set_set] at c2
  let two := (one + 1 + g) % n
  have htwo : two < n := Nat.mod_lt _ (by omega)
  have hne : two ≠ one := by
    show (one + 1 + g) % n ≠ one
    rcases Nat.lt_or_ge (one + 1 + g) n with c | c
    · rw [Nat.mod_eq_of_lt c]; omega
    · rw [Nat.mod_eq_sub_mod c, Nat.mod_eq_of_lt (by omega)]; omega
  let env := fun (x3 x6 : Option D) => [some (.ref a), some (.int (n : Int)), some (.int (one : Int)), x3, some (.int (two : Int)), some (.ref (st.length + 4)), x6]
  let ls0 : Nat → List Nat := fun m => if m = 0 then [one] else if m = 1 then [two] else []
  have hF0 : Four n one two 0 ls0 := by
    refine ⟨fun i hi => ?_, fun i j hi hj hij x hx hx' => ?_, fun i hi x hx => ?_, by show [one] ≠ []; simp, by show [two] ≠ []; simp⟩
    · show (if i = 0 then [one] else if i = 1 then [two] else []).Nodup
      split
      · simp
      · split <;> simp
    · have q : ∀ m x, x ∈ ls0 m → (m = 0 ∧ x = one) ∨ (m = 1 ∧ x = two) := fun m x hx => by
        have hx : x ∈ (if m = 0 then [one] else if m = 1 then [two] else []) := hx
        split at hx
        · exact .inl ⟨by assumption, List.mem_singleton.mp hx⟩
        · split at hx
          · exact .inr ⟨by assumption, List.mem_singleton.mp hx⟩
          · cases hx
      rcases q i x hx with ⟨p1, p2⟩ | ⟨p1, p2⟩ <;> rcases q j x hx' with ⟨q1, q2⟩ | ⟨q1, q2⟩
      · exact hij (p1.trans q1.symm)
      · exact hne (q2.symm.trans p2)
      · exact hne (p2.symm.trans q2)
      · exact hij (p1.trans q1.symm)
    · have hx : x ∈ (if i = 0 then [one] else if i = 1 then [two] else []) := hx
      split at hx
      · have := List.mem_singleton.mp hx
        subst this
        exact ⟨hone, .inl rfl⟩
      · split at hx
        · have := List.mem_singleton.mp hx
          exact ⟨this ▸ htwo, .inr (.inl this)⟩
        · cases hx
  obtain ⟨env1, st1, hw, ls, r3, w3, t3, x3, hF, he, hst⟩ := s_forI (cal := callD Φ (k + 1)) (t := .nm 3) (i := .rng1 (.v 1)) (bd := (.cons (.ifs (.cmp .notin (.v 3) (.tup (.cons (.v 2) (.cons (.v 4) .nil)))) (.cons (.ex (.app (.ix (.v 5) (.ix (.tup (.cons (.c (.int 2)) (.cons (.c (.int 3)) (.cons (.c (.int 2)) (.cons (.c (.int 0)) (.cons (.c (.int 1)) .nil)))))) (.call 35 (.cons (.v 0) (.cons (.c (.int 5)) .nil))))) (.v 3))) .nil) .nil) .nil))
    (env := env none none) (st := st.set a (bagO r2 w2 t2) ++ lots4 st.length ls0) (st0 := st.set a (bagO r2 w2 t2) ++ lots4 st.length ls0) (J := .rng 0 n)
    (List.range n) (fun (i : Nat) => D.int (i : Int))
    (fun (i : Nat) (_ : Unit) (e : Env) (s : Store) => ∃ ls r3 w3 t3 x3, Four n one two i ls ∧ e = env x3 none ∧ s = st.set a (bagO r3 w3 t3) ++ lots4 st.length ls)
    (fun _ _ => ()) (i_rng1 (j := (n : Int)) rfl (smallI_le (by omega) (by omega))) (b0 := ())
    ⟨ls0, r2, w2, t2, none, hF0, rfl, rfl⟩ (fun _ _ _ s _ => all_rng0 n s)
    (by
      intro i y hi _ e s ⟨ls, r3, w3, t3, x3, hF, he, hs⟩
      subst he hs
      obtain ⟨hin, hia⟩ := List.getElem?_eq_some_iff.mp hi
      rw [List.length_range] at hin
      rw [List.getElem_range] at hia
      subst hia
      have hc : evE (callD Φ (k + 1)) (.cmp .notin (.v 3) (.tup (.cons (.v 2) (.cons (.v 4) .nil)))) (env (some (.int (i : Int))) none) (st.set a (bagO r3 w3 t3) ++ lots4 st.length ls) = .ok (.bl (!decide (i ∈ [one, two]))) (st.set a (bagO r3 w3 t3) ++ lots4 st.length ls) := e_cmp rfl (e_tup (s_cons rfl (s_cons rfl s_nil)) (by show 2 ≤ 16777216; decide)) (notin_nT [one, two] i _)
      by_cases hm : i ∈ [one, two]
      · rw [decide_eq_true hm] at hc
        exact ⟨_, _, _, rfl, bs_if_f hc bs_nil, ls, r3, w3, t3, some (.int (i : Int)), hF.next, rfl, rfl⟩
      · rw [decide_eq_false hm] at hc
        simp only [List.mem_cons, List.not_mem_nil, or_false, not_or] at hm
        obtain ⟨g5, r4, w4, t4, hg5, c5⟩ := e35 (k := k) h.c35 a 5 r3 w3 t3 (by decide) (by decide) (st.set a (bagO r3 w3 t3) ++ lots4 st.length ls) (get_bag ha)
        rw [sT_bag ha] at c5
        have c5 : callD Φ (k + 1) 35 [.ref a, .int 5] (st.set a (bagO r3 w3 t3) ++ lots4 st.length ls) = .ok (.int (g5 : Int)) (st.set a (bagO r4 w4 t4) ++ lots4 st.length ls) := c5
        obtain ⟨j, hj, hjx⟩ : ∃ j : Nat, j < 4 ∧ ([.int 2, .int 3, .int 2, .int 0, .int 1] : List D)[g5]? = some (.int (j : Int)) := by
          have : g5 = 0 ∨ g5 = 1 ∨ g5 = 2 ∨ g5 = 3 ∨ g5 = 4 := by omega
          rcases this with e | e | e | e | e <;> subst e
          · exact ⟨2, by decide, rfl⟩
          · exact ⟨3, by decide, rfl⟩
          · exact ⟨2, by decide, rfl⟩
          · exact ⟨0, by decide, rfl⟩
          · exact ⟨1, by decide, rfl⟩
        have hix : evE (callD Φ (k + 1)) (.ix (.v 5) (.ix (.tup (.cons (.c (.int 2)) (.cons (.c (.int 3)) (.cons (.c (.int 2)) (.cons (.c (.int 0)) (.cons (.c (.int 1)) .nil)))))) (.call 35 (.cons (.v 0) (.cons (.c (.int 5)) .nil))))) (env (some (.int (i : Int))) none) (st.set a (bagO r3 w3 t3) ++ lots4 st.length ls) = .ok (.ref (st.length + j)) (st.set a (bagO r4 w4 t4) ++ lots4 st.length ls) := by
          refine e_ix (x := .ref (st.length + 4)) rfl (e_ix (e_tup (s_cons rfl (s_cons rfl (s_cons rfl (s_cons rfl (s_cons rfl s_nil))))) (by show 5 ≤ 16777216; decide)) (e_call (s_cons rfl (s_cons rfl s_nil)) c5) (ix_tup _ hjx)) ?_
          refine ix_ref (ds := [.ref st.length, .ref (st.length + 1), .ref (st.length + 2), .ref (st.length + 3)]) (by rw [sT_get]; rfl) ?_
          have : j = 0 ∨ j = 1 ∨ j = 2 ∨ j = 3 := by omega
          rcases this with e | e | e | e <;> subst e <;> rfl
        have hbig : (ls j).length ≤ n := by
          have := len_sub (l := ls j) (b := List.range n) (hF.nod j hj) fun x hx => List.mem_range.mpr (hF.mem j hj x hx).1
          rwa [List.length_range] at this
        have happ := e_app3 (cal := callD Φ (k + 1)) (e := .v 3) (d := .int (i : Int)) (ds := nD (ls j)) hix (by rw [sT_get, lots4_get _ _ _ hj]) rfl (by unfold nD; rw [List.length_map]; omega)
        have hapd : nD (ls j) ++ [D.int (i : Int)] = nD (ls j ++ [i]) := by unfold nD; rw [List.map_append]; rfl
        rw [hapd, sT_set, lots4_set _ _ _ _ hj] at happ
        exact ⟨_, _, _, rfl, bs_if_t0 hc (bs_ex happ bs_nil) bs_nil, put ls j i, r4, w4, t4, some (.int (i : Int)), hF.put hj hin hm.1 hm.2, rfl, rfl⟩)
  subst he hst
  have L : L3 n (nsort (ls 0)) (nsort (ls 1)) (nsort (ls 2)) := by
    have hm : ∀ i, ∀ x, x ∈ nsort (ls i) ↔ x ∈ ls i := fun i x => (nsort_perm (ls i)).mem_iff
    have hn0 : ∀ i, ls i ≠ [] → nsort (ls i) ≠ [] := fun i h e => by
      have := (nsort_perm (ls i)).length_eq
      rw [e] at this
      exact h (List.eq_nil_of_length_eq_zero this.symm)
    refine ⟨nsort_lot (hF.nod 0 (by decide)) fun x hx => (hF.mem 0 (by decide) x hx).1, nsort_lot (hF.nod 1 (by decide)) fun x hx => (hF.mem 1 (by decide) x hx).1, nsort_lot (hF.nod 2 (by decide)) fun x hx => (hF.mem 2 (by decide) x hx).1, hn0 0 hF.n0, hn0 1 hF.n1, fun x hx hx' => ?_, fun x hx hx' => ?_, fun x hx hx' => ?_⟩
    · exact hF.dis 0 1 (by decide) (by decide) (by decide) x ((hm 0 x).mp hx) ((hm 1 x).mp hx')
    · exact hF.dis 0 2 (by decide) (by decide) (by decide) x ((hm 0 x).mp hx) ((hm 2 x).mp hx')
    · exact hF.dis 1 2 (by decide) (by decide) (by decide) x ((hm 1 x).mp hx) ((hm 2 x).mp hx')
  have hlen : ∀ i, i < 4 → (ls i).length ≤ n := fun i hi => by
    have := len_sub (l := ls i) (b := List.range n) (hF.nod i hi) fun x hx => List.mem_range.mpr (hF.mem i hi x hx).1
    rwa [List.length_range] at this
  have key : runD (callD Φ (k + 1)) td58.fd [.ref a, .int (n : Int)] st = .ok (.tup [nT (nsort (ls 0)), nT (nsort (ls 1)), nT (nsort (ls 2))]) (st.set a (bagO r3 w3 t3) ++ lots4 st.length ls) := by
    rw [runD_eq (env := [some (.ref a), some (.int (n : Int)), none, none, none, none, none]) rfl]
    refine ss_asg (e_call (s_cons rfl (s_cons rfl s_nil)) c1) rfl ?_
    have hm1 : ((n - 1 : Nat) : Int) = (n : Int) - 1 := by omega
    rw [hm1] at c2
    have ht : evE (callD Φ (k + 1)) (.bin .mod (.bin .add (.bin .add (.v 2) (.c (.int 1))) (.call 35 (.cons (.v 0) (.cons (.bin .sub (.v 1) (.c (.int 1))) .nil)))) (.v 1)) [some (.ref a), some (.int (n : Int)), some (.int (one : Int)), none, none, none, none] (st.set a (bagO r1 w1 t1)) = .ok (.int (two : Int)) (st.set a (bagO r2 w2 t2)) := by
      refine (e_bin (x := .int ((one : Int) + 1 + (g : Int))) (y := .int (n : Int)) (st1 := st.set a (bagO r2 w2 t2)) (st2 := st.set a (bagO r2 w2 t2)) (e_bin (e_bin rfl rfl rfl) (e_call (s_cons rfl (s_cons (e_bin rfl rfl rfl) s_nil)) c2) rfl) rfl ?_)
      show (if decide (0 < (n : Int)) = true then R.ok (D.int (((one : Int) + 1 + (g : Int)) % (n : Int))) _ else R.stuck) = _
      rw [if_pos (decide_eq_true (by omega))]
      rfl
    have hl : evE (callD Φ (k + 1)) (.ls (.disp (.cons (.ls (.disp (.cons (.v 2) .nil))) (.cons (.ls (.disp .nil)) (.cons (.ls (.disp .nil)) (.cons (.ls (.disp .nil)) .nil)))))) [some (.ref a), some (.int (n : Int)), some (.int (one : Int)), none, none, none, none] (st.set a (bagO r2 w2 t2)) = .ok (.ref (st.length + 4)) (st.set a (bagO r2 w2 t2) ++ lots4 st.length (fun m => if m = 0 then [one] else [])) := by
      refine (e_ls (l_disp (s_cons (e_ls (l_disp (s_cons rfl s_nil) (by show 1 ≤ 16777216; decide))) (s_cons (e_ls (l_disp s_nil (by decide))) (s_cons (e_ls (l_disp s_nil (by decide))) (s_cons (e_ls (l_disp s_nil (by decide))) s_nil)))) (by show 4 ≤ 16777216; decide))).trans ?_
      simp only [List.length_append, List.length_set, List.length_singleton, List.append_assoc]
      rfl
    refine ss_asg (env1 := env none none) (st2 := st.set a (bagO r2 w2 t2) ++ lots4 st.length (fun m => if m = 0 then [one] else [])) (e_tup (s_cons ht (s_cons hl s_nil)) (by show 2 ≤ 16777216; decide)) rfl ?_
    have happ := e_app3 (cal := callD Φ (k + 1)) (a := .ix (.v 5) (.c (.int 1))) (e := .v 4) (env := env none none) (i := st.length + 1) (ds := nD []) (d := .int (two : Int)) (st := st.set a (bagO r2 w2 t2) ++ lots4 st.length (fun m => if m = 0 then [one] else [])) (st1 := st.set a (bagO r2 w2 t2) ++ lots4 st.length (fun m => if m = 0 then [one] else [])) (e_ix rfl rfl (ix_ref (t := 1) (ds := [.ref st.length, .ref (st.length + 1), .ref (st.length + 2), .ref (st.length + 3)]) (by rw [sT_get]; rfl) rfl)) (by rw [sT_get]; rfl) rfl (by show 0 + 1 ≤ 16777216; decide)
    rw [sT_set] at happ
    refine ss_ex happ ?_
    have hb : (lots4 st.length (fun m => if m = 0 then [one] else [])).set 1 (.lst (nD [] ++ [.int (two : Int)])) = lots4 st.length ls0 := rfl
    rw [hb]
    refine ss_s hw (ss_ret ?_)
    have hsl : evE (callD Φ (k + 1)) (.sl (.v 5) .no (.at (.c (.int 3)))) (env x3 none) (st.set a (bagO r3 w3 t3) ++ lots4 st.length ls) = .ok (.lst [.ref st.length, .ref (st.length + 1), .ref (st.length + 2)]) (st.set a (bagO r3 w3 t3) ++ lots4 st.length ls) := by
      have hi : items (.ref (st.length + 4)) (st.set a (bagO r3 w3 t3) ++ lots4 st.length ls) = some (true, [.ref st.length, .ref (st.length + 1), .ref (st.length + 2), .ref (st.length + 3)]) := items_ref (by rw [sT_get]; rfl)
      have hv : evE (callD Φ (k + 1)) (.v 5) (env x3 none) (st.set a (bagO r3 w3 t3) ++ lots4 st.length ls) = .ok (.ref (st.length + 4)) (st.set a (bagO r3 w3 t3) ++ lots4 st.length ls) := rfl
      rw [evE, hv, R.bind_ok, evO, R.bind_ok, evO, evE, R.bind_ok, R.bind_ok]
      simp only [hi]
      rfl
    refine (e_tupOf (comp_map [0, 1, 2] (fun i => D.ref (st.length + i)) (fun i => nT (nsort (ls i))) (i_lst hsl) rfl (by show 3 ≤ 16777216; decide) fun i hi => ⟨_, rfl, ?_⟩)).trans rfl
    have hi4 : i < 4 := by
      simp only [List.mem_cons, List.not_mem_nil, or_false] at hi
      omega
    have hll := hlen i hi4
    exact e_tupOf (l_sorted (l_of (x := .ref (st.length + i)) rfl (items_ref (by rw [sT_get, lots4_get _ _ _ hi4]; rfl))) (sortD_nats (ls i) (by omega)))
  obtain ⟨j', hj'⟩ := fin_bag (st := st) (s1 := st.set a (bagO r3 w3 t3)) (j := lots4 st.length ls) (v := .tup [nT (nsort (ls 0)), nT (nsort (ls 1)), nT (nsort (ls 2))]) (by simp only [D.pure, D.pures, nT_pure, Bool.and_self]) (List.length_set ..)
  refine ⟨_, _, _, r3, w3, t3, j', L, ?_⟩
  rw [call_eq h.self rfl, key]
  exact hj'
end
end PyD
namespace PyD
open PySem
theorem uN_nodup (l : List Nat) : (uN l).Nodup := (uN_asc l).imp fun h => Nat.ne_of_lt h
section
variable {n : Nat} {as : List (Nat × Nat)} {one two more Z : List Nat}
structure M4 (n : Nat) (one two more Z : List Nat) : Prop where
  L : L3 n one two Z
  m : Lot n more
  nm : more ≠ []
  m1 : ∀ x ∈ one, x ∉ more
  m2 : ∀ x ∈ two, x ∉ more
  m3 : ∀ x ∈ more, x ∉ Z
theorem uN_ne {l : List Nat} (h : l ≠ []) : uN l ≠ [] := fun e => by
  obtain ⟨x, hx⟩ := List.exists_mem_of_ne_nil l h
  have := mem_uN.mpr hx
  rw [e] at this
  cases this
theorem uN2_lot {a b : List Nat} (ha : Lot n a) (hb : Lot n b) : Lot n (uN (a ++ b)) := uN_lot fun x hx => (List.mem_append.mp hx).elim (ha.lt x) (hb.lt x)
theorem mem_u2 {a b : List Nat} {x : Nat} : x ∈ uN (a ++ b) ↔ x ∈ a ∨ x ∈ b := by rw [mem_uN, List.mem_append]
theorem M4.b (h : M4 n one two more Z) : L3 n one (uN (two ++ more)) Z :=
  ⟨h.L.l1, uN2_lot h.L.l2 h.m, h.L.l3, h.L.n1, uN_ne fun e => h.L.n2 (List.append_eq_nil_iff.mp e).1, fun x hx hx' => (mem_u2.mp hx').elim (h.L.d12 x hx) (h.m1 x hx), h.L.d13, fun x hx => (mem_u2.mp hx).elim (h.L.d23 x) (h.m3 x)⟩
theorem L3.symm (h : L3 n one two Z) : L3 n two one Z := ⟨h.l2, h.l1, h.l3, h.n2, h.n1, fun x hx hx' => h.d12 x hx' hx, h.d23, h.d13⟩
theorem M4.o (h : M4 n one two more Z) : L3 n one more Z := ⟨h.L.l1, h.m, h.L.l3, h.L.n1, h.nm, h.m1, h.L.d13, h.m3⟩
theorem M4.g (h : M4 n one two more Z) : L3 n one two (uN (Z ++ more)) :=
  ⟨h.L.l1, h.L.l2, uN2_lot h.L.l3 h.m, h.L.n1, h.L.n2, h.L.d12, fun x hx hx' => (mem_u2.mp hx').elim (h.L.d13 x hx) (h.m1 x hx), fun x hx hx' => (mem_u2.mp hx').elim (h.L.d23 x hx) (h.m2 x hx)⟩
theorem M4.g2 (h : M4 n one two more Z) : L3 n one more (uN (Z ++ two)) :=
  ⟨h.L.l1, h.m, uN2_lot h.L.l3 h.L.l2, h.L.n1, h.nm, h.m1, fun x hx hx' => (mem_u2.mp hx').elim (h.L.d13 x hx) (h.L.d12 x hx), fun x hx hx' => (mem_u2.mp hx').elim (h.m3 x hx) fun q => h.m2 x q hx⟩
theorem so_1 (h : M4 n one two more Z) : apartB n as one (uN (two ++ more)) Z = (apartB n as one two Z && apartB n as one more Z) := by
  rw [Bool.eq_iff_iff, Bool.and_eq_true, apartB_iff h.b, apartB_iff h.L, apartB_iff h.o]
  constructor
  · exact fun q => ⟨fun x hx y hy => q x hx y (mem_u2.mpr (.inl hy)), fun x hx y hy => q x hx y (mem_u2.mpr (.inr hy))⟩
  · exact fun q x hx y hy => (mem_u2.mp hy).elim (q.1 x hx y) (q.2 x hx y)
theorem so_sym (h : L3 n one two Z) : apartB n as two one Z = apartB n as one two Z := by
  rw [Bool.eq_iff_iff, apartB_iff h.symm, apartB_iff h]
  exact ⟨fun q x hx y hy hc => q y hy x hx (hc.symm (h.d23 y hy)), fun q y hy x hx hc => q x hx y hy (hc.symm (h.d13 x hx))⟩
theorem so_weak (h : M4 n one two more Z) (q : apartB n as one (uN (two ++ more)) Z = true) : apartB n as one two (uN (Z ++ more)) = true ∧ apartB n as one more (uN (Z ++ two)) = true := by
  rw [apartB_iff h.b] at q
  rw [apartB_iff h.g, apartB_iff h.g2]
  refine ⟨fun x hx y hy ⟨l, hc⟩ => ?_, fun x hx y hy ⟨l, hc⟩ => ?_⟩
  · rcases less_given (Y := more) (fun t => mem_u2) hc with r | ⟨w, hw, r⟩
    · exact q x hx y (mem_u2.mpr (.inl hy)) ⟨l, r⟩
    · exact q x hx w (mem_u2.mpr (.inr hw)) r
  · rcases less_given (Y := two) (fun t => mem_u2) hc with r | ⟨w, hw, r⟩
    · exact q x hx y (mem_u2.mpr (.inr hy)) ⟨l, r⟩
    · exact q x hx w (mem_u2.mpr (.inl hw)) r
theorem so_inter (h : M4 n one two more Z) (q1 : apartB n as one two (uN (Z ++ more)) = true) (q2 : apartB n as one more (uN (Z ++ two)) = true) : apartB n as one (uN (two ++ more)) Z = true := by
  rw [apartB_iff h.g] at q1
  rw [apartB_iff h.g2] at q2
  rw [apartB_iff h.b]
  rintro x hx u hu ⟨l, hc⟩
  rcases both_given (Y := two) (W := more) (ZY := uN (Z ++ two)) (ZW := uN (Z ++ more)) (fun t => mem_u2) (fun t => mem_u2) hc with ⟨r1, r2⟩ | ⟨y, hy, r⟩ | ⟨y, hy, r⟩
  · rcases mem_u2.mp hu with hu | hu
    · exact q1 x hx u hu ⟨l, r2⟩
    · exact q2 x hx u hu ⟨l, r1⟩
  · exact q1 x hx y hy r
  · exact q2 x hx y hy r
theorem so_contr (h : M4 n one two more Z) (q1 : apartB n as one two Z = true) (q2 : apartB n as one more (uN (Z ++ two)) = true) : apartB n as one (uN (two ++ more)) Z = true := by
  rw [apartB_iff h.L] at q1
  rw [apartB_iff h.g2] at q2
  rw [apartB_iff h.b]
  rintro x hx u hu ⟨l, hc⟩
  rcases mem_u2.mp hu with hu | hu
  · exact q1 x hx u hu ⟨l, hc⟩
  · rcases more_given (Y := two) (Z2 := uN (Z ++ two)) (fun t => mem_u2) hc with r | ⟨y, hy, r⟩
    · exact q2 x hx u hu ⟨l, r⟩
    · exact q1 x hx y hy r
end
theorem pars_asc {as : List (Nat × Nat)} (h : as.Pairwise ltA) (t : Nat) : (pars as t).Pairwise (· < ·) := by
  unfold pars
  refine List.pairwise_map.mpr ?_
  have h2 := List.Pairwise.filter (fun p : Nat × Nat => decide (p.2 = t)) h
  refine (List.Pairwise.and_mem.mp h2).imp ?_
  rintro p q ⟨hp, hq, hl⟩
  have h3 : p.2 = t := of_decide_eq_true (List.mem_filter.mp hp).2
  have h4 : q.2 = t := of_decide_eq_true (List.mem_filter.mp hq).2
  unfold ltA at hl
  omega
theorem pars_lot {n : Nat} {as : List (Nat × Nat)} (w : WV n as) (t : Nat) : Lot n (pars as t) := ⟨pars_asc w.asc t, fun x hx => pars_lt w.toWOk hx⟩
theorem ne_nilT (l : List Nat) (hl : ∀ x ∈ l, x < 64) (st : Store) : cmpD .ne (nT l) (.tup []) st = .ok (.bl (!l.isEmpty)) st := by
  have h := txt_nT hl
  rw [cmp_neP st h.pu (Nat.lt_of_le_of_lt h.dp (by decide)) rfl (by simp only [D.py, D.pys, PyData.depth, PyData.depthAll, depthL]; omega)]
  cases l <;> rfl
theorem cmp_neb (a b : Bool) (st : Store) : cmpD .ne (.bl a) (.bl b) st = .ok (.bl (!(a == b))) st := rfl
theorem cmp_eqb (a b : Bool) (st : Store) : cmpD .eq (.bl a) (.bl b) st = .ok (.bl (a == b)) st := rfl
section
variable {cal : Cal} {env : Env} {st st1 : Store} {a : E} {b : Bool}
theorem e_tupR {n : Nat} (h : evE cal a env st = .ok (.int (n : Int)) st1) (hn : n ≤ 1000) : evE cal (.tupR a) env st = .ok (nT (List.range n)) st1 := by
  rw [evE, h, R.bind_ok]
  simp only [Int.toNat_natCast]
  rw [if_pos (by rw [smallI_le (by omega) (by omega), small_of (by omega)]; rfl)]
  rfl
theorem e_notB {kk : Bool} (h : evE cal a env st = .ok (.bl b) st1) : evE cal (.notB kk a) env st = .ok (.bl (!(b == kk))) st1 := by
  rw [evE, h]
  rfl
end
section
variable {Φ : Nat → Option FD} {k : Nat}
theorem e63 (h : H63 Φ) (lot other : List Nat) (hz : lot.length ≤ 16777216) (st : Store) : callD Φ (k + 1) 63 [nT lot, nT other] st = .ok (nT (lot.filter fun t => !decide (t ∈ other))) st := by
  refine call_ev0 h.self rfl ?_ (nT_pure _)
  rw [runD_eq (env := [some (nT lot), some (nT other), none]) rfl]
  exact ss_ret (e_tupOf (comp_filter lot (fun (i : Nat) => D.int (i : Int)) (fun t => !decide (t ∈ other)) (fun (i : Nat) => D.int (i : Int)) (i_tup rfl) rfl hz fun t _ => ⟨_, rfl, e_cmp rfl rfl (notin_nT other t st), fun _ => rfl⟩))
theorem e64 (h : H64 Φ) (a b : List Nat) (hz : a.length + b.length < 64) (st : Store) : callD Φ (k + 1) 64 [nT a, nT b] st = .ok (nT (uN (a ++ b))) st := by
  refine call_ev0 h.self rfl ?_ (nT_pure _)
  rw [runD_eq (env := [some (nT a), some (nT b)]) rfl]
  have h1 : evE (callD Φ k) (.bin .add (.v 0) (.v 1)) [some (nT a), some (nT b)] st = .ok (nT (a ++ b)) st := by
    refine (e_bin (x := nT a) (y := nT b) (st1 := st) (st2 := st) rfl rfl (cat_tup st (by rw [List.length_map, List.length_map]; omega))).trans ?_
    unfold nT
    rw [List.map_append]
  exact ss_ret (e_tupOf (l_uN (l_of (x := nT (a ++ b)) h1 rfl) (by rw [List.length_append]; exact hz)))
theorem e65 (h : H65 Φ) (n : Nat) (as : List (Nat × Nat)) (w : WV n as) (one two more Z : List Nat) (M : M4 n one two more Z) (st : Store) : callD Φ (k + 9) 65 [wb n as, nT one, nT two, nT more, nT Z] st = .ok (.bl true) st := by
  have hn := w.hn
  have z2 := M.L.l2.len
  have z3 := M.L.l3.len
  have z4 := M.m.len
  refine call_ev0 h.self rfl ?_ rfl
  rw [runD_eq (env := [some (wb n as), some (nT one), some (nT two), some (nT more), some (nT Z), none, none, none, none]) rfl]
  have c1 := e50 (k := k) h.c50 n as w one two Z M.L st
  have c2 := e50 (k := k) h.c50 n as w one more Z M.o st
  have c3 := e50 (k := k) h.c50 n as w one (uN (two ++ more)) Z M.b st
  have c4 := e50 (k := k) h.c50 n as w (uN (two ++ more)) one Z M.b.symm st
  have c5 := e50 (k := k) h.c50 n as w one two (uN (Z ++ more)) M.g st
  have c6 := e50 (k := k) h.c50 n as w one more (uN (Z ++ two)) M.g2 st
  rw [so_sym M.b] at c4
  have d1 := e64 (k := k + 7) h.c64 two more (by omega) st
  have d2 := e64 (k := k + 7) h.c64 Z more (by omega) st
  have d3 := e64 (k := k + 7) h.c64 Z two (by omega) st
  have q1 := so_1 (as := as) M
  have q2 := so_weak (as := as) M
  have q3 := so_inter (as := as) M
  have q4 := so_contr (as := as) M
  generalize apartB n as one two Z = A1 at c1 q1 q4
  generalize apartB n as one more Z = A2 at c2 q1
  generalize apartB n as one (uN (two ++ more)) Z = T at c3 c4 q1 q2 q3 q4
  generalize apartB n as one two (uN (Z ++ more)) = B1 at c5 q2 q3
  generalize apartB n as one more (uN (Z ++ two)) = B2 at c6 q2 q3 q4
  refine ss_asg (env1 := [some (wb n as), some (nT one), some (nT two), some (nT more), some (nT Z), none, none, some (nT (uN (two ++ more))), some (.lst [.bl A1, .bl A2])]) (st2 := st) (e_tup (s_cons (e_call (s_cons rfl (s_cons rfl s_nil)) d1) (s_cons (e_fz (l_disp (s_cons (e_call (s_cons rfl (s_cons rfl (s_cons rfl (s_cons rfl s_nil)))) c1) (s_cons (e_call (s_cons rfl (s_cons rfl (s_cons rfl (s_cons rfl s_nil)))) c2) s_nil)) (by show 2 ≤ 16777216; decide))) s_nil)) (by show 2 ≤ 16777216; decide)) rfl ?_
  refine ss_asg (e_call (s_cons rfl (s_cons rfl (s_cons rfl (s_cons rfl s_nil)))) c3) rfl ?_
  refine ss_if_f (st1 := st) (e_bools (b_on ((e_cmp (x := .bl T) (y := .bl (A1 && A2)) (st1 := st) (st2 := st) rfl (e_bools (b_and (e_ix rfl rfl (ix_lst (t := 0) st rfl)) fun _ => b_last (e_ix rfl rfl (ix_lst (t := 1) st rfl)))) (cmp_neb _ _ _)).trans ?_) (b_last ((e_cmp (y := .bl T) (st2 := st) (e_call (s_cons rfl (s_cons rfl (s_cons rfl (s_cons rfl s_nil)))) c4) rfl (cmp_neb _ _ _)).trans ?_)))) ?_
  · rw [q1]; cases A1 <;> cases A2 <;> rfl
  · cases T <;> rfl
  refine ss_asg (d := .lst [.bl B1, .bl B2]) (st1 := st) (e_fz (l_disp (s_cons (e_call (s_cons rfl (s_cons rfl (s_cons rfl (s_cons (e_call (s_cons rfl (s_cons rfl s_nil)) d2) s_nil)))) c5) (s_cons (e_call (s_cons rfl (s_cons rfl (s_cons rfl (s_cons (e_call (s_cons rfl (s_cons rfl s_nil)) d3) s_nil)))) c6) s_nil)) (by show 2 ≤ 16777216; decide))) rfl ?_
  have tt : evE (callD Φ (k + 8)) (.fz (.disp (.cons (.c (.bl true)) (.cons (.c (.bl true)) .nil)))) [some (wb n as), some (nT one), some (nT two), some (nT more), some (nT Z), some (.bl T), some (.lst [.bl B1, .bl B2]), some (nT (uN (two ++ more))), some (.lst [.bl A1, .bl A2])] st = .ok (.lst [.bl true, .bl true]) st := e_fz (l_disp (s_cons rfl (s_cons rfl s_nil)) (by show 2 ≤ 16777216; decide))
  refine ss_if_f (st1 := st) (e_bools (b_on ((e_bools (b_and (b1 := T) (b2 := !(B1 && B2)) rfl fun _ => b_last (e_cmp (x := .lst [.bl B1, .bl B2]) (st1 := st) rfl tt ?_))).trans ?_) (b_last ((e_bools (b_and (b1 := B1 && B2) (b2 := !T) (e_cmp (x := .lst [.bl B1, .bl B2]) (st1 := st) rfl tt ?_) fun _ => b_last (e_not rfl))).trans ?_)))) ?_
  · cases B1 <;> cases B2 <;> rfl
  · cases T with
    | false => rfl
    | true => obtain ⟨r1, r2⟩ := q2 rfl; rw [r1, r2]; rfl
  · cases B1 <;> cases B2 <;> rfl
  · cases B1 with
    | false => rfl
    | true =>
      cases B2 with
      | false => rfl
      | true => rw [q3 rfl rfl]; rfl
  refine ss_ret ((e_bools (b_or (b1 := !(A1 && B2)) (b2 := T) (e_not (e_bools (b_and (e_ix rfl rfl (ix_lst (t := 0) st rfl)) fun _ => b_last (e_ix rfl rfl (ix_lst (t := 1) st rfl))))) fun _ => b_last rfl)).trans ?_)
  cases A1 with
  | false => rfl
  | true =>
    cases B2 with
    | false => rfl
    | true => rw [q4 rfl rfl]; rfl
end
end PyD
namespace PyD
open PySem
theorem kpt_lot {n : Nat} {as : List (Nat × Nat)} (w : WV n as) {one other Z : List Nat} (L : L3 n one other Z) : Lot n (kptL n as one other Z) := by
  refine ⟨?_, fun x hx => ?_⟩
  · unfold kptL abvL
    exact List.Pairwise.filter _ List.pairwise_lt_range
  · obtain ⟨t, ht, hu⟩ := (mem_kpt w L x).mp hx
    exact up_lt w.toWOk (L.all_lt t ht) hu
theorem nR_depth (rows : List (List Nat)) : (D.lst (rows.map nT)).py.depth < 40 := by
  have h : ∀ l : List (List Nat), PyData.depthAll (D.pys (l.map nT)) ≤ 3 := by
    intro l
    induction l with
    | nil => simp [D.pys, PyData.depthAll]
    | cons r l ih =>
      have h1 : (nT r).py.depth ≤ 3 := by
        have e := iT_py (nI r)
        unfold iT at e
        rw [nT_eq, e]
        have := depth_ints (nI r)
        simp only [PyData.depth]
        omega
      rw [List.map_cons, D.pys, PyData.depthAll]
      omega
  have := h rows
  simp only [D.py, PyData.depth]
  omega
theorem emp_bl {α : Type} (l : List α) : (l.isEmpty = true) ↔ l = [] := by cases l <;> simp
theorem not_isE {l : List Nat} (h : (!l.isEmpty) = true) : l ≠ [] := fun e => by rw [e] at h; cases h
section
variable {Φ : Nat → Option FD} {k : Nat}
theorem e66 (h : H66 Φ) (a r w t : Nat) (st : Store) (hs : st[a]? = some (bagO r w t)) : ∃ s', callD Φ (k + 10) 66 [.ref a] st = .ok (.bl true) s' := by
  have ha : a < st.length := (List.getElem?_eq_some_iff.mp hs).1
  obtain ⟨n, o, as, r1, w1, t1, j1, dr, c36⟩ := e36 (k := k + 7) h.c36 a r w t st hs
  have W := drawn_wv dr
  have hn := dr.five
  have hn2 := dr.two
  have hz := drawn_len dr
  have hnd := asc_nodup W.asc
  generalize hS1 : st.set a (bagO r1 w1 t1) ++ j1 = S1 at c36
  have g1 : S1[a]? = some (bagO r1 w1 t1) := by rw [← hS1]; exact get_bag ha
  obtain ⟨one, two, Z, r2, w2, t2, j2, L, c58⟩ := e58 (k := k + 7) h.c58 a n r1 w1 t1 hn2 (by omega) S1 g1
  have ha1 : a < S1.length := (List.getElem?_eq_some_iff.mp g1).1
  generalize hS2 : S1.set a (bagO r2 w2 t2) ++ j2 = S2 at c58
  have g2 : S2[a]? = some (bagO r2 w2 t2) := by rw [← hS2]; exact get_bag ha1
  obtain ⟨g, r3, w3, t3, hg, c35⟩ := e35 (k := k + 8) h.c35 a n r2 w2 t2 (by omega) (by omega) S2 g2
  generalize hS3 : S2.set a (bagO r3 w3 t3) = S at c35
  have z1 := L.l1.len
  have z2 := L.l2.len
  have z3 := L.l3.len
  -- what the calls give
  have c50 := fun (s : Store) => e50 (k := k + 1) h.c50 n as W one two Z L s
  have cut := drawn_wv (cut_drawn dr g)
  have c50c := fun (s : Store) => e50 (k := k + 1) h.c50 n (cutTo as g) cut one two Z L s
  have c33 := fun (s : Store) => e33 (k := k + 2) h.c33 n as W g hg s
  have c25 := fun (s : Store) => e25 (k := k + 1) h.c25 n as W g hg s
  have c27 := fun (s : Store) => e27 (k := k + 1) h.c27 n as W g hg s
  have c51 := fun (s : Store) => e51 (k := k + 2) h.c51 n as W one Z L.l1 L.l3 L.n1 L.d13 s
  have c56 := fun (s : Store) => e56 (k := k + 1) h.c56 n as W one two Z L s
  let K := kptL n as one two Z
  have hK : Lot n K := kpt_lot W L
  have zK := hK.len
  let side := K.filter fun x => !decide (x ∈ two) && !decide (x ∈ Z)
  have hside : Lot n side := hK.filter _
  have hjl := jn_len W hn hz K
  have c57 := fun (s : Store) => e57 (k := k + 1) h.c57 n as W one two Z side L hside hjl (Nat.le_trans (uP_len _) (by have : (jn n as (kptL n as one two Z)).length < 64 := hjl; omega)) s
  obtain ⟨rows, hrp, c62⟩ := e62 (k := k + 6) h.c62 n as W hn hz one two Z L.l3 S
  let more := (List.range n).filter fun x => !decide (x ∈ one ++ two ++ Z)
  have hmore : Lot n more := (Lot.range n).filter _
  have hmm : ∀ x ∈ more, x ∉ one ∧ x ∉ two ∧ x ∉ Z := fun x hx => by
    have := (List.mem_filter.mp hx).2
    rw [Bool.not_eq_true', decide_eq_false_iff_not, List.mem_append, List.mem_append, not_or, not_or] at this
    exact ⟨this.1.1, this.1.2, this.2⟩
  let rest := (List.range n).filter fun x => !decide (x ∈ blw n as g ++ pars as g)
  have hrest : Lot n rest := (Lot.range n).filter _
  have hgl : Lot n [g] := ⟨by simp, fun x hx => by rw [List.mem_singleton.mp hx]; exact hg⟩
  have hbg : g ∈ blw n as g := List.mem_filter.mpr ⟨List.mem_range.mpr hg, decide_eq_true ((mem_abv W.toWOk hnd hg g).mpr .refl)⟩
  have hrm : ∀ x ∈ rest, x ∉ blw n as g ∧ x ∉ pars as g := fun x hx => by
    have := (List.mem_filter.mp hx).2
    rw [Bool.not_eq_true', decide_eq_false_iff_not, List.mem_append, not_or] at this
    exact this
  have LR : rest ≠ [] → L3 n [g] rest (pars as g) := fun hne => ⟨hgl, hrest, pars_lot W g, by simp, hne, fun x hx hx' => by
    rw [List.mem_singleton.mp hx] at hx'
    exact (hrm g hx').1 hbg, fun x hx hx' => by
    rw [List.mem_singleton.mp hx] at hx'
    exact W.ne _ (pars_mem.mp hx') rfl, fun x hx => (hrm x hx).2⟩
  have AR : ∀ hne : rest ≠ [], apartB n as [g] rest (pars as g) = true := fun hne => by
    rw [apartB_iff (LR hne)]
    rintro x hx y hy ⟨l, hc⟩
    rw [List.mem_singleton.mp hx] at hc
    rcases own_parents (order_pos W) (fun x => pars_mem) hc with q | q
    · exact (hrm y hy).2 q
    · exact (hrm y hy).1 (List.mem_filter.mpr ⟨List.mem_range.mpr (hrest.lt y hy), decide_eq_true ((mem_abv W.toWOk hnd (hrest.lt y hy) g).mpr q)⟩)
  have AO : rows.isEmpty = apartB n as one two Z := by
    rw [Bool.eq_iff_iff, emp_bl, apart_opens W L]
    constructor
    · intro e; rw [e] at hrp; exact hrp.symm.eq_nil
    · intro e; rw [e] at hrp; exact hrp.eq_nil
  have AC : apartB n as one two Z = true → apartB n (cutTo as g) one two Z = true := fun q => by
    rw [apartB_iff L] at q ⊢
    exact fun x hx y hy hc => q x hx y hy (hc.sub fun p hp => (List.mem_filter.mp hp).1)
  have AF : ((reachL n as one Z).filter fun x => decide (x ∈ two)).isEmpty = apartB n as one two Z := by
    rw [Bool.eq_iff_iff, emp_bl, List.filter_eq_nil_iff]
    unfold apartB
    rw [Bool.not_eq_true', List.any_eq_false]
    constructor
    · exact fun q y hy hd => q y (of_decide_eq_true hd) (decide_eq_true hy)
    · exact fun q y hy hd => q y (of_decide_eq_true hd) (decide_eq_true hy)
  have AK : ∀ x ∈ K, (abv n as x).filter (fun y => !decide (y ∈ K)) = [] := fun x hx => by
    refine List.filter_eq_nil_iff.mpr fun y hy => ?_
    obtain ⟨t, ht, hu⟩ := (mem_kpt W L x).mp hx
    have hy2 := (mem_abv W.toWOk hnd (hK.lt x hx) y).mp hy
    have : y ∈ K := (mem_kpt W L y).mpr ⟨t, ht, hu.trans hy2⟩
    rw [decide_eq_true this]
    simp
  have AZ : isCutB n as one two Z side = true → apartB n as one two Z = true := cutB_apart W L
  have key : runD (callD Φ (k + 9)) td66.fd [.ref a] st = .ok (.bl true) S := by
    rw [runD_eq (env := [some (.ref a), none, none, none, none, none, none, none, none, none, none, none]) rfl]
    refine ss_asg (e_call (s_cons rfl (s_cons rfl s_nil)) c36) rfl ?_
    refine ss_asg (env1 := [some (.ref a), some (wb n as), none, none, none, none, none, none, some (nT one), some (nT two), some (nT Z), none]) (st2 := S2) (e_call (s_cons rfl (s_cons rfl s_nil)) c58) rfl ?_
    have hsum : ∀ env : Env, env[8]? = some (some (nT one)) → env[9]? = some (some (nT two)) → env[10]? = some (some (nT Z)) → evE (callD Φ (k + 9)) (.bin .add (.bin .add (.v 8) (.v 9)) (.v 10)) env S2 = .ok (nT (one ++ two ++ Z)) S2 := fun env q8 q9 q10 => by
      have v8 : evE (callD Φ (k + 9)) (.v 8) env S2 = .ok (nT one) S2 := by rw [evE, q8]
      have v9 : evE (callD Φ (k + 9)) (.v 9) env S2 = .ok (nT two) S2 := by rw [evE, q9]
      have v10 : evE (callD Φ (k + 9)) (.v 10) env S2 = .ok (nT Z) S2 := by rw [evE, q10]
      refine (e_bin (x := nT (one ++ two)) (y := nT Z) (st1 := S2) (st2 := S2) ((e_bin v8 v9 (cat_tup S2 (by simp only [List.length_map]; omega))).trans (by unfold nT; rw [List.map_append])) v10 (cat_tup S2 (by simp only [List.length_map, List.length_append]; omega))).trans ?_
      unfold nT
      rw [List.map_append (l₁ := one ++ two)]
    refine ss_asg (d := nT more) (st1 := S2) (e_tupOf (comp_filter (List.range n) (fun (i : Nat) => D.int (i : Int)) (fun x => !decide (x ∈ one ++ two ++ Z)) (fun (i : Nat) => D.int (i : Int)) (i_rng1 (j := (n : Int)) rfl (smallI_le (by omega) (by omega))) (all_rng0 n S2) (by rw [List.length_range]; omega) fun x _ => ⟨_, rfl, e_cmp rfl (hsum _ rfl rfl rfl) (notin_nT _ x S2), fun _ => rfl⟩)) rfl ?_
    refine ss_if_f (st1 := S2) ((e_bools (b_and (b1 := !more.isEmpty) (b2 := false) (e_cmp (x := nT more) (y := .tup []) (st1 := S2) (st2 := S2) rfl (e_tup s_nil (by decide)) (ne_nilT more (fun x hx => by have := hmore.lt x hx; omega) S2)) fun hb => b_last (e_not (bb := true) (e_call (s_cons rfl (s_cons rfl (s_cons rfl (s_cons rfl (s_cons rfl s_nil))))) (e65 (k := k) h.c65 n as W one two more Z ⟨L, hmore, not_isE hb, fun x hx hx' => (hmm x hx').1 hx, fun x hx hx' => (hmm x hx').2.1 hx, fun x hx => (hmm x hx).2.2⟩ S2))))).trans (by rw [Bool.and_false])) ?_
    refine ss_asg (e_call (s_cons rfl (s_cons rfl s_nil)) c35) rfl ?_
    have hbp : evE (callD Φ (k + 9)) (.bin .add (.call 27 (.cons (.v 1) (.cons (.v 3) .nil))) (.call 25 (.cons (.v 1) (.cons (.v 3) .nil)))) [some (.ref a), some (wb n as), some (nT more), some (.int (g : Int)), none, none, none, none, some (nT one), some (nT two), some (nT Z), none] S = .ok (nT (blw n as g ++ pars as g)) S := by
      have hb1 := blw_len (n := n) (as := as) g
      have hb2 := pars_len W.toWOk g
      refine (e_bin (x := nT (blw n as g)) (y := nT (pars as g)) (e_call (s_cons rfl (s_cons rfl s_nil)) (c27 S)) (e_call (s_cons rfl (s_cons rfl s_nil)) (c25 S)) (cat_tup S (by simp only [List.length_map]; omega))).trans ?_
      unfold nT
      rw [List.map_append]
    refine ss_asg (d := nT rest) (st1 := S) (e_call (s_cons (e_tupR (n := n) (e_ix rfl rfl rfl) (by omega)) (s_cons hbp s_nil)) (e63 (k := k + 8) h.c63 (List.range n) _ (by rw [List.length_range]; omega) S)) rfl ?_
    refine ss_if_f (st1 := S) ((e_bools (b_and (b1 := !rest.isEmpty) (b2 := false) (e_cmp (x := nT rest) (y := .tup []) (st1 := S) (st2 := S) rfl (e_tup s_nil (by decide)) (ne_nilT rest (fun x hx => by have := hrest.lt x hx; omega) S)) fun hb => b_last ((e_notB (kk := true) (e_call (s_cons rfl (s_cons (e_tup (s_cons rfl s_nil) (by show 1 ≤ 16777216; decide)) (s_cons rfl (s_cons (e_call (s_cons rfl (s_cons rfl s_nil)) (c25 S)) s_nil)))) (e50 (k := k + 1) h.c50 n as W [g] rest (pars as g) (LR (not_isE hb)) S))).trans (by rw [AR (not_isE hb)]; rfl)))).trans (by rw [Bool.and_false])) ?_
    refine ss_if_f (st1 := S) ((e_cmp (y := .bl rows.isEmpty) (st2 := S) (e_call (s_cons rfl (s_cons rfl (s_cons rfl (s_cons rfl s_nil)))) (c50 S)) (e_cmp (e_call (s_cons rfl (s_cons rfl (s_cons rfl (s_cons rfl s_nil)))) c62) (e_fz (l_disp s_nil (by decide))) ((eq_nil _ (pures_map _ nT_pure _) S (nR_depth rows)).trans (by cases rows <;> rfl))) (cmp_neb _ _ _)).trans (by rw [AO]; cases apartB n as one two Z <;> rfl)) ?_
    refine ss_asg (e_call (s_cons rfl (s_cons rfl s_nil)) (c33 S)) rfl ?_
    refine ss_if_f (st1 := S) ((e_bools (b_and (b1 := apartB n as one two Z) (b2 := !(apartB n (cutTo as g) one two Z == true)) (e_call (s_cons rfl (s_cons rfl (s_cons rfl (s_cons rfl s_nil)))) (c50 S)) fun _ => b_last (e_notB (e_call (s_cons rfl (s_cons rfl (s_cons rfl (s_cons rfl s_nil)))) (c50c S))))).trans ?_) ?_
    · cases q : apartB n as one two Z with
      | false => rfl
      | true => rw [AC q]; rfl
    have hrl := (reachL_lot n as one Z).len
    refine ss_if_f (st1 := S) ((e_cmp (y := .bl ((reachL n as one Z).filter fun x => decide (x ∈ two)).isEmpty) (st2 := S) (e_call (s_cons rfl (s_cons rfl (s_cons rfl (s_cons rfl s_nil)))) (c50 S)) (e_cmp (x := nL ((reachL n as one Z).filter fun x => decide (x ∈ two))) (e_fz (comp_filter (reachL n as one Z) (fun (i : Nat) => D.int (i : Int)) (fun x => decide (x ∈ two)) (fun (i : Nat) => D.int (i : Int)) (i_tup (e_call (s_cons rfl (s_cons rfl (s_cons rfl s_nil))) (c51 S))) rfl (by omega) fun x _ => ⟨_, rfl, e_cmp rfl rfl (isin_nT two x S), fun _ => rfl⟩)) (e_fz (l_disp s_nil (by decide))) ((eq_nil _ (pures_map _ (fun _ => rfl) _) S (depth_nL _)).trans (by rw [List.isEmpty_map]))) (cmp_neb _ _ _)).trans (by rw [AF]; cases apartB n as one two Z <;> rfl)) ?_
    refine ss_asg (e_call (s_cons rfl (s_cons rfl (s_cons rfl (s_cons rfl s_nil)))) (c56 S)) rfl ?_
    refine ss_if_f (st1 := S) (e_cmp (x := .lst []) (y := .lst []) (st2 := S) (e_fz ((comp_filter K (fun (i : Nat) => D.int (i : Int)) (fun _ => false) (fun (i : Nat) => D.int (i : Int)) (i_tup rfl) rfl (by omega) fun x hx => ⟨_, rfl, (e_cmp (x := nT []) (y := .tup []) (st1 := S) (st2 := S) ((e_call (s_cons (e_call (s_cons rfl (s_cons rfl s_nil)) (e26 (k := k + 1) h.c26 n as W x (hK.lt x hx) S)) (s_cons rfl s_nil)) (e63 (k := k + 8) h.c63 _ K (by have := abv_len (n := n) (as := as) x; omega) S)).trans (by rw [AK x hx])) (e_tup s_nil (by decide)) (ne_nilT [] (fun x hx => nomatch hx) S)), fun _ => rfl⟩).trans (by rw [filt_no]; rfl))) (e_fz (l_disp s_nil (by decide))) rfl) ?_
    refine ss_asg (d := nT side) (st1 := S) (e_tupOf (comp_filter K (fun (i : Nat) => D.int (i : Int)) (fun x => !decide (x ∈ two) && !decide (x ∈ Z)) (fun (i : Nat) => D.int (i : Int)) (i_tup rfl) rfl (by omega) fun x _ => ⟨_, rfl, e_bools (b_and (e_cmp rfl rfl (notin_nT two x S)) fun _ => b_last (e_cmp rfl rfl (notin_nT Z x S))), fun _ => rfl⟩)) rfl (ss_ret ?_)
    refine (e_bools (b_or (b1 := !isCutB n as one two Z side) (b2 := apartB n as one two Z) (e_not (e_call (s_cons rfl (s_cons rfl (s_cons rfl (s_cons rfl (s_cons rfl s_nil))))) (c57 S))) fun _ => b_last (e_call (s_cons rfl (s_cons rfl (s_cons rfl (s_cons rfl s_nil)))) (c50 S)))).trans ?_
    cases q : isCutB n as one two Z side with
    | false => rfl
    | true => rw [AZ q]; rfl
  rw [call_eq h.self rfl, key]
  exact fin_bl _ _ _
theorem e67 (h : H67 Φ) (ns : List Int) (st : Store) : ∃ s', callD Φ (k + 11) 67 [.lst (ns.map D.int)] st = .ok (.bl true) s' := by
  obtain ⟨env1, st1, h1, o, he⟩ := s_forI (cal := callD Φ (k + 10)) (t := .nm 1) (i := .rng1 (.c (.int 2))) (bd := (.cons (.ifs (.not (.call 66 (.cons (.call 34 (.cons (.v 0) (.cons (.v 1) .nil))) .nil))) (.cons (.ret (.c (.bl false))) .nil) .nil) .nil))
    (env := [some (.lst (ns.map D.int)), none]) (st := st) (st0 := st) (List.range 2) (fun (i : Nat) => D.int (i : Int))
    (fun (i : Nat) (_ : Unit) env s => ∃ o, env = [some (.lst (ns.map D.int)), o]) (fun _ _ => ()) (J := .rng 0 2) (i_rng1 (j := 2) rfl rfl) (b0 := ()) ⟨_, rfl⟩ (fun _ _ _ s _ => all_rng0 2 s)
    (by
      intro i t hi b env s ⟨o, he⟩
      subst he
      obtain ⟨hin, hia⟩ := List.getElem?_eq_some_iff.mp hi
      rw [List.length_range] at hin
      rw [List.getElem_range] at hia
      obtain ⟨r, w, c34⟩ := e34 (k := k + 9) h.c34 ns t (by omega) s
      obtain ⟨s', c⟩ := e66 (k := k) h.c66 s.length r w t (s ++ [bagO r w t]) (get_last _ _)
      refine ⟨_, [some (.lst (ns.map D.int)), some (.int (t : Int))], s', rfl, ?_, _, rfl⟩
      exact bs_if_f (e_not (bb := true) (e_call (s_cons (e_call (s_cons rfl (s_cons rfl s_nil)) c34) s_nil) c)) bs_nil)
  subst he
  rw [call_eq h.self rfl]
  have key : runD (callD Φ (k + 10)) td67.fd [.lst (ns.map D.int)] st = .ok (.bl true) st1 := by
    rw [runD_eq (env := [some (.lst (ns.map D.int)), none]) rfl]
    exact ss_s h1 (ss_ret rfl)
  rw [key]
  exact fin_bl _ _ _
end
end PyD
namespace PyD
open PySem
/-- is_string -/
def td68 : TD := ⟨"is_string", ["value"], ["value"], (.cons (.ret (.isi .str (.v 0))) .nil), []⟩
/-- is_row -/
def td69 : TD := ⟨"is_row", ["value", "least", "most"], ["value", "least", "most"], (.cons (.ret (.bools true (.cons (.isi .tuple (.v 0)) (.cons (.chain .le .le (.v 1) (.b1 .len (.v 0)) (.v 2)) .nil)))) .nil), []⟩
/-- is_word_in -/
def td70 : TD := ⟨"is_word_in", ["value", "words"], ["value", "words"], (.cons (.ret (.bools true (.cons (.call 68 (.cons (.v 0) .nil)) (.cons (.cmp .isin (.v 0) (.v 1)) .nil)))) .nil), []⟩
/-- base_by -/
def td71 : TD := ⟨"base_by", ["web"], ["web", "order", "found", "at", "thing", "parents", "others", "own"], (.cons (.asg (.tp (.cons (.nm 1) (.cons (.nm 2) .nil))) (.tup (.cons (.call 9 (.cons (.v 0) .nil)) (.cons (.ls (.disp .nil)) .nil)))) (.cons (.for (.tp (.cons (.nm 3) (.cons (.nm 4) .nil))) (.enum (.of (.of (.v 1)))) (.cons (.asg (.nm 5) (.call 11 (.cons (.v 0) (.cons (.v 4) .nil)))) (.cons (.asg (.nm 6) (.tupOf (.sorted (.comp [("own", 7)] (.nm 7) (.of (.of (.sl (.v 1) .no (.at (.v 3))))) (.cons (.cmp .notin (.v 7) (.v 5)) .nil) (.v 7))))) (.cons (.ifs (.cmp .ne (.v 6) (.tup .nil)) (.cons (.ex (.app (.v 2) (.tup (.cons (.tup (.cons (.v 4) .nil)) (.cons (.v 6) (.cons (.v 5) .nil)))))) .nil) .nil) .nil)))) (.cons (.ret (.tupOf (.of (.v 2)))) .nil))), []⟩
/-- with_all -/
def td72 : TD := ⟨"with_all", ["lot", "other"], ["lot", "other"], (.cons (.ret (.tupOf (.sortedSet (.of (.bin .add (.v 0) (.v 1)))))) .nil), []⟩
/-- without -/
def td73 : TD := ⟨"without", ["lot", "other"], ["lot", "other", "thing"], (.cons (.ret (.tupOf (.comp [("thing", 2)] (.nm 2) (.of (.of (.v 0))) (.cons (.cmp .notin (.v 2) (.v 1)) .nil) (.v 2)))) .nil), []⟩
/-- told_of_lot -/
def td74 : TD := ⟨"told_of_lot", ["web", "row", "own"], ["web", "row", "own", "left", "one", "other", "given"], (.cons (.asg (.tp (.cons (.nm 4) (.cons (.nm 5) (.cons (.nm 6) .nil)))) (.v 2)) (.cons (.ifs (.bools false (.cons (.not (.call 44 (.cons (.v 0) (.cons (.ix (.v 1) (.c (.int 2))) .nil)))) (.cons (.cmp .isin (.ix (.v 1) (.c (.int 2))) (.tup (.cons (.tup .nil) (.cons (.v 5) .nil)))) (.cons (.cmp .ne (.call 73 (.cons (.ix (.v 1) (.c (.int 2))) (.cons (.v 5) .nil))) (.tup .nil)) .nil)))) (.cons (.ret (.c .non)) .nil) .nil) (.cons (.asg (.nm 3) (.call 73 (.cons (.v 5) (.cons (.ix (.v 1) (.c (.int 2))) .nil)))) (.cons (.ret (.ite (.cmp .eq (.ix (.v 1) (.c (.int 0))) (.g "PART" (.str "part"))) (.tup (.cons (.v 4) (.cons (.v 3) (.cons (.v 6) .nil)))) (.tup (.cons (.v 4) (.cons (.v 3) (.cons (.call 72 (.cons (.v 6) (.cons (.ix (.v 1) (.c (.int 2))) .nil))) .nil)))))) .nil)))), []⟩
/-- told_of_two -/
def td75 : TD := ⟨"told_of_two", ["own", "mate"], ["own", "mate", "one", "other", "given"], (.cons (.asg (.tp (.cons (.nm 2) (.cons (.nm 3) (.cons (.nm 4) .nil)))) (.v 0)) (.cons (.ifs (.bools false (.cons (.cmp .ne (.ix (.v 1) (.c (.int 0))) (.v 2)) (.cons (.cmp .ne (.call 72 (.cons (.ix (.v 1) (.c (.int 1))) (.cons (.ix (.v 1) (.c (.int 2))) .nil))) (.v 4)) .nil))) (.cons (.ret (.c .non)) .nil) .nil) (.cons (.ret (.tup (.cons (.v 2) (.cons (.call 72 (.cons (.v 3) (.cons (.ix (.v 1) (.c (.int 1))) .nil))) (.cons (.ix (.v 1) (.c (.int 2))) .nil))))) .nil))), []⟩
/-- told_by_row -/
def td76 : TD := ⟨"told_by_row", ["web", "found", "row"], ["web", "found", "row", "base", "rows", "own"], (.cons (.ifs (.bools false (.cons (.not (.call 69 (.cons (.v 2) (.cons (.c (.int 2)) (.cons (.c (.int 3)) .nil))))) (.cons (.not (.call 70 (.cons (.ix (.v 2) (.c (.int 0))) (.cons (.tup (.cons (.g "BASE" (.str "base")) (.cons (.g "TURN" (.str "turn")) (.cons (.g "PART" (.str "part")) (.cons (.g "GIVE" (.str "give")) (.cons (.g "JOIN" (.str "join")) .nil)))))) .nil)))) .nil))) (.cons (.ret (.c .non)) .nil) .nil) (.cons (.asg (.nm 3) (.call 71 (.cons (.v 0) .nil))) (.cons (.asg (.nm 4) (.ite (.cmp .eq (.ix (.v 2) (.c (.int 0))) (.g "BASE" (.str "base"))) (.v 3) (.v 1))) (.cons (.ifs (.bools false (.cons (.not (.call 1 (.cons (.ix (.v 2) (.c (.int 1))) (.cons (.c (.int 0)) (.cons (.bin .sub (.b1 .len (.v 4)) (.c (.int 1))) .nil))))) (.cons (.cmp .ne (.b1 .len (.v 2)) (.ite (.cmp .isin (.ix (.v 2) (.c (.int 0))) (.tup (.cons (.g "BASE" (.str "base")) (.cons (.g "TURN" (.str "turn")) .nil)))) (.c (.int 2)) (.c (.int 3)))) .nil))) (.cons (.ret (.c .non)) .nil) .nil) (.cons (.asg (.nm 5) (.ix (.v 4) (.ix (.v 2) (.c (.int 1))))) (.cons (.ifs (.cmp .isin (.ix (.v 2) (.c (.int 0))) (.tup (.cons (.g "BASE" (.str "base")) (.cons (.g "TURN" (.str "turn")) .nil)))) (.cons (.ret (.ite (.cmp .eq (.ix (.v 2) (.c (.int 0))) (.g "BASE" (.str "base"))) (.v 5) (.tup (.cons (.ix (.v 5) (.c (.int 1))) (.cons (.ix (.v 5) (.c (.int 0))) (.cons (.ix (.v 5) (.c (.int 2))) .nil)))))) .nil) .nil) (.cons (.ifs (.cmp .isin (.ix (.v 2) (.c (.int 0))) (.tup (.cons (.g "PART" (.str "part")) (.cons (.g "GIVE" (.str "give")) .nil)))) (.cons (.ret (.call 74 (.cons (.v 0) (.cons (.v 2) (.cons (.v 5) .nil))))) .nil) .nil) (.cons (.ret (.ite (.call 1 (.cons (.ix (.v 2) (.c (.int 2))) (.cons (.c (.int 0)) (.cons (.bin .sub (.b1 .len (.v 1)) (.c (.int 1))) .nil)))) (.call 75 (.cons (.v 5) (.cons (.ix (.v 1) (.ix (.v 2) (.c (.int 2)))) .nil))) (.c .non))) .nil)))))))), []⟩
/-- told_by_rows -/
def td77 : TD := ⟨"told_by_rows", ["web", "value"], ["web", "value", "found", "row", "own"], (.cons (.ifs (.not (.call 69 (.cons (.v 1) (.cons (.c (.int 1)) (.cons (.g "MOST_ROWS" (.int 1000)) .nil))))) (.cons (.ret (.c .non)) .nil) .nil) (.cons (.asg (.nm 2) (.ls (.disp .nil))) (.cons (.for (.nm 3) (.of (.of (.v 1))) (.cons (.asg (.nm 4) (.call 76 (.cons (.v 0) (.cons (.v 2) (.cons (.v 3) .nil))))) (.cons (.ifs (.isN (.v 4)) (.cons (.ret (.c .non)) .nil) .nil) (.cons (.ex (.app (.v 2) (.v 4))) .nil)))) (.cons (.ret (.v 2)) .nil)))), []⟩
/-- base -/
def td78 : TD := ⟨"base", ["web"], ["web"], (.cons (.ex (.call 22 (.cons (.v 0) .nil))) (.cons (.ret (.call 71 (.cons (.v 0) .nil))) .nil)), [(0, ["web"], [0])]⟩
/-- told_by -/
def td79 : TD := ⟨"told_by", ["web", "value"], ["web", "value", "found"], (.cons (.ex (.call 22 (.cons (.v 0) .nil))) (.cons (.asg (.nm 2) (.call 77 (.cons (.v 0) (.cons (.v 1) .nil)))) (.cons (.ret (.ite (.notN (.v 2)) (.tupOf (.of (.v 2))) (.c .non))) .nil))), []⟩
/-- orders_by -/
def td80 : TD := ⟨"orders_by", ["web"], ["web", "found", "turn", "longer", "ahead", "thing"], (.cons (.asg (.nm 1) (.fz (.disp (.cons (.tup .nil) .nil)))) (.cons (.for (.nm 2) (.rng1 (.ix (.v 0) (.c (.int 0)))) (.cons (.asg (.nm 3) (.ls (.disp .nil))) (.cons (.for (.nm 4) (.of (.of (.v 1))) (.cons (.ex (.ext (.v 3) (.comp [("thing", 5)] (.nm 5) (.of (.of (.call 8 (.cons (.v 0) (.cons (.v 4) .nil))))) .nil (.tup (.star (.of (.v 4)) (.cons (.v 5) .nil)))))) .nil)) (.cons (.asg (.nm 1) (.v 3)) .nil)))) (.cons (.ret (.tupOf (.of (.v 1)))) .nil))), []⟩
/-- orders -/
def td81 : TD := ⟨"orders", ["web"], ["web"], (.cons (.ex (.call 22 (.cons (.v 0) .nil))) (.cons (.ret (.call 80 (.cons (.v 0) .nil))) .nil)), []⟩
/-- count_orders -/
def td82 : TD := ⟨"count_orders", ["web"], ["web"], (.cons (.ex (.call 22 (.cons (.v 0) .nil))) (.cons (.ret (.b1 .len (.call 80 (.cons (.v 0) .nil)))) .nil)), []⟩
/-- _law_joins -/
def td83 : TD := ⟨"_law_joins", ["web", "some"], ["web", "some", "found", "one", "two", "near", "both", "far"], (.cons (.asg (.nm 2) (.fz (.disp .nil))) (.cons (.for (.nm 3) (.of (.of (.v 1))) (.cons (.for (.nm 4) (.of (.comp [("two", 4)] (.nm 4) (.of (.of (.v 1))) (.cons (.cmp .gt (.v 4) (.v 3)) .nil) (.v 4))) (.cons (.asg (.nm 5) (.bools false (.cons (.cmp .isin (.tup (.cons (.v 3) (.cons (.v 4) .nil))) (.ix (.v 0) (.c (.int 1)))) (.cons (.cmp .isin (.tup (.cons (.v 4) (.cons (.v 3) .nil))) (.ix (.v 0) (.c (.int 1)))) .nil)))) (.cons (.asg (.nm 6) (.fz (.comp [("far", 7)] (.nm 7) (.of (.of (.v 1))) (.cons (.bools true (.cons (.cmp .isin (.tup (.cons (.v 3) (.cons (.v 7) .nil))) (.ix (.v 0) (.c (.int 1)))) (.cons (.cmp .isin (.tup (.cons (.v 4) (.cons (.v 7) .nil))) (.ix (.v 0) (.c (.int 1)))) .nil))) .nil) (.v 7)))) (.cons (.asg (.nm 2) (.bin .add (.v 2) (.fz (.rep (.disp (.cons (.tup (.cons (.v 3) (.cons (.v 4) .nil))) .nil)) (.b1 .int (.bools false (.cons (.v 5) (.cons (.cmp .ne (.v 6) (.fz (.disp .nil))) .nil)))))))) .nil)))) .nil)) (.cons (.ret (.tupOf (.of (.v 2)))) .nil))), []⟩
/-- _law_kept -/
def td84 : TD := ⟨"_law_kept", ["web", "lots"], ["web", "lots", "found", "lot", "thing"], (.cons (.asg (.nm 2) (.fz (.disp .nil))) (.cons (.for (.nm 3) (.of (.of (.v 1))) (.cons (.for (.nm 4) (.of (.of (.v 3))) (.cons (.asg (.nm 2) (.bin .add (.v 2) (.fz (.listOf (.of (.call 37 (.cons (.v 0) (.cons (.v 4) .nil)))))))) .nil)) .nil)) (.cons (.ret (.tupOf (.sortedSet (.of (.v 2))))) .nil))), []⟩
/-- _law_side -/
def td85 : TD := ⟨"_law_side", ["web", "one", "other", "given"], ["web", "one", "other", "given", "turn", "pairs", "found", "first", "second", "here", "there"], (.cons (.asg (.tp (.cons (.nm 5) (.cons (.nm 6) .nil))) (.tup (.cons (.call 83 (.cons (.v 0) (.cons (.call 84 (.cons (.v 0) (.cons (.tup (.cons (.v 1) (.cons (.v 2) (.cons (.v 3) .nil)))) .nil))) .nil))) (.cons (.ls (.listOf (.of (.v 1)))) .nil)))) (.cons (.for (.nm 4) (.rng1 (.ix (.v 0) (.c (.int 0)))) (.cons (.for (.tp (.cons (.nm 7) (.cons (.nm 8) .nil))) (.of (.of (.v 5))) (.cons (.for (.tp (.cons (.nm 9) (.cons (.nm 10) .nil))) (.of (.of (.tup (.cons (.tup (.cons (.v 7) (.cons (.v 8) .nil))) (.cons (.tup (.cons (.v 8) (.cons (.v 7) .nil))) .nil))))) (.cons (.ifs (.bools true (.cons (.cmp .isin (.v 9) (.v 6)) (.cons (.cmp .notin (.v 10) (.v 6)) (.cons (.cmp .notin (.v 10) (.v 3)) .nil)))) (.cons (.ex (.app (.v 6) (.v 10))) .nil) .nil) .nil)) .nil)) .nil)) (.cons (.ret (.tupOf (.sorted (.of (.v 6))))) .nil))), []⟩
/-- _law_base -/
def td86 : TD := ⟨"_law_base", ["web"], ["web", "order", "found", "at", "thing", "parents", "rest", "one", "two"], (.cons (.asg (.tp (.cons (.nm 1) (.cons (.nm 2) .nil))) (.tup (.cons (.call 38 (.cons (.v 0) .nil)) (.cons (.fz (.disp .nil)) .nil)))) (.cons (.for (.tp (.cons (.nm 3) (.cons (.nm 4) .nil))) (.enum (.of (.of (.v 1)))) (.cons (.asg (.nm 5) (.tupOf (.sorted (.comp [("one", 7), ("two", 8)] (.tp (.cons (.nm 7) (.cons (.nm 8) .nil))) (.of (.of (.ix (.v 0) (.c (.int 1))))) (.cons (.cmp .eq (.v 8) (.v 4)) .nil) (.v 7))))) (.cons (.asg (.nm 6) (.tupOf (.sorted (.comp [("one", 7)] (.nm 7) (.of (.of (.sl (.v 1) .no (.at (.v 3))))) (.cons (.cmp .notin (.v 7) (.v 5)) .nil) (.v 7))))) (.cons (.asg (.nm 2) (.bin .add (.v 2) (.fz (.rep (.disp (.cons (.tup (.cons (.tup (.cons (.v 4) .nil)) (.cons (.v 6) (.cons (.v 5) .nil)))) .nil)) (.b1 .int (.cmp .ne (.v 6) (.tup .nil))))))) .nil)))) (.cons (.ret (.tupOf (.of (.v 2)))) .nil))), []⟩
/-- _law_orders -/
def td87 : TD := ⟨"_law_orders", ["web"], ["web", "rows", "turn", "more", "row", "left", "thing", "one", "two"], (.cons (.asg (.nm 1) (.fz (.disp (.cons (.tup .nil) .nil)))) (.cons (.for (.nm 2) (.rng1 (.ix (.v 0) (.c (.int 0)))) (.cons (.asg (.nm 3) (.ls (.disp .nil))) (.cons (.for (.nm 4) (.of (.of (.v 1))) (.cons (.asg (.nm 5) (.fz (.comp [("thing", 6)] (.nm 6) (.rng1 (.ix (.v 0) (.c (.int 0)))) (.cons (.cmp .notin (.v 6) (.v 4)) .nil) (.v 6)))) (.cons (.for (.nm 6) (.of (.of (.v 5))) (.cons (.ifs (.cmp .eq (.fz (.comp [("one", 7), ("two", 8)] (.tp (.cons (.nm 7) (.cons (.nm 8) .nil))) (.of (.of (.ix (.v 0) (.c (.int 1))))) (.cons (.bools true (.cons (.cmp .eq (.v 8) (.v 6)) (.cons (.cmp .isin (.v 7) (.v 5)) .nil))) .nil) (.c (.int 1)))) (.fz (.disp .nil))) (.cons (.ex (.app (.v 3) (.bin .add (.v 4) (.tup (.cons (.v 6) .nil))))) .nil) .nil) .nil)) .nil))) (.cons (.asg (.nm 1) (.v 3)) .nil)))) (.cons (.ret (.v 1)) .nil))), []⟩
/-- _law_right -/
def td88 : TD := ⟨"_law_right", ["bag"], ["bag", "web", "rows", "due", "order", "at", "own"], (.cons (.asg (.nm 1) (.call 36 (.cons (.v 0) (.cons (.c (.int 5)) .nil)))) (.cons (.asg (.tp (.cons (.nm 3) (.cons (.nm 4) .nil))) (.tup (.cons (.call 86 (.cons (.v 1) .nil)) (.cons (.call 38 (.cons (.v 1) .nil)) .nil)))) (.cons (.ifs (.cmp .ne (.b1 .repr (.fz (.disp (.cons (.call 78 (.cons (.v 1) .nil)) (.cons (.callk 78 .nil (.cons (.v 1) .nil) [0]) (.cons (.call 31 (.cons (.v 1) .nil)) .nil)))))) (.b1 .repr (.fz (.disp (.cons (.v 3) (.cons (.v 3) (.cons (.v 4) .nil))))))) (.cons (.ret (.c (.bl false))) .nil) .nil) (.cons (.asg (.nm 2) (.call 87 (.cons (.v 1) .nil))) (.cons (.ifs (.bools false (.cons (.cmp .ne (.call 81 (.cons (.v 1) .nil)) (.tupOf (.of (.v 2)))) (.cons (.cmp .ne (.call 82 (.cons (.v 1) .nil)) (.b1 .len (.v 2))) (.cons (.cmp .notin (.v 4) (.v 2)) .nil)))) (.cons (.ret (.c (.bl false))) .nil) .nil) (.cons (.for (.tp (.cons (.nm 5) (.cons (.nm 6) .nil))) (.enum (.of (.of (.v 3)))) (.cons (.ifs (.bools false (.cons (.cmp .ne (.call 62 (.cons (.v 1) (.cons (.ix (.v 6) (.c (.int 0))) (.cons (.ix (.v 6) (.c (.int 1))) (.cons (.ix (.v 6) (.c (.int 2))) .nil))))) (.fz (.disp .nil))) (.cons (.notB true (.call 50 (.cons (.v 1) (.cons (.ix (.v 6) (.c (.int 0))) (.cons (.ix (.v 6) (.c (.int 1))) (.cons (.ix (.v 6) (.c (.int 2))) .nil)))))) .nil))) (.cons (.ret (.c (.bl false))) .nil) .nil) (.cons (.ifs (.cmp .ne (.call 79 (.cons (.v 1) (.cons (.tup (.cons (.tup (.cons (.c (.str "base")) (.cons (.v 5) .nil))) .nil)) .nil))) (.tup (.cons (.v 6) .nil))) (.cons (.ret (.c (.bl false))) .nil) .nil) (.cons (.ifs (.notB true (.call 57 (.cons (.v 1) (.cons (.ix (.v 6) (.c (.int 0))) (.cons (.ix (.v 6) (.c (.int 1))) (.cons (.ix (.v 6) (.c (.int 2))) (.cons (.call 85 (.cons (.v 1) (.cons (.ix (.v 6) (.c (.int 0))) (.cons (.ix (.v 6) (.c (.int 1))) (.cons (.ix (.v 6) (.c (.int 2))) .nil))))) .nil))))))) (.cons (.ret (.c (.bl false))) .nil) .nil) .nil)))) (.cons (.ret (.isN (.call 79 (.cons (.v 1) (.cons (.tup (.cons (.tup (.cons (.c (.str "base")) (.cons (.b1 .len (.v 3)) .nil))) .nil)) .nil))))) .nil))))))), []⟩
/-- law -/
def td89 : TD := ⟨"law", ["cells"], ["cells", "spot"], (.cons (.for (.nm 1) (.rng1 (.c (.int 2))) (.cons (.ifs (.not (.call 88 (.cons (.call 34 (.cons (.v 0) (.cons (.v 1) .nil))) .nil))) (.cons (.ret (.c (.bl false))) .nil) .nil) .nil)) (.cons (.ret (.c (.bl true))) .nil)), []⟩
structure H68 (Φ : Nat → Option FD) : Prop where
  self : Φ 68 = some td68.fd
structure H69 (Φ : Nat → Option FD) : Prop where
  self : Φ 69 = some td69.fd
structure H70 (Φ : Nat → Option FD) : Prop where
  self : Φ 70 = some td70.fd
  c68 : H68 Φ
structure H71 (Φ : Nat → Option FD) : Prop where
  self : Φ 71 = some td71.fd
  c9 : H9 Φ
  c11 : H11 Φ
structure H72 (Φ : Nat → Option FD) : Prop where
  self : Φ 72 = some td72.fd
structure H73 (Φ : Nat → Option FD) : Prop where
  self : Φ 73 = some td73.fd
structure H74 (Φ : Nat → Option FD) : Prop where
  self : Φ 74 = some td74.fd
  c44 : H44 Φ
  c72 : H72 Φ
  c73 : H73 Φ
structure H75 (Φ : Nat → Option FD) : Prop where
  self : Φ 75 = some td75.fd
  c72 : H72 Φ
structure H76 (Φ : Nat → Option FD) : Prop where
  self : Φ 76 = some td76.fd
  c1 : H1 Φ
  c69 : H69 Φ
  c70 : H70 Φ
  c71 : H71 Φ
  c74 : H74 Φ
  c75 : H75 Φ
structure H77 (Φ : Nat → Option FD) : Prop where
  self : Φ 77 = some td77.fd
  c69 : H69 Φ
  c76 : H76 Φ
structure H78 (Φ : Nat → Option FD) : Prop where
  self : Φ 78 = some td78.fd
  c22 : H22 Φ
  c71 : H71 Φ
structure H79 (Φ : Nat → Option FD) : Prop where
  self : Φ 79 = some td79.fd
  c22 : H22 Φ
  c77 : H77 Φ
structure H80 (Φ : Nat → Option FD) : Prop where
  self : Φ 80 = some td80.fd
  c8 : H8 Φ
structure H81 (Φ : Nat → Option FD) : Prop where
  self : Φ 81 = some td81.fd
  c22 : H22 Φ
  c80 : H80 Φ
structure H82 (Φ : Nat → Option FD) : Prop where
  self : Φ 82 = some td82.fd
  c22 : H22 Φ
  c80 : H80 Φ
structure H83 (Φ : Nat → Option FD) : Prop where
  self : Φ 83 = some td83.fd
structure H84 (Φ : Nat → Option FD) : Prop where
  self : Φ 84 = some td84.fd
  c37 : H37 Φ
structure H85 (Φ : Nat → Option FD) : Prop where
  self : Φ 85 = some td85.fd
  c83 : H83 Φ
  c84 : H84 Φ
structure H86 (Φ : Nat → Option FD) : Prop where
  self : Φ 86 = some td86.fd
  c38 : H38 Φ
structure H87 (Φ : Nat → Option FD) : Prop where
  self : Φ 87 = some td87.fd
structure H88 (Φ : Nat → Option FD) : Prop where
  self : Φ 88 = some td88.fd
  c31 : H31 Φ
  c36 : H36 Φ
  c38 : H38 Φ
  c50 : H50 Φ
  c57 : H57 Φ
  c62 : H62 Φ
  c78 : H78 Φ
  c79 : H79 Φ
  c81 : H81 Φ
  c82 : H82 Φ
  c85 : H85 Φ
  c86 : H86 Φ
  c87 : H87 Φ
structure H89 (Φ : Nat → Option FD) : Prop where
  self : Φ 89 = some td89.fd
  c34 : H34 Φ
  c88 : H88 Φ
end PyD
namespace PyD
open PySem
section
variable {cal : Cal} {env : Env} {st st1 st2 : Store} {a b e : E} {l : L} {x : D} {ds : List D}
theorem i_enumT (h : evE cal e env st = .ok (.tup ds) st1) : evI cal (.enum (.of (.of e))) env st = .ok (.enum (.ds false ds)) st1 := by
  rw [evI, i_tup h, R.bind_ok]
  rfl
theorem e_slTo {j : Nat} (ha : evE cal a env st = .ok (.tup ds) st) (hb : evE cal b env st = .ok (.int (j : Int)) st) : evE cal (.sl a .no (.at b)) env st = .ok (.tup (ds.take j)) st := by
  rw [evE, ha, R.bind_ok, evO, R.bind_ok, evO, hb, R.bind_ok, R.bind_ok]
  show R.ok (D.tup (cutL ds none (some (j : Int)))) st = _
  rw [cut_to]
theorem i_slTo {j : Nat} (ha : evE cal a env st = .ok (.tup ds) st) (hb : evE cal b env st = .ok (.int (j : Int)) st) : evI cal (.of (.of (.sl a .no (.at b)))) env st = .ok (.ds false (ds.take j)) st := i_tup (e_slTo ha hb)
theorem l_rep {n : Nat} (h : evL cal l env st = .ok (true, ds) st1) (he : evE cal e env st1 = .ok (.int (n : Int)) st2) (hn : n ≤ 1) (hz : ds.length ≤ 16777216) : evL cal (.rep l e) env st = .ok (true, (List.replicate n ds).flatten) st2 := by
  rw [evL, h, R.bind_ok, he, R.bind_ok]
  simp only [Int.toNat_natCast]
  have h2 : ds.length * n ≤ 16777216 := by
    have : n = 0 ∨ n = 1 := by omega
    rcases this with e | e <;> subst e
    · omega
    · rw [Nat.mul_one]; exact hz
  rw [if_pos (by rw [small_of h2, decide_eq_true (by omega), decide_eq_true (by omega)]; rfl)]
theorem b1_int {b : Bool} : b1D .int (.bl b) st = .ok (.int ((if b then 1 else 0 : Nat) : Int)) st := by cases b <;> rfl
end
theorem all_enum (st : Store) (l : List Nat) : It.all (.enum (.ds false (l.map fun (i : Nat) => D.int (i : Int)))) st = some ((List.range l.length).map fun (i : Nat) => D.tup [.int (i : Int), .int (l.getD i 0 : Nat)]) := by
  show (some (l.map fun (i : Nat) => D.int (i : Int))).map (fun xs => xs.zipIdx.map fun p => D.tup [.int (p.2 : Nat), p.1]) = _
  rw [Option.map_some]
  congr 1
  refine List.ext_getElem? fun i => ?_
  simp only [List.getElem?_map, List.getElem?_zipIdx, Nat.zero_add]
  by_cases h : i < l.length
  · have e : l.getD i 0 = l[i] := by rw [List.getD_eq_getElem?_getD, List.getElem?_eq_getElem h]; rfl
    rw [List.getElem?_range h, List.getElem?_eq_getElem h, Option.map_some, Option.map_some, Option.map_some, Option.map_some, e]
  · rw [List.getElem?_eq_none (Nat.not_lt.mp h), List.getElem?_eq_none (by rw [List.length_range]; omega)]; rfl
def oth (as : List (Nat × Nat)) (O : List Nat) (i : Nat) : List Nat := nsort ((O.take i).filter fun x => !decide (x ∈ pars as (O.getD i 0)))
def base1 (as : List (Nat × Nat)) (O : List Nat) (i : Nat) : List (Nat × List Nat × List Nat) := if (oth as O i).isEmpty then [] else [(O.getD i 0, oth as O i, pars as (O.getD i 0))]
def baseL (n : Nat) (as : List (Nat × Nat)) : List (Nat × List Nat × List Nat) := (List.range (order n as).length).flatMap (base1 as (order n as))
def bsD (b : Nat × List Nat × List Nat) : D := .tup [nT [b.1], nT b.2.1, nT b.2.2]
theorem bsD_pure (b : Nat × List Nat × List Nat) : (bsD b).pure = true := by
  unfold bsD
  simp only [D.pure, D.pures, nT_pure, Bool.and_self]
theorem base1_len (as : List (Nat × Nat)) (O : List Nat) (i : Nat) : (base1 as O i).length ≤ 1 := by
  unfold base1
  split <;> simp
theorem oth_lt {n : Nat} {as : List (Nat × Nat)} {i x : Nat} (h : x ∈ oth as (order n as) i) : x < n := by
  have h1 := (nsort_perm _).mem_iff.mp h
  exact (order_ob n as).lt x (List.mem_of_mem_take (List.mem_filter.mp h1).1)
theorem oth_len (as : List (Nat × Nat)) (O : List Nat) (i : Nat) : (oth as O i).length ≤ O.length := by
  unfold oth
  rw [(nsort_perm _).length_eq]
  exact Nat.le_trans (List.length_filter_le _ _) (List.length_take_le' _ _)
theorem nsort_id {l : List Nat} (h : l.Pairwise (· < ·)) : nsort l = l := by
  have h1 : l.Pairwise (· ≤ ·) := h.imp fun h => Nat.le_of_lt h
  exact List.Perm.eq_of_pairwise (le := fun a b => a ≤ b) (fun a b _ _ h1 h2 => Nat.le_antisymm h1 h2) (nsort_le l) h1 (nsort_perm l)
section
variable {Φ : Nat → Option FD} {k : Nat}
theorem take_nT (l : List Nat) (i : Nat) : (l.map fun (i : Nat) => D.int (i : Int)).take i = (l.take i).map fun (i : Nat) => D.int (i : Int) := by rw [List.map_take]
theorem e71 (h : H71 Φ) (n : Nat) (as : List (Nat × Nat)) (w : WV n as) (st : Store) : callD Φ (k + 4) 71 [wb n as] st = .ok (.tup ((baseL n as).map bsD)) st := by
  have hn := w.hn
  have hl := w.len
  have ho := w.ord
  let O := order n as
  obtain ⟨env1, st1, h1, hb, o3, o4, o5, o6, he, hs⟩ := s_forI (cal := callD Φ (k + 3)) (t := .tp (.cons (.nm 3) (.cons (.nm 4) .nil))) (i := .enum (.of (.of (.v 1)))) (bd := (.cons (.asg (.nm 5) (.call 11 (.cons (.v 0) (.cons (.v 4) .nil)))) (.cons (.asg (.nm 6) (.tupOf (.sorted (.comp [("own", 7)] (.nm 7) (.of (.of (.sl (.v 1) .no (.at (.v 3))))) (.cons (.cmp .notin (.v 7) (.v 5)) .nil) (.v 7))))) (.cons (.ifs (.cmp .ne (.v 6) (.tup .nil)) (.cons (.ex (.app (.v 2) (.tup (.cons (.tup (.cons (.v 4) .nil)) (.cons (.v 6) (.cons (.v 5) .nil)))))) .nil) .nil) .nil))))
    (env := [some (wb n as), some (nT O), some (.ref st.length), none, none, none, none, none]) (st := st ++ [.lst []]) (st0 := st ++ [.lst []]) (List.range O.length) (fun (i : Nat) => D.tup [.int (i : Int), .int (O.getD i 0 : Nat)])
    (fun i (b : List (Nat × List Nat × List Nat)) env s => b.length ≤ i ∧ ∃ o3 o4 o5 o6, env = [some (wb n as), some (nT O), some (.ref st.length), o3, o4, o5, o6, none] ∧ s = st ++ [.lst (b.map bsD)]) (fun b i => b ++ base1 as O i)
    (J := .enum (.ds false (O.map fun (i : Nat) => D.int (i : Int)))) (i_enumT rfl) (b0 := []) ⟨by simp, _, _, _, _, rfl, rfl⟩ (fun _ _ _ s _ => all_enum s O)
    (by
      intro i y hi b env s ⟨hb, o3, o4, o5, o6, he, hs⟩
      subst he hs
      obtain ⟨hin, hia⟩ := List.getElem?_eq_some_iff.mp hi
      rw [List.length_range] at hin
      rw [List.getElem_range] at hia
      subst hia
      have hO6 : O.length ≤ 6 := by show (order n as).length ≤ 6; omega
      let t := O.getD i 0
      have h1l := base1_len as O i
      have hbl2 : (b ++ base1 as O i).length ≤ i + 1 := by rw [List.length_append]; omega
      refine ⟨_, [some (wb n as), some (nT O), some (.ref st.length), some (.int (i : Int)), some (.int (t : Int)), some (nT (pars as t)), some (nT (oth as O i)), none], st ++ [.lst ((b ++ base1 as O i).map bsD)], rfl, ?_, hbl2, _, _, _, _, rfl, rfl⟩
      refine bs_asg (e_call (s_cons rfl (s_cons rfl s_nil)) (e11 (k := k + 2) h.c11 n as t (by omega) _)) rfl ?_
      have htk : (O.take i).length ≤ 6 := Nat.le_trans (List.length_take_le _ _) (by omega)
      have hfl := List.length_filter_le (fun x => !decide (x ∈ pars as t)) (O.take i)
      refine bs_asg (d := nT (oth as O i)) (st1 := st ++ [.lst (b.map bsD)]) (e_tupOf (l_sorted (comp_filter (O.take i) (fun (i : Nat) => D.int (i : Int)) (fun x => !decide (x ∈ pars as t)) (fun (i : Nat) => D.int (i : Int)) (i_slTo (j := i) rfl rfl) (by show some _ = some _; rw [take_nT]) (by omega) fun x _ => ⟨_, rfl, e_cmp rfl rfl (notin_nT _ x _), fun _ => rfl⟩) (sortD_nats _ (by omega)))) rfl ?_
      have hc : evE (callD Φ (k + 3)) (.cmp .ne (.v 6) (.tup .nil)) [some (wb n as), some (nT O), some (.ref st.length), some (.int (i : Int)), some (.int (t : Int)), some (nT (pars as t)), some (nT (oth as O i)), none] (st ++ [.lst (b.map bsD)]) = .ok (.bl (!(oth as O i).isEmpty)) (st ++ [.lst (b.map bsD)]) := e_cmp rfl (e_tup s_nil (by decide)) (ne_nilT _ (fun x hx => by have := oth_lt (n := n) hx; omega) _)
      unfold base1
      cases q : (oth as O i).isEmpty with
      | true =>
        rw [q] at hc
        simp only [if_true, List.append_nil]
        exact bs_if_f hc bs_nil
      | false =>
        rw [q] at hc
        have happ := e_app (cal := callD Φ (k + 3)) (a := .v 2) (e := .tup (.cons (.tup (.cons (.v 4) .nil)) (.cons (.v 6) (.cons (.v 5) .nil)))) (env := [some (wb n as), some (nT O), some (.ref st.length), some (.int (i : Int)), some (.int (t : Int)), some (nT (pars as t)), some (nT (oth as O i)), none]) (i := st.length) rfl (get_last st (.lst (b.map bsD))) (e_tup (s_cons (e_tup (s_cons rfl s_nil) (by show 1 ≤ 16777216; decide)) (s_cons rfl (s_cons rfl s_nil))) (by show 3 ≤ 16777216; decide)) (by rw [List.length_map]; omega)
        rw [set_last] at happ
        refine bs_if_t0 hc (bs_ex happ bs_nil) ?_
        simp only [Bool.false_eq_true, if_false, List.map_append]
        exact bs_nil)
  rw [foldl_app, List.nil_append] at *
  refine call_ev [.lst ((baseL n as).map bsD)] h.self rfl ?_ (by simp only [D.pure]; exact pures_map _ bsD_pure _)
  rw [runD_eq (env := [some (wb n as), none, none, none, none, none, none, none]) rfl]
  subst he hs
  refine ss_asg (env1 := [some (wb n as), some (nT O), some (.ref st.length), none, none, none, none, none]) (st2 := st ++ [.lst []]) (e_tup (s_cons (e_call (s_cons rfl s_nil) (e9 (k := k) h.c9 n as w.toWOk st)) (s_cons (e_ls (l_disp s_nil (by decide))) s_nil)) (by show 2 ≤ 16777216; decide)) rfl (ss_s h1 (ss_ret (e_tupOf (l_of (bb := true) (x := .ref st.length) rfl (items_ref (get_last _ _))))))
theorem e78 (h : H78 Φ) (n : Nat) (as : List (Nat × Nat)) (w : WV n as) (st : Store) : callD Φ (k + 7) 78 [wb n as] st = .ok (.tup ((baseL n as).map bsD)) st := by
  refine call_ev0 h.self rfl ?_ (by simp only [D.pure]; exact pures_map _ bsD_pure _)
  rw [runD_eq (env := [some (wb n as)]) rfl]
  exact ss_ex (e_call (s_cons rfl s_nil) (e22 (k := k) h.c22 n as w st)) (ss_ret (e_call (s_cons rfl s_nil) (e71 (k := k + 2) h.c71 n as w st)))
theorem e86 (h : H86 Φ) (n : Nat) (as : List (Nat × Nat)) (w : WV n as) (hn : n ≤ 5) (hz : as.length ≤ 10) (hf : ∀ b : List Nat, b.length < n → free n as b ≠ []) (st : Store) : callD Φ (k + 2) 86 [wb n as] st = .ok (.tup ((baseL n as).map bsD)) st := by
  have ho := w.ord
  let O := order n as
  obtain ⟨env1, st1, h1, hb, o3, o4, o5, o6, he, hs⟩ := s_forI (cal := callD Φ (k + 1)) (t := .tp (.cons (.nm 3) (.cons (.nm 4) .nil))) (i := .enum (.of (.of (.v 1)))) (bd := (.cons (.asg (.nm 5) (.tupOf (.sorted (.comp [("one", 7), ("two", 8)] (.tp (.cons (.nm 7) (.cons (.nm 8) .nil))) (.of (.of (.ix (.v 0) (.c (.int 1))))) (.cons (.cmp .eq (.v 8) (.v 4)) .nil) (.v 7))))) (.cons (.asg (.nm 6) (.tupOf (.sorted (.comp [("one", 7)] (.nm 7) (.of (.of (.sl (.v 1) .no (.at (.v 3))))) (.cons (.cmp .notin (.v 7) (.v 5)) .nil) (.v 7))))) (.cons (.asg (.nm 2) (.bin .add (.v 2) (.fz (.rep (.disp (.cons (.tup (.cons (.tup (.cons (.v 4) .nil)) (.cons (.v 6) (.cons (.v 5) .nil)))) .nil)) (.b1 .int (.cmp .ne (.v 6) (.tup .nil))))))) .nil))))
    (env := [some (wb n as), some (nT O), some (.lst []), none, none, none, none, none, none]) (st := st) (st0 := st) (List.range O.length) (fun (i : Nat) => D.tup [.int (i : Int), .int (O.getD i 0 : Nat)])
    (fun i (b : List (Nat × List Nat × List Nat)) env s => b.length ≤ i ∧ ∃ o3 o4 o5 o6, env = [some (wb n as), some (nT O), some (.lst (b.map bsD)), o3, o4, o5, o6, none, none] ∧ s = st) (fun b i => b ++ base1 as O i)
    (J := .enum (.ds false (O.map fun (i : Nat) => D.int (i : Int)))) (i_enumT rfl) (b0 := []) ⟨by simp, _, _, _, _, rfl, rfl⟩ (fun _ _ _ s _ => all_enum s O)
    (by
      intro i y hi b env s ⟨hb, o3, o4, o5, o6, he, hs⟩
      subst he hs
      obtain ⟨hin, hia⟩ := List.getElem?_eq_some_iff.mp hi
      rw [List.length_range] at hin
      rw [List.getElem_range] at hia
      subst hia
      have hO6 : O.length ≤ 6 := by show (order n as).length ≤ 6; omega
      let t := O.getD i 0
      have h1l := base1_len as O i
      have hbl2 : (b ++ base1 as O i).length ≤ i + 1 := by rw [List.length_append]; omega
      have hpl := pars_len w.toWOk t
      refine ⟨_, [some (wb n as), some (nT O), some (.lst ((b ++ base1 as O i).map bsD)), some (.int (i : Int)), some (.int (t : Int)), some (nT (pars as t)), some (nT (oth as O i)), none, none], s, rfl, ?_, hbl2, _, _, _, _, rfl, rfl⟩
      have hpc : evL (callD Φ (k + 1)) (.comp [("one", 7), ("two", 8)] (.tp (.cons (.nm 7) (.cons (.nm 8) .nil))) (.of (.of (.ix (.v 0) (.c (.int 1))))) (.cons (.cmp .eq (.v 8) (.v 4)) .nil) (.v 7)) [some (wb n as), some (nT O), some (.lst (b.map bsD)), some (.int (i : Int)), some (.int (t : Int)), o5, o6, none, none] s = .ok (true, (pars as t).map fun (i : Nat) => D.int (i : Int)) s := by
        refine (comp_filter as ar (fun p => decide (p.2 = t)) (fun p => .int (p.1 : Int)) (i_tup rfl) rfl (by omega) fun p _ => ⟨_, rfl, (e_cmp rfl rfl (cmp_eq _ _ _)).trans (by rw [deq]), fun _ => rfl⟩).trans ?_
        unfold pars
        rw [List.map_map]
        rfl
      refine bs_asg (d := nT (pars as t)) (st1 := s) ((e_tupOf (l_sorted hpc (sortD_nats _ (by omega)))).trans (by rw [nsort_id (pars_asc w.asc t)]; rfl)) rfl ?_
      have htk : (O.take i).length ≤ 6 := Nat.le_trans (List.length_take_le _ _) (by omega)
      have hfl := List.length_filter_le (fun x => !decide (x ∈ pars as t)) (O.take i)
      refine bs_asg (d := nT (oth as O i)) (st1 := s) (e_tupOf (l_sorted (comp_filter (O.take i) (fun (i : Nat) => D.int (i : Int)) (fun x => !decide (x ∈ pars as t)) (fun (i : Nat) => D.int (i : Int)) (i_slTo (j := i) rfl rfl) (by show some _ = some _; rw [take_nT]) (by omega) fun x _ => ⟨_, rfl, e_cmp rfl rfl (notin_nT _ x _), fun _ => rfl⟩) (sortD_nats _ (by omega)))) rfl ?_
      have hc : evE (callD Φ (k + 1)) (.b1 .int (.cmp .ne (.v 6) (.tup .nil))) [some (wb n as), some (nT O), some (.lst (b.map bsD)), some (.int (i : Int)), some (.int (t : Int)), some (nT (pars as t)), some (nT (oth as O i)), none, none] s = .ok (.int ((if !(oth as O i).isEmpty then 1 else 0 : Nat) : Int)) s := e_b1 (e_cmp rfl (e_tup s_nil (by decide)) (ne_nilT _ (fun x hx => by have := oth_lt (n := n) hx; omega) _)) b1_int
      have hr := l_rep (cal := callD Φ (k + 1)) (l := .disp (.cons (.tup (.cons (.tup (.cons (.v 4) .nil)) (.cons (.v 6) (.cons (.v 5) .nil)))) .nil)) (l_disp (s_cons (e_tup (s_cons (e_tup (s_cons rfl s_nil) (by show 1 ≤ 16777216; decide)) (s_cons rfl (s_cons rfl s_nil))) (by show 3 ≤ 16777216; decide)) s_nil) (by show 1 ≤ 16777216; decide)) hc (by split <;> omega) (by show 1 ≤ 16777216; decide)
      have hr2 : (List.replicate (if !(oth as O i).isEmpty then 1 else 0) [bsD (t, oth as O i, pars as t)]).flatten = (base1 as O i).map bsD := by
        unfold base1
        cases (oth as O i).isEmpty <;> rfl
      refine bs_asg (d := .lst ((b ++ base1 as O i).map bsD)) (st1 := s) ((e_bin (x := .lst (b.map bsD)) (y := .lst ((base1 as O i).map bsD)) (st1 := s) (st2 := s) rfl ((e_fz hr).trans (by rw [← hr2]; rfl)) (cat_lst s (by rw [List.length_map, List.length_map]; omega))).trans (by rw [List.map_append])) rfl bs_nil)
  rw [foldl_app, List.nil_append] at *
  refine call_ev0 h.self rfl ?_ (by simp only [D.pure]; exact pures_map _ bsD_pure _)
  rw [runD_eq (env := [some (wb n as), none, none, none, none, none, none, none, none]) rfl]
  subst he hs
  refine ss_asg (env1 := [some (wb n as), some (nT O), some (.lst []), none, none, none, none, none, none]) (st2 := st1) (e_tup (s_cons (e_call (s_cons rfl s_nil) (e38 (k := k) h.c38 n as hn hz hf st1)) (s_cons (e_fz (l_disp s_nil (by decide))) s_nil)) (by show 2 ≤ 16777216; decide)) rfl (ss_s h1 (ss_ret (e_tupOf (l_of (bb := true) (x := .lst ((baseL n as).map bsD)) rfl rfl))))
end
end PyD
namespace PyD
open PySem
/-- a row of rows, frozen or in the store -/
def Hold (d : D) (rows : List (List Nat)) (st : Store) : Prop := d = .lst (rows.map nT) ∨ ∃ a, d = .ref a ∧ st[a]? = some (.lst (rows.map nT))
theorem Hold.app {d : D} {rows : List (List Nat)} {st : Store} (h : Hold d rows st) (j : Store) : Hold d rows (st ++ j) := by
  rcases h with h | ⟨a, h1, h2⟩
  · exact .inl h
  · refine .inr ⟨a, h1, ?_⟩
    rw [List.getElem?_append_left (List.getElem?_eq_some_iff.mp h2).1]
    exact h2
theorem Hold.items {d : D} {rows : List (List Nat)} {st : Store} (h : Hold d rows st) : items d st = some (true, rows.map nT) := by
  rcases h with rfl | ⟨a, rfl, h2⟩
  · rfl
  · exact items_ref h2
theorem i_hold {cal : Cal} {env : Env} {st : Store} {e : E} {d : D} {rows : List (List Nat)} (he : evE cal e env st = .ok d st) (h : Hold d rows st) : ∃ J, evI cal (.of (.of e)) env st = .ok J st ∧ ∀ st', Hold d rows st' → J.all st' = some (rows.map nT) := by
  rcases h with rfl | ⟨a, rfl, h2⟩
  · exact ⟨_, i_lst he, fun _ _ => rfl⟩
  · refine ⟨_, i_ref he h2, fun st' h' => ?_⟩
    rcases h' with h' | ⟨a', h1, h3⟩
    · cases h'
    · cases h1
      exact all_ref h3
theorem fin_lst {st j : Store} {a : Nat} {ds : List D} (h1 : st.length ≤ a) (h2 : (st ++ j)[a]? = some (.lst ds)) (h3 : D.pures ds = true) : fin st (.ok (.ref a) (st ++ j)) = .ok (.ref st.length) (st ++ [.lst ds]) := by
  simp only [fin, D.pure, Bool.false_and, Bool.false_eq_true, if_false, h2, h3, Bool.true_and]
  rw [decide_eq_true h1, List.take_left, stSame_refl]
  rfl
def ordE (n : Nat) (as : List (Nat × Nat)) (row : List Nat) : List (List Nat) := (free n as row).map fun t => row ++ [t]
def ordK (n : Nat) (as : List (Nat × Nat)) : Nat → List (List Nat)
  | 0 => [[]]
  | k + 1 => (ordK n as k).flatMap (ordE n as)
theorem free_len (n : Nat) (as : List (Nat × Nat)) (l : List Nat) : (free n as l).length ≤ n := by
  unfold free
  exact Nat.le_trans (List.length_filter_le _ _) (Nat.le_trans (List.length_filter_le _ _) (by rw [List.length_range]; exact Nat.le_refl _))
theorem ordE_len (n : Nat) (as : List (Nat × Nat)) (row : List Nat) : (ordE n as row).length ≤ n := by
  unfold ordE
  rw [List.length_map]
  exact free_len n as row
theorem ordK_len (n : Nat) (as : List (Nat × Nat)) (hn : n ≤ 6) : ∀ k, (ordK n as k).length ≤ 6 ^ k
  | 0 => Nat.le_refl _
  | k + 1 => by
    have ih := ordK_len n as hn k
    unfold ordK
    refine Nat.le_trans (flat_le (ordE n as) 6 _ fun r _ => Nat.le_trans (ordE_len n as r) hn) ?_
    rw [Nat.pow_succ]
    exact Nat.mul_le_mul_right _ ih
theorem ordK_big (n : Nat) (as : List (Nat × Nat)) (hn : n ≤ 6) (k : Nat) (hk : k ≤ 6) : (ordK n as k).length ≤ 46656 := by
  refine Nat.le_trans (ordK_len n as hn k) (Nat.le_trans (Nat.pow_le_pow_right (by decide) hk) ?_)
  decide
theorem ordK_row {n : Nat} {as : List (Nat × Nat)} : ∀ {k : Nat} {r : List Nat}, r ∈ ordK n as k → r.length = k ∧ ∀ x ∈ r, x < n
  | 0, r, h => by
    rw [ordK, List.mem_singleton] at h
    subst h
    exact ⟨rfl, fun x hx => nomatch hx⟩
  | k + 1, r, h => by
    rw [ordK, List.mem_flatMap] at h
    obtain ⟨q, hq, h⟩ := h
    obtain ⟨t, ht, rfl⟩ := List.mem_map.mp h
    obtain ⟨h1, h2⟩ := ordK_row hq
    refine ⟨by rw [List.length_append, h1]; rfl, fun x hx => ?_⟩
    rcases List.mem_append.mp hx with hx | hx
    · exact h2 x hx
    · rw [List.mem_singleton.mp hx]; exact (mem_free ht).1
/-- each state of the first order is one of them -/
theorem order_in {n : Nat} {as : List (Nat × Nat)} (hf : ∀ b : List Nat, b.length < n → free n as b ≠ []) : ∀ m, m ≤ n → (List.range m).foldl (fun b _ => b ++ (free n as b).take 1) [] ∈ ordK n as m
  | 0, _ => List.mem_singleton.mpr rfl
  | m + 1, hm => by
    have ih := order_in hf m (by omega)
    rw [List.range_succ, List.foldl_append, List.foldl_cons, List.foldl_nil, ordK, List.mem_flatMap]
    refine ⟨_, ih, ?_⟩
    obtain ⟨x, xs, hx⟩ := List.exists_cons_of_ne_nil (hf _ (by rw [(ordK_row ih).1]; omega))
    unfold ordE
    rw [hx]
    exact List.mem_map.mpr ⟨x, List.mem_cons_self, rfl⟩
section
variable {Φ : Nat → Option FD} {k : Nat}
theorem e8T (h : H8 Φ) (n : Nat) (as : List (Nat × Nat)) (w : WOk n as) (l : List Nat) (st : Store) : callD Φ (k + 2) 8 [wb n as, nT l] st = .ok (nL (free n as l)) st := by
  have hn := w.hn
  have hl := w.len
  refine call_ev0 h.self rfl ?_ (nL_pure _)
  rw [runD_eq (env := [some (wb n as), some (nT l), none, none, none, none]) rfl]
  refine ss_asg (e_call (s_cons rfl s_nil) (e10 h.c10 n as (by omega) (by omega) st)) rfl ?_
  refine ss_asg (st1 := st) (st2 := st) (d := nL ((List.range n).filter fun t => !decide (t ∈ l))) (e_fz (comp_filter (List.range n) (fun (i : Nat) => D.int (i : Int)) (fun t => !decide (t ∈ l)) (fun (i : Nat) => D.int (i : Int)) (i_rng1 rfl (smallI_le (by omega) (by omega))) (all_rng0 n st) (by rw [List.length_range]; omega)
    fun t _ => ⟨_, rfl, e_cmp rfl rfl (notin_nT l t st), fun _ => rfl⟩)) rfl ?_
  refine ss_ret (e_fz (comp_filter ((List.range n).filter fun t => !decide (t ∈ l)) (fun (i : Nat) => D.int (i : Int)) (fun t => (pars as t).all fun x => decide (x ∈ l)) (fun (i : Nat) => D.int (i : Int)) (i_lst rfl) rfl
    (by have := List.length_filter_le (fun t => !decide (t ∈ l)) (List.range n); rw [List.length_range] at this; omega) fun t ht => ⟨_, rfl, ?_, fun _ => rfl⟩))
  have htn : t < n := List.mem_range.mp (List.mem_filter.mp ht).1
  exact all_in (pars as t) (fun x => decide (x ∈ l)) (i_tup (ds := (pars as t).map fun (x : Nat) => .int (x : Int)) (e_ix rfl rfl (ix_lst st (by rw [List.getElem?_map, List.getElem?_range htn]; rfl)))) rfl (by have := pars_len w t; omega) fun x _ => ⟨_, rfl, e_cmp rfl rfl (isin_nT l x st)⟩
theorem e80 (h : H80 Φ) (n : Nat) (as : List (Nat × Nat)) (w : WOk n as) (st : Store) : callD Φ (k + 3) 80 [wb n as] st = .ok (rT (ordK n as n)) st := by
  have hn := w.hn
  obtain ⟨env1, st1, h1, hb, d, o2, o3, o4, j, he, hs, hH⟩ := s_forI (cal := callD Φ (k + 2)) (t := .nm 2) (i := .rng1 (.ix (.v 0) (.c (.int 0)))) (bd := (.cons (.asg (.nm 3) (.ls (.disp .nil))) (.cons (.for (.nm 4) (.of (.of (.v 1))) (.cons (.ex (.ext (.v 3) (.comp [("thing", 5)] (.nm 5) (.of (.of (.call 8 (.cons (.v 0) (.cons (.v 4) .nil))))) .nil (.tup (.star (.of (.v 4)) (.cons (.v 5) .nil)))))) .nil)) (.cons (.asg (.nm 1) (.v 3)) .nil))))
    (env := [some (wb n as), some (nR [[]]), none, none, none, none]) (st := st) (st0 := st) (List.range n) (fun (i : Nat) => D.int (i : Int))
    (fun i (b : List (List Nat)) env s => b = ordK n as i ∧ ∃ d o2 o3 o4 j, env = [some (wb n as), some d, o2, o3, o4, none] ∧ s = st ++ j ∧ Hold d b s) (fun b _ => b.flatMap (ordE n as))
    (J := .rng 0 n) (i_rng1 (j := (n : Int)) rfl (smallI_le (by omega) (by omega))) (b0 := [[]]) ⟨rfl, _, _, _, _, [], rfl, by rw [List.append_nil], .inl rfl⟩ (fun _ _ _ s _ => all_rng0 n s)
    (by
      intro i y hi b env s ⟨hb, d, o2, o3, o4, j, he, hs, hH⟩
      subst he
      obtain ⟨hin, hia⟩ := List.getElem?_eq_some_iff.mp hi
      rw [List.length_range] at hin
      rw [List.getElem_range] at hia
      subst hia
      have hbl : b.length ≤ 46656 := by rw [hb]; exact ordK_big n as hn i (by omega)
      have hrow : ∀ r ∈ b, r.length = i := fun r hr => by rw [hb] at hr; exact (ordK_row hr).1
      obtain ⟨J, hJ1, hJ2⟩ := i_hold (cal := callD Φ (k + 2)) (e := .v 1) (env := [some (wb n as), some d, some (.int (i : Int)), some (.ref s.length), o4, none]) rfl (hH.app [.lst []])
      obtain ⟨env2, st2, h2, hc, p4, he2, hs2⟩ := s_forI (cal := callD Φ (k + 2)) (t := .nm 4) (i := .of (.of (.v 1))) (bd := (.cons (.ex (.ext (.v 3) (.comp [("thing", 5)] (.nm 5) (.of (.of (.call 8 (.cons (.v 0) (.cons (.v 4) .nil))))) .nil (.tup (.star (.of (.v 4)) (.cons (.v 5) .nil)))))) .nil))
        (env := [some (wb n as), some d, some (.int (i : Int)), some (.ref s.length), o4, none]) (st := s ++ [.lst []]) (st0 := s ++ [.lst []]) b nT
        (fun m (c : List (List Nat)) env s' => c.length ≤ m * 6 ∧ ∃ p4, env = [some (wb n as), some d, some (.int (i : Int)), some (.ref s.length), p4, none] ∧ s' = s ++ [.lst (c.map nT)]) (fun c row => c ++ ordE n as row)
        (J := J) hJ1 (b0 := []) ⟨by simp, _, rfl, rfl⟩ (fun m c env s' ⟨_, p4, _, hs'⟩ => hJ2 s' (by rw [hs']; exact hH.app _))
        (by
          intro m row hm c env s' ⟨hc, p4, he, hs'⟩
          subst he hs'
          have hml : m < b.length := (List.getElem?_eq_some_iff.mp hm).1
          have hrl := hrow row (List.mem_of_getElem? hm)
          have hfl := free_len n as row
          refine ⟨_, [some (wb n as), some d, some (.int (i : Int)), some (.ref s.length), some (nT row), none], s ++ [.lst ((c ++ ordE n as row).map nT)], rfl, ?_, by have := ordE_len n as row; rw [List.length_append]; omega, _, rfl, rfl⟩
          have hcomp : evL (callD Φ (k + 2)) (.comp [("thing", 5)] (.nm 5) (.of (.of (.call 8 (.cons (.v 0) (.cons (.v 4) .nil))))) .nil (.tup (.star (.of (.v 4)) (.cons (.v 5) .nil)))) [some (wb n as), some d, some (.int (i : Int)), some (.ref s.length), some (nT row), none] (s ++ [.lst (c.map nT)]) = .ok (true, (ordE n as row).map nT) (s ++ [.lst (c.map nT)]) := by
            refine (comp_map (free n as row) (fun (i : Nat) => D.int (i : Int)) (fun t => nT (row ++ [t])) (i_lst (e_call (s_cons rfl (s_cons rfl s_nil)) (e8T (k := k) h.c8 n as w row _))) rfl (by omega) fun t _ => ⟨_, rfl, (e_tup (s_star (l_of (x := nT row) rfl rfl) (s_cons rfl s_nil)) ?_).trans ?_⟩).trans ?_
            · simp only [List.length_append, List.length_map, List.length_cons, List.length_nil]; omega
            · unfold nT; rw [List.map_append]; rfl
            · unfold ordE; rw [List.map_map]; rfl
          have x1 := e_ext (cal := callD Φ (k + 2)) (a := .v 3) (env := [some (wb n as), some d, some (.int (i : Int)), some (.ref s.length), some (nT row), none]) (i := s.length) (ds := c.map nT) rfl (get_last s (.lst (c.map nT))) hcomp (by have := ordE_len n as row; rw [List.length_map, List.length_map]; omega)
          rw [set_last, ← List.map_append] at x1
          exact bs_ex x1 bs_nil)
      rw [foldl_app, List.nil_append] at *
      subst he2 hs2
      refine ⟨_, [some (wb n as), some (.ref s.length), some (.int (i : Int)), some (.ref s.length), p4, none], s ++ [.lst ((b.flatMap (ordE n as)).map nT)], rfl, bs_asg (e_ls (l_disp s_nil (by decide))) rfl (bs_s h2 (bs_asg rfl rfl bs_nil)), by rw [hb]; rfl, .ref s.length, some (.int (i : Int)), some (.ref s.length), p4, j ++ [.lst ((b.flatMap (ordE n as)).map nT)], rfl, by rw [hs, List.append_assoc], .inr ⟨s.length, rfl, get_last _ _⟩⟩)
  rw [List.length_range] at hb
  rw [hb] at hH
  subst he hs
  refine call_ev j h.self rfl ?_ (rT_pure _)
  rw [runD_eq (env := [some (wb n as), none, none, none, none, none]) rfl]
  refine ss_asg (d := nR [[]]) (st1 := st) (e_fz (l_disp (s_cons (e_tup s_nil (by decide)) s_nil) (by show 1 ≤ 16777216; decide))) rfl (ss_s h1 (ss_ret (e_tupOf (l_of (bb := true) (x := d) rfl hH.items))))
theorem e81 (h : H81 Φ) (n : Nat) (as : List (Nat × Nat)) (w : WV n as) (st : Store) : callD Φ (k + 7) 81 [wb n as] st = .ok (rT (ordK n as n)) st := by
  refine call_ev0 h.self rfl ?_ (rT_pure _)
  rw [runD_eq (env := [some (wb n as)]) rfl]
  exact ss_ex (e_call (s_cons rfl s_nil) (e22 (k := k) h.c22 n as w st)) (ss_ret (e_call (s_cons rfl s_nil) (e80 (k := k + 3) h.c80 n as w.toWOk st)))
theorem e82 (h : H82 Φ) (n : Nat) (as : List (Nat × Nat)) (w : WV n as) (st : Store) : callD Φ (k + 7) 82 [wb n as] st = .ok (.int ((ordK n as n).length : Nat)) st := by
  refine call_ev0 h.self rfl ?_ rfl
  rw [runD_eq (env := [some (wb n as)]) rfl]
  refine ss_ex (e_call (s_cons rfl s_nil) (e22 (k := k) h.c22 n as w st)) (ss_ret (e_b1 (e_call (s_cons rfl s_nil) (e80 (k := k + 3) h.c80 n as w.toWOk st)) ?_))
  show R.ok (D.int (((ordK n as n).map nT).length : Nat)) st = _
  rw [List.length_map]
theorem flat_if {α β : Type} (p : α → Bool) (g : α → β) : ∀ l : List α, (l.flatMap fun x => if p x then [g x] else []) = (l.filter p).map g
  | [] => rfl
  | x :: l => by
    rw [List.flatMap_cons, List.filter_cons, flat_if p g l]
    cases p x <;> rfl
theorem e87 (h : H87 Φ) (n : Nat) (as : List (Nat × Nat)) (w : WV n as) (st : Store) : callD Φ (k + 1) 87 [wb n as] st = .ok (.ref st.length) (st ++ [.lst ((ordK n as n).map nT)]) := by
  have hn := w.hn
  have hl := w.len
  have hpos := w.pos
  obtain ⟨env1, st1, h1, hb, d, o2, o3, o4, o5, o6, j, he, hs, hH, hd⟩ := s_forI (cal := callD Φ k) (t := .nm 2) (i := .rng1 (.ix (.v 0) (.c (.int 0)))) (bd := (.cons (.asg (.nm 3) (.ls (.disp .nil))) (.cons (.for (.nm 4) (.of (.of (.v 1))) (.cons (.asg (.nm 5) (.fz (.comp [("thing", 6)] (.nm 6) (.rng1 (.ix (.v 0) (.c (.int 0)))) (.cons (.cmp .notin (.v 6) (.v 4)) .nil) (.v 6)))) (.cons (.for (.nm 6) (.of (.of (.v 5))) (.cons (.ifs (.cmp .eq (.fz (.comp [("one", 7), ("two", 8)] (.tp (.cons (.nm 7) (.cons (.nm 8) .nil))) (.of (.of (.ix (.v 0) (.c (.int 1))))) (.cons (.bools true (.cons (.cmp .eq (.v 8) (.v 6)) (.cons (.cmp .isin (.v 7) (.v 5)) .nil))) .nil) (.c (.int 1)))) (.fz (.disp .nil))) (.cons (.ex (.app (.v 3) (.bin .add (.v 4) (.tup (.cons (.v 6) .nil))))) .nil) .nil) .nil)) .nil))) (.cons (.asg (.nm 1) (.v 3)) .nil))))
    (env := [some (wb n as), some (nR [[]]), none, none, none, none, none, none, none]) (st := st) (st0 := st) (List.range n) (fun (i : Nat) => D.int (i : Int))
    (fun i (b : List (List Nat)) env s => b = ordK n as i ∧ ∃ d o2 o3 o4 o5 o6 j, env = [some (wb n as), some d, o2, o3, o4, o5, o6, none, none] ∧ s = st ++ j ∧ Hold d b s ∧ (1 ≤ i → ∃ a, d = .ref a ∧ st.length ≤ a)) (fun b _ => b.flatMap (ordE n as))
    (J := .rng 0 n) (i_rng1 (j := (n : Int)) rfl (smallI_le (by omega) (by omega))) (b0 := [[]]) ⟨rfl, _, _, _, _, _, _, [], rfl, by rw [List.append_nil], .inl rfl, fun h => by omega⟩ (fun _ _ _ s _ => all_rng0 n s)
    (by
      intro i y hi b env s ⟨hb, d, o2, o3, o4, o5, o6, j, he, hs, hH, _⟩
      subst he
      obtain ⟨hin, hia⟩ := List.getElem?_eq_some_iff.mp hi
      rw [List.length_range] at hin
      rw [List.getElem_range] at hia
      subst hia
      have hbl : b.length ≤ 46656 := by rw [hb]; exact ordK_big n as hn i (by omega)
      have hrow : ∀ r ∈ b, r.length = i := fun r hr => by rw [hb] at hr; exact (ordK_row hr).1
      obtain ⟨J, hJ1, hJ2⟩ := i_hold (cal := callD Φ k) (e := .v 1) (env := [some (wb n as), some d, some (.int (i : Int)), some (.ref s.length), o4, o5, o6, none, none]) rfl (hH.app [.lst []])
      obtain ⟨env2, st2, h2, hc, p4, p5, p6, he2, hs2⟩ := s_forI (cal := callD Φ k) (t := .nm 4) (i := .of (.of (.v 1))) (bd := (.cons (.asg (.nm 5) (.fz (.comp [("thing", 6)] (.nm 6) (.rng1 (.ix (.v 0) (.c (.int 0)))) (.cons (.cmp .notin (.v 6) (.v 4)) .nil) (.v 6)))) (.cons (.for (.nm 6) (.of (.of (.v 5))) (.cons (.ifs (.cmp .eq (.fz (.comp [("one", 7), ("two", 8)] (.tp (.cons (.nm 7) (.cons (.nm 8) .nil))) (.of (.of (.ix (.v 0) (.c (.int 1))))) (.cons (.bools true (.cons (.cmp .eq (.v 8) (.v 6)) (.cons (.cmp .isin (.v 7) (.v 5)) .nil))) .nil) (.c (.int 1)))) (.fz (.disp .nil))) (.cons (.ex (.app (.v 3) (.bin .add (.v 4) (.tup (.cons (.v 6) .nil))))) .nil) .nil) .nil)) .nil)))
        (env := [some (wb n as), some d, some (.int (i : Int)), some (.ref s.length), o4, o5, o6, none, none]) (st := s ++ [.lst []]) (st0 := s ++ [.lst []]) b nT
        (fun m (c : List (List Nat)) env s' => c.length ≤ m * 6 ∧ ∃ p4 p5 p6, env = [some (wb n as), some d, some (.int (i : Int)), some (.ref s.length), p4, p5, p6, none, none] ∧ s' = s ++ [.lst (c.map nT)]) (fun c row => c ++ ordE n as row)
        (J := J) hJ1 (b0 := []) ⟨by simp, _, _, _, rfl, rfl⟩ (fun m c env s' ⟨_, p4, p5, p6, _, hs'⟩ => hJ2 s' (by rw [hs']; exact hH.app _))
        (by
          intro m row hm c env s' ⟨hc, p4, p5, p6, he, hs'⟩
          subst he hs'
          have hml : m < b.length := (List.getElem?_eq_some_iff.mp hm).1
          have hrl := hrow row (List.mem_of_getElem? hm)
          let left := (List.range n).filter fun t => !decide (t ∈ row)
          have hll : left.length ≤ n := Nat.le_trans (List.length_filter_le _ _) (by rw [List.length_range]; exact Nat.le_refl _)
          let good : Nat → Bool := fun t => !(as.any fun p => decide (p.2 = t) && decide (p.1 ∈ left))
          have hgood : (left.filter good).map (fun t => row ++ [t]) = ordE n as row := by
            unfold ordE free
            congr 1
            refine List.filter_congr fun t ht => ?_
            show (!(as.any fun p => decide (p.2 = t) && decide (p.1 ∈ left))) = (pars as t).all fun x => decide (x ∈ row)
            rw [Bool.eq_iff_iff, Bool.not_eq_true', List.any_eq_false, List.all_eq_true]
            constructor
            · intro q x hx
              have hxt := pars_mem.mp hx
              have := q (x, t) hxt
              rw [Bool.and_eq_true, decide_eq_true_iff, decide_eq_true_iff] at this
              refine decide_eq_true (Classical.byContradiction fun hxr => this ⟨rfl, List.mem_filter.mpr ⟨List.mem_range.mpr (w.lt _ hxt).1, by rw [decide_eq_false hxr]; rfl⟩⟩)
            · intro q p hp hd
              rw [Bool.and_eq_true, decide_eq_true_iff, decide_eq_true_iff] at hd
              have h3 := (List.mem_filter.mp hd.2).2
              have h4 := of_decide_eq_true (q p.1 (pars_mem.mpr (by rw [← hd.1]; exact hp)))
              rw [decide_eq_true h4] at h3
              cases h3
          obtain ⟨env3, st3, h3, hc3, q6, he3, hs3⟩ := s_forI (cal := callD Φ k) (t := .nm 6) (i := .of (.of (.v 5))) (bd := (.cons (.ifs (.cmp .eq (.fz (.comp [("one", 7), ("two", 8)] (.tp (.cons (.nm 7) (.cons (.nm 8) .nil))) (.of (.of (.ix (.v 0) (.c (.int 1))))) (.cons (.bools true (.cons (.cmp .eq (.v 8) (.v 6)) (.cons (.cmp .isin (.v 7) (.v 5)) .nil))) .nil) (.c (.int 1)))) (.fz (.disp .nil))) (.cons (.ex (.app (.v 3) (.bin .add (.v 4) (.tup (.cons (.v 6) .nil))))) .nil) .nil) .nil))
            (env := [some (wb n as), some d, some (.int (i : Int)), some (.ref s.length), some (nT row), some (nL left), p6, none, none]) (st := s ++ [.lst (c.map nT)]) (st0 := s ++ [.lst (c.map nT)]) left (fun (i : Nat) => D.int (i : Int))
            (fun m2 (c2 : List (List Nat)) env s' => c2.length ≤ c.length + m2 ∧ ∃ q6, env = [some (wb n as), some d, some (.int (i : Int)), some (.ref s.length), some (nT row), some (nL left), q6, none, none] ∧ s' = s ++ [.lst (c2.map nT)]) (fun c2 t => c2 ++ if good t then [row ++ [t]] else [])
            (J := .ds true (left.map fun (i : Nat) => .int (i : Int))) (i_lst rfl) (b0 := c) ⟨by omega, _, rfl, rfl⟩ (fun _ _ _ _ _ => rfl)
            (by
              intro m2 t hm2 c2 env s' ⟨hc2, q6, he, hs'⟩
              subst he hs'
              have hm2l : m2 < left.length := (List.getElem?_eq_some_iff.mp hm2).1
              refine ⟨_, [some (wb n as), some d, some (.int (i : Int)), some (.ref s.length), some (nT row), some (nL left), some (.int (t : Int)), none, none], s ++ [.lst ((c2 ++ if good t then [row ++ [t]] else []).map nT)], rfl, ?_, by rw [List.length_append]; split <;> simp <;> omega, _, rfl, rfl⟩
              have hcond : evE (callD Φ k) (.cmp .eq (.fz (.comp [("one", 7), ("two", 8)] (.tp (.cons (.nm 7) (.cons (.nm 8) .nil))) (.of (.of (.ix (.v 0) (.c (.int 1))))) (.cons (.bools true (.cons (.cmp .eq (.v 8) (.v 6)) (.cons (.cmp .isin (.v 7) (.v 5)) .nil))) .nil) (.c (.int 1)))) (.fz (.disp .nil))) [some (wb n as), some d, some (.int (i : Int)), some (.ref s.length), some (nT row), some (nL left), some (.int (t : Int)), none, none] (s ++ [.lst (c2.map nT)]) = .ok (.bl (good t)) (s ++ [.lst (c2.map nT)]) := by
                have hlen := List.length_filter_le (fun p : Nat × Nat => decide (p.2 = t) && decide (p.1 ∈ left)) as
                refine (e_cmp (e_fz (comp_filter as ar (fun p => decide (p.2 = t) && decide (p.1 ∈ left)) (fun _ => .int 1) (i_tup rfl) rfl (by omega) fun p _ => ⟨_, rfl, e_bools (b_and ((e_cmp rfl rfl (cmp_eq _ _ _)).trans (by rw [deq])) fun _ => b_last (e_cmp rfl rfl (isin_nL left p.1 _))), fun _ => rfl⟩)) (e_fz (l_disp s_nil (by decide))) (eq_nil _ (pures_map _ (fun _ => rfl) _) _ ?_)).trans ?_
                · have hd1 : ∀ l : List (Nat × Nat), PyData.depthAll (D.pys (l.map fun _ => D.int 1)) ≤ 1 := fun l => by
                    induction l with
                    | nil => simp [D.pys, PyData.depthAll]
                    | cons x l ih => simp only [List.map_cons, D.pys, D.py, PyData.depthAll, PyData.depth]; omega
                  have := hd1 (as.filter fun p => decide (p.2 = t) && decide (p.1 ∈ left))
                  simp only [D.py, PyData.depth]
                  omega
                · congr 2
                  show _ = !(as.any fun p => decide (p.2 = t) && decide (p.1 ∈ left))
                  have : ∀ l : List (Nat × Nat), ((l.filter fun p => decide (p.2 = t) && decide (p.1 ∈ left)).map fun _ => D.int 1).isEmpty = !(l.any fun p => decide (p.2 = t) && decide (p.1 ∈ left)) := fun l => by
                    induction l with
                    | nil => rfl
                    | cons p l ih =>
                      rw [List.filter_cons, List.any_cons]
                      cases q : (decide (p.2 = t) && decide (p.1 ∈ left)) with
                      | true => rw [if_pos rfl]; rfl
                      | false => rw [if_neg Bool.false_ne_true, ih, Bool.false_or]
                  exact this as
              cases q : good t with
              | false =>
                rw [q] at hcond
                simp only [Bool.false_eq_true, if_false, List.append_nil]
                exact bs_if_f hcond bs_nil
              | true =>
                rw [q] at hcond
                have happ := e_app (cal := callD Φ k) (a := .v 3) (e := .bin .add (.v 4) (.tup (.cons (.v 6) .nil))) (d := nT (row ++ [t])) (env := [some (wb n as), some d, some (.int (i : Int)), some (.ref s.length), some (nT row), some (nL left), some (.int (t : Int)), none, none]) (i := s.length) rfl (get_last s (.lst (c2.map nT))) ((e_bin (x := nT row) (y := nT [t]) rfl (e_tup (s_cons rfl s_nil) (by show 1 ≤ 16777216; decide)) (cat_tup _ (by simp only [List.length_map, List.length_cons, List.length_nil]; omega))).trans (by unfold nT; rw [List.map_append])) (by rw [List.length_map]; omega)
                rw [set_last] at happ
                refine bs_if_t0 hcond (bs_ex happ bs_nil) ?_
                simp only [if_true, List.map_append]
                exact bs_nil)
          rw [foldl_app, flat_if, hgood] at *
          subst he3 hs3
          refine ⟨_, [some (wb n as), some d, some (.int (i : Int)), some (.ref s.length), some (nT row), some (nL left), q6, none, none], s ++ [.lst ((c ++ ordE n as row).map nT)], rfl, ?_, by have := ordE_len n as row; rw [List.length_append]; omega, _, _, _, rfl, rfl⟩
          exact bs_asg (e_fz (comp_filter (List.range n) (fun (i : Nat) => D.int (i : Int)) (fun t => !decide (t ∈ row)) (fun (i : Nat) => D.int (i : Int)) (i_rng1 (j := (n : Int)) rfl (smallI_le (by omega) (by omega))) (all_rng0 n _) (by rw [List.length_range]; omega) fun t _ => ⟨_, rfl, e_cmp rfl rfl (notin_nT row t _), fun _ => rfl⟩)) rfl (bs_s h3 bs_nil))
      rw [foldl_app, List.nil_append] at *
      subst he2 hs2
      refine ⟨_, [some (wb n as), some (.ref s.length), some (.int (i : Int)), some (.ref s.length), p4, p5, p6, none, none], s ++ [.lst ((b.flatMap (ordE n as)).map nT)], rfl, bs_asg (e_ls (l_disp s_nil (by decide))) rfl (bs_s h2 (bs_asg rfl rfl bs_nil)), by rw [hb]; rfl, .ref s.length, some (.int (i : Int)), some (.ref s.length), p4, p5, p6, j ++ [.lst ((b.flatMap (ordE n as)).map nT)], rfl, by rw [hs, List.append_assoc], .inr ⟨s.length, rfl, get_last _ _⟩, fun _ => ⟨s.length, rfl, by rw [hs, List.length_append]; omega⟩⟩)
  rw [List.length_range] at hb hd
  rw [hb] at hH
  obtain ⟨a, rfl, ha⟩ := hd hpos
  subst he hs
  have hg : (st ++ j)[a]? = some (.lst ((ordK n as n).map nT)) := by
    rcases hH with hH | ⟨a', e1, e2⟩
    · cases hH
    · cases e1; exact e2
  rw [call_eq h.self rfl]
  have key : runD (callD Φ k) td87.fd [wb n as] st = .ok (.ref a) (st ++ j) := by
    rw [runD_eq (env := [some (wb n as), none, none, none, none, none, none, none, none]) rfl]
    exact ss_asg (d := nR [[]]) (st1 := st) (e_fz (l_disp (s_cons (e_tup s_nil (by decide)) s_nil) (by show 1 ≤ 16777216; decide))) rfl (ss_s h1 (ss_ret rfl))
  rw [key]
  exact fin_lst ha hg (pures_map _ nT_pure _)
end
end PyD
namespace PyD
open PySem
theorem i_compL {cal : Cal} {env : Env} {st st1 : Store} {own : List (Str × Nat)} {t : T} {i : I} {cs : Es} {elt : E} {ds : List D} (h : evL cal (.comp own t i cs elt) env st = .ok (true, ds) st1) : evI cal (.of (.comp own t i cs elt)) env st = .ok (.ds true ds) st1 := by
  rw [evI, h, R.bind_ok]
  exact fun e h => nomatch h
theorem upS_lot {n : Nat} {as : List (Nat × Nat)} (w : WOk n as) {t : Nat} (ht : t < n) : Lot n (upS n as t) := ⟨upS_asc n as t, fun x hx => up_lt w ht ((mem_upF w ht x).mp (mem_upS.mp hx))⟩
theorem flat_up_len {n : Nat} {as : List (Nat × Nat)} (w : WOk n as) : ∀ l : List Nat, (∀ t ∈ l, t < n) → (l.flatMap (upS n as)).length ≤ l.length * n
  | l, h => flat_le (upS n as) n l fun t ht => (upS_lot w (h t ht)).len
def ljs (as : List (Nat × Nat)) (S : List Nat) (a b : Nat) : Bool := (decide ((a, b) ∈ as) || decide ((b, a) ∈ as)) || !(S.filter fun f => decide ((a, f) ∈ as) && decide ((b, f) ∈ as)).isEmpty
def lj1 (as : List (Nat × Nat)) (S : List Nat) (a : Nat) : List (Nat × Nat) := (S.filter fun b => decide (a < b)).flatMap fun b => if ljs as S a b then [(a, b)] else []
def ljoin (as : List (Nat × Nat)) (S : List Nat) : List (Nat × Nat) := S.flatMap (lj1 as S)
theorem lj1_len (as : List (Nat × Nat)) (S : List Nat) (a : Nat) : (lj1 as S a).length ≤ S.length := by
  unfold lj1
  refine Nat.le_trans (flat_le _ 1 _ fun b _ => by split <;> simp) ?_
  rw [Nat.mul_one]
  exact List.length_filter_le _ _
theorem mem_ljoin {as : List (Nat × Nat)} {S : List Nat} {p : Nat × Nat} (h : p ∈ ljoin as S) : p.1 ∈ S ∧ p.2 ∈ S ∧ p.1 < p.2 ∧ ljs as S p.1 p.2 = true := by
  unfold ljoin lj1 at h
  rw [List.mem_flatMap] at h
  obtain ⟨a, ha, h⟩ := h
  rw [List.mem_flatMap] at h
  obtain ⟨b, hb, h⟩ := h
  obtain ⟨h1, h2⟩ := List.mem_filter.mp hb
  split at h
  · rename_i hc
    rw [List.mem_singleton] at h
    subst h
    exact ⟨ha, h1, of_decide_eq_true h2, hc⟩
  · cases h
section
variable {Φ : Nat → Option FD} {k : Nat}
theorem e84 (h : H84 Φ) (n : Nat) (as : List (Nat × Nat)) (w : WV n as) (hn : n ≤ 5) (hz : as.length ≤ 10) (one other Z : List Nat) (L : L3 n one other Z) (st : Store) : callD Φ (k + 2) 84 [wb n as, .tup [nT one, nT other, nT Z]] st = .ok (nT (kptL n as one other Z)) st := by
  refine call_ev0 h.self rfl ?_ (nT_pure _)
  rw [runD_eq (env := [some (wb n as), some (.tup [nT one, nT other, nT Z]), none, none, none]) rfl]
  refine ss_asg (d := nL []) (st1 := st) (e_fz (l_disp s_nil (by decide))) rfl ?_
  have z1 := L.l1.len
  have z2 := L.l2.len
  have z3 := L.l3.len
  obtain ⟨env1, st1, h1, hb, o3, o4, he, hs⟩ := s_forI (cal := callD Φ (k + 1)) (t := .nm 3) (i := .of (.of (.v 1))) (bd := (.cons (.for (.nm 4) (.of (.of (.v 3))) (.cons (.asg (.nm 2) (.bin .add (.v 2) (.fz (.listOf (.of (.call 37 (.cons (.v 0) (.cons (.v 4) .nil)))))))) .nil)) .nil))
    (env := [some (wb n as), some (.tup [nT one, nT other, nT Z]), some (nL []), none, none]) (st := st) (st0 := st) [one, other, Z] nT
    (fun i (b : List Nat) env s => b.length ≤ i * 25 ∧ ∃ o3 o4, env = [some (wb n as), some (.tup [nT one, nT other, nT Z]), some (nL b), o3, o4] ∧ s = st) (fun b lot => b ++ lot.flatMap (upS n as))
    (J := .ds false [nT one, nT other, nT Z]) (i_tup rfl) (b0 := []) ⟨by simp, _, _, rfl, rfl⟩ (fun _ _ _ _ _ => rfl)
    (by
      intro i lot hi b env s ⟨hb, o3, o4, he, hs⟩
      subst he hs
      have hi3 : i < 3 := (List.getElem?_eq_some_iff.mp hi).1
      have hlot : Lot n lot := by
        have := List.mem_of_getElem? hi
        simp only [List.mem_cons, List.not_mem_nil, or_false] at this
        rcases this with e | e | e
        · rw [e]; exact L.l1
        · rw [e]; exact L.l2
        · rw [e]; exact L.l3
      have hll := hlot.len
      obtain ⟨env2, st2, h2, hc, p4, he2, hs2⟩ := s_forI (cal := callD Φ (k + 1)) (t := .nm 4) (i := .of (.of (.v 3))) (bd := (.cons (.asg (.nm 2) (.bin .add (.v 2) (.fz (.listOf (.of (.call 37 (.cons (.v 0) (.cons (.v 4) .nil)))))))) .nil))
        (env := [some (wb n as), some (.tup [nT one, nT other, nT Z]), some (nL b), some (nT lot), o4]) (st := s) (st0 := s) lot (fun (i : Nat) => D.int (i : Int))
        (fun m (c : List Nat) env s' => c.length ≤ b.length + m * 5 ∧ ∃ p4, env = [some (wb n as), some (.tup [nT one, nT other, nT Z]), some (nL c), some (nT lot), p4] ∧ s' = s) (fun c t => c ++ upS n as t)
        (J := .ds false (lot.map fun (i : Nat) => .int (i : Int))) (i_tup rfl) (b0 := b) ⟨by omega, _, rfl, rfl⟩ (fun _ _ _ _ _ => rfl)
        (by
          intro m t hm c env s' ⟨hc, p4, he, hs'⟩
          subst he hs'
          have hml : m < lot.length := (List.getElem?_eq_some_iff.mp hm).1
          have ht := hlot.lt t (List.mem_of_getElem? hm)
          have hul := (upS_lot w.toWOk ht).len
          refine ⟨_, [some (wb n as), some (.tup [nT one, nT other, nT Z]), some (nL (c ++ upS n as t)), some (nT lot), some (.int (t : Int))], s', rfl, ?_, by rw [List.length_append]; omega, _, rfl, rfl⟩
          have hl : evL (callD Φ (k + 1)) (.listOf (.of (.call 37 (.cons (.v 0) (.cons (.v 4) .nil))))) [some (wb n as), some (.tup [nT one, nT other, nT Z]), some (nL c), some (nT lot), some (.int (t : Int))] s' = .ok (true, (upS n as t).map fun (i : Nat) => D.int (i : Int)) s' := by
            rw [evL, l_of (x := nT (upS n as t)) (bb := false) (e_call (s_cons rfl (s_cons rfl s_nil)) (e37 (k := k) h.c37 n as t hn hz s')) rfl, R.bind_ok]
          exact bs_asg ((e_bin (x := nL c) (y := nL (upS n as t)) (st1 := s') (st2 := s') rfl (e_fz hl) (cat_lst s' (by rw [List.length_map, List.length_map]; omega))).trans (by unfold nL; rw [List.map_append])) rfl bs_nil)
      rw [foldl_app] at *
      subst he2 hs2
      have hlb : lot.length * 5 ≤ 25 := by omega
      exact ⟨_, _, _, rfl, bs_s h2 bs_nil, by omega, _, _, rfl, rfl⟩)
  rw [foldl_app, List.nil_append] at *
  subst he hs
  refine ss_s h1 (ss_ret ?_)
  have e1 : [one, other, Z].flatMap (fun lot => lot.flatMap (upS n as)) = (one ++ (other ++ Z)).flatMap (upS n as) := by
    simp only [List.flatMap_cons, List.flatMap_nil, List.append_nil, List.flatMap_append]
  rw [e1]
  have hlen := len_sub (l := one ++ (other ++ Z)) (b := List.range n) L.all_nodup fun x hx => List.mem_range.mpr (L.all_lt x hx)
  rw [List.length_range] at hlen
  have hfl := flat_up_len w.toWOk (one ++ (other ++ Z)) L.all_lt
  have hfl2 : (one ++ (other ++ Z)).length * n ≤ 5 * 5 := Nat.mul_le_mul (by omega) hn
  refine (e_tupOf (l_uN (l_of (x := nL ((one ++ (other ++ Z)).flatMap (upS n as))) rfl rfl) (by omega))).trans ?_
  have key : uN ((one ++ (other ++ Z)).flatMap (upS n as)) = kptL n as one other Z := by
    refine Lot.same (uN_lot fun x hx => ?_) (kpt_lot w L) fun x => ?_
    · obtain ⟨t, ht, hx⟩ := List.mem_flatMap.mp hx
      exact (upS_lot w.toWOk (L.all_lt t ht)).lt x hx
    · rw [mem_uN, mem_kpt w L, List.mem_flatMap]
      constructor
      · rintro ⟨t, ht, hx⟩
        exact ⟨t, ht, (mem_upF w.toWOk (L.all_lt t ht) x).mp (mem_upS.mp hx)⟩
      · rintro ⟨t, ht, hx⟩
        exact ⟨t, ht, mem_upS.mpr ((mem_upF w.toWOk (L.all_lt t ht) x).mpr hx)⟩
  rw [key]
  rfl
theorem e83 (h : H83 Φ) (n : Nat) (as : List (Nat × Nat)) (S : List Nat) (hS : S.length ≤ 6) (st : Store) : callD Φ (k + 1) 83 [wb n as, nT S] st = .ok (.tup ((ljoin as S).map ar)) st := by
  refine call_ev0 h.self rfl ?_ (ars_pure _)
  rw [runD_eq (env := [some (wb n as), some (nT S), none, none, none, none, none, none]) rfl]
  refine ss_asg (d := .lst []) (st1 := st) (e_fz (l_disp s_nil (by decide))) rfl ?_
  obtain ⟨env1, st1, h1, hb, o3, o4, o5, o6, he, hs⟩ := s_forI (cal := callD Φ k) (t := .nm 3) (i := .of (.of (.v 1))) (bd := (.cons (.for (.nm 4) (.of (.comp [("two", 4)] (.nm 4) (.of (.of (.v 1))) (.cons (.cmp .gt (.v 4) (.v 3)) .nil) (.v 4))) (.cons (.asg (.nm 5) (.bools false (.cons (.cmp .isin (.tup (.cons (.v 3) (.cons (.v 4) .nil))) (.ix (.v 0) (.c (.int 1)))) (.cons (.cmp .isin (.tup (.cons (.v 4) (.cons (.v 3) .nil))) (.ix (.v 0) (.c (.int 1)))) .nil)))) (.cons (.asg (.nm 6) (.fz (.comp [("far", 7)] (.nm 7) (.of (.of (.v 1))) (.cons (.bools true (.cons (.cmp .isin (.tup (.cons (.v 3) (.cons (.v 7) .nil))) (.ix (.v 0) (.c (.int 1)))) (.cons (.cmp .isin (.tup (.cons (.v 4) (.cons (.v 7) .nil))) (.ix (.v 0) (.c (.int 1)))) .nil))) .nil) (.v 7)))) (.cons (.asg (.nm 2) (.bin .add (.v 2) (.fz (.rep (.disp (.cons (.tup (.cons (.v 3) (.cons (.v 4) .nil))) .nil)) (.b1 .int (.bools false (.cons (.v 5) (.cons (.cmp .ne (.v 6) (.fz (.disp .nil))) .nil)))))))) .nil)))) .nil))
    (env := [some (wb n as), some (nT S), some (.lst []), none, none, none, none, none]) (st := st) (st0 := st) S (fun (i : Nat) => D.int (i : Int))
    (fun i (b : List (Nat × Nat)) env s => b.length ≤ i * 6 ∧ ∃ o3 o4 o5 o6, env = [some (wb n as), some (nT S), some (.lst (b.map ar)), o3, o4, o5, o6, none] ∧ s = st) (fun b a => b ++ lj1 as S a)
    (J := .ds false (S.map fun (i : Nat) => .int (i : Int))) (i_tup rfl) (b0 := []) ⟨by simp, _, _, _, _, rfl, rfl⟩ (fun _ _ _ _ _ => rfl)
    (by
      intro i a hi b env s ⟨hb, o3, o4, o5, o6, he, hs⟩
      subst he hs
      have hi6 : i < S.length := (List.getElem?_eq_some_iff.mp hi).1
      let late := S.filter fun b => decide (a < b)
      have hll : late.length ≤ S.length := List.length_filter_le _ _
      have hsrc : evL (callD Φ k) (.comp [("two", 4)] (.nm 4) (.of (.of (.v 1))) (.cons (.cmp .gt (.v 4) (.v 3)) .nil) (.v 4)) [some (wb n as), some (nT S), some (.lst (b.map ar)), some (.int (a : Int)), o4, o5, o6, none] s = .ok (true, late.map fun (i : Nat) => D.int (i : Int)) s :=
        comp_filter S (fun (i : Nat) => D.int (i : Int)) (fun b => decide (a < b)) (fun (i : Nat) => D.int (i : Int)) (i_tup rfl) rfl (by omega) fun y _ => ⟨_, rfl, (e_cmp rfl rfl (cmp_gt _ _ _)).trans (by rw [dlt]), fun _ => rfl⟩
      obtain ⟨env2, st2, h2, hc, p4, p5, p6, he2, hs2⟩ := s_forI (cal := callD Φ k) (t := .nm 4) (i := .of (.comp [("two", 4)] (.nm 4) (.of (.of (.v 1))) (.cons (.cmp .gt (.v 4) (.v 3)) .nil) (.v 4))) (bd := (.cons (.asg (.nm 5) (.bools false (.cons (.cmp .isin (.tup (.cons (.v 3) (.cons (.v 4) .nil))) (.ix (.v 0) (.c (.int 1)))) (.cons (.cmp .isin (.tup (.cons (.v 4) (.cons (.v 3) .nil))) (.ix (.v 0) (.c (.int 1)))) .nil)))) (.cons (.asg (.nm 6) (.fz (.comp [("far", 7)] (.nm 7) (.of (.of (.v 1))) (.cons (.bools true (.cons (.cmp .isin (.tup (.cons (.v 3) (.cons (.v 7) .nil))) (.ix (.v 0) (.c (.int 1)))) (.cons (.cmp .isin (.tup (.cons (.v 4) (.cons (.v 7) .nil))) (.ix (.v 0) (.c (.int 1)))) .nil))) .nil) (.v 7)))) (.cons (.asg (.nm 2) (.bin .add (.v 2) (.fz (.rep (.disp (.cons (.tup (.cons (.v 3) (.cons (.v 4) .nil))) .nil)) (.b1 .int (.bools false (.cons (.v 5) (.cons (.cmp .ne (.v 6) (.fz (.disp .nil))) .nil)))))))) .nil))))
        (env := [some (wb n as), some (nT S), some (.lst (b.map ar)), some (.int (a : Int)), o4, o5, o6, none]) (st := s) (st0 := s) late (fun (i : Nat) => D.int (i : Int))
        (fun m (c : List (Nat × Nat)) env s' => c.length ≤ b.length + m ∧ ∃ p4 p5 p6, env = [some (wb n as), some (nT S), some (.lst (c.map ar)), some (.int (a : Int)), p4, p5, p6, none] ∧ s' = s) (fun c b => c ++ if ljs as S a b then [(a, b)] else [])
        (J := .ds true (late.map fun (i : Nat) => .int (i : Int))) (i_compL hsrc) (b0 := b) ⟨by omega, _, _, _, rfl, rfl⟩ (fun _ _ _ _ _ => rfl)
        (by
          intro m y hm c env s' ⟨hc, p4, p5, p6, he, hs'⟩
          subst he hs'
          have hml : m < late.length := (List.getElem?_eq_some_iff.mp hm).1
          let both := S.filter fun f => decide ((a, f) ∈ as) && decide ((y, f) ∈ as)
          let near := decide ((a, y) ∈ as) || decide ((y, a) ∈ as)
          have hlen1 : (c ++ if ljs as S a y then [(a, y)] else []).length ≤ b.length + (m + 1) := by
            rw [List.length_append]
            split <;> simp <;> omega
          refine ⟨_, [some (wb n as), some (nT S), some (.lst ((c ++ if ljs as S a y then [(a, y)] else []).map ar)), some (.int (a : Int)), some (.int (y : Int)), some (.bl near), some (nL both), none], s', rfl, ?_, hlen1, _, _, _, rfl, rfl⟩
          refine bs_asg (d := .bl near) (st1 := s') (e_bools (b_or (e_cmp (e_tup (s_cons rfl (s_cons rfl s_nil)) (by show 2 ≤ 16777216; decide)) rfl (isin_ars as (a, y) s')) fun _ => b_last (e_cmp (e_tup (s_cons rfl (s_cons rfl s_nil)) (by show 2 ≤ 16777216; decide)) rfl (isin_ars as (y, a) s')))) rfl ?_
          refine bs_asg (d := nL both) (st1 := s') (e_fz (comp_filter S (fun (i : Nat) => D.int (i : Int)) (fun f => decide ((a, f) ∈ as) && decide ((y, f) ∈ as)) (fun (i : Nat) => D.int (i : Int)) (i_tup rfl) rfl (by omega) fun f _ => ⟨_, rfl, e_bools (b_and (e_cmp (e_tup (s_cons rfl (s_cons rfl s_nil)) (by show 2 ≤ 16777216; decide)) rfl (isin_ars as (a, f) s')) fun _ => b_last (e_cmp (e_tup (s_cons rfl (s_cons rfl s_nil)) (by show 2 ≤ 16777216; decide)) rfl (isin_ars as (y, f) s'))), fun _ => rfl⟩)) rfl ?_
          have hne : cmpD .ne (nL both) (.lst []) s' = .ok (.bl (!both.isEmpty)) s' := by
            rw [cmp_neP s' (nL_pure _) (depth_nL _) rfl (by simp only [D.py, D.pys, PyData.depth, PyData.depthAll, depthL]; omega)]
            cases both <;> rfl
          have hcond : evE (callD Φ k) (.b1 .int (.bools false (.cons (.v 5) (.cons (.cmp .ne (.v 6) (.fz (.disp .nil))) .nil)))) [some (wb n as), some (nT S), some (.lst (c.map ar)), some (.int (a : Int)), some (.int (y : Int)), some (.bl near), some (nL both), none] s' = .ok (.int ((if ljs as S a y then 1 else 0 : Nat) : Int)) s' := e_b1 (e_bools (b_or (b1 := near) (b2 := !both.isEmpty) rfl fun _ => b_last (e_cmp rfl (e_fz (l_disp s_nil (by decide))) hne))) b1_int
          have hr := l_rep (cal := callD Φ k) (l := .disp (.cons (.tup (.cons (.v 3) (.cons (.v 4) .nil))) .nil)) (l_disp (s_cons (e_tup (s_cons rfl (s_cons rfl s_nil)) (by show 2 ≤ 16777216; decide)) s_nil) (by show 1 ≤ 16777216; decide)) hcond (by split <;> omega) (by show 1 ≤ 16777216; decide)
          have hr2 : (List.replicate (if ljs as S a y then 1 else 0) [ar (a, y)]).flatten = (if ljs as S a y then [(a, y)] else []).map ar := by
            cases ljs as S a y <;> rfl
          have hl1 : (if ljs as S a y then [(a, y)] else []).length ≤ 1 := by split <;> simp
          exact bs_asg (d := .lst ((c ++ if ljs as S a y then [(a, y)] else []).map ar)) (st1 := s') ((e_bin (x := .lst (c.map ar)) (y := .lst ((if ljs as S a y then [(a, y)] else []).map ar)) (st1 := s') (st2 := s') rfl ((e_fz hr).trans (by rw [← hr2]; rfl)) (cat_lst s' (by rw [List.length_map, List.length_map]; omega))).trans (by rw [List.map_append])) rfl bs_nil)
      rw [foldl_app] at *
      subst he2 hs2
      have h1l := lj1_len as S a
      refine ⟨_, _, _, rfl, bs_s h2 bs_nil, ?_, _, _, _, _, rfl, rfl⟩
      rw [List.length_append]
      omega)
  rw [foldl_app, List.nil_append] at *
  subst he hs
  exact ss_s h1 (ss_ret (e_tupOf (l_of (bb := true) (x := .lst ((ljoin as S).map ar)) rfl rfl)))
theorem e85 (h : H85 Φ) (n : Nat) (as : List (Nat × Nat)) (w : WV n as) (hn : n ≤ 5) (hz : as.length ≤ 10) (t : Nat) (other Z : List Nat) (L : L3 n [t] other Z) (hP : ∀ p ∈ ljoin as (kptL n as [t] other Z), (p.1 = t → p.2 ∈ Z) ∧ (p.2 = t → p.1 ∈ Z)) (st : Store) :
    callD Φ (k + 3) 85 [wb n as, nT [t], nT other, nT Z] st = .ok (nT [t]) st := by
  obtain ⟨P, hPd⟩ : ∃ P, P = ljoin as (kptL n as [t] other Z) := ⟨_, rfl⟩
  rw [← hPd] at hP
  have hKl := (kpt_lot w L).len
  have hPl : P.length ≤ 36 := by
    have := flat_le (lj1 as (kptL n as [t] other Z)) 6 (kptL n as [t] other Z) fun a _ => Nat.le_trans (lj1_len _ _ _) (by omega)
    have h2 : (kptL n as [t] other Z).length * 6 ≤ 6 * 6 := by omega
    rw [hPd]
    exact Nat.le_trans this h2
  obtain ⟨env1, st1, h1, o4, o7, o8, o9, o10, he, hs⟩ := s_forI (cal := callD Φ (k + 2)) (t := .nm 4) (i := .rng1 (.ix (.v 0) (.c (.int 0)))) (bd := (.cons (.for (.tp (.cons (.nm 7) (.cons (.nm 8) .nil))) (.of (.of (.v 5))) (.cons (.for (.tp (.cons (.nm 9) (.cons (.nm 10) .nil))) (.of (.of (.tup (.cons (.tup (.cons (.v 7) (.cons (.v 8) .nil))) (.cons (.tup (.cons (.v 8) (.cons (.v 7) .nil))) .nil))))) (.cons (.ifs (.bools true (.cons (.cmp .isin (.v 9) (.v 6)) (.cons (.cmp .notin (.v 10) (.v 6)) (.cons (.cmp .notin (.v 10) (.v 3)) .nil)))) (.cons (.ex (.app (.v 6) (.v 10))) .nil) .nil) .nil)) .nil)) .nil))
    (env := [some (wb n as), some (nT [t]), some (nT other), some (nT Z), none, some (.tup (P.map ar)), some (.ref st.length), none, none, none, none]) (st := st ++ [.lst (nD [t])]) (st0 := st ++ [.lst (nD [t])]) (List.range n) (fun (i : Nat) => D.int (i : Int))
    (fun (i : Nat) (_ : Unit) env s => ∃ o4 o7 o8 o9 o10, env = [some (wb n as), some (nT [t]), some (nT other), some (nT Z), o4, some (.tup (P.map ar)), some (.ref st.length), o7, o8, o9, o10] ∧ s = st ++ [.lst (nD [t])]) (fun _ _ => ())
    (J := .rng 0 n) (i_rng1 (j := (n : Int)) rfl (smallI_le (by omega) (by omega))) (b0 := ()) ⟨_, _, _, _, _, rfl, rfl⟩ (fun _ _ _ s _ => all_rng0 n s)
    (by
      intro i y hi _ env s ⟨o4, o7, o8, o9, o10, he, hs⟩
      subst he hs
      obtain ⟨env2, st2, h2, p7, p8, p9, p10, he2, hs2⟩ := s_forI (cal := callD Φ (k + 2)) (t := .tp (.cons (.nm 7) (.cons (.nm 8) .nil))) (i := .of (.of (.v 5))) (bd := (.cons (.for (.tp (.cons (.nm 9) (.cons (.nm 10) .nil))) (.of (.of (.tup (.cons (.tup (.cons (.v 7) (.cons (.v 8) .nil))) (.cons (.tup (.cons (.v 8) (.cons (.v 7) .nil))) .nil))))) (.cons (.ifs (.bools true (.cons (.cmp .isin (.v 9) (.v 6)) (.cons (.cmp .notin (.v 10) (.v 6)) (.cons (.cmp .notin (.v 10) (.v 3)) .nil)))) (.cons (.ex (.app (.v 6) (.v 10))) .nil) .nil) .nil)) .nil))
        (env := [some (wb n as), some (nT [t]), some (nT other), some (nT Z), some (.int (y : Int)), some (.tup (P.map ar)), some (.ref st.length), o7, o8, o9, o10]) (st := st ++ [.lst (nD [t])]) (st0 := st ++ [.lst (nD [t])]) P ar
        (fun (m : Nat) (_ : Unit) env s' => ∃ p7 p8 p9 p10, env = [some (wb n as), some (nT [t]), some (nT other), some (nT Z), some (.int (y : Int)), some (.tup (P.map ar)), some (.ref st.length), p7, p8, p9, p10] ∧ s' = st ++ [.lst (nD [t])]) (fun _ _ => ())
        (J := .ds false (P.map ar)) (i_tup rfl) (b0 := ()) ⟨_, _, _, _, rfl, rfl⟩ (fun _ _ _ _ _ => rfl)
        (by
          intro m p hm _ env s' ⟨p7, p8, p9, p10, he, hs'⟩
          subst he hs'
          have hp := hP p (List.mem_of_getElem? hm)
          obtain ⟨env3, st3, h3, q9, q10, he3, hs3⟩ := s_forI (cal := callD Φ (k + 2)) (t := .tp (.cons (.nm 9) (.cons (.nm 10) .nil))) (i := .of (.of (.tup (.cons (.tup (.cons (.v 7) (.cons (.v 8) .nil))) (.cons (.tup (.cons (.v 8) (.cons (.v 7) .nil))) .nil))))) (bd := (.cons (.ifs (.bools true (.cons (.cmp .isin (.v 9) (.v 6)) (.cons (.cmp .notin (.v 10) (.v 6)) (.cons (.cmp .notin (.v 10) (.v 3)) .nil)))) (.cons (.ex (.app (.v 6) (.v 10))) .nil) .nil) .nil))
            (env := [some (wb n as), some (nT [t]), some (nT other), some (nT Z), some (.int (y : Int)), some (.tup (P.map ar)), some (.ref st.length), some (.int (p.1 : Int)), some (.int (p.2 : Int)), p9, p10]) (st := st ++ [.lst (nD [t])]) (st0 := st ++ [.lst (nD [t])]) [p, (p.2, p.1)] ar
            (fun (m2 : Nat) (_ : Unit) env s' => ∃ q9 q10, env = [some (wb n as), some (nT [t]), some (nT other), some (nT Z), some (.int (y : Int)), some (.tup (P.map ar)), some (.ref st.length), some (.int (p.1 : Int)), some (.int (p.2 : Int)), q9, q10] ∧ s' = st ++ [.lst (nD [t])]) (fun _ _ => ())
            (J := .ds false [ar p, ar (p.2, p.1)]) (i_tup (e_tup (s_cons (e_tup (s_cons rfl (s_cons rfl s_nil)) (by show 2 ≤ 16777216; decide)) (s_cons (e_tup (s_cons rfl (s_cons rfl s_nil)) (by show 2 ≤ 16777216; decide)) s_nil)) (by show 2 ≤ 16777216; decide))) (b0 := ()) ⟨_, _, rfl, rfl⟩ (fun _ _ _ _ _ => rfl)
            (by
              intro m2 q hm2 _ env s' ⟨q9, q10, he, hs'⟩
              subst he hs'
              have hq : q.1 = t → q.2 ∈ Z := by
                have := List.mem_of_getElem? hm2
                simp only [List.mem_cons, List.not_mem_nil, or_false] at this
                rcases this with e | e
                · rw [e]; exact hp.1
                · rw [e]; exact hp.2
              refine ⟨_, _, _, rfl, bs_if_f (st1 := st ++ [.lst (nD [t])]) ((e_bools (b_and (b1 := decide (q.1 ∈ [t])) (b2 := false) (e_cmp rfl rfl (isin_ref [t] q.1 st.length _ (get_last _ _))) fun hb => ?_)).trans (by rw [Bool.and_false]; rfl)) bs_nil, _, _, rfl, rfl⟩
              have hqt := List.mem_singleton.mp (of_decide_eq_true hb)
              have := hq hqt
              exact (b_and (b1 := !decide (q.2 ∈ [t])) (b2 := false) (e_cmp rfl rfl (notin_ref [t] q.2 st.length _ (get_last _ _))) fun _ => b_last ((e_cmp rfl rfl (notin_nT Z q.2 _)).trans (by rw [decide_eq_true this]; rfl))).trans (by rw [Bool.and_false]))
          subst he3 hs3
          exact ⟨_, _, _, rfl, bs_s h3 bs_nil, _, _, _, _, rfl, rfl⟩)
      subst he2 hs2
      exact ⟨_, _, _, rfl, bs_s h2 bs_nil, _, _, _, _, _, rfl, rfl⟩)
  subst he hs
  refine call_ev [.lst (nD [t])] h.self rfl ?_ (nT_pure _)
  rw [runD_eq (env := [some (wb n as), some (nT [t]), some (nT other), some (nT Z), none, none, none, none, none, none, none]) rfl]
  have hK : evE (callD Φ (k + 2)) (.call 83 (.cons (.v 0) (.cons (.call 84 (.cons (.v 0) (.cons (.tup (.cons (.v 1) (.cons (.v 2) (.cons (.v 3) .nil)))) .nil))) .nil))) [some (wb n as), some (nT [t]), some (nT other), some (nT Z), none, none, none, none, none, none, none] st = .ok (.tup (P.map ar)) st := e_call (s_cons rfl (s_cons (e_call (s_cons rfl (s_cons (e_tup (s_cons rfl (s_cons rfl (s_cons rfl s_nil))) (by show 3 ≤ 16777216; decide)) s_nil)) (e84 (k := k) h.c84 n as w hn hz [t] other Z L st)) s_nil)) ((e83 (k := k + 1) h.c83 n as _ (by omega) st).trans (by rw [hPd]))
  have hls : evE (callD Φ (k + 2)) (.ls (.listOf (.of (.v 1)))) [some (wb n as), some (nT [t]), some (nT other), some (nT Z), none, none, none, none, none, none, none] st = .ok (.ref st.length) (st ++ [.lst (nD [t])]) := by
    have hl1 : evL (callD Φ (k + 2)) (.listOf (.of (.v 1))) [some (wb n as), some (nT [t]), some (nT other), some (nT Z), none, none, none, none, none, none, none] st = .ok (true, nD [t]) st := by
      rw [evL, l_of (x := nT [t]) (bb := false) rfl rfl, R.bind_ok]
      rfl
    exact e_ls hl1
  refine ss_asg (env1 := [some (wb n as), some (nT [t]), some (nT other), some (nT Z), none, some (.tup (P.map ar)), some (.ref st.length), none, none, none, none]) (st2 := st ++ [.lst (nD [t])]) (e_tup (s_cons hK (s_cons hls s_nil)) (by show 2 ≤ 16777216; decide)) rfl ?_
  refine ss_s h1 ?_
  refine ss_ret ?_
  refine (e_tupOf (l_sorted (l_of (x := .ref st.length) rfl (items_ref (get_last _ _))) (sortD_nats [t] (by show 1 ≤ 16777216; decide)))).trans ?_
  rw [nsort_id (l := [t]) (by simp)]
  rfl
end
end PyD
namespace PyD
open PySem
theorem base_ok {n : Nat} {as : List (Nat × Nat)} (w : WV n as) {b : Nat × List Nat × List Nat} (hb : b ∈ baseL n as) :
    b.2.2 = pars as b.1 ∧ L3 n [b.1] b.2.1 b.2.2 ∧ ∀ y ∈ b.2.1, (order n as).idxOf y < (order n as).idxOf b.1 := by
  have hO := order_ob n as
  unfold baseL at hb
  rw [List.mem_flatMap] at hb
  obtain ⟨i, hi, hb⟩ := hb
  have hi := List.mem_range.mp hi
  unfold base1 at hb
  split at hb
  · cases hb
  · rename_i hne
    rw [List.mem_singleton] at hb
    subst hb
    have ht : (order n as).getD i 0 = (order n as)[i] := by rw [List.getD_eq_getElem?_getD, List.getElem?_eq_getElem hi]; rfl
    have hsplit : order n as = (order n as).take i ++ (order n as)[i] :: (order n as).drop (i + 1) := by
      rw [← List.drop_eq_getElem_cons hi, List.take_append_drop]
    have htk : ((order n as).take i).length = i := by rw [List.length_take]; omega
    have htn : (order n as)[i] ∉ (order n as).take i := fun h => by
      have hn := hO.nod
      rw [hsplit] at hn
      exact (List.nodup_append.mp hn).2.2 _ h _ List.mem_cons_self rfl
    have hit : i ≤ (order n as).idxOf (order n as)[i] := by
      generalize hx : (order n as)[i] = x at *
      rw [hsplit, List.idxOf_append, if_neg htn, htk]
      exact Nat.le_add_left _ _
    have hmem : ∀ y ∈ oth as (order n as) i, y ∈ (order n as).take i ∧ y ∉ pars as ((order n as).getD i 0) := fun y hy => by
      have h1 := (nsort_perm _).mem_iff.mp hy
      obtain ⟨h2, h3⟩ := List.mem_filter.mp h1
      rw [Bool.not_eq_true', decide_eq_false_iff_not] at h3
      exact ⟨h2, h3⟩
    have hidx : ∀ y ∈ (order n as).take i, (order n as).idxOf y < i := fun y hy => by
      generalize hx : (order n as)[i] = x at *
      rw [hsplit, List.idxOf_append, if_pos hy]
      have := List.idxOf_lt_length_of_mem hy
      omega
    have htl : (order n as)[i] < n := hO.lt _ (List.getElem_mem hi)
    refine ⟨rfl, ⟨⟨by simp, fun x hx => ?_⟩, ?_, pars_lot w _, by simp, fun e => hne (by have e : oth as (order n as) i = [] := e; rw [e]; rfl), fun x hx hx' => ?_, fun x hx hx' => ?_, fun x hx => (hmem x hx).2⟩, fun y hy => ?_⟩
    · rw [List.mem_singleton.mp hx]
      show (order n as).getD i 0 < n
      rw [ht]; exact htl
    · refine nsort_lot (((hO.nod).sublist (List.take_sublist _ _)).filter _) fun x hx => hO.lt x (List.mem_of_mem_take (List.mem_filter.mp hx).1)
    · rw [List.mem_singleton.mp hx] at hx'
      have := (hmem _ hx').1
      rw [ht] at this
      exact htn this
    · rw [List.mem_singleton.mp hx] at hx'
      exact w.ne _ (pars_mem.mp hx') rfl
    · have := hidx y (hmem y hy).1
      show (order n as).idxOf y < (order n as).idxOf ((order n as).getD i 0)
      rw [ht]
      omega
section
variable {n : Nat} {as : List (Nat × Nat)} {t : Nat} {other : List Nat}
theorem no_kid (w : WV n as) (L : L3 n [t] other (pars as t)) (hi : ∀ y ∈ other, (order n as).idxOf y < (order n as).idxOf t) {f : Nat} (hf : f ∈ kptL n as [t] other (pars as t)) : (t, f) ∉ as := fun e => by
  obtain ⟨z, hz, hu⟩ := (mem_kpt w L f).mp hf
  have h1 := Up.pos (order_pos w) hu
  have h2 := order_pos w _ _ e
  have h3 : (order n as).idxOf z ≤ (order n as).idxOf t := by
    rcases List.mem_append.mp hz with h | h
    · rw [List.mem_singleton.mp h]; exact Nat.le_refl _
    · rcases List.mem_append.mp h with h | h
      · exact Nat.le_of_lt (hi z h)
      · exact Nat.le_of_lt (order_pos w _ _ (pars_mem.mp h))
  omega
theorem base_apart (w : WV n as) (L : L3 n [t] other (pars as t)) (hi : ∀ y ∈ other, (order n as).idxOf y < (order n as).idxOf t) : apartB n as [t] other (pars as t) = true := by
  rw [apartB_iff L]
  rintro x hx y hy ⟨l, hc⟩
  rw [List.mem_singleton.mp hx] at hc
  rcases own_parents (order_pos w) (fun x => pars_mem) hc with q | q
  · exact L.d23 y hy q
  · have h1 : (order n as).idxOf t ≤ (order n as).idxOf y := Up.pos (order_pos w) q
    have h2 := hi y hy
    omega
theorem base_joins (w : WV n as) (L : L3 n [t] other (pars as t)) (hi : ∀ y ∈ other, (order n as).idxOf y < (order n as).idxOf t) : ∀ p ∈ ljoin as (kptL n as [t] other (pars as t)), (p.1 = t → p.2 ∈ pars as t) ∧ (p.2 = t → p.1 ∈ pars as t) := fun p hp => by
  obtain ⟨h1, h2, _, h3⟩ := mem_ljoin hp
  have hk := fun f => no_kid w L hi (f := f)
  unfold ljs at h3
  rw [Bool.or_eq_true, Bool.or_eq_true, decide_eq_true_iff, decide_eq_true_iff] at h3
  have hex : (!((kptL n as [t] other (pars as t)).filter fun f => decide ((p.1, f) ∈ as) && decide ((p.2, f) ∈ as)).isEmpty) = true → ∃ f ∈ kptL n as [t] other (pars as t), (p.1, f) ∈ as ∧ (p.2, f) ∈ as := fun h => by
    obtain ⟨f, hf⟩ := List.exists_mem_of_ne_nil _ (not_isE h)
    obtain ⟨h4, h5⟩ := List.mem_filter.mp hf
    rw [Bool.and_eq_true, decide_eq_true_iff, decide_eq_true_iff] at h5
    exact ⟨f, h4, h5⟩
  refine ⟨fun e => ?_, fun e => ?_⟩
  · rcases h3 with (h3 | h3) | h3
    · rw [e] at h3; exact absurd h3 (hk _ h2)
    · rw [e] at h3; exact pars_mem.mpr h3
    · obtain ⟨f, h4, h5, _⟩ := hex h3
      rw [e] at h5; exact absurd h5 (hk f h4)
  · rcases h3 with (h3 | h3) | h3
    · rw [e] at h3; exact pars_mem.mpr h3
    · rw [e] at h3; exact absurd h3 (hk _ h1)
    · obtain ⟨f, h4, _, h5⟩ := hex h3
      rw [e] at h5; exact absurd h5 (hk f h4)
theorem base_cut (w : WV n as) (L : L3 n [t] other (pars as t)) (hi : ∀ y ∈ other, (order n as).idxOf y < (order n as).idxOf t) : isCutB n as [t] other (pars as t) [t] = true := by
  have hk := fun f => no_kid w L hi (f := f)
  have htK : t ∈ kptL n as [t] other (pars as t) := (mem_kpt w L t).mpr ⟨t, List.mem_append_left _ (List.mem_singleton.mpr rfl), .refl⟩
  unfold isCutB
  simp only [Bool.and_eq_true, Bool.not_eq_true']
  refine ⟨?_, ?_, ?_, ?_⟩
  · simp [htK]
  · simp
  · refine List.any_eq_false.mpr fun x hx => ?_
    rw [decide_eq_true_iff, List.mem_singleton]
    rintro rfl
    rcases List.mem_append.mp hx with h | h
    · exact L.d12 x (List.mem_singleton.mpr rfl) h
    · exact L.d13 x (List.mem_singleton.mpr rfl) h
  · unfold closedB
    refine List.all_eq_true.mpr fun p hp => ?_
    obtain ⟨h1, h2⟩ := List.mem_filter.mp hp
    have h1 := (mem_uP fun p hp => (jn_lt w.toWOk _ p hp).2).mp h1
    rw [Bool.not_eq_true', beq_eq_false_iff_ne, ne_eq, decide_eq_decide, List.mem_singleton, List.mem_singleton] at h2
    rw [Bool.or_eq_true, decide_eq_true_iff, decide_eq_true_iff]
    rcases List.mem_append.mp h1 with h | h
    · obtain ⟨q, hq, rfl⟩ := List.mem_map.mp h
      obtain ⟨h3, h4⟩ := List.mem_filter.mp hq
      rw [Bool.and_eq_true, decide_eq_true_iff, decide_eq_true_iff] at h4
      have h5 : q.1 = t → False := fun e => hk _ h4.2 (by rw [← e]; exact h3)
      have h6 : q.2 = t → q.1 ∈ pars as t := fun e => pars_mem.mpr (by rw [← e]; exact h3)
      have h2 : ¬ (min q.1 q.2 = t ↔ max q.1 q.2 = t) := h2
      show min q.1 q.2 ∈ pars as t ∨ max q.1 q.2 ∈ pars as t
      rcases Nat.lt_or_ge q.1 q.2 with c | c
      · rw [Nat.min_eq_left (Nat.le_of_lt c), Nat.max_eq_right (Nat.le_of_lt c)] at h2 ⊢
        by_cases e : q.2 = t
        · exact .inl (h6 e)
        · exact absurd ⟨fun z => (h5 z).elim, fun z => (e z).elim⟩ h2
      · rw [Nat.min_eq_right c, Nat.max_eq_left c] at h2 ⊢
        by_cases e : q.2 = t
        · exact .inr (h6 e)
        · exact absurd ⟨fun z => (e z).elim, fun z => (h5 z).elim⟩ h2
    · obtain ⟨r, hr, rfl⟩ := List.mem_map.mp h
      obtain ⟨h3, h4⟩ := List.mem_filter.mp hr
      have hm := (List.mergeSort_perm (trips n as) _).mem_iff.mp h3
      unfold trips trip at hm
      simp only [List.mem_flatMap, List.mem_map] at hm
      obtain ⟨m, _, a, ha, b, hb, rfl⟩ := hm
      have hmK : m ∈ kptL n as [t] other (pars as t) := of_decide_eq_true h4
      have e1 : a = t → False := fun e => hk m hmK (by rw [← e]; exact pars_mem.mp ha)
      have e2 : b = t → False := fun e => hk m hmK (by rw [← e]; exact pars_mem.mp (List.mem_filter.mp hb).1)
      exact absurd ⟨fun z => (e1 z).elim, fun z => (e2 z).elim⟩ h2
end
section
variable {cal : Cal} {env : Env} {st st1 st2 st3 : Store} {a b c : E} {i j m : Int}
theorem e_chain_le (ha : evE cal a env st = .ok (.int i) st1) (hb : evE cal b env st1 = .ok (.int j) st2) (hc : evE cal c env st2 = .ok (.int m) st2) : evE cal (.chain .le .le a b c) env st = .ok (.bl (decide (i ≤ j) && decide (j ≤ m))) st2 := by
  rw [evE, ha, R.bind_ok, hb, R.bind_ok, cmp_le, R.bind_ok]
  by_cases h : i ≤ j
  · simp only [h, decide_true, hc, R.bind_ok, cmp_le, Bool.true_and]
  · simp only [h, decide_false, okB, Bool.false_and]
end
section
variable {Φ : Nat → Option FD} {k : Nat}
theorem e69 (h : H69 Φ) (ds : List D) (i j : Int) (st : Store) : callD Φ (k + 1) 69 [.tup ds, .int i, .int j] st = .ok (.bl (decide (i ≤ (ds.length : Int)) && decide ((ds.length : Int) ≤ j))) st := by
  refine call_ev0 h.self rfl ?_ rfl
  rw [runD_eq (env := [some (.tup ds), some (.int i), some (.int j)]) rfl]
  exact ss_ret (e_bools (b_on rfl (b_last (e_chain_le rfl (e_b1 rfl rfl) rfl))))
theorem e70 (h : H70 Φ) (x : Str) (ws : List D) (b : Bool) (st : Store) (hw : cmpD .isin (.str x) (.tup ws) st = .ok (.bl b) st) : callD Φ (k + 2) 70 [.str x, .tup ws] st = .ok (.bl b) st := by
  refine call_ev0 h.self rfl ?_ rfl
  rw [runD_eq (env := [some (.str x), some (.tup ws)]) rfl]
  have c68 : callD Φ (k + 1) 68 [.str x] st = .ok (.bl true) st := by
    refine call_ev0 h.c68.self rfl ?_ rfl
    rw [runD_eq (env := [some (.str x)]) rfl]
    exact ss_ret rfl
  exact ss_ret (e_bools (b_on (e_call (s_cons rfl s_nil) c68) (b_last (e_cmp rfl rfl hw))))
theorem enc_str : Enc D.str where
  eq := fun a b => by
    show decide (a = b) = decide (b = a)
    exact decide_eq_decide.mpr ⟨Eq.symm, Eq.symm⟩
  pu := fun _ => rfl
  dp := fun a => by simp only [D.py, PyData.depth]; omega
theorem str_in (x : Str) (l : List Str) (hx : x ∈ l) (st : Store) : cmpD .isin (.str x) (.tup (l.map D.str)) st = .ok (.bl true) st := by
  rw [enc_str.isinT l x st, decide_eq_true hx]
/-- a row ("base", at) -/
def bRow (i : Nat) : D := .tup [.str "base", .int (i : Int)]
theorem e76 (h : H76 Φ) (n : Nat) (as : List (Nat × Nat)) (w : WV n as) (fnd : D) (i : Nat) (st : Store) : callD Φ (k + 5) 76 [wb n as, fnd, bRow i] st = .ok (match (baseL n as)[i]? with | some b => bsD b | none => .non) st := by
  have hpv : (match (baseL n as)[i]? with | some b => bsD b | none => D.non).pure = true := by
    cases (baseL n as)[i]? with
    | none => rfl
    | some b => exact bsD_pure b
  refine call_ev0 h.self rfl ?_ hpv
  rw [runD_eq (env := [some (wb n as), some fnd, some (bRow i), none, none, none]) rfl]
  have r0 : ∀ env : Env, env[2]? = some (some (bRow i)) → evE (callD Φ (k + 4)) (.ix (.v 2) (.c (.int 0))) env st = .ok (.str "base") st := fun env q => by
    have v2 : evE (callD Φ (k + 4)) (.v 2) env st = .ok (bRow i) st := by rw [evE, q]
    exact e_ix v2 rfl rfl
  have r1 : ∀ env : Env, env[2]? = some (some (bRow i)) → evE (callD Φ (k + 4)) (.ix (.v 2) (.c (.int 1))) env st = .ok (.int (i : Int)) st := fun env q => by
    have v2 : evE (callD Φ (k + 4)) (.v 2) env st = .ok (bRow i) st := by rw [evE, q]
    exact e_ix v2 rfl rfl
  refine ss_if_f (st1 := st) (e_bools (b_on (e_not (e_call (s_cons rfl (s_cons rfl (s_cons rfl s_nil))) (e69 (k := k + 3) h.c69 [.str "base", .int (i : Int)] 2 3 st))) (b_last (e_not (e_call (s_cons (r0 _ rfl) (s_cons (e_tup (s_cons rfl (s_cons rfl (s_cons rfl (s_cons rfl (s_cons rfl s_nil))))) (by show 5 ≤ 16777216; decide)) s_nil)) (e70 (k := k + 2) h.c70 "base" _ true st (str_in "base" ["base", "turn", "part", "give", "join"] (List.mem_cons_self) st))))))) ?_
  refine ss_asg (e_call (s_cons rfl s_nil) (e71 (k := k) h.c71 n as w st)) rfl ?_
  have hstr : cmpD .eq (.str "base") (.str "base") st = .ok (.bl true) st := by rw [cmp_str, decide_eq_true rfl]
  refine ss_asg (e_ite_t (st1 := st) (e_cmp (r0 _ rfl) rfl hstr) rfl) rfl ?_
  have hlen : evE (callD Φ (k + 4)) (.b1 .len (.v 4)) [some (wb n as), some fnd, some (bRow i), some (.tup ((baseL n as).map bsD)), some (.tup ((baseL n as).map bsD)), none] st = .ok (.int ((baseL n as).length : Int)) st := by
    refine e_b1 (x := .tup ((baseL n as).map bsD)) rfl ?_
    show R.ok (D.int (((baseL n as).map bsD).length : Nat)) st = _
    rw [List.length_map]
  have hin : evE (callD Φ (k + 4)) (.cmp .isin (.ix (.v 2) (.c (.int 0))) (.tup (.cons (.g "BASE" (.str "base")) (.cons (.g "TURN" (.str "turn")) .nil)))) [some (wb n as), some fnd, some (bRow i), some (.tup ((baseL n as).map bsD)), some (.tup ((baseL n as).map bsD)), none] st = .ok (.bl true) st := e_cmp (r0 _ rfl) (e_tup (s_cons rfl (s_cons rfl s_nil)) (by show 2 ≤ 16777216; decide)) (str_in "base" ["base", "turn"] List.mem_cons_self st)
  have hb1 := e1 (k := k + 2) h.c1 (i : Int) 0 (((baseL n as).length : Int) - 1) st
  rw [decide_eq_true (by omega : (0 : Int) ≤ (i : Int)), Bool.true_and] at hb1
  have hcall : evE (callD Φ (k + 4)) (.call 1 (.cons (.ix (.v 2) (.c (.int 1))) (.cons (.c (.int 0)) (.cons (.bin .sub (.b1 .len (.v 4)) (.c (.int 1))) .nil)))) [some (wb n as), some fnd, some (bRow i), some (.tup ((baseL n as).map bsD)), some (.tup ((baseL n as).map bsD)), none] st = .ok (.bl (decide ((i : Int) ≤ ((baseL n as).length : Int) - 1))) st := e_call (s_cons (r1 _ rfl) (s_cons rfl (s_cons (e_bin hlen rfl rfl) s_nil))) hb1
  by_cases hi : i < (baseL n as).length
  · rw [decide_eq_true (by omega : (i : Int) ≤ ((baseL n as).length : Int) - 1)] at hcall
    rw [List.getElem?_eq_getElem hi]
    have hne : evE (callD Φ (k + 4)) (.cmp .ne (.b1 .len (.v 2)) (.ite (.cmp .isin (.ix (.v 2) (.c (.int 0))) (.tup (.cons (.g "BASE" (.str "base")) (.cons (.g "TURN" (.str "turn")) .nil)))) (.c (.int 2)) (.c (.int 3)))) [some (wb n as), some fnd, some (bRow i), some (.tup ((baseL n as).map bsD)), some (.tup ((baseL n as).map bsD)), none] st = .ok (.bl false) st := e_cmp (x := .int 2) (y := .int 2) (st1 := st) (st2 := st) (e_b1 (x := bRow i) rfl rfl) (e_ite_t hin rfl) rfl
    refine ss_if_f (st1 := st) (e_bools (b_on (e_not hcall) (b_last hne))) ?_
    refine ss_asg (d := bsD ((baseL n as)[i])) (st1 := st) (e_ix (x := .tup ((baseL n as).map bsD)) rfl (r1 _ rfl) (ix_tup st (by rw [List.getElem?_map, List.getElem?_eq_getElem hi]; rfl))) rfl ?_
    have hin2 : evE (callD Φ (k + 4)) (.cmp .isin (.ix (.v 2) (.c (.int 0))) (.tup (.cons (.g "BASE" (.str "base")) (.cons (.g "TURN" (.str "turn")) .nil)))) [some (wb n as), some fnd, some (bRow i), some (.tup ((baseL n as).map bsD)), some (.tup ((baseL n as).map bsD)), some (bsD ((baseL n as)[i]))] st = .ok (.bl true) st := e_cmp (r0 _ rfl) (e_tup (s_cons rfl (s_cons rfl s_nil)) (by show 2 ≤ 16777216; decide)) (str_in "base" ["base", "turn"] List.mem_cons_self st)
    exact ss_if_t hin2 (e_ite_t (st1 := st) (e_cmp (r0 _ rfl) rfl hstr) rfl)
  · rw [decide_eq_false (by omega : ¬ (i : Int) ≤ ((baseL n as).length : Int) - 1)] at hcall
    rw [List.getElem?_eq_none (by omega)]
    exact ss_if_t (st1 := st) (e_bools (b_stop (k := false) (e_not hcall))) rfl
theorem e79 (h : H79 Φ) (n : Nat) (as : List (Nat × Nat)) (w : WV n as) (i : Nat) (st : Store) : callD Φ (k + 7) 79 [wb n as, .tup [bRow i]] st = .ok (match (baseL n as)[i]? with | some b => .tup [bsD b] | none => .non) st := by
  have c77 : ∀ v, (match (baseL n as)[i]? with | some b => bsD b | none => D.non) = v → ((v = .non ∧ callD Φ (k + 6) 77 [wb n as, .tup [bRow i]] st = .ok .non st) ∨ (v.notNone = true ∧ v.pure = true ∧ callD Φ (k + 6) 77 [wb n as, .tup [bRow i]] st = .ok (.ref st.length) (st ++ [.lst [v]]))) := by
    intro v hv
    have h77 := h.c77
    have c76 := e76 (k := k) h77.c76 n as w (.ref st.length) i (st ++ [.lst []])
    rw [hv] at c76
    have c69 := e69 (k := k + 4) h77.c69 [bRow i] 1 1000 st
    have hrun0 : ∀ r, (evSs (callD Φ (k + 5)) (.cons (.for (.nm 3) (.of (.of (.v 1))) (.cons (.asg (.nm 4) (.call 76 (.cons (.v 0) (.cons (.v 2) (.cons (.v 3) .nil))))) (.cons (.ifs (.isN (.v 4)) (.cons (.ret (.c .non)) .nil) .nil) (.cons (.ex (.app (.v 2) (.v 4))) .nil)))) (.cons (.ret (.v 2)) .nil)) [some (wb n as), some (.tup [bRow i]), some (.ref st.length), none, none] (st ++ [.lst []])).bind endD = r → runD (callD Φ (k + 5)) td77.fd [wb n as, .tup [bRow i]] st = r := fun r hr => by
      rw [runD_eq (env := [some (wb n as), some (.tup [bRow i]), none, none, none]) rfl]
      exact ss_if_f (st1 := st) (e_not (e_call (s_cons rfl (s_cons rfl (s_cons rfl s_nil))) c69)) (ss_asg (e_ls (l_disp s_nil (by decide))) rfl hr)
    by_cases hn : v = .non
    · refine .inl ⟨hn, ?_⟩
      subst hn
      rcases s_for_ret (cal := callD Φ (k + 5)) (t := .nm 3) (i := .of (.of (.v 1))) (bd := (.cons (.asg (.nm 4) (.call 76 (.cons (.v 0) (.cons (.v 2) (.cons (.v 3) .nil))))) (.cons (.ifs (.isN (.v 4)) (.cons (.ret (.c .non)) .nil) .nil) (.cons (.ex (.app (.v 2) (.v 4))) .nil)))) (d := .non) (env := [some (wb n as), some (.tup [bRow i]), some (.ref st.length), none, none]) (st := st ++ [.lst []]) [()] (fun _ => bRow i) (fun _ => false) (fun env => ∃ o3 o4, env = [some (wb n as), some (.tup [bRow i]), some (.ref st.length), o3, o4]) (i_tup rfl) rfl ⟨_, _, rfl⟩ (fun _ _ env ⟨o3, o4, he⟩ => by
          subst he
          exact ⟨_, rfl, .inr ⟨rfl, _, bs_asg (e_call (s_cons rfl (s_cons rfl (s_cons rfl s_nil))) c76) rfl (bs_if_t rfl (bs_ret rfl) ⟨_, _, _, rfl⟩)⟩⟩) with ⟨q, _⟩ | ⟨_, env1, q⟩
      · cases q
      · refine call_ev [.lst []] h77.self rfl (hrun0 _ (ss_rt q)) rfl
    · have hnn : v.notNone = true := by cases v <;> first | rfl | exact absurd rfl hn
      have hpv : v.pure = true := by
        rw [← hv]
        cases (baseL n as)[i]? with
        | none => rfl
        | some b => exact bsD_pure b
      refine .inr ⟨hnn, hpv, ?_⟩
      obtain ⟨env1, st1, h1, hb, o3, o4, he, hs⟩ := s_forI (cal := callD Φ (k + 5)) (t := .nm 3) (i := .of (.of (.v 1))) (bd := (.cons (.asg (.nm 4) (.call 76 (.cons (.v 0) (.cons (.v 2) (.cons (.v 3) .nil))))) (.cons (.ifs (.isN (.v 4)) (.cons (.ret (.c .non)) .nil) .nil) (.cons (.ex (.app (.v 2) (.v 4))) .nil)))) (env := [some (wb n as), some (.tup [bRow i]), some (.ref st.length), none, none]) (st := st ++ [.lst []]) (st0 := st ++ [.lst []]) [()] (fun _ => bRow i)
        (fun j (b : List D) env s => (j = 0 → b = []) ∧ ∃ o3 o4, env = [some (wb n as), some (.tup [bRow i]), some (.ref st.length), o3, o4] ∧ s = st ++ [.lst b]) (fun b _ => b ++ [v]) (i_tup rfl) (b0 := []) ⟨fun _ => rfl, _, _, rfl, rfl⟩ (fun _ _ _ _ _ => rfl)
        (by
          intro j _ hj b env s ⟨hb, o3, o4, he, hs⟩
          have hj0 : j = 0 := by
            have := (List.getElem?_eq_some_iff.mp hj).1
            simp at this
            exact this
          have hbn := hb hj0
          subst hbn he hs
          refine ⟨_, [some (wb n as), some (.tup [bRow i]), some (.ref st.length), some (bRow i), some v], st ++ [.lst [v]], rfl, ?_, fun e => by omega, _, _, rfl, rfl⟩
          have happ := e_app (cal := callD Φ (k + 5)) (a := .v 2) (e := .v 4) (d := v) (env := [some (wb n as), some (.tup [bRow i]), some (.ref st.length), some (bRow i), some v]) (i := st.length) rfl (get_last st (.lst [])) rfl (by show 0 + 1 ≤ 16777216; decide)
          rw [set_last] at happ
          have hif : evE (callD Φ (k + 5)) (.isN (.v 4)) [some (wb n as), some (.tup [bRow i]), some (.ref st.length), some (bRow i), some v] (st ++ [.lst []]) = .ok (.bl false) (st ++ [.lst []]) := by
            show okB (!v.notNone) _ = _
            rw [hnn]
            rfl
          refine bs_asg (env1 := [some (wb n as), some (.tup [bRow i]), some (.ref st.length), some (bRow i), some v]) (st2 := st ++ [.lst []]) (e_call (s_cons rfl (s_cons rfl (s_cons rfl s_nil))) c76) rfl (bs_if_f hif (bs_ex happ bs_nil)))
      subst he hs
      rw [call_eq h77.self rfl, hrun0 _ (ss_s h1 (ss_ret rfl))]
      exact fin_lst (Nat.le_refl _) (get_last _ _) (by simp only [D.pures, hpv, Bool.and_self])
  have hpv : (match (baseL n as)[i]? with | some b => D.tup [bsD b] | none => D.non).pure = true := by
    cases (baseL n as)[i]? with
    | none => rfl
    | some b => simp only [D.pure, D.pures, bsD_pure, Bool.and_self]
  have c22 := e22 (k := k) h.c22 n as w st
  cases q : (baseL n as)[i]? with
  | none =>
    rcases c77 .non (by rw [q]) with ⟨_, c⟩ | ⟨c, _⟩
    · refine call_ev0 h.self rfl ?_ rfl
      rw [runD_eq (env := [some (wb n as), some (.tup [bRow i]), none]) rfl]
      exact ss_ex (e_call (s_cons rfl s_nil) c22) (ss_asg (e_call (s_cons rfl (s_cons rfl s_nil)) c) rfl (ss_ret (e_ite_f rfl rfl)))
    · cases c
  | some b =>
    rcases c77 (bsD b) (by rw [q]) with ⟨c, _⟩ | ⟨_, _, c⟩
    · cases c
    · refine call_ev [.lst [bsD b]] h.self rfl ?_ (by simp only [D.pure, D.pures, bsD_pure, Bool.and_self])
      rw [runD_eq (env := [some (wb n as), some (.tup [bRow i]), none]) rfl]
      exact ss_ex (e_call (s_cons rfl s_nil) c22) (ss_asg (e_call (s_cons rfl (s_cons rfl s_nil)) c) rfl (ss_ret (e_ite_t rfl (e_tupOf (l_of (x := .ref st.length) rfl (items_ref (get_last _ _)))))))
end
end PyD
namespace PyD
open PySem
theorem eqvs_ints : ∀ a b : List Nat, D.eqvs (a.map fun (i : Nat) => D.int (i : Int)) (b.map fun (i : Nat) => D.int (i : Int)) = decide (b = a)
  | [], [] => rfl
  | [], _ :: _ => rfl
  | _ :: _, [] => rfl
  | x :: a, y :: b => by
    rw [List.map_cons, List.map_cons, D.eqvs, eqvs_ints a b]
    simp only [D.eqv, deq]
    by_cases h1 : x = y
    · subst h1; simp
    · have : ¬ y = x := fun e => h1 e.symm
      simp [h1, this]
theorem enc_nT : Enc nT where
  eq := fun a b => by
    show D.eqvs _ _ = _
    exact eqvs_ints a b
  pu := nT_pure
  dp := fun a => by
    have e := iT_py (nI a)
    unfold iT at e
    rw [nT_eq, e]
    have := depth_ints (nI a)
    simp only [PyData.depth]
    omega
theorem rT_depth (rows : List (List Nat)) : (rT rows).py.depth < 40 := by
  have := nR_depth rows
  unfold rT
  simp only [D.py, PyData.depth] at this ⊢
  exact this
theorem all_enumG (st : Store) (l : List D) : It.all (.enum (.ds false l)) st = some ((List.range l.length).map fun (i : Nat) => D.tup [.int (i : Int), l.getD i .non]) := by
  show (some l).map (fun xs => xs.zipIdx.map fun p => D.tup [.int (p.2 : Nat), p.1]) = _
  rw [Option.map_some]
  congr 1
  refine List.ext_getElem? fun i => ?_
  simp only [List.getElem?_map, List.getElem?_zipIdx, Nat.zero_add]
  by_cases h : i < l.length
  · have e : l.getD i .non = l[i] := by rw [List.getD_eq_getElem?_getD, List.getElem?_eq_getElem h]; rfl
    rw [List.getElem?_range h, List.getElem?_eq_getElem h, Option.map_some, Option.map_some, Option.map_some, e]
  · rw [List.getElem?_eq_none (Nat.not_lt.mp h), List.getElem?_eq_none (by rw [List.length_range]; omega)]; rfl
theorem bsD_txt {n : Nat} {as : List (Nat × Nat)} (w : WV n as) {b : Nat × List Nat × List Nat} (hb : b ∈ baseL n as) : Txt 867 3 (bsD b) := by
  obtain ⟨h1, L, _⟩ := base_ok w hb
  have hn := w.hn
  have t1 := L.l1.len
  have t2 := L.l2.len
  have t3 := L.l3.len
  refine (txt_tup (w := 288) (dep := 2) fun d hd => ?_).le (by show 289 * 3 ≤ 867; decide) (Nat.le_refl _)
  simp only [List.mem_cons, List.not_mem_nil, or_false] at hd
  rcases hd with rfl | rfl | rfl
  · exact (txt_low hn L.l1.lt).le (by omega) (Nat.le_refl _)
  · exact (txt_low hn L.l2.lt).le (by omega) (Nat.le_refl _)
  · exact (txt_low hn L.l3.lt).le (by omega) (Nat.le_refl _)
theorem baseL_len {n : Nat} {as : List (Nat × Nat)} (w : WV n as) : (baseL n as).length ≤ n := by
  have := flat_le (base1 as (order n as)) 1 (List.range (order n as).length) fun i _ => base1_len as _ i
  rw [List.length_range, Nat.mul_one] at this
  have e := w.ord
  unfold baseL
  omega
section
variable {Φ : Nat → Option FD} {k : Nat}
theorem e88 (h : H88 Φ) (a r w t : Nat) (st : Store) (hs : st[a]? = some (bagO r w t)) : ∃ s', callD Φ (k + 10) 88 [.ref a] st = .ok (.bl true) s' := by
  have ha : a < st.length := (List.getElem?_eq_some_iff.mp hs).1
  obtain ⟨n, o, as, r1, w1, t1, j1, dr, c36⟩ := e36 (k := k + 7) h.c36 a r w t st hs
  have W := drawn_wv dr
  have hn := dr.five
  have hn2 := dr.two
  have hz := drawn_len dr
  have hnd := asc_nodup W.asc
  have hfr := fun b hb => free_ne dr b hb
  generalize hS1 : st.set a (bagO r1 w1 t1) ++ j1 = S at c36
  let B := baseL n as
  have hBl := baseL_len W
  have c86 := fun s => e86 (k := k + 7) h.c86 n as W hn hz hfr s
  have c38 := fun s => e38 (k := k + 8) h.c38 n as hn hz hfr s
  have c78 := fun s => e78 (k := k + 2) h.c78 n as W s
  have c31 := fun s => e31 (k := k + 2) h.c31 n as W s
  have c81 := fun s => e81 (k := k + 2) h.c81 n as W s
  have c82 := fun s => e82 (k := k + 2) h.c82 n as W s
  have c87 := fun s => e87 (k := k + 8) h.c87 n as W s
  have c79 := fun i s => e79 (k := k + 2) h.c79 n as W i s
  let S2 := S ++ [MO.lst ((ordK n as n).map nT)]
  have hob := order_ob n as
  have hTB : Txt 5208 4 (.tup (B.map bsD)) := (txt_tup (w := 867) (dep := 3) fun d hd => by
    obtain ⟨b, hb, rfl⟩ := List.mem_map.mp hd
    exact bsD_txt W hb).le (by
      have e : (B.map bsD).length = B.length := List.length_map _
      have h2 : B.length ≤ n := hBl
      rw [e]
      have : (867 + 1) * B.length ≤ (867 + 1) * 5 := Nat.mul_le_mul_left _ (by omega)
      omega) (Nat.le_refl _)
  have hTO : Txt 5208 4 (nT (order n as)) := (txt_low (by omega : n ≤ 6) hob.lt).le (by rw [W.ord]; omega) (by omega)
  have hT3 : Txt 15627 5 (.lst [.tup (B.map bsD), .tup (B.map bsD), nT (order n as)]) := (txt_lst (w := 5208) (dep := 4) fun d hd => by
    simp only [List.mem_cons, List.not_mem_nil, or_false] at hd
    rcases hd with rfl | rfl | rfl
    · exact hTB
    · exact hTB
    · exact hTO).le (by show 5209 * 3 ≤ 15627; decide) (Nat.le_refl _)
  have hrowin : order n as ∈ ordK n as n := order_in hfr n (Nat.le_refl _)
  have env0 : Env := [some (.ref a), some (wb n as), some (.ref S.length), some (.tup (B.map bsD)), some (nT (order n as)), none, none]
  obtain ⟨env1, st1, h1, o5, o6, he, hst⟩ := s_forI (cal := callD Φ (k + 9)) (t := .tp (.cons (.nm 5) (.cons (.nm 6) .nil))) (i := .enum (.of (.of (.v 3)))) (bd := (.cons (.ifs (.bools false (.cons (.cmp .ne (.call 62 (.cons (.v 1) (.cons (.ix (.v 6) (.c (.int 0))) (.cons (.ix (.v 6) (.c (.int 1))) (.cons (.ix (.v 6) (.c (.int 2))) .nil))))) (.fz (.disp .nil))) (.cons (.notB true (.call 50 (.cons (.v 1) (.cons (.ix (.v 6) (.c (.int 0))) (.cons (.ix (.v 6) (.c (.int 1))) (.cons (.ix (.v 6) (.c (.int 2))) .nil)))))) .nil))) (.cons (.ret (.c (.bl false))) .nil) .nil) (.cons (.ifs (.cmp .ne (.call 79 (.cons (.v 1) (.cons (.tup (.cons (.tup (.cons (.c (.str "base")) (.cons (.v 5) .nil))) .nil)) .nil))) (.tup (.cons (.v 6) .nil))) (.cons (.ret (.c (.bl false))) .nil) .nil) (.cons (.ifs (.notB true (.call 57 (.cons (.v 1) (.cons (.ix (.v 6) (.c (.int 0))) (.cons (.ix (.v 6) (.c (.int 1))) (.cons (.ix (.v 6) (.c (.int 2))) (.cons (.call 85 (.cons (.v 1) (.cons (.ix (.v 6) (.c (.int 0))) (.cons (.ix (.v 6) (.c (.int 1))) (.cons (.ix (.v 6) (.c (.int 2))) .nil))))) .nil))))))) (.cons (.ret (.c (.bl false))) .nil) .nil) .nil))))
    (env := [some (.ref a), some (wb n as), some (.ref S.length), some (.tup (B.map bsD)), some (nT (order n as)), none, none]) (st := S2) (st0 := S2) (List.range (B.map bsD).length) (fun (i : Nat) => D.tup [.int (i : Int), (B.map bsD).getD i .non])
    (fun (i : Nat) (_ : Unit) env s => ∃ o5 o6, env = [some (.ref a), some (wb n as), some (.ref S.length), some (.tup (B.map bsD)), some (nT (order n as)), o5, o6] ∧ s = S2) (fun _ _ => ())
    (J := .enum (.ds false (B.map bsD))) (i_enumT rfl) (b0 := ()) ⟨_, _, rfl, rfl⟩ (fun _ _ _ s _ => all_enumG s (B.map bsD))
    (by
      intro i y hi _ env s ⟨o5, o6, he, hs'⟩
      subst he hs'
      obtain ⟨hin, hia⟩ := List.getElem?_eq_some_iff.mp hi
      rw [List.length_range, List.length_map] at hin
      rw [List.getElem_range] at hia
      subst hia
      have hgi : B[i]? = some B[i] := List.getElem?_eq_getElem hin
      have hgd : (B.map bsD).getD i .non = bsD B[i] := by rw [List.getD_eq_getElem?_getD, List.getElem?_map, hgi]; rfl
      have hbm : B[i] ∈ baseL n as := List.getElem_mem hin
      generalize hb : B[i] = b at *
      obtain ⟨q1, L, q2⟩ := base_ok W hbm
      obtain ⟨tt, oo, pp⟩ := b
      have q1 : pp = pars as tt := q1
      subst q1
      have L : L3 n [tt] oo (pars as tt) := L
      have q2 : ∀ y ∈ oo, (order n as).idxOf y < (order n as).idxOf tt := q2
      have hap := base_apart W L q2
      have hct := base_cut W L q2
      obtain ⟨rows, hrp, c62⟩ := e62 (k := k + 6) h.c62 n as W hn hz [tt] oo (pars as tt) L.l3 S2
      have hrn : rows = [] := by
        have := (apart_opens W L).mp hap
        rw [this] at hrp
        exact hrp.eq_nil
      rw [hrn] at c62
      have c50 := e50 (k := k + 1) h.c50 n as W [tt] oo (pars as tt) L S2
      rw [hap] at c50
      have hjl := jn_len W hn hz (kptL n as [tt] oo (pars as tt))
      have c57 := e57 (k := k + 1) h.c57 n as W [tt] oo (pars as tt) [tt] L L.l1 hjl (Nat.le_trans (uP_len _) (by omega)) S2
      rw [hct] at c57
      have c85 := e85 (k := k + 6) h.c85 n as W hn hz tt oo (pars as tt) L (base_joins W L q2) S2
      have c79i := c79 i S2
      have hgi2 : (baseL n as)[i]? = some (tt, oo, pars as tt) := hgi
      rw [hgi2] at c79i
      have hix : ∀ (j : Nat) d, (bsD (tt, oo, pars as tt) = .tup [nT [tt], nT oo, nT (pars as tt)]) → ([nT [tt], nT oo, nT (pars as tt)] : List D)[j]? = some d → evE (callD Φ (k + 9)) (.ix (.v 6) (.c (.int (j : Int)))) [some (.ref a), some (wb n as), some (.ref S.length), some (.tup (B.map bsD)), some (nT (order n as)), some (.int (i : Int)), some (bsD (tt, oo, pars as tt))] S2 = .ok d S2 := fun j d _ hd => e_ix rfl rfl (ix_tup (t := j) S2 hd)
      have x0 := hix 0 (nT [tt]) rfl rfl
      have x1 := hix 1 (nT oo) rfl rfl
      have x2 := hix 2 (nT (pars as tt)) rfl rfl
      have hTb := bsD_txt W hbm
      have hT1 : Txt 868 4 (.tup [bsD (tt, oo, pars as tt)]) := (txt_tup (w := 867) (dep := 3) fun d hd => by
        rw [List.mem_singleton.mp hd]; exact hTb).le (by show 868 * 1 ≤ 868; decide) (Nat.le_refl _)
      refine ⟨[some (.ref a), some (wb n as), some (.ref S.length), some (.tup (B.map bsD)), some (nT (order n as)), some (.int (i : Int)), some (bsD (tt, oo, pars as tt))], [some (.ref a), some (wb n as), some (.ref S.length), some (.tup (B.map bsD)), some (nT (order n as)), some (.int (i : Int)), some (bsD (tt, oo, pars as tt))], S2, by rw [hgd]; rfl, ?_, _, _, rfl, rfl⟩
      refine bs_if_f (st1 := S2) (e_bools (b_on (e_cmp (e_call (s_cons rfl (s_cons x0 (s_cons x1 (s_cons x2 s_nil)))) c62) (e_fz (l_disp s_nil (by decide))) rfl) (b_last ((e_notB (kk := true) (e_call (s_cons rfl (s_cons x0 (s_cons x1 (s_cons x2 s_nil)))) c50)).trans rfl)))) ?_
      refine bs_if_f (st1 := S2) (e_cmp (e_call (s_cons rfl (s_cons (e_tup (s_cons (e_tup (s_cons rfl (s_cons rfl s_nil)) (by show 2 ≤ 16777216; decide)) s_nil) (by show 1 ≤ 16777216; decide)) s_nil)) c79i) (e_tup (s_cons rfl s_nil) (by show 1 ≤ 16777216; decide)) (hT1.neS (by decide) S2)) ?_
      exact bs_if_f (st1 := S2) ((e_notB (kk := true) (e_call (s_cons rfl (s_cons x0 (s_cons x1 (s_cons x2 (s_cons (e_call (s_cons rfl (s_cons x0 (s_cons x1 (s_cons x2 s_nil)))) c85) s_nil))))) c57)).trans rfl) bs_nil)
  subst he hst
  have key : runD (callD Φ (k + 9)) td88.fd [.ref a] st = .ok (.bl true) S2 := by
    rw [runD_eq (env := [some (.ref a), none, none, none, none, none, none]) rfl]
    refine ss_asg (e_call (s_cons rfl (s_cons rfl s_nil)) c36) rfl ?_
    refine ss_asg (env1 := [some (.ref a), some (wb n as), none, some (.tup (B.map bsD)), some (nT (order n as)), none, none]) (st2 := S) (e_tup (s_cons (e_call (s_cons rfl s_nil) (c86 S)) (s_cons (e_call (s_cons rfl s_nil) (c38 S)) s_nil)) (by show 2 ≤ 16777216; decide)) rfl ?_
    refine ss_if_f (st1 := S) ((e_cmp (e_repr (e_fz (l_disp (s_cons (e_call (s_cons rfl s_nil) (c78 S)) (s_cons (e_callk (ds := []) s_nil (s_cons rfl s_nil) (c78 S)) (s_cons (e_call (s_cons rfl s_nil) (c31 S)) s_nil))) (by show 3 ≤ 16777216; decide))) hT3 (by decide) (by decide) (.inr ⟨_, rfl⟩)) (e_repr (e_fz (l_disp (s_cons rfl (s_cons rfl (s_cons rfl s_nil))) (by show 3 ≤ 16777216; decide))) hT3 (by decide) (by decide) (.inr ⟨_, rfl⟩)) (cmp_strn _ _ _)).trans (by rw [decide_eq_true rfl]; rfl)) ?_
    refine ss_asg (e_call (s_cons rfl s_nil) (c87 S)) rfl ?_
    have hgl : S2[S.length]? = some (.lst ((ordK n as n).map nT)) := get_last _ _
    refine ss_if_f (st1 := S2) (e_bools (b_on (e_cmp (y := rT (ordK n as n)) (st2 := S2) (e_call (s_cons rfl s_nil) (c81 S2)) (e_tupOf (l_of (x := .ref S.length) rfl (items_ref hgl))) (cmp_neS S2 (rT_pure _) (rT_depth _))) (b_on ((e_cmp (x := .int ((ordK n as n).length : Nat)) (y := .int ((ordK n as n).length : Nat)) (st1 := S2) (st2 := S2) (e_call (s_cons rfl s_nil) (c82 S2)) (e_b1 (x := .ref S.length) rfl (by
      simp only [b1D, hgl]
      rw [List.length_map])) (cmp_ne _ _ _)).trans (by rw [decide_eq_true rfl]; rfl)) (b_last ((e_cmp rfl rfl (enc_nT.notinR (ordK n as n) (order n as) S.length S2 hgl)).trans (congrArg (fun z => R.ok (D.bl (!z)) S2) (@decide_eq_true _ (_) hrowin))))))) ?_
    refine ss_s h1 (ss_ret ?_)
    have hlen : evE (callD Φ (k + 9)) (.b1 .len (.v 3)) [some (.ref a), some (wb n as), some (.ref S.length), some (.tup (B.map bsD)), some (nT (order n as)), o5, o6] S2 = .ok (.int (B.length : Int)) S2 := by
      refine e_b1 (x := .tup (B.map bsD)) rfl ?_
      show R.ok (D.int ((B.map bsD).length : Nat)) S2 = _
      rw [List.length_map]
    have c79n := c79 B.length S2
    have hnone : (baseL n as)[B.length]? = none := List.getElem?_eq_none (Nat.le_refl _)
    rw [hnone] at c79n
    have hc : evE (callD Φ (k + 9)) (.call 79 (.cons (.v 1) (.cons (.tup (.cons (.tup (.cons (.c (.str "base")) (.cons (.b1 .len (.v 3)) .nil))) .nil)) .nil))) [some (.ref a), some (wb n as), some (.ref S.length), some (.tup (B.map bsD)), some (nT (order n as)), o5, o6] S2 = .ok .non S2 := e_call (s_cons rfl (s_cons (e_tup (s_cons (e_tup (s_cons rfl (s_cons hlen s_nil)) (by show 2 ≤ 16777216; decide)) s_nil) (by show 1 ≤ 16777216; decide)) s_nil)) c79n
    rw [evE, hc]
    rfl
  rw [call_eq h.self rfl, key]
  exact fin_bl _ _ _
theorem e89 (h : H89 Φ) (ns : List Int) (st : Store) : ∃ s', callD Φ (k + 11) 89 [.lst (ns.map D.int)] st = .ok (.bl true) s' := by
  obtain ⟨env1, st1, h1, o, he⟩ := s_forI (cal := callD Φ (k + 10)) (t := .nm 1) (i := .rng1 (.c (.int 2))) (bd := (.cons (.ifs (.not (.call 88 (.cons (.call 34 (.cons (.v 0) (.cons (.v 1) .nil))) .nil))) (.cons (.ret (.c (.bl false))) .nil) .nil) .nil))
    (env := [some (.lst (ns.map D.int)), none]) (st := st) (st0 := st) (List.range 2) (fun (i : Nat) => D.int (i : Int))
    (fun (i : Nat) (_ : Unit) env s => ∃ o, env = [some (.lst (ns.map D.int)), o]) (fun _ _ => ()) (J := .rng 0 2) (i_rng1 (j := 2) rfl rfl) (b0 := ()) ⟨_, rfl⟩ (fun _ _ _ s _ => all_rng0 2 s)
    (by
      intro i t hi b env s ⟨o, he⟩
      subst he
      obtain ⟨hin, hia⟩ := List.getElem?_eq_some_iff.mp hi
      rw [List.length_range] at hin
      rw [List.getElem_range] at hia
      obtain ⟨r, w, c34⟩ := e34 (k := k + 9) h.c34 ns t (by omega) s
      obtain ⟨s', c⟩ := e88 (k := k) h.c88 s.length r w t (s ++ [bagO r w t]) (get_last _ _)
      refine ⟨_, [some (.lst (ns.map D.int)), some (.int (t : Int))], s', rfl, ?_, _, rfl⟩
      exact bs_if_f (e_not (bb := true) (e_call (s_cons (e_call (s_cons rfl (s_cons rfl s_nil)) c34) s_nil) c)) bs_nil)
  subst he
  rw [call_eq h.self rfl]
  have key : runD (callD Φ (k + 10)) td89.fd [.lst (ns.map D.int)] st = .ok (.bl true) st1 := by
    rw [runD_eq (env := [some (.lst (ns.map D.int)), none]) rfl]
    exact ss_s h1 (ss_ret rfl)
  rw [key]
  exact fin_bl _ _ _
end
end PyD
set_option maxHeartbeats 0
namespace Lawk27
open PySem PySem.Spec PyProof.Rows L2 PyD
def top (i : Nat) : Stmt := PySem.Challenge.pw_givenwebs_k27_main_whole_base_statements.main.body.getD i (.Pass ⟨0, 0, 0, 0⟩)
def dT (x : Str) (i : Nat) : He.DefD := ⟨(x, none), x, x, defArgs (top i), defBody (top i), defScope (top i), [], []⟩
def fn : List He.DefD := [dT "is_whole" 5, dT "is_between" 6, dT "is_string" 7, dT "is_tuple_of" 8, dT "is_row" 9, dT "is_word_in" 10, dT "is_ascending" 11, dT "is_arrow_of" 14, dT "are_arrows_of" 15, dT "are_numbers_upto" 16, dT "is_web_by" 17, dT "is_lot_by" 18, dT "free_by" 19, dT "order_by" 20, dT "parent_rows" 21, dT "parents_by" 22, dT "above_lot" 23, dT "meetings_by" 24, dT "bits_of" 25, dT "things_in" 26, dT "parent_bits" 27, dT "above_bits" 28, dT "nexts_by" 30, dT "reach_by" 31, dT "are_apart_by" 32, dT "base_by" 40, dT "with_all" 41, dT "without" 42, dT "told_of_lot" 43, dT "told_of_two" 44, dT "told_by_row" 45, dT "told_by_rows" 46, dT "check_web" 48, dT "base" 50, dT "told_by" 51, dT "kept_by" 53, dT "joined_pairs" 54, dT "is_closed" 55, dT "is_cut_by" 56, dT "check_beside" 58, dT "check_lots" 59, dT "are_apart" 60, dT "is_cut" 62, dT "orders_by" 64, dT "first_order" 66, dT "orders" 67, dT "count_orders" 68, dT "_law_bag" 70, dT "_law_grab" 71, dT "_law_web" 72, dT "_law_up" 73, dT "_law_inward" 74, dT "_law_is_open" 75, dT "_law_trails" 76, dT "_law_opens" 77, dT "_law_joins" 78, dT "_law_kept" 79, dT "_law_side" 80, dT "_law_first" 81, dT "_law_base" 82, dT "_law_orders" 83, dT "_law_right" 84, dT "law" 85]
def fa : List He.Fa := [.glo "is_whole", .glo "is_between", .glo "is_string", .glo "is_tuple_of", .glo "is_row", .glo "is_word_in", .glo "is_ascending", .glo "is_arrow_of", .glo "are_arrows_of", .glo "are_numbers_upto", .glo "is_web_by", .glo "is_lot_by", .glo "free_by", .glo "order_by", .glo "parent_rows", .glo "parents_by", .glo "above_lot", .glo "meetings_by", .glo "bits_of", .glo "things_in", .glo "parent_bits", .glo "above_bits", .glo "nexts_by", .glo "reach_by", .glo "are_apart_by", .glo "base_by", .glo "with_all", .glo "without", .glo "told_of_lot", .glo "told_of_two", .glo "told_by_row", .glo "told_by_rows", .glo "check_web", .glo "base", .glo "told_by", .glo "kept_by", .glo "joined_pairs", .glo "is_closed", .glo "is_cut_by", .glo "check_beside", .glo "check_lots", .glo "are_apart", .glo "is_cut", .glo "orders_by", .glo "first_order", .glo "orders", .glo "count_orders", .glo "_law_bag", .glo "_law_grab", .glo "_law_web", .glo "_law_up", .glo "_law_inward", .glo "_law_is_open", .glo "_law_trails", .glo "_law_opens", .glo "_law_joins", .glo "_law_kept", .glo "_law_side", .glo "_law_first", .glo "_law_base", .glo "_law_orders", .glo "_law_right", .glo "law", .free "len", .free "abs", .free "int", .free "repr", .free "isinstance", .free "tuple", .free "list", .free "all", .free "any", .free "sum", .free "sorted", .free "min", .free "max", .free "range", .free "enumerate", .free "zip", .free "divmod", .free "bool", .free "str", .free "dict", .free "set", .str "BASE" "base", .str "GIVE" "give", .str "JOIN" "join", .int "MOST_ROWS" 1000, .int "MOST_THINGS" 6, .str "PART" "part", .str "TURN" "turn"]
abbrev R : PySem.W.OpenRow := PySem.W.OpenLaw.row PySem.Challenge.rw_givenwebs_k27_main_whole_base_statements
abbrev hk : PySem.W.Hook := He.hookD 4 fa fn
def ob (s : PySem.W.SharedT) : He.AlD := He.obsDG 4 fa fn (HandSHeadRun.getT s)
theorem ob_eq (s : PySem.W.SharedT) : ob s = hk.obs s.abs := He.obsDG_eq (HandSHeadRun.getT_eq s)
def loose : List PySem.Str := (["is_whole", "is_between", "is_string", "is_tuple_of", "is_row", "is_word_in", "is_ascending", "is_arrow_of", "are_arrows_of", "are_numbers_upto", "is_web_by", "is_lot_by", "free_by", "order_by", "parent_rows", "parents_by", "above_lot", "meetings_by", "bits_of", "things_in", "parent_bits", "above_bits", "nexts_by", "reach_by", "are_apart_by", "base_by", "with_all", "without", "told_of_lot", "told_of_two"] : List PySem.Str) ++ (["told_by_row", "told_by_rows", "check_web", "base", "told_by", "kept_by", "joined_pairs", "is_closed", "is_cut_by", "check_beside", "check_lots", "are_apart", "is_cut", "orders_by", "first_order", "orders", "count_orders", "_law_bag", "_law_grab", "_law_web", "_law_up", "_law_inward", "_law_is_open", "_law_trails", "_law_opens", "_law_joins", "_law_kept", "_law_side", "_law_first", "_law_base"] : List PySem.Str) ++ (["_law_orders", "_law_right", "WebError", "InvalidWeb", "InvalidLot", "MOST_THINGS", "MOST_ROWS", "BASE", "TURN", "PART", "GIVE", "JOIN"] : List PySem.Str)
theorem run (w : World) : HandSHeadRun.RunEq R (PySem.W.view R.prog [85]) hk ob 4000 loose w := by
  intro os
  kernel_rfl
def T : Tab := ⟨[(0, td0), (1, td1), (68, td68), (2, td2), (69, td69), (70, td70), (3, td3), (4, td4), (5, td5), (43, td43), (6, td6), (44, td44), (8, td8), (9, td9), (10, td10), (11, td11), (13, td13), (16, td16), (18, td18), (19, td19), (20, td20), (21, td21), (45, td45), (46, td46), (47, td47), (71, td71), (72, td72), (73, td73), (74, td74), (75, td75), (76, td76), (77, td77), (22, td22), (78, td78), (79, td79), (52, td52), (53, td53), (54, td54), (55, td55), (48, td48), (49, td49), (50, td50), (57, td57), (80, td80), (31, td31), (81, td81), (82, td82), (34, td34), (35, td35), (36, td36), (37, td37), (59, td59), (60, td60), (61, td61), (62, td62), (83, td83), (84, td84), (85, td85), (38, td38), (86, td86), (87, td87), (88, td88), (89, td89)], [("BASE", (.str "base")), ("GIVE", (.str "give")), ("JOIN", (.str "join")), ("MOST_ROWS", (.int 1000)), ("MOST_THINGS", (.int 6)), ("PART", (.str "part")), ("TURN", (.str "turn"))]⟩
theorem ck0 : chkSs (T.cc td0) td0.body (defScope (top 5)) (defBody (top 5)) = true := by decide +kernel
theorem ck1 : chkSs (T.cc td1) td1.body (defScope (top 6)) (defBody (top 6)) = true := by decide +kernel
theorem ck68 : chkSs (T.cc td68) td68.body (defScope (top 7)) (defBody (top 7)) = true := by decide +kernel
theorem ck2 : chkSs (T.cc td2) td2.body (defScope (top 8)) (defBody (top 8)) = true := by decide +kernel
theorem ck69 : chkSs (T.cc td69) td69.body (defScope (top 9)) (defBody (top 9)) = true := by decide +kernel
theorem ck70 : chkSs (T.cc td70) td70.body (defScope (top 10)) (defBody (top 10)) = true := by decide +kernel
theorem ck3 : chkSs (T.cc td3) td3.body (defScope (top 11)) (defBody (top 11)) = true := by decide +kernel
theorem ck4 : chkSs (T.cc td4) td4.body (defScope (top 14)) (defBody (top 14)) = true := by decide +kernel
theorem ck5 : chkSs (T.cc td5) td5.body (defScope (top 15)) (defBody (top 15)) = true := by decide +kernel
theorem ck43 : chkSs (T.cc td43) td43.body (defScope (top 16)) (defBody (top 16)) = true := by decide +kernel
theorem ck6 : chkSs (T.cc td6) td6.body (defScope (top 17)) (defBody (top 17)) = true := by decide +kernel
theorem ck44 : chkSs (T.cc td44) td44.body (defScope (top 18)) (defBody (top 18)) = true := by decide +kernel
theorem ck8 : chkSs (T.cc td8) td8.body (defScope (top 19)) (defBody (top 19)) = true := by decide +kernel
theorem ck9 : chkSs (T.cc td9) td9.body (defScope (top 20)) (defBody (top 20)) = true := by decide +kernel
theorem ck10 : chkSs (T.cc td10) td10.body (defScope (top 21)) (defBody (top 21)) = true := by decide +kernel
theorem ck11 : chkSs (T.cc td11) td11.body (defScope (top 22)) (defBody (top 22)) = true := by decide +kernel
theorem ck13 : chkSs (T.cc td13) td13.body (defScope (top 23)) (defBody (top 23)) = true := by decide +kernel
theorem ck16 : chkSs (T.cc td16) td16.body (defScope (top 24)) (defBody (top 24)) = true := by decide +kernel
theorem ck18 : chkSs (T.cc td18) td18.body (defScope (top 25)) (defBody (top 25)) = true := by decide +kernel
theorem ck19 : chkSs (T.cc td19) td19.body (defScope (top 26)) (defBody (top 26)) = true := by decide +kernel
theorem ck20 : chkSs (T.cc td20) td20.body (defScope (top 27)) (defBody (top 27)) = true := by decide +kernel
theorem ck21 : chkSs (T.cc td21) td21.body (defScope (top 28)) (defBody (top 28)) = true := by decide +kernel
theorem ck45 : chkSs (T.cc td45) td45.body (defScope (top 30)) (defBody (top 30)) = true := by decide +kernel
theorem ck46 : chkSs (T.cc td46) td46.body (defScope (top 31)) (defBody (top 31)) = true := by decide +kernel
theorem ck47 : chkSs (T.cc td47) td47.body (defScope (top 32)) (defBody (top 32)) = true := by decide +kernel
theorem ck71 : chkSs (T.cc td71) td71.body (defScope (top 40)) (defBody (top 40)) = true := by decide +kernel
theorem ck72 : chkSs (T.cc td72) td72.body (defScope (top 41)) (defBody (top 41)) = true := by decide +kernel
theorem ck73 : chkSs (T.cc td73) td73.body (defScope (top 42)) (defBody (top 42)) = true := by decide +kernel
theorem ck74 : chkSs (T.cc td74) td74.body (defScope (top 43)) (defBody (top 43)) = true := by decide +kernel
theorem ck75 : chkSs (T.cc td75) td75.body (defScope (top 44)) (defBody (top 44)) = true := by decide +kernel
theorem ck76 : chkSs (T.cc td76) td76.body (defScope (top 45)) (defBody (top 45)) = true := by decide +kernel
theorem ck77 : chkSs (T.cc td77) td77.body (defScope (top 46)) (defBody (top 46)) = true := by decide +kernel
theorem ck22 : chkSs (T.cc td22) td22.body (defScope (top 48)) (defBody (top 48)) = true := by decide +kernel
theorem ck78 : chkSs (T.cc td78) td78.body (defScope (top 50)) (defBody (top 50)) = true := by decide +kernel
theorem ck79 : chkSs (T.cc td79) td79.body (defScope (top 51)) (defBody (top 51)) = true := by decide +kernel
theorem ck52 : chkSs (T.cc td52) td52.body (defScope (top 53)) (defBody (top 53)) = true := by decide +kernel
theorem ck53 : chkSs (T.cc td53) td53.body (defScope (top 54)) (defBody (top 54)) = true := by decide +kernel
theorem ck54 : chkSs (T.cc td54) td54.body (defScope (top 55)) (defBody (top 55)) = true := by decide +kernel
theorem ck55 : chkSs (T.cc td55) td55.body (defScope (top 56)) (defBody (top 56)) = true := by decide +kernel
theorem ck48 : chkSs (T.cc td48) td48.body (defScope (top 58)) (defBody (top 58)) = true := by decide +kernel
theorem ck49 : chkSs (T.cc td49) td49.body (defScope (top 59)) (defBody (top 59)) = true := by decide +kernel
theorem ck50 : chkSs (T.cc td50) td50.body (defScope (top 60)) (defBody (top 60)) = true := by decide +kernel
theorem ck57 : chkSs (T.cc td57) td57.body (defScope (top 62)) (defBody (top 62)) = true := by decide +kernel
theorem ck80 : chkSs (T.cc td80) td80.body (defScope (top 64)) (defBody (top 64)) = true := by decide +kernel
theorem ck31 : chkSs (T.cc td31) td31.body (defScope (top 66)) (defBody (top 66)) = true := by decide +kernel
theorem ck81 : chkSs (T.cc td81) td81.body (defScope (top 67)) (defBody (top 67)) = true := by decide +kernel
theorem ck82 : chkSs (T.cc td82) td82.body (defScope (top 68)) (defBody (top 68)) = true := by decide +kernel
theorem ck34 : chkSs (T.cc td34) td34.body (defScope (top 70)) (defBody (top 70)) = true := by decide +kernel
theorem ck35 : chkSs (T.cc td35) td35.body (defScope (top 71)) (defBody (top 71)) = true := by decide +kernel
theorem ck36 : chkSs (T.cc td36) td36.body (defScope (top 72)) (defBody (top 72)) = true := by decide +kernel
theorem ck37 : chkSs (T.cc td37) td37.body (defScope (top 73)) (defBody (top 73)) = true := by decide +kernel
theorem ck59 : chkSs (T.cc td59) td59.body (defScope (top 74)) (defBody (top 74)) = true := by decide +kernel
theorem ck60 : chkSs (T.cc td60) td60.body (defScope (top 75)) (defBody (top 75)) = true := by decide +kernel
theorem ck61 : chkSs (T.cc td61) td61.body (defScope (top 76)) (defBody (top 76)) = true := by decide +kernel
theorem ck62 : chkSs (T.cc td62) td62.body (defScope (top 77)) (defBody (top 77)) = true := by decide +kernel
theorem ck83 : chkSs (T.cc td83) td83.body (defScope (top 78)) (defBody (top 78)) = true := by decide +kernel
theorem ck84 : chkSs (T.cc td84) td84.body (defScope (top 79)) (defBody (top 79)) = true := by decide +kernel
theorem ck85 : chkSs (T.cc td85) td85.body (defScope (top 80)) (defBody (top 80)) = true := by decide +kernel
theorem ck38 : chkSs (T.cc td38) td38.body (defScope (top 81)) (defBody (top 81)) = true := by decide +kernel
theorem ck86 : chkSs (T.cc td86) td86.body (defScope (top 82)) (defBody (top 82)) = true := by decide +kernel
theorem ck87 : chkSs (T.cc td87) td87.body (defScope (top 83)) (defBody (top 83)) = true := by decide +kernel
theorem ck88 : chkSs (T.cc td88) td88.body (defScope (top 84)) (defBody (top 84)) = true := by decide +kernel
theorem ck89 : chkSs (T.cc td89) td89.body (defScope (top 85)) (defBody (top 85)) = true := by decide +kernel
theorem d0 {K : PySem.W.Frag} {h : Heap} {mg : Str → Option Value} (X : K.In h) (G : h.Ns mainGlobals mg) (c : He.SaysD fa fn K) : TDef T K mg 0 td0 :=
  tdef_of X G c (st := top 5) (i := 0) (j := 0) rfl rfl (by decide +kernel) ck0 (fun _ _ _ _ _ _ us hl => match us, hl with | [_], _ => rfl) (trivial)
theorem d1 {K : PySem.W.Frag} {h : Heap} {mg : Str → Option Value} (X : K.In h) (G : h.Ns mainGlobals mg) (c : He.SaysD fa fn K) : TDef T K mg 1 td1 :=
  tdef_of X G c (st := top 6) (i := 1) (j := 1) rfl rfl (by decide +kernel) ck1 (fun _ _ _ _ _ _ us hl => match us, hl with | [_, _, _], _ => rfl) (trivial)
theorem d68 {K : PySem.W.Frag} {h : Heap} {mg : Str → Option Value} (X : K.In h) (G : h.Ns mainGlobals mg) (c : He.SaysD fa fn K) : TDef T K mg 68 td68 :=
  tdef_of X G c (st := top 7) (i := 2) (j := 2) rfl rfl (by decide +kernel) ck68 (fun _ _ _ _ _ _ us hl => match us, hl with | [_], _ => rfl) (trivial)
theorem d2 {K : PySem.W.Frag} {h : Heap} {mg : Str → Option Value} (X : K.In h) (G : h.Ns mainGlobals mg) (c : He.SaysD fa fn K) : TDef T K mg 2 td2 :=
  tdef_of X G c (st := top 8) (i := 3) (j := 3) rfl rfl (by decide +kernel) ck2 (fun _ _ _ _ _ _ us hl => match us, hl with | [_, _], _ => rfl) (trivial)
theorem d69 {K : PySem.W.Frag} {h : Heap} {mg : Str → Option Value} (X : K.In h) (G : h.Ns mainGlobals mg) (c : He.SaysD fa fn K) : TDef T K mg 69 td69 :=
  tdef_of X G c (st := top 9) (i := 4) (j := 4) rfl rfl (by decide +kernel) ck69 (fun _ _ _ _ _ _ us hl => match us, hl with | [_, _, _], _ => rfl) (trivial)
theorem d70 {K : PySem.W.Frag} {h : Heap} {mg : Str → Option Value} (X : K.In h) (G : h.Ns mainGlobals mg) (c : He.SaysD fa fn K) : TDef T K mg 70 td70 :=
  tdef_of X G c (st := top 10) (i := 5) (j := 5) rfl rfl (by decide +kernel) ck70 (fun _ _ _ _ _ _ us hl => match us, hl with | [_, _], _ => rfl) (trivial)
theorem d3 {K : PySem.W.Frag} {h : Heap} {mg : Str → Option Value} (X : K.In h) (G : h.Ns mainGlobals mg) (c : He.SaysD fa fn K) : TDef T K mg 3 td3 :=
  tdef_of X G c (st := top 11) (i := 6) (j := 6) rfl rfl (by decide +kernel) ck3 (fun _ _ _ _ _ _ us hl => match us, hl with | [_], _ => rfl) (trivial)
theorem d4 {K : PySem.W.Frag} {h : Heap} {mg : Str → Option Value} (X : K.In h) (G : h.Ns mainGlobals mg) (c : He.SaysD fa fn K) : TDef T K mg 4 td4 :=
  tdef_of X G c (st := top 14) (i := 7) (j := 7) rfl rfl (by decide +kernel) ck4 (fun _ _ _ _ _ _ us hl => match us, hl with | [_, _], _ => rfl) (trivial)
theorem d5 {K : PySem.W.Frag} {h : Heap} {mg : Str → Option Value} (X : K.In h) (G : h.Ns mainGlobals mg) (c : He.SaysD fa fn K) : TDef T K mg 5 td5 :=
  tdef_of X G c (st := top 15) (i := 8) (j := 8) rfl rfl (by decide +kernel) ck5 (fun _ _ _ _ _ _ us hl => match us, hl with | [_, _], _ => rfl) (trivial)
theorem d43 {K : PySem.W.Frag} {h : Heap} {mg : Str → Option Value} (X : K.In h) (G : h.Ns mainGlobals mg) (c : He.SaysD fa fn K) : TDef T K mg 43 td43 :=
  tdef_of X G c (st := top 16) (i := 9) (j := 9) rfl rfl (by decide +kernel) ck43 (fun _ _ _ _ _ _ us hl => match us, hl with | [_, _], _ => rfl) (trivial)
theorem d6 {K : PySem.W.Frag} {h : Heap} {mg : Str → Option Value} (X : K.In h) (G : h.Ns mainGlobals mg) (c : He.SaysD fa fn K) : TDef T K mg 6 td6 :=
  tdef_of X G c (st := top 17) (i := 10) (j := 10) rfl rfl (by decide +kernel) ck6 (fun _ _ _ _ _ _ us hl => match us, hl with | [_], _ => rfl) (trivial)
theorem d44 {K : PySem.W.Frag} {h : Heap} {mg : Str → Option Value} (X : K.In h) (G : h.Ns mainGlobals mg) (c : He.SaysD fa fn K) : TDef T K mg 44 td44 :=
  tdef_of X G c (st := top 18) (i := 11) (j := 11) rfl rfl (by decide +kernel) ck44 (fun _ _ _ _ _ _ us hl => match us, hl with | [_, _], _ => rfl) (trivial)
theorem d8 {K : PySem.W.Frag} {h : Heap} {mg : Str → Option Value} (X : K.In h) (G : h.Ns mainGlobals mg) (c : He.SaysD fa fn K) : TDef T K mg 8 td8 :=
  tdef_of X G c (st := top 19) (i := 12) (j := 12) rfl rfl (by decide +kernel) ck8 (fun _ _ _ _ _ _ us hl => match us, hl with | [_, _], _ => rfl) (trivial)
theorem d9 {K : PySem.W.Frag} {h : Heap} {mg : Str → Option Value} (X : K.In h) (G : h.Ns mainGlobals mg) (c : He.SaysD fa fn K) : TDef T K mg 9 td9 :=
  tdef_of X G c (st := top 20) (i := 13) (j := 13) rfl rfl (by decide +kernel) ck9 (fun _ _ _ _ _ _ us hl => match us, hl with | [_], _ => rfl) (trivial)
theorem d10 {K : PySem.W.Frag} {h : Heap} {mg : Str → Option Value} (X : K.In h) (G : h.Ns mainGlobals mg) (c : He.SaysD fa fn K) : TDef T K mg 10 td10 :=
  tdef_of X G c (st := top 21) (i := 14) (j := 14) rfl rfl (by decide +kernel) ck10 (fun _ _ _ _ _ _ us hl => match us, hl with | [_], _ => rfl) (trivial)
theorem d11 {K : PySem.W.Frag} {h : Heap} {mg : Str → Option Value} (X : K.In h) (G : h.Ns mainGlobals mg) (c : He.SaysD fa fn K) : TDef T K mg 11 td11 :=
  tdef_of X G c (st := top 22) (i := 15) (j := 15) rfl rfl (by decide +kernel) ck11 (fun _ _ _ _ _ _ us hl => match us, hl with | [_, _], _ => rfl) (trivial)
theorem d13 {K : PySem.W.Frag} {h : Heap} {mg : Str → Option Value} (X : K.In h) (G : h.Ns mainGlobals mg) (c : He.SaysD fa fn K) : TDef T K mg 13 td13 :=
  tdef_of X G c (st := top 23) (i := 16) (j := 16) rfl rfl (by decide +kernel) ck13 (fun _ _ _ _ _ _ us hl => match us, hl with | [_, _], _ => rfl) (trivial)
theorem d16 {K : PySem.W.Frag} {h : Heap} {mg : Str → Option Value} (X : K.In h) (G : h.Ns mainGlobals mg) (c : He.SaysD fa fn K) : TDef T K mg 16 td16 :=
  tdef_of X G c (st := top 24) (i := 17) (j := 17) rfl rfl (by decide +kernel) ck16 (fun _ _ _ _ _ _ us hl => match us, hl with | [_], _ => rfl) (trivial)
theorem d18 {K : PySem.W.Frag} {h : Heap} {mg : Str → Option Value} (X : K.In h) (G : h.Ns mainGlobals mg) (c : He.SaysD fa fn K) : TDef T K mg 18 td18 :=
  tdef_of X G c (st := top 25) (i := 18) (j := 18) rfl rfl (by decide +kernel) ck18 (fun _ _ _ _ _ _ us hl => match us, hl with | [_], _ => rfl) (trivial)
theorem d19 {K : PySem.W.Frag} {h : Heap} {mg : Str → Option Value} (X : K.In h) (G : h.Ns mainGlobals mg) (c : He.SaysD fa fn K) : TDef T K mg 19 td19 :=
  tdef_of X G c (st := top 26) (i := 19) (j := 19) rfl rfl (by decide +kernel) ck19 (fun _ _ _ _ _ _ us hl => match us, hl with | [_], _ => rfl) (trivial)
theorem d20 {K : PySem.W.Frag} {h : Heap} {mg : Str → Option Value} (X : K.In h) (G : h.Ns mainGlobals mg) (c : He.SaysD fa fn K) : TDef T K mg 20 td20 :=
  tdef_of X G c (st := top 27) (i := 20) (j := 20) rfl rfl (by decide +kernel) ck20 (fun _ _ _ _ _ _ us hl => match us, hl with | [_], _ => rfl) (trivial)
theorem d21 {K : PySem.W.Frag} {h : Heap} {mg : Str → Option Value} (X : K.In h) (G : h.Ns mainGlobals mg) (c : He.SaysD fa fn K) : TDef T K mg 21 td21 :=
  tdef_of X G c (st := top 28) (i := 21) (j := 21) rfl rfl (by decide +kernel) ck21 (fun _ _ _ _ _ _ us hl => match us, hl with | [_, _], _ => rfl) (trivial)
theorem d45 {K : PySem.W.Frag} {h : Heap} {mg : Str → Option Value} (X : K.In h) (G : h.Ns mainGlobals mg) (c : He.SaysD fa fn K) : TDef T K mg 45 td45 :=
  tdef_of X G c (st := top 30) (i := 22) (j := 22) rfl rfl (by decide +kernel) ck45 (fun _ _ _ _ _ _ us hl => match us, hl with | [_, _, _], _ => rfl) (trivial)
theorem d46 {K : PySem.W.Frag} {h : Heap} {mg : Str → Option Value} (X : K.In h) (G : h.Ns mainGlobals mg) (c : He.SaysD fa fn K) : TDef T K mg 46 td46 :=
  tdef_of X G c (st := top 31) (i := 23) (j := 23) rfl rfl (by decide +kernel) ck46 (fun _ _ _ _ _ _ us hl => match us, hl with | [_, _, _], _ => rfl) (trivial)
theorem d47 {K : PySem.W.Frag} {h : Heap} {mg : Str → Option Value} (X : K.In h) (G : h.Ns mainGlobals mg) (c : He.SaysD fa fn K) : TDef T K mg 47 td47 :=
  tdef_of X G c (st := top 32) (i := 24) (j := 24) rfl rfl (by decide +kernel) ck47 (fun _ _ _ _ _ _ us hl => match us, hl with | [_, _, _, _], _ => rfl) (trivial)
theorem d71 {K : PySem.W.Frag} {h : Heap} {mg : Str → Option Value} (X : K.In h) (G : h.Ns mainGlobals mg) (c : He.SaysD fa fn K) : TDef T K mg 71 td71 :=
  tdef_of X G c (st := top 40) (i := 25) (j := 25) rfl rfl (by decide +kernel) ck71 (fun _ _ _ _ _ _ us hl => match us, hl with | [_], _ => rfl) (trivial)
theorem d72 {K : PySem.W.Frag} {h : Heap} {mg : Str → Option Value} (X : K.In h) (G : h.Ns mainGlobals mg) (c : He.SaysD fa fn K) : TDef T K mg 72 td72 :=
  tdef_of X G c (st := top 41) (i := 26) (j := 26) rfl rfl (by decide +kernel) ck72 (fun _ _ _ _ _ _ us hl => match us, hl with | [_, _], _ => rfl) (trivial)
theorem d73 {K : PySem.W.Frag} {h : Heap} {mg : Str → Option Value} (X : K.In h) (G : h.Ns mainGlobals mg) (c : He.SaysD fa fn K) : TDef T K mg 73 td73 :=
  tdef_of X G c (st := top 42) (i := 27) (j := 27) rfl rfl (by decide +kernel) ck73 (fun _ _ _ _ _ _ us hl => match us, hl with | [_, _], _ => rfl) (trivial)
theorem d74 {K : PySem.W.Frag} {h : Heap} {mg : Str → Option Value} (X : K.In h) (G : h.Ns mainGlobals mg) (c : He.SaysD fa fn K) : TDef T K mg 74 td74 :=
  tdef_of X G c (st := top 43) (i := 28) (j := 28) rfl rfl (by decide +kernel) ck74 (fun _ _ _ _ _ _ us hl => match us, hl with | [_, _, _], _ => rfl) (trivial)
theorem d75 {K : PySem.W.Frag} {h : Heap} {mg : Str → Option Value} (X : K.In h) (G : h.Ns mainGlobals mg) (c : He.SaysD fa fn K) : TDef T K mg 75 td75 :=
  tdef_of X G c (st := top 44) (i := 29) (j := 29) rfl rfl (by decide +kernel) ck75 (fun _ _ _ _ _ _ us hl => match us, hl with | [_, _], _ => rfl) (trivial)
theorem d76 {K : PySem.W.Frag} {h : Heap} {mg : Str → Option Value} (X : K.In h) (G : h.Ns mainGlobals mg) (c : He.SaysD fa fn K) : TDef T K mg 76 td76 :=
  tdef_of X G c (st := top 45) (i := 30) (j := 30) rfl rfl (by decide +kernel) ck76 (fun _ _ _ _ _ _ us hl => match us, hl with | [_, _, _], _ => rfl) (trivial)
theorem d77 {K : PySem.W.Frag} {h : Heap} {mg : Str → Option Value} (X : K.In h) (G : h.Ns mainGlobals mg) (c : He.SaysD fa fn K) : TDef T K mg 77 td77 :=
  tdef_of X G c (st := top 46) (i := 31) (j := 31) rfl rfl (by decide +kernel) ck77 (fun _ _ _ _ _ _ us hl => match us, hl with | [_, _], _ => rfl) (trivial)
theorem d22 {K : PySem.W.Frag} {h : Heap} {mg : Str → Option Value} (X : K.In h) (G : h.Ns mainGlobals mg) (c : He.SaysD fa fn K) : TDef T K mg 22 td22 :=
  tdef_of X G c (st := top 48) (i := 32) (j := 32) rfl rfl (by decide +kernel) ck22 (fun _ _ _ _ _ _ us hl => match us, hl with | [_], _ => rfl) (trivial)
theorem d78 {K : PySem.W.Frag} {h : Heap} {mg : Str → Option Value} (X : K.In h) (G : h.Ns mainGlobals mg) (c : He.SaysD fa fn K) : TDef T K mg 78 td78 :=
  tdef_of X G c (st := top 50) (i := 33) (j := 33) rfl rfl (by decide +kernel) ck78 (fun _ _ _ _ _ _ us hl => match us, hl with | [_], _ => rfl) (⟨fun _ _ _ _ _ _ us ws hl hm => match us, hl, ws, hm with | [], _, [_], _ => rfl, trivial⟩)
theorem d79 {K : PySem.W.Frag} {h : Heap} {mg : Str → Option Value} (X : K.In h) (G : h.Ns mainGlobals mg) (c : He.SaysD fa fn K) : TDef T K mg 79 td79 :=
  tdef_of X G c (st := top 51) (i := 34) (j := 34) rfl rfl (by decide +kernel) ck79 (fun _ _ _ _ _ _ us hl => match us, hl with | [_, _], _ => rfl) (trivial)
theorem d52 {K : PySem.W.Frag} {h : Heap} {mg : Str → Option Value} (X : K.In h) (G : h.Ns mainGlobals mg) (c : He.SaysD fa fn K) : TDef T K mg 52 td52 :=
  tdef_of X G c (st := top 53) (i := 35) (j := 35) rfl rfl (by decide +kernel) ck52 (fun _ _ _ _ _ _ us hl => match us, hl with | [_, _, _, _], _ => rfl) (trivial)
theorem d53 {K : PySem.W.Frag} {h : Heap} {mg : Str → Option Value} (X : K.In h) (G : h.Ns mainGlobals mg) (c : He.SaysD fa fn K) : TDef T K mg 53 td53 :=
  tdef_of X G c (st := top 54) (i := 36) (j := 36) rfl rfl (by decide +kernel) ck53 (fun _ _ _ _ _ _ us hl => match us, hl with | [_, _], _ => rfl) (trivial)
theorem d54 {K : PySem.W.Frag} {h : Heap} {mg : Str → Option Value} (X : K.In h) (G : h.Ns mainGlobals mg) (c : He.SaysD fa fn K) : TDef T K mg 54 td54 :=
  tdef_of X G c (st := top 55) (i := 37) (j := 37) rfl rfl (by decide +kernel) ck54 (fun _ _ _ _ _ _ us hl => match us, hl with | [_, _, _], _ => rfl) (trivial)
theorem d55 {K : PySem.W.Frag} {h : Heap} {mg : Str → Option Value} (X : K.In h) (G : h.Ns mainGlobals mg) (c : He.SaysD fa fn K) : TDef T K mg 55 td55 :=
  tdef_of X G c (st := top 56) (i := 38) (j := 38) rfl rfl (by decide +kernel) ck55 (fun _ _ _ _ _ _ us hl => match us, hl with | [_, _, _, _, _], _ => rfl) (trivial)
theorem d48 {K : PySem.W.Frag} {h : Heap} {mg : Str → Option Value} (X : K.In h) (G : h.Ns mainGlobals mg) (c : He.SaysD fa fn K) : TDef T K mg 48 td48 :=
  tdef_of X G c (st := top 58) (i := 39) (j := 39) rfl rfl (by decide +kernel) ck48 (fun _ _ _ _ _ _ us hl => match us, hl with | [_, _, _], _ => rfl) (trivial)
theorem d49 {K : PySem.W.Frag} {h : Heap} {mg : Str → Option Value} (X : K.In h) (G : h.Ns mainGlobals mg) (c : He.SaysD fa fn K) : TDef T K mg 49 td49 :=
  tdef_of X G c (st := top 59) (i := 40) (j := 40) rfl rfl (by decide +kernel) ck49 (fun _ _ _ _ _ _ us hl => match us, hl with | [_, _, _, _], _ => rfl) (trivial)
theorem d50 {K : PySem.W.Frag} {h : Heap} {mg : Str → Option Value} (X : K.In h) (G : h.Ns mainGlobals mg) (c : He.SaysD fa fn K) : TDef T K mg 50 td50 :=
  tdef_of X G c (st := top 60) (i := 41) (j := 41) rfl rfl (by decide +kernel) ck50 (fun _ _ _ _ _ _ us hl => match us, hl with | [_, _, _, _], _ => rfl) (trivial)
theorem d57 {K : PySem.W.Frag} {h : Heap} {mg : Str → Option Value} (X : K.In h) (G : h.Ns mainGlobals mg) (c : He.SaysD fa fn K) : TDef T K mg 57 td57 :=
  tdef_of X G c (st := top 62) (i := 42) (j := 42) rfl rfl (by decide +kernel) ck57 (fun _ _ _ _ _ _ us hl => match us, hl with | [_, _, _, _, _], _ => rfl) (trivial)
theorem d80 {K : PySem.W.Frag} {h : Heap} {mg : Str → Option Value} (X : K.In h) (G : h.Ns mainGlobals mg) (c : He.SaysD fa fn K) : TDef T K mg 80 td80 :=
  tdef_of X G c (st := top 64) (i := 43) (j := 43) rfl rfl (by decide +kernel) ck80 (fun _ _ _ _ _ _ us hl => match us, hl with | [_], _ => rfl) (trivial)
theorem d31 {K : PySem.W.Frag} {h : Heap} {mg : Str → Option Value} (X : K.In h) (G : h.Ns mainGlobals mg) (c : He.SaysD fa fn K) : TDef T K mg 31 td31 :=
  tdef_of X G c (st := top 66) (i := 44) (j := 44) rfl rfl (by decide +kernel) ck31 (fun _ _ _ _ _ _ us hl => match us, hl with | [_], _ => rfl) (trivial)
theorem d81 {K : PySem.W.Frag} {h : Heap} {mg : Str → Option Value} (X : K.In h) (G : h.Ns mainGlobals mg) (c : He.SaysD fa fn K) : TDef T K mg 81 td81 :=
  tdef_of X G c (st := top 67) (i := 45) (j := 45) rfl rfl (by decide +kernel) ck81 (fun _ _ _ _ _ _ us hl => match us, hl with | [_], _ => rfl) (trivial)
theorem d82 {K : PySem.W.Frag} {h : Heap} {mg : Str → Option Value} (X : K.In h) (G : h.Ns mainGlobals mg) (c : He.SaysD fa fn K) : TDef T K mg 82 td82 :=
  tdef_of X G c (st := top 68) (i := 46) (j := 46) rfl rfl (by decide +kernel) ck82 (fun _ _ _ _ _ _ us hl => match us, hl with | [_], _ => rfl) (trivial)
theorem d34 {K : PySem.W.Frag} {h : Heap} {mg : Str → Option Value} (X : K.In h) (G : h.Ns mainGlobals mg) (c : He.SaysD fa fn K) : TDef T K mg 34 td34 :=
  tdef_of X G c (st := top 70) (i := 47) (j := 47) rfl rfl (by decide +kernel) ck34 (fun _ _ _ _ _ _ us hl => match us, hl with | [_, _], _ => rfl) (trivial)
theorem d35 {K : PySem.W.Frag} {h : Heap} {mg : Str → Option Value} (X : K.In h) (G : h.Ns mainGlobals mg) (c : He.SaysD fa fn K) : TDef T K mg 35 td35 :=
  tdef_of X G c (st := top 71) (i := 48) (j := 48) rfl rfl (by decide +kernel) ck35 (fun _ _ _ _ _ _ us hl => match us, hl with | [_, _], _ => rfl) (trivial)
theorem d36 {K : PySem.W.Frag} {h : Heap} {mg : Str → Option Value} (X : K.In h) (G : h.Ns mainGlobals mg) (c : He.SaysD fa fn K) : TDef T K mg 36 td36 :=
  tdef_of X G c (st := top 72) (i := 49) (j := 49) rfl rfl (by decide +kernel) ck36 (fun _ _ _ _ _ _ us hl => match us, hl with | [_, _], _ => rfl) (trivial)
theorem d37 {K : PySem.W.Frag} {h : Heap} {mg : Str → Option Value} (X : K.In h) (G : h.Ns mainGlobals mg) (c : He.SaysD fa fn K) : TDef T K mg 37 td37 :=
  tdef_of X G c (st := top 73) (i := 50) (j := 50) rfl rfl (by decide +kernel) ck37 (fun _ _ _ _ _ _ us hl => match us, hl with | [_, _], _ => rfl) (trivial)
theorem d59 {K : PySem.W.Frag} {h : Heap} {mg : Str → Option Value} (X : K.In h) (G : h.Ns mainGlobals mg) (c : He.SaysD fa fn K) : TDef T K mg 59 td59 :=
  tdef_of X G c (st := top 74) (i := 51) (j := 51) rfl rfl (by decide +kernel) ck59 (fun _ _ _ _ _ _ us hl => match us, hl with | [_, _, _], _ => rfl) (trivial)
theorem d60 {K : PySem.W.Frag} {h : Heap} {mg : Str → Option Value} (X : K.In h) (G : h.Ns mainGlobals mg) (c : He.SaysD fa fn K) : TDef T K mg 60 td60 :=
  tdef_of X G c (st := top 75) (i := 52) (j := 52) rfl rfl (by decide +kernel) ck60 (fun _ _ _ _ _ _ us hl => match us, hl with | [_, _, _], _ => rfl) (trivial)
theorem d61 {K : PySem.W.Frag} {h : Heap} {mg : Str → Option Value} (X : K.In h) (G : h.Ns mainGlobals mg) (c : He.SaysD fa fn K) : TDef T K mg 61 td61 :=
  tdef_of X G c (st := top 76) (i := 53) (j := 53) rfl rfl (by decide +kernel) ck61 (fun _ _ _ _ _ _ us hl => match us, hl with | [_], _ => rfl) (trivial)
theorem d62 {K : PySem.W.Frag} {h : Heap} {mg : Str → Option Value} (X : K.In h) (G : h.Ns mainGlobals mg) (c : He.SaysD fa fn K) : TDef T K mg 62 td62 :=
  tdef_of X G c (st := top 77) (i := 54) (j := 54) rfl rfl (by decide +kernel) ck62 (fun _ _ _ _ _ _ us hl => match us, hl with | [_, _, _, _], _ => rfl) (trivial)
theorem d83 {K : PySem.W.Frag} {h : Heap} {mg : Str → Option Value} (X : K.In h) (G : h.Ns mainGlobals mg) (c : He.SaysD fa fn K) : TDef T K mg 83 td83 :=
  tdef_of X G c (st := top 78) (i := 55) (j := 55) rfl rfl (by decide +kernel) ck83 (fun _ _ _ _ _ _ us hl => match us, hl with | [_, _], _ => rfl) (trivial)
theorem d84 {K : PySem.W.Frag} {h : Heap} {mg : Str → Option Value} (X : K.In h) (G : h.Ns mainGlobals mg) (c : He.SaysD fa fn K) : TDef T K mg 84 td84 :=
  tdef_of X G c (st := top 79) (i := 56) (j := 56) rfl rfl (by decide +kernel) ck84 (fun _ _ _ _ _ _ us hl => match us, hl with | [_, _], _ => rfl) (trivial)
theorem d85 {K : PySem.W.Frag} {h : Heap} {mg : Str → Option Value} (X : K.In h) (G : h.Ns mainGlobals mg) (c : He.SaysD fa fn K) : TDef T K mg 85 td85 :=
  tdef_of X G c (st := top 80) (i := 57) (j := 57) rfl rfl (by decide +kernel) ck85 (fun _ _ _ _ _ _ us hl => match us, hl with | [_, _, _, _], _ => rfl) (trivial)
theorem d38 {K : PySem.W.Frag} {h : Heap} {mg : Str → Option Value} (X : K.In h) (G : h.Ns mainGlobals mg) (c : He.SaysD fa fn K) : TDef T K mg 38 td38 :=
  tdef_of X G c (st := top 81) (i := 58) (j := 58) rfl rfl (by decide +kernel) ck38 (fun _ _ _ _ _ _ us hl => match us, hl with | [_], _ => rfl) (trivial)
theorem d86 {K : PySem.W.Frag} {h : Heap} {mg : Str → Option Value} (X : K.In h) (G : h.Ns mainGlobals mg) (c : He.SaysD fa fn K) : TDef T K mg 86 td86 :=
  tdef_of X G c (st := top 82) (i := 59) (j := 59) rfl rfl (by decide +kernel) ck86 (fun _ _ _ _ _ _ us hl => match us, hl with | [_], _ => rfl) (trivial)
theorem d87 {K : PySem.W.Frag} {h : Heap} {mg : Str → Option Value} (X : K.In h) (G : h.Ns mainGlobals mg) (c : He.SaysD fa fn K) : TDef T K mg 87 td87 :=
  tdef_of X G c (st := top 83) (i := 60) (j := 60) rfl rfl (by decide +kernel) ck87 (fun _ _ _ _ _ _ us hl => match us, hl with | [_], _ => rfl) (trivial)
theorem d88 {K : PySem.W.Frag} {h : Heap} {mg : Str → Option Value} (X : K.In h) (G : h.Ns mainGlobals mg) (c : He.SaysD fa fn K) : TDef T K mg 88 td88 :=
  tdef_of X G c (st := top 84) (i := 61) (j := 61) rfl rfl (by decide +kernel) ck88 (fun _ _ _ _ _ _ us hl => match us, hl with | [_], _ => rfl) (trivial)
theorem d89 {K : PySem.W.Frag} {h : Heap} {mg : Str → Option Value} (X : K.In h) (G : h.Ns mainGlobals mg) (c : He.SaysD fa fn K) : TDef T K mg 89 td89 :=
  tdef_of X G c (st := top 85) (i := 62) (j := 62) rfl rfl (by decide +kernel) ck89 (fun _ _ _ _ _ _ us hl => match us, hl with | [_], _ => rfl) (trivial)
theorem all {K : PySem.W.Frag} {h : Heap} {mg : Str → Option Value} (X : K.In h) (G : h.Ns mainGlobals mg) (c : He.SaysD fa fn K) : AllT T K mg T.tds := ⟨d0 X G c, ⟨d1 X G c, ⟨d68 X G c, ⟨d2 X G c, ⟨d69 X G c, ⟨d70 X G c, ⟨d3 X G c, ⟨d4 X G c, ⟨d5 X G c, ⟨d43 X G c, ⟨d6 X G c, ⟨d44 X G c, ⟨d8 X G c, ⟨d9 X G c, ⟨d10 X G c, ⟨d11 X G c, ⟨d13 X G c, ⟨d16 X G c, ⟨d18 X G c, ⟨d19 X G c, ⟨d20 X G c, ⟨d21 X G c, ⟨d45 X G c, ⟨d46 X G c, ⟨d47 X G c, ⟨d71 X G c, ⟨d72 X G c, ⟨d73 X G c, ⟨d74 X G c, ⟨d75 X G c, ⟨d76 X G c, ⟨d77 X G c, ⟨d22 X G c, ⟨d78 X G c, ⟨d79 X G c, ⟨d52 X G c, ⟨d53 X G c, ⟨d54 X G c, ⟨d55 X G c, ⟨d48 X G c, ⟨d49 X G c, ⟨d50 X G c, ⟨d57 X G c, ⟨d80 X G c, ⟨d31 X G c, ⟨d81 X G c, ⟨d82 X G c, ⟨d34 X G c, ⟨d35 X G c, ⟨d36 X G c, ⟨d37 X G c, ⟨d59 X G c, ⟨d60 X G c, ⟨d61 X G c, ⟨d62 X G c, ⟨d83 X G c, ⟨d84 X G c, ⟨d85 X G c, ⟨d38 X G c, ⟨d86 X G c, ⟨d87 X G c, ⟨d88 X G c, ⟨d89 X G c, trivial⟩⟩⟩⟩⟩⟩⟩⟩⟩⟩⟩⟩⟩⟩⟩⟩⟩⟩⟩⟩⟩⟩⟩⟩⟩⟩⟩⟩⟩⟩⟩⟩⟩⟩⟩⟩⟩⟩⟩⟩⟩⟩⟩⟩⟩⟩⟩⟩⟩⟩⟩⟩⟩⟩⟩⟩⟩⟩⟩⟩⟩⟩⟩
theorem free {K : PySem.W.Frag} {h : Heap} {mg : Str → Option Value} (X : K.In h) (G : h.Ns mainGlobals mg) (c : He.SaysD fa fn K) : ∀ x ∈ builtinNames, mg x = none := by
  unfold builtinNames
  simp only [List.mem_cons, List.not_mem_nil, or_false, forall_eq_or_imp, forall_eq]
  exact ⟨He.free_ok X G (c.fact 63 rfl), He.free_ok X G (c.fact 64 rfl), He.free_ok X G (c.fact 65 rfl), He.free_ok X G (c.fact 66 rfl), He.free_ok X G (c.fact 67 rfl), He.free_ok X G (c.fact 68 rfl), He.free_ok X G (c.fact 69 rfl), He.free_ok X G (c.fact 70 rfl), He.free_ok X G (c.fact 71 rfl), He.free_ok X G (c.fact 72 rfl), He.free_ok X G (c.fact 73 rfl), He.free_ok X G (c.fact 74 rfl), He.free_ok X G (c.fact 75 rfl), He.free_ok X G (c.fact 76 rfl), He.free_ok X G (c.fact 77 rfl), He.free_ok X G (c.fact 78 rfl), He.free_ok X G (c.fact 79 rfl), He.free_ok X G (c.fact 80 rfl), He.free_ok X G (c.fact 81 rfl), He.free_ok X G (c.fact 82 rfl), He.free_ok X G (c.fact 83 rfl)⟩
theorem cons {K : PySem.W.Frag} {h : Heap} {mg : Str → Option Value} (X : K.In h) (G : h.Ns mainGlobals mg) (c : He.SaysD fa fn K) : ∀ p ∈ T.con, ∃ u v, mg p.1 = some u ∧ RelV v u ∧ ∀ ρ H, RepV K ρ H p.2 v := by
  unfold T
  simp only [List.mem_cons, List.not_mem_nil, or_false, forall_eq_or_imp, forall_eq]
  exact ⟨(let ⟨t, e⟩ := He.str_ok X G (c.fact 84 rfl); ⟨_, .str "base", e, ⟨t, rfl⟩, fun _ _ => .str _⟩), (let ⟨t, e⟩ := He.str_ok X G (c.fact 85 rfl); ⟨_, .str "give", e, ⟨t, rfl⟩, fun _ _ => .str _⟩), (let ⟨t, e⟩ := He.str_ok X G (c.fact 86 rfl); ⟨_, .str "join", e, ⟨t, rfl⟩, fun _ _ => .str _⟩), (let ⟨t, e⟩ := He.int_ok X G (c.fact 87 rfl); ⟨_, .int 1000, e, ⟨t, rfl⟩, fun _ _ => .int _⟩), (let ⟨t, e⟩ := He.int_ok X G (c.fact 88 rfl); ⟨_, .int 6, e, ⟨t, rfl⟩, fun _ _ => .int _⟩), (let ⟨t, e⟩ := He.str_ok X G (c.fact 89 rfl); ⟨_, .str "part", e, ⟨t, rfl⟩, fun _ _ => .str _⟩), (let ⟨t, e⟩ := He.str_ok X G (c.fact 90 rfl); ⟨_, .str "turn", e, ⟨t, rfl⟩, fun _ _ => .str _⟩)⟩
end Lawk27
set_option maxHeartbeats 0
namespace Lawk27
open PySem PySem.Spec PyProof.Rows L2 PyD
theorem h0 : H0 T.Φ := ⟨rfl⟩
theorem h1 : H1 T.Φ := ⟨rfl, h0⟩
theorem h2 : H2 T.Φ := ⟨rfl⟩
theorem h3 : H3 T.Φ := ⟨rfl⟩
theorem h4 : H4 T.Φ := ⟨rfl, h1, h2⟩
theorem h5 : H5 T.Φ := ⟨rfl, h3, h4⟩
theorem h10 : H10 T.Φ := ⟨rfl⟩
theorem h8 : H8 T.Φ := ⟨rfl, h10⟩
theorem h9 : H9 T.Φ := ⟨rfl, h8⟩
theorem h6 : H6 T.Φ := ⟨rfl, h1, h2, h5, h9⟩
theorem h11 : H11 T.Φ := ⟨rfl⟩
theorem h18 : H18 T.Φ := ⟨rfl⟩
theorem h19 : H19 T.Φ := ⟨rfl⟩
theorem h20 : H20 T.Φ := ⟨rfl, h10, h18⟩
theorem h21 : H21 T.Φ := ⟨rfl, h20⟩
theorem h13 : H13 T.Φ := ⟨rfl, h18, h19, h21⟩
theorem h16 : H16 T.Φ := ⟨rfl, h10⟩
theorem h22 : H22 T.Φ := ⟨rfl, h6⟩
theorem h31 : H31 T.Φ := ⟨rfl, h9, h22⟩
theorem h34 : H34 T.Φ := ⟨rfl⟩
theorem h35 : H35 T.Φ := ⟨rfl⟩
theorem h36 : H36 T.Φ := ⟨rfl, h35⟩
theorem h37 : H37 T.Φ := ⟨rfl⟩
theorem h38 : H38 T.Φ := ⟨rfl⟩
theorem h43 : H43 T.Φ := ⟨rfl, h1, h3⟩
theorem h44 : H44 T.Φ := ⟨rfl, h43⟩
theorem h45 : H45 T.Φ := ⟨rfl⟩
theorem h46 : H46 T.Φ := ⟨rfl, h10, h13, h45⟩
theorem h47 : H47 T.Φ := ⟨rfl, h46⟩
theorem h48 : H48 T.Φ := ⟨rfl, h44⟩
theorem h49 : H49 T.Φ := ⟨rfl, h22, h48⟩
theorem h50 : H50 T.Φ := ⟨rfl, h47, h49⟩
theorem h52 : H52 T.Φ := ⟨rfl, h13⟩
theorem h53 : H53 T.Φ := ⟨rfl, h16⟩
theorem h54 : H54 T.Φ := ⟨rfl⟩
theorem h55 : H55 T.Φ := ⟨rfl, h44, h52, h53, h54⟩
theorem h57 : H57 T.Φ := ⟨rfl, h49, h55⟩
theorem h59 : H59 T.Φ := ⟨rfl⟩
theorem h60 : H60 T.Φ := ⟨rfl, h37, h59⟩
theorem h61 : H61 T.Φ := ⟨rfl⟩
theorem h62 : H62 T.Φ := ⟨rfl, h60, h61⟩
theorem h68 : H68 T.Φ := ⟨rfl⟩
theorem h69 : H69 T.Φ := ⟨rfl⟩
theorem h70 : H70 T.Φ := ⟨rfl, h68⟩
theorem h71 : H71 T.Φ := ⟨rfl, h9, h11⟩
theorem h72 : H72 T.Φ := ⟨rfl⟩
theorem h73 : H73 T.Φ := ⟨rfl⟩
theorem h74 : H74 T.Φ := ⟨rfl, h44, h72, h73⟩
theorem h75 : H75 T.Φ := ⟨rfl, h72⟩
theorem h76 : H76 T.Φ := ⟨rfl, h1, h69, h70, h71, h74, h75⟩
theorem h77 : H77 T.Φ := ⟨rfl, h69, h76⟩
theorem h78 : H78 T.Φ := ⟨rfl, h22, h71⟩
theorem h79 : H79 T.Φ := ⟨rfl, h22, h77⟩
theorem h80 : H80 T.Φ := ⟨rfl, h8⟩
theorem h81 : H81 T.Φ := ⟨rfl, h22, h80⟩
theorem h82 : H82 T.Φ := ⟨rfl, h22, h80⟩
theorem h83 : H83 T.Φ := ⟨rfl⟩
theorem h84 : H84 T.Φ := ⟨rfl, h37⟩
theorem h85 : H85 T.Φ := ⟨rfl, h83, h84⟩
theorem h86 : H86 T.Φ := ⟨rfl, h38⟩
theorem h87 : H87 T.Φ := ⟨rfl⟩
theorem h88 : H88 T.Φ := ⟨rfl, h31, h36, h38, h50, h57, h62, h78, h79, h81, h82, h85, h86, h87⟩
theorem h89 : H89 T.Φ := ⟨rfl, h34, h88⟩
end Lawk27
open PySem PySem.W PySem.Calls PyProof.Rows
theorem PySem.Challenge.cw_givenwebs_k27_main_whole_base_statements_holds : PySem.Challenge.rw_givenwebs_k27_main_whole_base_statements.Holds := by
  w_on; o_law
  refine HandSHeadRun.head_any (r := OpenLaw.row PySem.Challenge.rw_givenwebs_k27_main_whole_base_statements) (q := view (OpenLaw.row PySem.Challenge.rw_givenwebs_k27_main_whole_base_statements).prog [85]) (H := Lawk27.hk) (ob := Lawk27.ob) (M := 4000) (loose := Lawk27.loose) (d := HandSHeadRun.topDef (OpenLaw.row PySem.Challenge.rw_givenwebs_k27_main_whole_base_statements).prog 85) (kwd := []) Lawk27.ob_eq
    (by kernel_rfl) (fun s => by kernel_rfl) Lawk27.run (by kernel_rfl) (by kernel_rfl) (by kernel_rfl) (by rfl) (by first | assumption | decide +kernel) (by decide +kernel) ⟨rfl, rfl, rfl, rfl, rfl, by decide +kernel⟩ ?hw ?hc
  case hw => w_witness2
  case hc =>
    exact PyD.walk_tab (n := 63) (k := 40) (fl := 89) (T := Lawk27.T) (tdl := PyD.td89) (x := "cells") rfl (by decide) (by kernel_rfl) ⟨⟨rfl, by decide, by decide⟩, rfl⟩ rfl rfl (by kernel_rfl)
      (fun w mg h Y G => let ⟨K, KX, c⟩ := Y; ⟨K, KX, Lawk27.all KX G c, Lawk27.free KX G c, Lawk27.cons KX G c⟩)
      fun ns _ => by
        obtain ⟨s', e⟩ := PyD.e89 (k := 29) Lawk27.h89 ns []
        rw [e]
        exact rfl
