import PyProof.Rows.All
import Wide.All
import OpenK.AllK
import Wide.FinOn
import KE.KeyNested
import KE.DataEq
import HandS.ForMost
import HandS.ForExc
import HandS.HeadHook2
import KE.SortData
import HandS.TupAny
import HandS.TupMul
import HandS.Style
import HandS.Flow
import HandS.Iter
import HandS.Conv
import KE.KDictSum
import HandS.CallSlots
import HandS.Property
import HandS.Comp
import HandS.DictComp
import HandS.IsInst
import HandS.Star
import KE.KExcSuper
import HandS.ExcInit
import HandS.FStr
import HandS.TryMany
import HandS.ExcIs
import HandS.ExcField
import HandS.ExcValue
import HandS.OwnEq
import HandS.More
import KE.KEqDict
import HandS.Finally
import HandS.ListItems
import HandS.StrMore
import HandS.Text
import KE.KDictWalk
import KE.GoesEnum
import HandS.Zip
import KE.KDictZip
import HandS.Strs
import PyProof.RulesMatch
import HandS.HotCalls
import HandS.HeadHook3
import HandS.Head0
import HandS.HeadEnd
import HandS.Head1
import HandS.Head2
import PySem.Challenge.RW_onechosen_k24_errors_apart
set_option Elab.async false
set_option linter.all false
set_option maxRecDepth 100000
set_option autoImplicit false
/-! E0: an own small language (names by slots), values, a store of mutable objects, the evaluator. -/
namespace Eng
open PySem

/-- values: immutable data (rol: a list that is only read), and places in the store -/
inductive D where
  | non | bl (b : Bool) | int (i : Int) | str (s : Str) | tup (xs : List D) | rol (xs : List D) | obj (n : Nat)
  deriving Inhabited

/-- what stands in the store; dicL: a dict that a loop walks -/
inductive O where
  | lst (xs : List D) | dic (kvs : List (D × D)) | dicL (kvs : List (D × D)) | ins (c : String) (fs : List (String × D))
  deriving Inhabited
abbrev Store := List O
abbrev Env := List (Option D)

inductive Bop where | add | sub | mul | fdiv | mod | pow
inductive Cop where | eq | ne | lt | le | gt | ge | isN | notN | isin | notin
inductive Ty where | int | bool | str | tuple | list | dict | cls (c : String)
/-- built-in methods: lists, dicts, texts, tuples -/
inductive Bm where | append | extend | reverse | clear | get | setdefault | update | index | join | split | strip
/-- methods of texts with one argument -/
inductive Tm where | join | split | strip
inductive Bf where | len | list | tuple | all | any | sorted | int | str | dict
/-- a target of names -/
inductive Tp where | nm (i : Nat) | tp (ts : List Tp)

mutual
inductive Ex where
  | var (i : Nat)
  | cst (d : D)
  | glb (x : String)
  | tup (es : List Ex)
  | lst (es : List Ex)
  | tupS (es : List Sx)
  | lstS (es : List Sx)
  | bin (o : Bop) (a b : Ex)
  | neg (a : Ex)
  | not (a : Ex)
  | and (a b : Ex)
  | or (a b : Ex)
  | cmp (o : Cop) (a b : Ex)
  | chain (o p : Cop) (a b c : Ex)
  | ite (c a b : Ex)
  | call (f : String) (args : List Ex)
  | make (c : String) (args : List Ex)
  | meth (m : String) (o : Ex) (args : List Ex)
  | attr (f : String) (o : Ex)
  | bm (m : Bm) (o : Ex) (args : List Ex)
  | bf (f : Bf) (a : Ex)
  | zipd (a b : Ex)
  | itemsL (o : Ex)
  | isi (a : Ex) (t : Ty)
  | idx (a i : Ex)
  | gidx (x : String) (i : Ex)
  | slc (a : Ex) (lo hi : Option Ex)
  | rev (a : Ex)
  | dct (star : Option Ex) (kvs : List Kx)
  | lc (elt : Ex) (tg : Tp) (it : It) (cond : Option Ex) (own : List Nat)
  | dc (k v : Ex) (tg : Tp) (it : It) (own : List Nat)
  | stuck
  | isc (a : Ex) (c : String)
  | eqo (neg : Bool) (a b : Ex)
  | sortT (a : Ex)
  | dictP (a : Ex)
  | app (o a : Ex)
  | clr (o : Ex)
  | tx (m : Tm) (o a : Ex)
  | star (s k v : Ex)
  | num (a : Ex)
  | txt (a : Ex)
  | ext (o a : Ex)
  | getN (o k : Ex)
  | gix (x : String) (e : Ex)
  | dctA (kvs : List Kx)
inductive Sx where | one (e : Ex) | star (e : Ex)
inductive Kx where | kv (k v : Ex)
inductive It where
  | seq (e : Ex) | enum (e : Ex) | zip (a b : Ex) | items (e : Ex) | rng1 (e : Ex) | rng2 (a b : Ex)
end

/-- what an except suite gives to its one name -/
inductive He where | cst (d : D) | fld (f : String)
inductive Hx where
  | he (e : He) | lst (es : List He) | ifis (c : String) (a b : Hx) | kinds (f : String)

inductive Tg where | nm (i : Nat) | sub (o i : Ex) | fld (o : Ex) (f : String)

mutual
inductive Sm where
  | asg (t : Tp) (e : Ex)
  | asgs (ts : List Tg) (e : Ex)
  | par (is : List Nat) (es : List Ex)
  | sub (o i e : Ex)
  | fld (o : Ex) (f : String) (e : Ex)
  | aug (i : Nat) (o : Bop) (e : Ex)
  | afl (o : Ex) (f : String) (b : Bop) (e : Ex)
  | expr (e : Ex)
  | ret (e : Ex)
  | retN
  | pass
  | sif (c : Ex) (a b : List Sm)
  | sfor (t : Tp) (it : It) (body : List Sm)
  | swhile (c : Ex) (body : List Sm)
  | raise (x : String) (args : List Ex)
  | trys (body : List Sm) (hs : List Hd)
  | mtch (e : Ex) (cs : List Cs)
  | stuck
inductive Hd where | hd (c : String) (i : Option Nat) (to : Nat) (h : Hx)
inductive Cs where | cs (x : Str) (body : List Sm)
end

/-! ### equality of values -/
mutual
def D.beq : D → D → Bool
  | .non, .non => true
  | .bl a, .bl b => a == b
  | .int a, .int b => decide (a = b)
  | .str a, .str b => decide (a = b)
  | .tup a, .tup b => D.beqs a b
  | .obj a, .obj b => a == b
  | .rol a, .rol b => D.beqs a b
  | _, _ => false
def D.beqs : List D → List D → Bool
  | [], [] => true
  | a :: as, b :: bs => D.beq a b && D.beqs as bs
  | [], _ :: _ => false
  | _ :: _, [] => false
end
mutual
theorem D.beq_refl : ∀ a : D, D.beq a a = true
  | .non => rfl
  | .bl a => by simp [D.beq]
  | .int a => by simp [D.beq]
  | .str a => by simp [D.beq]
  | .tup a => by rw [D.beq]; exact D.beqs_refl a
  | .rol a => by rw [D.beq]; exact D.beqs_refl a
  | .obj a => by simp [D.beq]
theorem D.beqs_refl : ∀ a : List D, D.beqs a a = true
  | [] => rfl
  | a :: as => by rw [D.beqs, D.beq_refl a, D.beqs_refl as]; rfl
end
mutual
theorem D.eq_of_beq : ∀ a b : D, D.beq a b = true → a = b := fun a b h => by
  cases a <;> cases b <;> first
    | rfl
    | (simp [D.beq] at h; done)
    | (simp only [D.beq, beq_iff_eq, decide_eq_true_eq] at h; subst h; rfl)
    | (rw [D.beq] at h; exact congrArg D.tup (D.eq_of_beqs _ _ h))
    | (rw [D.beq] at h; exact congrArg D.rol (D.eq_of_beqs _ _ h))
theorem D.eq_of_beqs : ∀ a b : List D, D.beqs a b = true → a = b
  | [], [], _ => rfl
  | a :: as, b :: bs, h => by
    rw [D.beqs, Bool.and_eq_true] at h
    rw [D.eq_of_beq a b h.1, D.eq_of_beqs as bs h.2]
  | [], _ :: _, h => by simp [D.beqs] at h
  | _ :: _, [], h => by simp [D.beqs] at h
end
instance : DecidableEq D := fun a b => if h : D.beq a b = true then .isTrue (D.eq_of_beq a b h) else .isFalse fun e => h (e ▸ D.beq_refl a)

mutual
/-- no place of the store within -/
def D.flat : D → Bool
  | .tup xs => D.flats xs
  | .rol xs => D.flats xs
  | .obj _ => false
  | _ => true
def D.flats : List D → Bool
  | [] => true
  | x :: xs => D.flat x && D.flats xs
end
mutual
/-- as a key -/
def D.nk : D → Option NestedKey
  | .non => some .none
  | .bl b => some (.num (if b then 1 else 0))
  | .int i => some (.num i)
  | .str s => some (.text s)
  | .tup xs => (D.nks xs).map .tup
  | .rol _ => none
  | .obj _ => none
def D.nks : List D → Option (List NestedKey)
  | [] => some []
  | x :: xs => match D.nk x, D.nks xs with
    | some k, some ks => some (k :: ks)
    | _, _ => none
end
def D.key (d : D) : Option NestedKey := match d.nk with
  | some k => if k.depth ≤ 8 then some k else none
  | none => none

def optM {α β : Type} (f : α → Option β) : List α → Option (List β)
  | [] => some []
  | x :: xs => match f x, optM f xs with
    | some y, some ys => some (y :: ys)
    | _, _ => none
def foldO {α β : Type} (f : β → α → Option β) : β → List α → Option β
  | b, [] => some b
  | b, x :: xs => match f b x with
    | some b' => foldO f b' xs
    | none => none
/-- as data, lists of the store read; n: how deep -/
def res (st : Store) : Nat → D → Option PyData
  | _, .non => some .none
  | _, .bl b => some (.bool b)
  | _, .int i => some (.int i)
  | _, .str s => some (.str s)
  | 0, _ => none
  | n + 1, .tup xs => (optM (res st n) xs).map .tuple
  | n + 1, .rol xs => (optM (res st n) xs).map .list
  | n + 1, .obj i => match st[i]? with
    | some (.lst xs) => (optM (res st n) xs).map .list
    | _ => none

/-! ### results -/
abbrev Fs := List (String × D)
inductive R (α : Type) where
  | ok (a : α) (st : Store) | ex (x : String) (fs : Fs) (st : Store) | no
def R.bind {α β : Type} (r : R α) (f : α → Store → R β) : R β := match r with
  | .ok a st => f a st
  | .ex x fs st => .ex x fs st
  | .no => .no
/-- .. where nothing may be raised -/
def calm {α β : Type} (r : R α) (f : α → Store → R β) : R β := match r with
  | .ok a st => f a st
  | _ => .no
/-- a value, or a new list that stands nowhere yet -/
inductive Sq where | val (d : D) | fresh (xs : List D)
def settle : Sq → Store → R D
  | .val d, st => .ok d st
  | .fresh xs, st => .ok (.obj st.length) (st ++ [.lst xs])
def opt {α : Type} (o : Option α) (st : Store) : R α := match o with
  | some a => .ok a st
  | none => .no
def val (d : D) (st : Store) : R Sq := .ok (.val d) st

/-! ### programs -/
/-- what is thrown away behind a call: nothing; all that is new (the value is data); all but the value's own object, which is flat -/
inductive Gc where | keep | data | fresh
structure FDef where
  np : Nat
  ns : Nat
  gc : Gc
  body : List Sm
structure CDef where
  init : String
  mets : List (String × String)
  prps : List (String × String)
  eqm : Option String
/-- an own exception: its bases, its parameters, its fields (the last one that is set first) by parameter, the parameters that its message shows -/
structure XDef where
  sup : List String
  np : Nat
  flds : List (String × Nat)
  shown : List Nat
structure Prg where
  fns : List (String × FDef)
  cls : List (String × CDef)
  exs : List (String × XDef)
  gls : List (String × D)
  gds : List (String × List (D × D))
  ats : List String
  eqs : List (String × String) := []
  kds : List (String × List (List String)) := []
/-- a plain attribute of that class -/
def rawA (p : Prg) (c f : String) : Bool := match p.cls.lookup c with
  | some cd => p.ats.contains f && (cd.prps.lookup f).isNone && (cd.mets.lookup f).isNone
  | none => false

/-! ### what is done with values -/
def lstOf (st : Store) : Sq → Option (List D)
  | .fresh xs => some xs
  | .val (.obj i) => match st[i]? with
    | some (.lst xs) => some xs
    | _ => none
  | .val (.rol xs) => some xs
  | _ => none
/-- .. that may be written -/
def mlst (st : Store) : Sq → Option (List D)
  | .fresh xs => some xs
  | .val (.obj i) => match st[i]? with
    | some (.lst xs) => some xs
    | _ => none
  | _ => none
def seqOf (st : Store) : Sq → Option (List D)
  | .val (.tup xs) => some xs
  | q => lstOf st q
def dicAt (st : Store) : D → Option (List (D × D))
  | .obj i => match st[i]? with
    | some (.dic kvs) => some kvs
    | some (.dicL kvs) => some kvs
    | _ => none
  | _ => none
def sqPy (st : Store) : Sq → Option PyData
  | .val d => res st 8 d
  | .fresh xs => (optM (res st 8) xs).map .list

def dLook (kvs : List (D × D)) (k : NestedKey) : Option D := (kvs.find? fun p => decide (p.1.nk = some k)).map (·.2)
def dPut (kvs : List (D × D)) (kd : D) (k : NestedKey) (v : D) : List (D × D) :=
  if (dLook kvs k).isSome then kvs.map fun p => if p.1.nk = some k then (p.1, v) else p else kvs ++ [(kd, v)]
def putAll (kvs : List (D × D)) (ps : List (D × D)) : Option (List (D × D)) := foldO (fun acc q => q.1.key.map fun kk => dPut acc q.1 kk q.2) kvs ps
def dEq (st : Store) (a b : List (D × D)) : Option Bool :=
  if a.length = b.length then
    foldO (fun acc p => match p.1.key with
      | some k => match dLook b k with
        | some v => match res st 6 p.2, res st 6 v with
          | some x, some y => some (acc && PyData.eqv x y)
          | _, _ => none
        | none => some false
      | none => none) true a
  else some false
def eqSq (st : Store) (a b : Sq) : Option Bool := match sqPy st a, sqPy st b with
  | some x, some y => some (PyData.eqv x y)
  | _, _ => none

def small (n : Nat) : Bool := decide (n ≤ 16777216)
def mulOk (i j : Int) : Bool := decide ((-(2 ^ 64) < i ∧ i < 2 ^ 64) ∨ (-(2 ^ 64) < j ∧ j < 2 ^ 64))
def rep (xs : List D) (k : Int) : List D := (List.replicate k.toNat xs).flatten
def timesOk (n : Nat) (k : Int) : Bool := decide (-(2 ^ 62) < k ∧ k < 2 ^ 62) && small (n * k.toNat)

def binop (o : Bop) (a b : Sq) (st : Store) : R Sq := match o, a, b with
  | .add, .val (.int i), .val (.int j) => val (.int (i + j)) st
  | .add, .val (.str x), .val (.str y) => if small (x.length + y.length) then val (.str (x ++ y)) st else .no
  | .add, .val (.tup x), .val (.tup y) => if small (x.length + y.length) then val (.tup (x ++ y)) st else .no
  | .add, a, b => match mlst st a, mlst st b with
    | some x, some y => if small (x.length + y.length) then .ok (.fresh (x ++ y)) st else .no
    | _, _ => .no
  | .sub, .val (.int i), .val (.int j) => val (.int (i - j)) st
  | .mul, .val (.int i), .val (.int j) => if mulOk i j then val (.int (i * j)) st else .no
  | .mul, .val (.tup xs), .val (.int k) => if xs ≠ [] ∧ 2 ≤ k ∧ k ≤ 1000 ∧ xs.length ≤ 1000 then val (.tup (rep xs k)) st else .no
  | .mul, .val (.str s), .val (.int k) => if 0 ≤ k ∧ k ≤ 1000 ∧ s.length ≤ 1000 then val (.str (Txt.mul s k)) st else .no
  | .mul, a, .val (.int k) => match mlst st a with
    | some xs => if timesOk xs.length k then .ok (.fresh (rep xs k)) st else .no
    | none => .no
  | .fdiv, .val (.int i), .val (.int j) => if 0 < j ∧ j < 1073741824 then val (.int (i / j)) st else .no
  | .mod, .val (.int i), .val (.int j) => if 0 < j then val (.int (i % j)) st else .no
  | .pow, .val (.int i), .val (.int j) => if 0 ≤ j ∧ j ≤ 1000 ∧ i.natAbs < 2 ^ 64 then val (.int (i ^ j.toNat)) st else .no
  | _, _, _ => .no

def tyIs (st : Store) (t : Ty) (d : D) : Option Bool := match t, d with
  | .int, .int _ => some true
  | .int, .bl _ => some true
  | .bool, .bl _ => some true
  | .str, .str _ => some true
  | .tuple, .tup _ => some true
  | .list, .rol _ => some true
  | t, .obj i => match st[i]? with
    | some (.lst _) => some (match t with | .list => true | _ => false)
    | some (.dic _) | some (.dicL _) => some (match t with | .dict => true | _ => false)
    | some (.ins c _) => match t with
      | .cls c' => some (c == c')
      | _ => none
    | none => none
  | _, _ => some false

/-! ### order, sorting -/
mutual
/-- a < b, where it is told -/
def D.lt : D → D → Option Bool
  | .int a, .int b => some (decide (a < b))
  | .str a, .str b => some (decide (a.cps.toList < b.cps.toList))
  | .tup a, .tup b => D.lts a b
  | _, _ => none
def D.lts : List D → List D → Option Bool
  | [], [] => some false
  | [], _ :: _ => some true
  | _ :: _, [] => some false
  | a :: as, b :: bs => if a = b then D.lts as bs else D.lt a b
end
def insD (x : D) : List D → List D
  | [] => [x]
  | y :: ys => if D.lt y x = some true then y :: insD x ys else x :: y :: ys
def sortD : List D → List D
  | [] => []
  | x :: xs => insD x (sortD xs)
def isStrD : D → Bool
  | .str _ => true
  | _ => false
def isKeyD : D → Bool
  | .str _ => true
  | .int _ => true
  | _ => false
def isTupD : D → Bool
  | .tup (_ :: _) => true
  | _ => false
def sortable (xs : List D) : Bool := xs.all isStrD && decide (xs.length < 64)

/-! ### texts -/
def strsOf : List D → Option (List Str)
  | [] => some []
  | .str s :: r => (strsOf r).map (s :: ·)
  | _ :: _ => none

/-! ### the walk over what a loop walks -/
inductive Dep where | free | lst (i : Nat) (xs : List D) | dic (i : Nat)
/-- the thing walked stands as it stood -/
def Dep.ok (st : Store) : Dep → Bool
  | .free => true
  | .lst i xs => match st[i]? with
    | some (.lst ys) => decide (ys = xs)
    | _ => false
  | .dic _ => true
def Dep.lock (st : Store) : Dep → Store
  | .dic i => match st[i]? with
    | some (.dic kvs) => st.set i (.dicL kvs)
    | _ => st
  | _ => st
def Dep.unlock (st : Store) : Dep → Option Store
  | .dic i => match st[i]? with
    | some (.dicL kvs) => some (st.set i (.dic kvs))
    | _ => none
  | _ => some st
/-- items, and what they lean on -/
def walked (st : Store) : Sq → Option (List D × Dep)
  | .fresh xs => some (xs, .free)
  | .val (.tup xs) => some (xs, .free)
  | .val (.rol xs) => some (xs, .free)
  | .val (.obj i) => match st[i]? with
    | some (.lst xs) => some (xs, .lst i xs)
    | some (.dic kvs) => some (kvs.map (·.1), .dic i)
    | some (.dicL kvs) => some (kvs.map (·.1), .free)
    | _ => none
  | _ => none
def enumD (n : Int) : List D → List D
  | [] => []
  | x :: xs => .tup [.int n, x] :: enumD (n + 1) xs
def zipD : List D → List D → List D
  | x :: xs, y :: ys => .tup [x, y] :: zipD xs ys
  | _, _ => []
def rangeD (lo : Int) : Nat → List D
  | 0 => []
  | n + 1 => .int lo :: rangeD (lo + 1) n
def smallI (i : Int) : Bool := decide (-(2 ^ 62) ≤ i ∧ i < 2 ^ 62)

mutual
def bindP : Tp → D → Env → Option Env
  | .nm i, d, env => some (env.set i (some d))
  | .tp ts, .tup ds, env => bindPs ts ds env
  | .tp _, _, _ => none
def bindPs : List Tp → List D → Env → Option Env
  | [], [], env => some env
  | t :: ts, d :: ds, env => match bindP t d env with
    | some env' => bindPs ts ds env'
    | none => none
  | _, _, _ => none
end
mutual
def tpNames : Tp → List Nat
  | .nm i => [i]
  | .tp ts => tpsNames ts
def tpsNames : List Tp → List Nat
  | [] => []
  | t :: ts => tpNames t ++ tpsNames ts
end
def wipeE (env : Env) : List Nat → Env
  | [] => env
  | v :: vs => (wipeE env vs).set v none

/-- a comprehension's turns: f gives an item or none; what is raised is not told -/
def compL {α : Type} (dep : Dep) (f : D → Store → R (Option α)) : List D → Store → R (List α)
  | [], st => .ok [] st
  | x :: xs, st => match f x st with
    | .ok o st' => if dep.ok st' then match compL dep f xs st' with
        | .ok ys st'' => .ok (match o with
          | some y => y :: ys
          | none => ys) st''
        | _ => .no
      else .no
    | _ => .no

/-! ### expressions -/
section
variable (p : Prg) (call : String → List D → Store → R D)
def fld (c : String) (fs : Fs) (i : Nat) (f : String) (st : Store) : R Sq := match p.cls.lookup c with
  | some cd => match cd.prps.lookup f with
    | some g => calm (call g [.obj i] st) fun d st => val d st
    | none => if rawA p c f then (opt (fs.lookup f) st).bind fun d st => val d st else .no
  | none => .no
def truth : D → Option Bool
  | .bl b => some b
  | _ => none
/-- == of instances of classes that say so, of data, of dicts -/
def eqV (neg : Bool) (a b : Sq) (st : Store) : R Sq := match a, b with
  | .val (.obj i), b => match st[i]? with
    | some (.ins c _) => match p.cls.lookup c with
      | some cd => match cd.eqm with
        | some g => (settle b st).bind fun d st => calm (call g [.obj i, d] st) fun r st => (opt (truth r) st).bind fun k st => val (.bl (k != neg)) st
        | none => .no
      | none => .no
    | _ => (opt (eqSq st a b) st).bind fun k st => val (.bl (k != neg)) st
  | a, b => (opt (eqSq st a b) st).bind fun k st => val (.bl (k != neg)) st
def inV (neg : Bool) (a b : Sq) (st : Store) : R Sq := match a with
  | .val x => match seqOf st b with
    | some xs => match res st 8 x, optM (res st 8) xs with
      | some y, some ys => val (.bl ((ys.any fun z => PyData.eqv z y) != neg)) st
      | _, _ => .no
    | none => match b with
      | .val d => match dicAt st d, x.key with
        | some kvs, some k => val (.bl ((dLook kvs k).isSome != neg)) st
        | _, _ => .no
      | _ => .no
  | _ => .no
def cmpV (o : Cop) (a b : Sq) (st : Store) : R Sq := match o, a, b with
  | .eq, a, b => eqV p call false a b st
  | .ne, a, b => eqV p call true a b st
  | .lt, .val (.int i), .val (.int j) => val (.bl (decide (i < j))) st
  | .le, .val (.int i), .val (.int j) => val (.bl (decide (i ≤ j))) st
  | .gt, .val (.int i), .val (.int j) => val (.bl (decide (j < i))) st
  | .ge, .val (.int i), .val (.int j) => val (.bl (decide (j ≤ i))) st
  | .isN, .val d, .val .non => val (.bl (decide (d = .non))) st
  | .notN, .val d, .val .non => val (.bl (!decide (d = .non))) st
  | .isin, a, b => inV false a b st
  | .notin, a, b => inV true a b st
  | _, _, _ => .no
def intCmp : Cop → Int → Int → Option Bool
  | .lt, i, j => some (decide (i < j))
  | .le, i, j => some (decide (i ≤ j))
  | _, _, _ => none
def idxV (a : Sq) (i : D) (st : Store) : R Sq := match seqOf st a, i with
  | some xs, .int k => (opt (L2.atI xs k) st).bind fun d st => val d st
  | none, i => match a with
    | .val d => match dicAt st d, i.key with
      | some kvs, some k => (opt (dLook kvs k) st).bind fun d st => val d st
      | _, _ => .no
    | _ => .no
  | _, _ => .no
def negV : Sq → Store → R Sq
  | .val (.int i), st => val (.int (-i)) st
  | _, _ => .no
def ioD : Option D → Option (Option Int)
  | none => some none
  | some (.int i) => some (some i)
  | some _ => none
def cutD (xs : List D) (lo hi : Option Int) : List D := (xs.drop (HT.sIx xs.length 0 lo)).take (HT.sIx xs.length xs.length hi - HT.sIx xs.length 0 lo)
def slcV (a : Sq) (lo hi : Option D) (st : Store) : R Sq := match ioD lo, ioD hi with
  | some l, some h => match a with
    | .val (.tup xs) => val (.tup (cutD xs l h)) st
    | a => match lstOf st a with
      | some xs => .ok (.fresh (cutD xs l h)) st
      | none => .no
  | _, _ => .no
def bfV (f : Bf) (a : Sq) (st : Store) : R Sq := match f with
  | .len => match seqOf st a with
    | some xs => val (.int xs.length) st
    | none => match a with
      | .val (.str s) => if small s.length then val (.int s.length) st else .no
      | .val d => (opt (dicAt st d) st).bind fun kvs st => val (.int kvs.length) st
      | _ => .no
  | .list => (opt (walked st a) st).bind fun xs st => .ok (.fresh xs.1) st
  | .tuple => (opt (seqOf st a) st).bind fun xs st => val (.tup xs) st
  | .all => (opt ((lstOf st a).bind fun xs => optM truth xs) st).bind fun bs st => val (.bl (bs.all id)) st
  | .any => (opt ((lstOf st a).bind fun xs => optM truth xs) st).bind fun bs st => val (.bl (bs.any id)) st
  | .sorted => (opt (match lstOf st a with
      | some xs => some xs
      | none => match a with
        | .val d => (dicAt st d).map fun (kvs : List (D × D)) => kvs.map (·.1)
        | _ => none) st).bind fun xs st => if sortable xs = true then .ok (.fresh (sortD xs)) st else .no
  | .int => match a with
    | .val (.int i) => val (.int i) st
    | .val (.bl b) => val (.int (if b then 1 else 0)) st
    | _ => .no
  | .str => match a with
    | .val (.int i) => if 0 ≤ i ∧ i < 10 then val (.str (Str.ofString (toString i))) st else .no
    | _ => .no
  | .dict => match a with
    | .val (.obj i) => match st[i]? with
      | some (.dic kvs) => if kvs.all (fun p => isKeyD p.1) then .ok (.val (.obj st.length)) (st ++ [.dic kvs]) else .no
      | _ => .no
    | _ => .no
def putO (st : Store) (i : Nat) (o : O) : Store := st.set i o
def bmV (m : Bm) (a : Sq) (as : List Sq) (st : Store) : R Sq := match m, a, as with
  | .append, .val (.obj i), [q] => (settle q st).bind fun d st => match st[i]? with
    | some (.lst xs) => if small (xs.length + 1) then val .non (st.set i (.lst (xs ++ [d]))) else .no
    | _ => .no
  | .extend, .val (.obj i), [q] => match st[i]?, mlst st q with
    | some (.lst xs), some ys => if small (xs.length + ys.length) then val .non (st.set i (.lst (xs ++ ys))) else .no
    | _, _ => .no
  | .reverse, .val (.obj i), [] => match st[i]? with
    | some (.lst xs) => val .non (st.set i (.lst xs.reverse))
    | _ => .no
  | .clear, .val (.obj i), [] => match st[i]? with
    | some (.lst _) => val .non (st.set i (.lst []))
    | some (.dic _) => val .non (st.set i (.dic []))
    | _ => .no
  | .get, .val o, [.val k, .val d] => match dicAt st o, k.key with
    | some kvs, some kk => val ((dLook kvs kk).getD d) st
    | _, _ => .no
  | .setdefault, .val (.obj i), [.val k, q] => (settle q st).bind fun d st => match st[i]?, k.key with
    | some (.dic kvs), some kk => match dLook kvs kk with
      | some v => val v st
      | none => if small (kvs.length + 1) then val d (st.set i (.dic (kvs ++ [(k, d)]))) else .no
    | _, _ => .no
  | .update, .val (.obj i), [.val q] => match st[i]?, dicAt st q with
    | some (.dic kvs), some more => if decide (q ≠ .obj i) && (decide (more.length ≤ 1) || !kvs.isEmpty) && small (kvs.length + more.length) then
        (opt (putAll kvs more) st).bind fun kvs' st => val .non (st.set i (.dic kvs')) else .no
    | _, _ => .no
  | .index, .val (.tup xs), [.val x] => match res st 8 x, optM (res st 8) xs with
    | some y, some ys => (opt (ys.findIdx? fun z => PyData.eqv z y) st).bind fun i st => val (.int i) st
    | _, _ => .no
  | .join, .val (.str s), [q] => match (seqOf st q).bind strsOf with
    | some ws => if decide ((ws.map (·.length)).sum + ws.length * s.length ≤ 16777216) then val (.str (Txt.join s ws)) st else .no
    | none => .no
  | .split, .val (.str s), [.val (.str sep)] => if decide (sep.length ≠ 0) && small (s.length + 2) then .ok (.fresh ((Txt.split s sep).map .str)) st else .no
  | .strip, .val (.str s), [.val (.str sep)] => if small s.length then val (.str (Txt.stripChars s sep)) st else .no
  | _, _, _ => .no

section
open PySem
/-- the instance's class is one of ours -/
def clsOk (p : Prg) (st : Store) : D → Bool
  | .obj i => match st[i]? with
    | some (.ins c _) => (p.cls.lookup c).isSome
    | _ => true
  | _ => true
/-- dicts with keys of texts and ints, values data -/
def dEqB (st : Store) (b : List (D × D)) : List (D × D) → Option Bool
  | [] => some true
  | p :: ps => match p.1.nk with
    | some k => match dLook b k with
      | none => some false
      | some v => match res st 8 p.2, res st 8 v, dEqB st b ps with
        | some x, some y, some r => some (PyData.eqv x y && r)
        | _, _, _ => none
    | none => none
def dEqO (st : Store) (a b : List (D × D)) : Option Bool := if (a.all (fun p => isKeyD p.1) && b.all (fun p => isKeyD p.1)) = true then (if a.length = b.length then dEqB st b a else some false) else none
def eqdV (neg : Bool) (a b : Sq) (st : Store) : R Sq := (opt (eqSq st a b) st).bind fun k st => val (.bl (k != neg)) st
def eqiV (p : Prg) (eqs : List (String × String)) (call : String → List D → Store → R D) (neg : Bool) (i : Nat) (d : D) (st : Store) : R Sq := match st[i]? with
  | some (.ins c _) => match eqs.lookup c with
    | some g => if clsOk p st d then (calm (call g [.obj i, d] st) fun r st => (opt (truth r) st).bind fun k st => val (.bl (k != neg)) st) else .no
    | none => .no
  | some (.dic xs) => match d with
    | .obj j => match st[j]? with
      | some (.dic ys) => (opt (dEqO st xs ys) st).bind fun k st => val (.bl (k != neg)) st
      | _ => .no
    | _ => .no
  | _ => eqdV neg (.val (.obj i)) (.val d) st
def eqoV (p : Prg) (eqs : List (String × String)) (call : String → List D → Store → R D) (neg : Bool) : Sq → Sq → Store → R Sq
  | .val (.obj i), .val d, st => eqiV p eqs call neg i d st
  | a, b, st => eqdV neg a b st
/-- o.append(a) -/
def appV (x : Sq) (d : D) (st : Store) : R Sq := match x with
  | .val (.obj i) => match st[i]? with
    | some (.lst xs) => if small (xs.length + 1) then val .non (st.set i (.lst (xs ++ [d]))) else .no
    | _ => .no
  | _ => .no
/-- d.clear() -/
def dclV (x : Sq) (st : Store) : R Sq := match x with
  | .val (.obj i) => match st[i]? with
    | some (.dic kvs) => if kvs.all (fun p => isKeyD p.1) then val .non (st.set i (.dic [])) else .no
    | _ => .no
  | _ => .no
/-- list(d.items()) -/
def itmV (x : Sq) (st : Store) : R Sq := match x with
  | .val (.obj i) => match st[i]? with
    | some (.dic kvs) => if kvs.all (fun p => isKeyD p.1) then .ok (.fresh (kvs.map fun q => .tup [q.1, q.2])) st else .no
    | _ => .no
  | _ => .no
def joinV (x y : Sq) (st : Store) : R Sq := match x with
  | .val (.str s) => match (seqOf st y).bind strsOf with
    | some ws => if decide ((ws.map (·.length)).sum + ws.length * s.length ≤ 16777216) then val (.str (Txt.join s ws)) st else .no
    | none => .no
  | _ => .no
def splitV (x y : Sq) (st : Store) : R Sq := match x, y with
  | .val (.str s), .val (.str sep) => if decide (sep.length ≠ 0) && small (s.length + 2) then .ok (.fresh ((Txt.split s sep).map .str)) st else .no
  | _, _ => .no
def stripV (x y : Sq) (st : Store) : R Sq := match x, y with
  | .val (.str s), .val (.str sep) => if small s.length then val (.str (Txt.stripChars s sep)) st else .no
  | _, _ => .no
abbrev DP := D × PyData
def insP (x : DP) : List DP → List DP
  | [] => [x]
  | y :: ys => if PySem.W.dataLt y.2 x.2 then y :: insP x ys else x :: y :: ys
def sortP : List DP → List DP
  | [] => []
  | x :: xs => insP x (sortP xs)
def strictP : List DP → Bool
  | [] => true
  | a :: l => l.all (fun b => PySem.W.dataLt a.2 b.2) && strictP l
def isTupP : PyData → Bool
  | .tuple (_ :: _) => true
  | _ => false
def alikeB (ds : List PyData) : Bool := ds.all fun d => ds.all fun e => PySem.W.alike d e
def sortV (a : Sq) (st : Store) : R Sq := match lstOf st a with
  | some xs => match optM (res st 8) xs with
    | some ds => if (ds.all isTupP && alikeB ds && small xs.length && strictP (sortP (xs.zip ds))) = true then .ok (.fresh ((sortP (xs.zip ds)).map (·.1))) st else .no
    | none => .no
  | none => .no
def pairOf : D → Option (D × D)
  | .tup [k, v] => some (k, v)
  | _ => none
def dpV (x : Sq) (st : Store) : R Sq := match lstOf st x with
  | some xs => match optM pairOf xs with
    | some ps => if (ps.all (fun q => isKeyD q.1) && small ps.length) = true then (opt (putAll [] ps) st).bind fun l st => .ok (.val (.obj st.length)) (st ++ [.dic l]) else .no
    | none => .no
  | none => .no
/-- int(text) -/
def numV (x : Sq) (st : Store) : R Sq := match x with
  | .val (.str s) => match PySem.intText? s with
    | some n => if s.length ≤ 640 then val (.int n) st else .no
    | none => .no
  | _ => .no
/-- str(number) -/
def strV (x : Sq) (st : Store) : R Sq := match x with
  | .val (.int i) => if i.natAbs.log2 < 1920 then val (.str (toString i)) st else .no
  | _ => .no
/-- o.extend(a) -/
def extV (i : Nat) (y : Sq) (st : Store) : R Sq := match st[i]?, mlst st y with
  | some (.lst xs), some ys => if small (xs.length + ys.length) then val .non (st.set i (.lst (xs ++ ys))) else .no
  | _, _ => .no
/-- d.get(k, None) -/
def getV (o k : D) (st : Store) : R Sq := match dicAt st o, k.key with
  | some kvs, some kk => val ((dLook kvs kk).getD .non) st
  | _, _ => .no
/-- T.index(x), T a tuple of texts of the module -/
def ixV (ws : List Str) (k : D) (st : Store) : R Sq := match k with
  | .str z => match ws.findIdx? (fun y => decide (y = z)) with
    | some i => val (.int i) st
    | none => .no
  | _ => .no
def tupStrs : D → Option (List Str)
  | .tup xs => strsOf xs
  | _ => none
/-- dict(zip(s, t)) -/
def zdV (x y : Sq) (st : Store) : R Sq := match x, y with
  | .val (.tup xs), .val (.tup ys) => if ((xs.zip ys).all (fun q => isKeyD q.1)) = true then (opt (putAll [] (xs.zip ys)) st).bind fun l st => .ok (.val (.obj st.length)) (st ++ [.dic l]) else .no
  | _, _ => .no
def enumV (x : Sq) (st : Store) : R (List D × Dep) := match x with
  | .fresh xs => .ok (enumD 0 xs, .free) st
  | .val (.tup xs) => .ok (enumD 0 xs, .free) st
  | .val (.rol xs) => .ok (enumD 0 xs, .free) st
  | .val (.obj i) => match st[i]? with
    | some (.lst xs) => .ok (enumD 0 xs, .lst i xs) st
    | _ => .no
  | _ => .no
def zipV (x y : Sq) (st : Store) : R (List D × Dep) := match x, y with
  | .val (.tup xs), .val (.tup ys) => .ok (zipD xs ys, .free) st
  | _, _ => .no
def txV (m : Tm) (x y : Sq) (st : Store) : R Sq := match m with
  | .join => joinV x y st
  | .split => splitV x y st
  | .strip => stripV x y st
end
def asD (r : R Sq) : R D := r.bind settle
def asB (r : R Sq) : R Bool := r.bind fun x st => match x with
  | .val (.bl b) => .ok b st
  | _ => .no
mutual
def evX : Ex → Env → Store → R Sq
  | .var i, env, st => match env[i]? with
    | some (some d) => val d st
    | _ => .no
  | .cst d, _, st => val d st
  | .glb x, _, st => (opt (p.gls.lookup x) st).bind fun d st => val d st
  | .tup es, env, st => (evEs es env st).bind fun ds st => val (.tup ds) st
  | .lst es, env, st => (evEs es env st).bind fun ds st => .ok (.fresh ds) st
  | .tupS es, env, st => (evSx es env st).bind fun ds st => if small ds.length then val (.tup ds) st else .no
  | .lstS es, env, st => (evSx es env st).bind fun ds st => if small ds.length then .ok (.fresh ds) st else .no
  | .bin o a b, env, st => (evX a env st).bind fun x st => (evX b env st).bind fun y st => binop o x y st
  | .neg a, env, st => (evX a env st).bind fun x st => negV x st
  | .not a, env, st => (asB (evX a env st)).bind fun b st => val (.bl (!b)) st
  | .and a b, env, st => (asB (evX a env st)).bind fun x st => if x then evX b env st else val (.bl false) st
  | .or a b, env, st => (asB (evX a env st)).bind fun x st => if x then val (.bl true) st else evX b env st
  | .cmp o a b, env, st => (evX a env st).bind fun x st => (evX b env st).bind fun y st => cmpV p call o x y st
  | .chain o q a b c, env, st => (evX a env st).bind fun x st => (evX b env st).bind fun y st => match x, y with
    | .val (.int i), .val (.int j) => match intCmp o i j with
      | some true => (evX c env st).bind fun z st => match z with
        | .val (.int k) => (opt (intCmp q j k) st).bind fun r st => val (.bl r) st
        | _ => .no
      | some false => val (.bl false) st
      | none => .no
    | _, _ => .no
  | .ite c a b, env, st => (asB (evX c env st)).bind fun x st => if x then evX a env st else evX b env st
  | .call f args, env, st => (evEs args env st).bind fun ds st => (call f ds st).bind fun d st => val d st
  | .make c args, env, st => (evEs args env st).bind fun ds st => match p.cls.lookup c with
    | some cd => (call cd.init (.obj st.length :: ds) (st ++ [.ins c []])).bind fun d st' => match d with
      | .non => val (.obj st.length) st'
      | _ => .no
    | none => .no
  | .meth m o args, env, st => (asD (evX o env st)).bind fun x st => match x with
    | .obj i => match st[i]? with
      | some (.ins c fs) => match p.cls.lookup c, fs.lookup m with
        | some cd, none => match cd.mets.lookup m with
          | some g => (evEs args env st).bind fun ds st => (call g (.obj i :: ds) st).bind fun d st => val d st
          | none => .no
        | _, _ => .no
      | _ => .no
    | _ => .no
  | .attr f o, env, st => (asD (evX o env st)).bind fun x st => match x with
    | .obj i => match st[i]? with
      | some (.ins c fs) => fld p call c fs i f st
      | _ => .no
    | _ => .no
  | .bm m o args, env, st => (evX o env st).bind fun x st => (evXs args env st).bind fun ys st => bmV m x ys st
  | .bf f a, env, st => (evX a env st).bind fun x st => bfV f x st
  | .zipd a b, env, st => (evX a env st).bind fun x st => (evX b env st).bind fun y st => zdV x y st
  | .itemsL o, env, st => (evX o env st).bind fun x st => itmV x st
  | .isi a t, env, st => (asD (evX a env st)).bind fun d st => (opt (tyIs st t d) st).bind fun b st => val (.bl b) st
  | .idx a i, env, st => (evX a env st).bind fun x st => (asD (evX i env st)).bind fun k st => idxV x k st
  | .gidx x i, env, st => (asD (evX i env st)).bind fun k st => (opt (match p.gds.lookup x, k with
      | some kvs, .str z => dLook kvs (.text z)
      | _, _ => none) st).bind fun d st => val d st
  | .slc a lo hi, env, st => (evX a env st).bind fun x st => (evO lo env st).bind fun l st => (evO hi env st).bind fun h st => slcV x l h st
  | .rev a, env, st => (evX a env st).bind fun x st => match lstOf st x with
    | some xs => .ok (.fresh xs.reverse) st
    | none => .no
  | .dct none kvs, env, st => (evKs kvs env st).bind fun ps st => if ps.all (fun q => isKeyD q.1) && decide (ps.length ≤ 15) then (opt (putAll [] ps) st).bind fun l st => .ok (.val (.obj st.length)) (st ++ [.dic l]) else .no
  | .dct (some s) kvs, env, st => (asD (evX s env st)).bind fun d st => match dicAt st d with
    | some more => (evKs kvs env st).bind fun ps st => if decide (more.length ≤ 8) && more.all (fun p => isStrD p.1) then
        (opt (putAll more ps) st).bind fun l st => .ok (.val (.obj st.length)) (st ++ [.dic l]) else .no
    | none => .no
  | .lc elt tg it cond own, env, st => (evI it env st).bind fun w st => if small w.1.length = false then .no else
      (compL w.2 (fun x st => match bindP tg x (wipeE env own) with
        | some env' => match cond with
          | none => (asD (evX elt env' st)).bind fun d st => .ok (some d) st
          | some c => (asB (evX c env' st)).bind fun b st => if b then (asD (evX elt env' st)).bind fun d st => .ok (some d) st else .ok none st
        | none => .no) w.1 (w.2.lock st)).bind fun ds st => match w.2.unlock st with
          | some st => .ok (.fresh ds) st
          | none => .no
  | .dc k v tg it own, env, st => (evI it env st).bind fun w st => if small w.1.length = false then .no else
      (compL w.2 (fun x st => match bindP tg x (wipeE env own) with
        | some env' => (asD (evX k env' st)).bind fun kd st => (asD (evX v env' st)).bind fun vd st => .ok (some (kd, vd)) st
        | none => .no) w.1 (w.2.lock st)).bind fun ps st => match w.2.unlock st with
          | some st => (opt (putAll [] ps) st).bind fun l st => .ok (.val (.obj st.length)) (st ++ [.dic l])
          | none => .no
  | .stuck, _, _ => .no
  | .isc a c, env, st => (asD (evX a env st)).bind fun d st => if clsOk p st d then (opt (tyIs st (.cls c) d) st).bind fun b st => val (.bl b) st else .no
  | .eqo neg a b, env, st => (evX a env st).bind fun x st => (evX b env st).bind fun y st => eqoV p p.eqs call neg x y st
  | .sortT a, env, st => (evX a env st).bind fun x st => sortV x st
  | .dictP a, env, st => (evX a env st).bind fun x st => dpV x st
  | .app o a, env, st => (evX o env st).bind fun x st => match x with
    | .val (.obj i) => match st[i]? with
      | some (.lst _) => (asD (evX a env st)).bind fun d st => appV (.val (.obj i)) d st
      | _ => .no
    | _ => .no
  | .clr o, env, st => (evX o env st).bind fun x st => dclV x st
  | .num a, env, st => (evX a env st).bind fun x st => numV x st
  | .txt a, env, st => (evX a env st).bind fun x st => strV x st
  | .ext o a, env, st => (evX o env st).bind fun x st => match x with
    | .val (.obj i) => match st[i]? with
      | some (.lst _) => (evX a env st).bind fun y st => extV i y st
      | _ => .no
    | _ => .no
  | .getN o k, env, st => (evX o env st).bind fun x st => match x with
    | .val d => match dicAt st d with
      | some _ => (asD (evX k env st)).bind fun k st => getV d k st
      | none => .no
    | _ => .no
  | .gix x e, env, st => match (p.gls.lookup x).bind tupStrs with
    | some ws => (asD (evX e env st)).bind fun k st => ixV ws k st
    | none => .no
  | .dctA kvs, env, st => (evKs kvs env st).bind fun ps st => if decide (ps.length ≤ 15) = true then (opt (putAll [] ps) st).bind fun l st => .ok (.val (.obj st.length)) (st ++ [.dic l]) else .no
  | .tx m o a, env, st => (evX o env st).bind fun x st => match x with
    | .val (.str z) => (evX a env st).bind fun y st => txV m (.val (.str z)) y st
    | _ => .no
  | .star s k v, env, st => (evX s env st).bind fun x st => match x with
    | .val (.obj i) => match st[i]? with
      | some (.dic more) => if (more.all (fun p => isKeyD p.1) && small (more.length + 1)) = true then (asD (evX k env st)).bind fun kd st => (asD (evX v env st)).bind fun vd st => if isKeyD kd = true then (opt (putAll more [(kd, vd)]) st).bind fun l st => .ok (.val (.obj st.length)) (st ++ [.dic l]) else .no else .no
      | _ => .no
    | _ => .no
def evEs : List Ex → Env → Store → R (List D)
  | [], _, st => .ok [] st
  | e :: es, env, st => (asD (evX e env st)).bind fun d st => (evEs es env st).bind fun ds st => .ok (d :: ds) st
def evXs : List Ex → Env → Store → R (List Sq)
  | [], _, st => .ok [] st
  | e :: es, env, st => (evX e env st).bind fun d st => (evXs es env st).bind fun ds st => .ok (d :: ds) st
def evO : Option Ex → Env → Store → R (Option D)
  | none, _, st => .ok none st
  | some e, env, st => (asD (evX e env st)).bind fun d st => match d with
    | .int _ => .ok (some d) st
    | _ => .no
def evSx : List Sx → Env → Store → R (List D)
  | [], _, st => .ok [] st
  | .one e :: es, env, st => (asD (evX e env st)).bind fun d st => (evSx es env st).bind fun ds st => .ok (d :: ds) st
  | .star e :: es, env, st => (evX e env st).bind fun x st => (opt (seqOf st x) st).bind fun xs st => (evSx es env st).bind fun ds st => .ok (xs ++ ds) st
def evKs : List Kx → Env → Store → R (List (D × D))
  | [], _, st => .ok [] st
  | .kv k v :: es, env, st => (asD (evX k env st)).bind fun a st => (asD (evX v env st)).bind fun b st => (evKs es env st).bind fun ds st => .ok ((a, b) :: ds) st
def evI : It → Env → Store → R (List D × Dep)
  | .seq e, env, st => (evX e env st).bind fun x st => opt (walked st x) st
  | .enum e, env, st => (evX e env st).bind fun x st => enumV x st
  | .zip a b, env, st => (evX a env st).bind fun x st => (evX b env st).bind fun y st => zipV x y st
  | .items e, env, st => (evX e env st).bind fun x st => match x with
    | .val (.obj i) => match st[i]? with
      | some (.dic kvs) => .ok (kvs.map fun q => .tup [q.1, q.2], .dic i) st
      | some (.dicL kvs) => .ok (kvs.map fun q => .tup [q.1, q.2], .free) st
      | _ => .no
    | _ => .no
  | .rng1 e, env, st => (evX e env st).bind fun x st => match x with
    | .val (.int n) => if smallI n then .ok (rangeD 0 n.toNat, .free) st else .no
    | _ => .no
  | .rng2 a b, env, st => (evX a env st).bind fun x st => (evX b env st).bind fun y st => match x, y with
    | .val (.int lo), .val (.int hi) => if smallI lo && smallI hi then .ok (rangeD lo (hi - lo).toNat, .free) st else .no
    | _, _ => .no
end
end
abbrev evE (p : Prg) (call : String → List D → Store → R D) (e : Ex) (env : Env) (st : Store) : R D := asD (evX p call e env st)
abbrev evT (p : Prg) (call : String → List D → Store → R D) (e : Ex) (env : Env) (st : Store) : R Bool := asB (evX p call e env st)

/-! ### statements -/
inductive RS where
  | nx (env : Env) (st : Store) | rt (d : D) (st : Store) | ex (x : String) (fs : Fs) (env : Env) (st : Store) | no
def R.thn {α : Type} (r : R α) (env : Env) (f : α → Store → RS) : RS := match r with
  | .ok a st => f a st
  | .ex x fs st => .ex x fs env st
  | .no => .no
def RS.bind (r : RS) (f : Env → Store → RS) : RS := match r with
  | .nx env st => f env st
  | r => r
/-- the thing walked is let go -/
def RS.unlock (dep : Dep) : RS → RS
  | .nx env st => match dep.unlock st with
    | some st => .nx env st
    | none => .no
  | .rt d st => match dep.unlock st with
    | some st => .rt d st
    | none => .no
  | .ex x fs env st => match dep with
    | .dic _ => .no
    | _ => .ex x fs env st
  | .no => .no
/-- a for's turns -/
def forL (dep : Dep) (f : D → Env → Store → RS) : List D → Env → Store → RS
  | [], env, st => .nx env st
  | x :: xs, env, st => match f x env st with
    | .nx env' st' => if dep.ok st' then forL dep f xs env' st' else .no
    | r => r
/-- a while's turns, n at most -/
def whileN (c : Env → Store → R Bool) (f : Env → Store → RS) : Nat → Env → Store → RS
  | 0, _, _ => .no
  | n + 1, env, st => (c env st).thn env fun b st => if b then (f env st).bind (whileN c f n) else .nx env st
/-- what a message may show -/
def fmtOk : D → Bool
  | .str s => decide (s.length ≤ 1000000) && decide ((reprText s).length ≤ 1000000)
  | .int i => decide (i.natAbs.log2 < 1920)
  | .non => true
  | _ => false
def mkExc (p : Prg) (x : String) (ds : List D) (env : Env) (st : Store) : RS := match p.exs.lookup x with
  | some xd => if ds.length = xd.np ∧ xd.shown.all (fun i => match ds[i]? with
      | some d => fmtOk d
      | none => false) = true then match optM (fun q => (ds[q.2]?).map fun d => (q.1, d)) xd.flds with
      | some fs => .ex x fs env st
      | none => .no
    else .no
  | none => .no
def evHe (fs : Fs) : He → Option D
  | .cst d => some d
  | .fld f => fs.lookup f
def evH (p : Prg) (x : String) (fs : Fs) : Hx → Store → R Sq
  | .he e, st => match evHe fs e with
    | some d => val d st
    | none => .no
  | .lst es, st => match optM (evHe fs) es with
    | some ds => .ok (.fresh ds) st
    | none => .no
  | .ifis c a b, st => match p.exs.lookup x with
    | some xd => if xd.sup.contains c then evH p x fs a st else evH p x fs b st
    | none => .no
  | .kinds f, st => match p.kds.lookup f, p.exs.lookup x with
    | some ks, some xd => .ok (.fresh (ks.flatten.map fun c => .bl (xd.sup.contains c))) st
    | _, _ => .no
def badName (i : Option Nat) (to : Nat) (env : Env) : Bool := match i with
  | none => false
  | some j => decide (j = to) || decide (env.length ≤ j)
/-- the except clauses -/
def hands (p : Prg) (x : String) (fs : Fs) (env : Env) : List Hd → Store → RS
  | [], st => .ex x fs env st
  | .hd c i to h :: hs, st => match p.exs.lookup x with
    | some xd => if xd.sup.contains c then (if badName i to env = true then .no else (asD (evH p x fs h st)).thn env fun d st => .nx ((match i with
        | some j => env.set j none
        | none => env).set to (some d)) st)
      else hands p x fs env hs st
    | none => .no

def putA (f : String) (d : D) : Fs → Fs
  | [] => [(f, d)]
  | (g, x) :: r => if g = f then (g, d) :: r else (g, x) :: putA f d r
def evSetF (p : Prg) (o : D) (f : String) (d : D) (st : Store) : R Unit := match o with
  | .obj i => match st[i]? with
    | some (.ins c fs) => if fs.length < 50 ∧ rawA p c f = true then .ok () (st.set i (.ins c (putA f d fs))) else .no
    | _ => .no
  | _ => .no
/-- o.f += n -/
def aflV (p : Prg) (f : String) (n : Int) (ov : D) (env : Env) (st : Store) : RS := match ov with
  | .obj i => match st[i]? with
    | some (.ins c fs) => if fs.length < 50 ∧ rawA p c f = true then (match fs.lookup f with
      | some (.int x) => .nx env (st.set i (.ins c (putA f (.int (x + n)) fs)))
      | _ => .no) else .no
    | _ => .no
  | _ => .no
section
variable (p : Prg) (call : String → List D → Store → R D) (wh : Nat)
def evG : List Tg → List D → Env → Store → RS
  | [], [], env, st => .nx env st
  | .nm i :: ts, d :: ds, env, st => evG ts ds (env.set i (some d)) st
  | .sub o i :: ts, d :: ds, env, st => (evX p call o env st).thn env fun ov st => (evE p call i env st).thn env fun k st => (setI ov k d st).thn env fun _ st => evG ts ds env st
  | .fld o f :: ts, d :: ds, env, st => (evE p call o env st).thn env fun ov st => (evSetF p ov f d st).thn env fun _ st => evG ts ds env st
  | _, _, _, _ => .no
where
  setI (o : Sq) (k : D) (d : D) (st : Store) : R Unit := match o with
    | .val (.obj i) => match st[i]?, k with
      | some (.lst xs), .int j => match L2.ixN xs.length j with
        | some n => .ok () (st.set i (.lst (xs.set n d)))
        | none => .no
      | some (.dic kvs), k => match k.key with
        | some kk => if small (kvs.length + 1) then .ok () (st.set i (.dic (dPut kvs k kk d))) else .no
        | none => .no
      | _, _ => .no
    | _ => .no
def setAll : List Nat → List D → Env → Option Env
  | [], [], env => some env
  | i :: is, d :: ds, env => setAll is ds (env.set i (some d))
  | _, _, _ => none
mutual
def evS : Sm → Env → Store → RS
  | .asg t e, env, st => (evE p call e env st).thn env fun d st => match bindP t d env with
    | some env' => .nx env' st
    | none => .no
  | .asgs ts e, env, st => (evE p call e env st).thn env fun d st => match d with
    | .tup ds => if ds.length = ts.length then evG p call ts ds env st else .no
    | _ => .no
  | .par is es, env, st => (evEs p call es env st).thn env fun ds st => match setAll is ds env with
    | some env' => .nx env' st
    | none => .no
  | .sub o i e, env, st => (evE p call e env st).thn env fun d st => (evX p call o env st).thn env fun ov st => (evE p call i env st).thn env fun k st => (evG.setI ov k d st).thn env fun _ st => .nx env st
  | .fld o f e, env, st => (evE p call e env st).thn env fun d st => (evE p call o env st).thn env fun ov st => (evSetF p ov f d st).thn env fun _ st => .nx env st
  | .aug i o e, env, st => match env[i]? with
    | some (some (.int x)) => (evE p call e env st).thn env fun y st => match o, y with
      | .add, .int y => .nx (env.set i (some (.int (x + y)))) st
      | .sub, .int y => .nx (env.set i (some (.int (x - y)))) st
      | _, _ => .no
    | _ => .no
  | .afl o f b e, env, st => (evE p call o env st).thn env fun ov st => match b, e with
    | .add, .cst (.int n) => aflV p f n ov env st
    | _, _ => .no
  | .expr e, env, st => (evX p call e env st).thn env fun _ st => .nx env st
  | .ret e, env, st => (evE p call e env st).thn env fun d st => .rt d st
  | .retN, _, st => .rt .non st
  | .pass, env, st => .nx env st
  | .sif c a b, env, st => (evT p call c env st).thn env fun x st => if x then evSs a env st else evSs b env st
  | .sfor t it body, env, st => (evI p call it env st).thn env fun w st => RS.unlock w.2 (forL w.2 (fun x env st => match bindP t x env with
      | some env' => evSs body env' st
      | none => .no) w.1 env (w.2.lock st))
  | .swhile c body, env, st => whileN (fun env st => evT p call c env st) (fun env st => evSs body env st) wh env st
  | .raise x args, env, st => (evEs p call args env st).thn env fun ds st => mkExc p x ds env st
  | .trys body hs, env, st => match evSs body env st with
    | .ex x fs env' st' => hands p x fs env' hs st'
    | r => r
  | .stuck, _, _ => .no
  | .mtch e cs, env, st => (evE p call e env st).thn env fun d st => match d with
    | .str s => evCs s cs env st
    | _ => .no
def evSs : List Sm → Env → Store → RS
  | [], env, st => .nx env st
  | s :: ss, env, st => (evS s env st).bind fun env st => evSs ss env st
def evCs (s : Str) : List Cs → Env → Store → RS
  | [], env, st => .nx env st
  | .cs x body :: cs, env, st => if x = s then evSs body env st else evCs s cs env st
end
end

/-! ### calls -/
/-- an object without places of the store within -/
def O.flat : O → Bool
  | .lst xs => D.flats xs
  | _ => false
mutual
/-- no store places from n on -/
def O.beq : O → O → Bool
  | .lst a, .lst b => D.beqs a b
  | .dic a, .dic b => pairsB a b
  | .dicL a, .dicL b => pairsB a b
  | .ins c a, .ins d b => c == d && fldsB a b
  | _, _ => false
def pairsB : List (D × D) → List (D × D) → Bool
  | [], [] => true
  | p :: a, q :: b => D.beq p.1 q.1 && D.beq p.2 q.2 && pairsB a b
  | _, _ => false
def fldsB : List (String × D) → List (String × D) → Bool
  | [], [] => true
  | p :: a, q :: b => p.1 == q.1 && D.beq p.2 q.2 && fldsB a b
  | _, _ => false
end
theorem pairsB_eq : ∀ a b, pairsB a b = true → a = b
  | [], [], _ => rfl
  | p :: a, q :: b, h => by
    simp only [pairsB, Bool.and_eq_true] at h
    rw [show p = q from Prod.ext (D.eq_of_beq _ _ h.1.1) (D.eq_of_beq _ _ h.1.2), pairsB_eq a b h.2]
  | [], _ :: _, h => by simp [pairsB] at h
  | _ :: _, [], h => by simp [pairsB] at h
theorem pairsB_refl : ∀ a, pairsB a a = true
  | [] => rfl
  | p :: a => by simp only [pairsB, D.beq_refl, pairsB_refl a, Bool.and_self]
theorem fldsB_eq : ∀ a b, fldsB a b = true → a = b
  | [], [], _ => rfl
  | p :: a, q :: b, h => by
    simp only [fldsB, Bool.and_eq_true, beq_iff_eq] at h
    rw [show p = q from Prod.ext h.1.1 (D.eq_of_beq _ _ h.1.2), fldsB_eq a b h.2]
  | [], _ :: _, h => by simp [fldsB] at h
  | _ :: _, [], h => by simp [fldsB] at h
theorem fldsB_refl : ∀ a, fldsB a a = true
  | [] => rfl
  | p :: a => by simp only [fldsB, D.beq_refl, fldsB_refl a, Bool.and_self, beq_self_eq_true]
theorem O.eq_of_beq (a b : O) (h : O.beq a b = true) : a = b := by
  cases a <;> cases b <;> simp only [O.beq, Bool.false_eq_true, Bool.and_eq_true, beq_iff_eq] at h
  · rw [D.eq_of_beqs _ _ h]
  · rw [pairsB_eq _ _ h]
  · rw [pairsB_eq _ _ h]
  · rw [h.1, fldsB_eq _ _ h.2]
theorem O.beq_refl (a : O) : O.beq a a = true := by
  cases a <;> simp only [O.beq, D.beqs_refl, pairsB_refl, fldsB_refl, beq_self_eq_true, Bool.and_self]
mutual
/-- its places are below n -/
def D.und (n : Nat) : D → Bool
  | .tup xs => D.unds n xs
  | .rol xs => D.unds n xs
  | .obj i => decide (i < n)
  | _ => true
def D.unds (n : Nat) : List D → Bool
  | [] => true
  | x :: xs => D.und n x && D.unds n xs
end
def O.und (n : Nat) : O → Bool
  | .lst xs => D.unds n xs
  | .dic kvs => kvs.all fun p => D.und n p.1 && D.und n p.2
  | .dicL kvs => kvs.all fun p => D.und n p.1 && D.und n p.2
  | .ins _ fs => fs.all fun p => D.und n p.2
/-- what was there stands, or holds no new places -/
def keptS (n : Nat) : Store → Store → Bool
  | [], _ => true
  | o :: r, u :: t => (O.beq o u || u.und n) && keptS n r t
  | _ :: _, [] => false
theorem keptS_app (n : Nat) : ∀ (a b : Store), keptS n a (a ++ b) = true
  | [], _ => rfl
  | o :: r, b => by simp only [List.cons_append, keptS, O.beq_refl, Bool.true_or, Bool.true_and, keptS_app n r b]
theorem keptS_self (n : Nat) (a : Store) : keptS n a a = true := by have := keptS_app n a []; rwa [List.append_nil] at this
theorem keptS_set (n : Nat) : ∀ (a : Store) (i : Nat) (o : O), o.und n = true → keptS n a (a.set i o) = true
  | [], _, _, _ => rfl
  | u :: r, 0, o, h => by simp only [List.set_cons_zero, keptS, h, Bool.or_true, Bool.true_and, keptS_self n r]
  | u :: r, i + 1, o, h => by simp only [List.set_cons_succ, keptS, O.beq_refl, Bool.true_or, Bool.true_and, keptS_set n r i o h]
def gcs (g : Gc) (st : Store) (d : D) (st' : Store) : R D := match g with
  | .keep => .ok d st'
  | .data => if d.flat && keptS st.length st st' then .ok d (st'.take st.length) else .no
  | .fresh => match d with
    | .obj i => match st'[i]? with
      | some o => if o.flat && decide (st.length ≤ i) && keptS st.length st st' then .ok (.obj st.length) (st'.take st.length ++ [o]) else .no
      | none => .no
    | _ => .no
def gcx (g : Gc) (st : Store) (x : String) (fs : Fs) (st' : Store) : R D := match g with
  | .keep => .ex x fs st'
  | _ => if fs.all (fun q => D.flat q.2) && keptS st.length st st' then .ex x fs (st'.take st.length) else .no
/-- n: how deep calls may go; wh: how often a while may turn -/
def callF (p : Prg) (wh : Nat) : Nat → String → List D → Store → R D
  | 0, _, _, _ => .no
  | n + 1, f, ds, st => match p.fns.lookup f with
    | some fd => if ds.length = fd.np then
        match evSs p (callF p wh n) wh fd.body (ds.map some ++ List.replicate (fd.ns - fd.np) none) st with
        | .nx _ st' => gcs fd.gc st .non st'
        | .rt d st' => gcs fd.gc st d st'
        | .ex x fs _ st' => gcx fd.gc st x fs st'
        | .no => .no
      else .no
    | none => .no
end Eng
/-! E1: what a value of the evaluator is in the abstract heap; readings made of evaluator results. -/
namespace Eng
open PySem PySem.Spec PyProof.Rows L2

section
variable (K : PySem.W.Frag)
/-- a list that is never written -/
def RolAt (H : Hp) (a : Addr) (vs : List V) : Prop :=
  (∃ o, H a = some (.frz o (.lst vs))) ∨
    ∃ (o : Obj) (its : Array Value) (n : Nat), K.lookup a = some o ∧ o.cls = .type "list" ∧ o.dict = none ∧ o.data = .seq its n ∧ its.size ≤ sizeLine ∧ Vals vs its.toList
mutual
def Rep (m : List Addr) (H : Hp) : D → V → Prop
  | .non, v => v = .non
  | .bl b, v => v = .bl b
  | .int i, v => v = .int i
  | .str s, v => v = .str s
  | .tup xs, v => ∃ a vs, v = .ref a ∧ SqT K H a vs ∧ Reps m H xs vs
  | .rol xs, v => ∃ a vs, v = .ref a ∧ RolAt K H a vs ∧ Reps m H xs vs
  | .obj i, v => ∃ a, v = .ref a ∧ m[i]? = some a
def Reps (m : List Addr) (H : Hp) : List D → List V → Prop
  | [], vs => vs = []
  | x :: xs, vs => ∃ v ws, vs = v :: ws ∧ Rep m H x v ∧ Reps m H xs ws
end
end
theorem RolAt.seq {K : PySem.W.Frag} {H : Hp} {a : Addr} {vs : List V} (r : RolAt K H a vs) : SqL K H a vs := by
  rcases r with ⟨o, e⟩ | r
  · exact .inl (.inr ⟨o, e⟩)
  · exact .inr r

/-! ### dicts -/
def EntR (w : World) (e : NestedKey × V × V) (d : DictEntry) : Prop := d.hash = e.1.hash w ∧ RelV e.2.1 d.key ∧ RelV e.2.2 d.val
def DicP (w : World) (a : Addr) (es : List (NestedKey × V × V)) (h : Heap) : Prop :=
  (a == sysModules) = false ∧ es.length ≤ sizeLine ∧ ∃ o ents ep, h.get? a = some o ∧ o.ExactDict ∧ o.data = .dict ents ep ∧ Paired (EntR w) es ents.toList
def DicO (w : World) (a : Addr) (es : List (NestedKey × V × V)) : HO := .ext (DicP w a es)
theorem dicO_ok {P : Program} {w : World} {H : Hp} {h : Heap} {a : Addr} {es : List (NestedKey × V × V)} (q : DicP w a es h) : ObjOk P w H h a (DicO w a es) := by
  refine ⟨q, ?_, ?_⟩
  · obtain ⟨_, _, o, _, _, e, _⟩ := q
    exact ⟨o, e⟩
  · rintro h1 h2 ⟨z, y, o, ents, ep, e, r⟩ k
    exact ⟨z, y, o, ents, ep, k o e, r⟩
theorem dicO_at {P : Program} {w : World} {H : Hp} {h : Heap} {a : Addr} {es : List (NestedKey × V × V)} (x : ObjOk P w H h a (DicO w a es)) : DicP w a es h := x.1

section
variable (K : PySem.W.Frag) (w : World)
structure KvR (m : List Addr) (H : Hp) (kvs : List (D × D)) (es : List (NestedKey × V × V)) : Prop where
  pr : Paired (fun (p : D × D) (e : NestedKey × V × V) => p.1.nk = some e.1 ∧ e.1.depth ≤ 8 ∧ Rep K m H p.1 e.2.1 ∧ Rep K m H p.2 e.2.2) kvs es
  nd : (es.map (·.1)).Nodup
abbrev FsR (m : List Addr) (H : Hp) : Fs → List (Str × V) → Prop := Paired fun (p : String × D) (q : Str × V) => q.1 = Str.ofString p.1 ∧ Rep K m H p.2 q.2
def ObjR (m : List Addr) (H : Hp) (a : Addr) : O → Prop
  | .lst xs => ∃ vs, H a = some (.lst vs) ∧ Reps K m H xs vs
  | .dic kvs => ∃ es, H a = some (DicO w a es) ∧ KvR K m H kvs es
  | .dicL kvs => ∃ o es, H a = some (.frz o (DicO w a es)) ∧ KvR K m H kvs es
  | .ins c fs => ∃ dx vfs, H a = some (.ins (He.ga K (Str.ofString c)) dx vfs) ∧ FsR K m H fs vfs
structure StoR (m : List Addr) (st : Store) (H : Hp) : Prop where
  len : m.length = st.length
  nd : m.Nodup
  at_ : ∀ (i : Nat) (a : Addr) (o : O), m[i]? = some a → st[i]? = some o → ObjR K w m H a o
structure EnvR (m : List Addr) (H : Hp) (σ : L2.St) (env : Env) : Prop where
  len : σ.length = env.length
  at_ : ∀ (i : Nat) (d : D), env[i]? = some (some d) → ∃ v, σ[i]? = some (some v) ∧ Rep K m H d v
end
/-- the store's objects grow by new ones -/
def Ext (H : Hp) (m m' : List Addr) : Prop := ∃ l, m' = m ++ l ∧ ∀ b ∈ l, H b = none
/-- what is tracked and not of the store stands -/
def Fr (m : List Addr) (H H' : Hp) : Prop := ∀ a o, H a = some o → a ∉ m → H' a = some o

section
variable {K : PySem.W.Frag} {w : World} {m m' m1 m2 : List Addr} {st st' st1 : Store} {H H' H1 H2 : Hp} {a : Addr} {i : Nat}
theorem StoR.is (S : StoR K w m st H) (h : m[i]? = some a) : ∃ o, st[i]? = some o ∧ ObjR K w m H a o := by
  have hi : i < st.length := by rw [← S.len]; exact (List.getElem?_eq_some_iff.mp h).1
  exact ⟨st[i], List.getElem?_eq_getElem hi, S.at_ i a _ h (List.getElem?_eq_getElem hi)⟩
theorem StoR.addr (S : StoR K w m st H) {o : O} (h : st[i]? = some o) : ∃ a, m[i]? = some a ∧ ObjR K w m H a o := by
  have hi : i < m.length := by rw [S.len]; exact (List.getElem?_eq_some_iff.mp h).1
  exact ⟨m[i], List.getElem?_eq_getElem hi, S.at_ i _ o (List.getElem?_eq_getElem hi) h⟩
/-- what stands at the store's places -/
theorem StoR.form (S : StoR K w m st H) (h : a ∈ m) : ∃ u, H a = some u ∧ (∀ vs, u ≠ .tup vs) ∧ (∀ o vs, u ≠ .frz o (.tup vs)) ∧ ∀ o vs, u ≠ .frz o (.lst vs) := by
  obtain ⟨i, hi⟩ := List.mem_iff_getElem?.mp h
  obtain ⟨o, _, r⟩ := S.is hi
  cases o with
  | lst xs => obtain ⟨vs, e, _⟩ := r; exact ⟨_, e, (fun _ z => nomatch z), (fun _ _ z => nomatch z), fun _ _ z => nomatch z⟩
  | dic kvs => obtain ⟨es, e, _⟩ := r; exact ⟨_, e, (fun _ z => nomatch z), (fun _ _ z => nomatch z), fun _ _ z => nomatch z⟩
  | dicL kvs => obtain ⟨o, es, e, _⟩ := r; exact ⟨_, e, (fun _ z => nomatch z), (fun _ _ z => by cases z), fun _ _ z => by cases z⟩
  | ins c fs => obtain ⟨dx, vfs, e, _⟩ := r; exact ⟨_, e, (fun _ z => nomatch z), (fun _ _ z => nomatch z), fun _ _ z => nomatch z⟩
theorem StoR.fresh (S : StoR K w m st H) (h : H a = none) : a ∉ m := fun hm => by
  obtain ⟨u, e, _⟩ := S.form hm
  rw [h] at e
  cases e
theorem StoR.notup (S : StoR K w m st H) {vs : List V} (h : Rd H a (.tup vs)) : a ∉ m := fun hm => by
  obtain ⟨u, e, h1, h2, _⟩ := S.form hm
  rcases h with h | ⟨o, h⟩
  · rw [h] at e; cases e; exact h1 vs rfl
  · rw [h] at e; cases e; exact h2 o vs rfl
theorem StoR.norol (S : StoR K w m st H) {vs : List V} {o : Obj} (h : H a = some (.frz o (.lst vs))) : a ∉ m := fun hm => by
  obtain ⟨u, e, _, _, h3⟩ := S.form hm
  rw [h] at e; cases e; exact h3 o vs rfl

theorem Ext.refl : Ext H m m := ⟨[], by simp, by simp⟩
theorem Ext.get (e : Ext H m m') (h : m[i]? = some a) : m'[i]? = some a := by
  obtain ⟨l, rfl, _⟩ := e
  rw [List.getElem?_append_left (List.getElem?_eq_some_iff.mp h).1]
  exact h
theorem Ext.sub (e : Ext H m m') (h : a ∈ m) : a ∈ m' := by
  obtain ⟨l, rfl, _⟩ := e
  exact List.mem_append_left _ h
theorem Ext.new (e : Ext H m m') (h : a ∈ m') (hn : a ∉ m) : H a = none := by
  obtain ⟨l, rfl, k⟩ := e
  exact k a ((List.mem_append.mp h).resolve_left hn)
theorem Fr.refl : Fr m H H := fun _ _ e _ => e
theorem Fr.trans (f : Fr m H H1) (e : Ext H m m1) (g : Fr m1 H1 H2) : Fr m H H2 := fun a o h hm => by
  refine g a o (f a o h hm) fun h1 => ?_
  have := e.new h1 hm
  rw [h] at this
  cases this
theorem Ext.trans (e : Ext H m m1) (f : Fr m H H1) (S : StoR K w m1 st1 H1) (e2 : Ext H1 m1 m2) : Ext H m m2 := by
  obtain ⟨l, rfl, k⟩ := e
  obtain ⟨l2, rfl, k2⟩ := e2
  refine ⟨l ++ l2, by simp, fun b hb => ?_⟩
  rcases List.mem_append.mp hb with hb | hb
  · exact k b hb
  · have n1 := k2 b hb
    have n2 := S.fresh n1
    cases q : H b with
    | none => rfl
    | some o =>
      have := f b o q fun z => n2 (List.mem_append_left _ z)
      rw [n1] at this
      cases this
/-- an address that was tracked and not the store's is not the store's now -/
theorem Ext.out {o : HO} (e : Ext H m m') (h : H a = some o) (hm : a ∉ m) : a ∉ m' := fun z => by
  have := e.new z hm
  rw [h] at this
  cases this

theorem SqT.fr {vs : List V} (S : StoR K w m st H) (f : Fr m H H') (h : SqT K H a vs) : SqT K H' a vs := by
  rcases h with h | h
  · have hn := S.notup h
    rcases h with h | ⟨o, h⟩
    · exact .inl (.inl (f a _ h hn))
    · exact .inl (.inr ⟨o, f a _ h hn⟩)
  · exact .inr h
theorem RolAt.fr {vs : List V} (S : StoR K w m st H) (f : Fr m H H') (h : RolAt K H a vs) : RolAt K H' a vs := by
  rcases h with ⟨o, h⟩ | h
  · exact .inl ⟨o, f a _ h (S.norol h)⟩
  · exact .inr h
mutual
theorem Rep.mono (S : StoR K w m st H) (e : Ext H m m') (f : Fr m H H') : ∀ {d : D} {v : V}, Rep K m H d v → Rep K m' H' d v
  | .non, _, h => h
  | .bl _, _, h => h
  | .int _, _, h => h
  | .str _, _, h => h
  | .tup xs, _, ⟨a, vs, h1, h2, h3⟩ => ⟨a, vs, h1, SqT.fr S f h2, Reps.mono S e f h3⟩
  | .rol xs, _, ⟨a, vs, h1, h2, h3⟩ => ⟨a, vs, h1, RolAt.fr S f h2, Reps.mono S e f h3⟩
  | .obj i, _, ⟨a, h1, h2⟩ => ⟨a, h1, e.get h2⟩
theorem Reps.mono (S : StoR K w m st H) (e : Ext H m m') (f : Fr m H H') : ∀ {ds : List D} {vs : List V}, Reps K m H ds vs → Reps K m' H' ds vs
  | [], _, h => h
  | x :: xs, _, ⟨v, ws, h1, h2, h3⟩ => ⟨v, ws, h1, Rep.mono S e f h2, Reps.mono S e f h3⟩
end
theorem EnvR.mono {σ : L2.St} {env : Env} (S : StoR K w m st H) (e : Ext H m m') (f : Fr m H H') (r : EnvR K m H σ env) : EnvR K m' H' σ env :=
  ⟨r.len, fun i d h => let ⟨v, h1, h2⟩ := r.at_ i d h; ⟨v, h1, h2.mono S e f⟩⟩
theorem KvR.mono {kvs : List (D × D)} {es : List (NestedKey × V × V)} (S : StoR K w m st H) (e : Ext H m m') (f : Fr m H H') (r : KvR K m H kvs es) : KvR K m' H' kvs es :=
  ⟨Paired.mapP r.pr fun p q z => ⟨z.1, z.2.1, z.2.2.1.mono S e f, z.2.2.2.mono S e f⟩, r.nd⟩
theorem FsR.mono {fs : Fs} {vfs : List (Str × V)} (S : StoR K w m st H) (e : Ext H m m') (f : Fr m H H') (r : FsR K m H fs vfs) : FsR K m' H' fs vfs :=
  Paired.mapP r fun p q z => ⟨z.1, z.2.mono S e f⟩

/-! ### values by places -/
theorem Reps.length {ds : List D} : ∀ {vs : List V}, Reps K m H ds vs → vs.length = ds.length := by
  induction ds with
  | nil => intro vs h; rw [show vs = [] from h]; rfl
  | cons d ds ih => rintro vs ⟨v, ws, rfl, _, h⟩; simp [ih h]
theorem Reps.get {ds : List D} : ∀ {vs : List V} {i : Nat} {d : D}, Reps K m H ds vs → ds[i]? = some d → ∃ v, vs[i]? = some v ∧ Rep K m H d v := by
  induction ds with
  | nil => intro vs i d _ h; simp at h
  | cons x ds ih =>
    rintro vs i d ⟨v, ws, rfl, r, h⟩ e
    cases i with
    | zero => simp at e; subst e; exact ⟨v, rfl, r⟩
    | succ i =>
      simp only [List.getElem?_cons_succ] at e ⊢
      exact ih h e
theorem Reps.append {ds es : List D} : ∀ {vs ws : List V}, Reps K m H ds vs → Reps K m H es ws → Reps K m H (ds ++ es) (vs ++ ws) := by
  induction ds with
  | nil => intro vs ws h r; rw [show vs = [] from h]; exact r
  | cons d ds ih =>
    rintro vs ws ⟨v, us, rfl, r, h⟩ q
    exact ⟨v, us ++ ws, rfl, r, ih h q⟩
theorem Reps.one {d : D} {v : V} (h : Rep K m H d v) : Reps K m H [d] [v] := ⟨v, [], rfl, h, rfl⟩
theorem Reps.take {ds : List D} : ∀ {vs : List V} (n : Nat), Reps K m H ds vs → Reps K m H (ds.take n) (vs.take n) := by
  induction ds with
  | nil => intro vs n h; rw [show vs = [] from h]; simp [Reps]
  | cons d ds ih =>
    rintro vs n ⟨v, us, rfl, r, h⟩
    cases n with
    | zero => simp [Reps]
    | succ n => exact ⟨v, us.take n, rfl, r, ih n h⟩
theorem Reps.drop {ds : List D} : ∀ {vs : List V} (n : Nat), Reps K m H ds vs → Reps K m H (ds.drop n) (vs.drop n) := by
  induction ds with
  | nil => intro vs n h; rw [show vs = [] from h]; simp [Reps]
  | cons d ds ih =>
    rintro vs n ⟨v, us, rfl, r, h⟩
    cases n with
    | zero => exact ⟨v, us, rfl, r, h⟩
    | succ n => exact ih n h
theorem Reps.reverse {ds : List D} : ∀ {vs : List V}, Reps K m H ds vs → Reps K m H ds.reverse vs.reverse := by
  induction ds with
  | nil => intro vs h; rw [show vs = [] from h]; simp [Reps]
  | cons d ds ih =>
    rintro vs ⟨v, us, rfl, r, h⟩
    rw [List.reverse_cons, List.reverse_cons]
    exact (ih h).append (.one r)
theorem Reps.set {ds : List D} : ∀ {vs : List V} (n : Nat) {d : D} {v : V}, Reps K m H ds vs → Rep K m H d v → Reps K m H (ds.set n d) (vs.set n v) := by
  induction ds with
  | nil => intro vs n d v h _; rw [show vs = [] from h]; simp [Reps]
  | cons x ds ih =>
    rintro vs n d v ⟨u, us, rfl, r, h⟩ q
    cases n with
    | zero => exact ⟨v, us, rfl, q, h⟩
    | succ n => exact ⟨u, us.set n v, rfl, r, ih n h q⟩
theorem Reps.rep {ds : List D} {vs : List V} (h : Reps K m H ds vs) : ∀ n : Nat, Reps K m H (List.replicate n ds).flatten (List.replicate n vs).flatten
  | 0 => by simp [Reps]
  | n + 1 => by
    rw [List.replicate_succ, List.replicate_succ, List.flatten_cons, List.flatten_cons]
    exact h.append (h.rep n)
theorem Reps.mem {ds : List D} : ∀ {vs : List V} {v : V}, Reps K m H ds vs → v ∈ vs → ∃ d ∈ ds, Rep K m H d v := by
  induction ds with
  | nil => intro vs v h hv; rw [show vs = [] from h] at hv; cases hv
  | cons x ds ih =>
    rintro vs v ⟨u, us, rfl, r, h⟩ hv
    rcases List.mem_cons.mp hv with rfl | hv
    · exact ⟨x, List.mem_cons_self, r⟩
    · obtain ⟨d, hd, q⟩ := ih h hv
      exact ⟨d, List.mem_cons_of_mem _ hd, q⟩
theorem Reps.getV {ds : List D} : ∀ {vs : List V} {i : Nat} {v : V}, Reps K m H ds vs → vs[i]? = some v → ∃ d, ds[i]? = some d ∧ Rep K m H d v := by
  induction ds with
  | nil => intro vs i d h e; rw [show vs = [] from h] at e; simp at e
  | cons x ds ih =>
    rintro vs i d ⟨v, ws, rfl, r, h⟩ e
    cases i with
    | zero => simp at e; subst e; exact ⟨x, rfl, r⟩
    | succ i =>
      simp only [List.getElem?_cons_succ] at e ⊢
      exact ih h e
mutual
/-- flat values lean on no place of the store -/
theorem Rep.flat {n : List Addr} : ∀ {d : D} {v : V}, d.flat = true → Rep K m H d v → Rep K n H d v
  | .non, _, _, h => h
  | .bl _, _, _, h => h
  | .int _, _, _, h => h
  | .str _, _, _, h => h
  | .tup xs, _, f, ⟨a, vs, h1, h2, h3⟩ => ⟨a, vs, h1, h2, Reps.flat (by simpa [D.flat] using f) h3⟩
  | .rol xs, _, f, ⟨a, vs, h1, h2, h3⟩ => ⟨a, vs, h1, h2, Reps.flat (by simpa [D.flat] using f) h3⟩
  | .obj i, _, f, _ => by simp [D.flat] at f
theorem Reps.flat {n : List Addr} : ∀ {ds : List D} {vs : List V}, D.flats ds = true → Reps K m H ds vs → Reps K n H ds vs
  | [], _, _, h => h
  | x :: xs, _, f, ⟨v, ws, h1, h2, h3⟩ => by
    simp only [D.flats, Bool.and_eq_true] at f
    exact ⟨v, ws, h1, Rep.flat f.1 h2, Reps.flat f.2 h3⟩
end
end
end Eng
/-! E2: readings by the evaluator's results, and how they go together. -/
namespace Eng
open PySem PySem.Spec PyProof.Rows L2

/-! ### what an exception is behind a call -/
def FldX (K : PySem.W.Frag) (m : List Addr) (H : Hp) (fs : Fs) (d : Option Addr) : Prop :=
  (fs = [] ∧ d = none) ∨ ∃ dd vfs, fs ≠ [] ∧ d = some dd ∧ H dd = some (.xd vfs) ∧ ∀ (f : String) (x : D), fs.lookup f = some x → ∃ v, vfs.lookup (Str.ofString f) = some v ∧ Rep K m H x v
/-- from one state to a later one -/
structure Nx (K : PySem.W.Frag) (w : World) (m : List Addr) (H : Hp) (m' : List Addr) (H' : Hp) (st' : Store) : Prop where
  ext : Ext H m m'
  sto : StoR K w m' st' H'
  fr : Fr m H H'
  fz : ∀ a o u, H a = some (.frz o u) → H' a = some (.frz o u)
def ExcE (K : PySem.W.Frag) (w : World) (m : List Addr) (H : Hp) (x : String) (fs : Fs) (st : Store) : XK := fun cls d H' =>
  cls = .ref (He.ga K (Str.ofString x)) ∧ ∃ m', Nx K w m H m' H' st ∧ FldX K m' H' fs d
/-- such an exception at these slots is taken -/
def Tk (X : Cx) (σ : L2.St) (E : XK) : Prop := Takes X fun c d σ1 H1 => σ1 = σ ∧ E c d H1
theorem Tk.imp {X : Cx} {σ : L2.St} {E E' : XK} (t : Tk X σ E) (h : ∀ c d H, E' c d H → E c d H) : Tk X σ E' := Takes.imp t fun c d σ1 H1 z => ⟨z.1, h c d H1 z.2⟩

section
variable {K : PySem.W.Frag} {w : World} {m m' m1 m2 : List Addr} {st st' st1 st2 : Store} {H H' H1 H2 : Hp} {a : Addr}
theorem Nx.refl (S : StoR K w m st H) : Nx K w m H m H st := ⟨.refl, S, .refl, fun _ _ _ h => h⟩
theorem Nx.trans (x : Nx K w m H m1 H1 st1) (y : Nx K w m1 H1 m2 H2 st2) : Nx K w m H m2 H2 st2 := ⟨x.ext.trans x.fr x.sto y.ext, y.sto, x.fr.trans x.ext y.fr, fun a o u h => y.fz a o u (x.fz a o u h)⟩
/-- what is new later was new before -/
theorem Nx.back (S : StoR K w m st H) (x : Nx K w m H m1 H1 st1) (h : H1 a = none) : H a = none := by
  cases q : H a with
  | none => rfl
  | some o =>
    by_cases hm : a ∈ m
    · exact absurd (x.ext.sub hm) (x.sto.fresh h)
    · have := x.fr a o q hm
      rw [h] at this
      cases this
theorem ExcE.back {x : String} {fs : Fs} (n : Nx K w m H m1 H1 st1) {c : Value} {d : Option Addr} {H' : Hp} (e : ExcE K w m1 H1 x fs st c d H') : ExcE K w m H x fs st c d H' := by
  obtain ⟨e1, m', n', e5⟩ := e
  exact ⟨e1, m', n.trans n', e5⟩
end

/-! ### results that are wished for -/
def Out {α : Type} (X : Cx) (σ : L2.St) (m : List Addr) (H : Hp) (r : R α) (k : α → Store → Prop) : Prop := match r with
  | .ok a st => k a st
  | .ex x fs st => Tk X σ (ExcE X.K X.w m H x fs st)
  | .no => False
theorem Out.imp {α : Type} {X : Cx} {σ : L2.St} {m : List Addr} {H : Hp} {r : R α} {k k' : α → Store → Prop} (o : Out X σ m H r k) (h : ∀ a st, k a st → k' a st) : Out X σ m H r k' := by
  cases r with
  | ok a st => exact h a st o
  | ex x fs st => exact o
  | no => exact o
/-- a wish that may be said at a later state -/
abbrev Ps (α : Type) := List Addr → Hp → α → Store → Prop
def Mn (X : Cx) {α : Type} (P : Ps α) : Prop := ∀ m H st m1 H1 st1 a st', StoR X.K X.w m st H → Nx X.K X.w m H m1 H1 st1 → P m H a st' → P m1 H1 a st'
theorem Out.later {α : Type} {X : Cx} {σ : L2.St} {m m1 : List Addr} {H H1 : Hp} {st st1 : Store} {r : R α} {P : Ps α} (S : StoR X.K X.w m st H) (n : Nx X.K X.w m H m1 H1 st1) (hP : Mn X P) (o : Out X σ m H r (P m H)) : Out X σ m1 H1 r (P m1 H1) := by
  cases r with
  | ok a st' => exact hP m H st m1 H1 st1 a st' S n o
  | ex x fs st' => exact Tk.imp o fun c d H' z => z.back n
  | no => exact o
theorem Out.bind {α β : Type} {X : Cx} {σ : L2.St} {m : List Addr} {H : Hp} {st : Store} {r : R α} {f : α → Store → R β} {P : Ps β} (S : StoR X.K X.w m st H) (hP : Mn X P) (o : Out X σ m H (r.bind f) (P m H)) :
    Out X σ m H r fun a st1 => ∀ m1 H1, Nx X.K X.w m H m1 H1 st1 → Out X σ m1 H1 (f a st1) (P m1 H1) := by
  cases r with
  | ok a st1 => exact fun m1 H1 n => Out.later (r := f a st1) S n hP o
  | ex x fs st' => exact o
  | no => exact o

section
variable (K : PySem.W.Frag)
/-- a value, or a list that was just made and is not the store's -/
def RepQ (m : List Addr) (H : Hp) (q : Sq) (v : V) : Prop := match q with
  | .val d => Rep K m H d v
  | .fresh xs => ∃ a vs, v = .ref a ∧ H a = some (.lst vs) ∧ a ∉ m ∧ Reps K m H xs vs
end
/-- the new list was not there before -/
def FrQ (H : Hp) (q : Sq) (v : V) : Prop := match q with
  | .val _ => True
  | .fresh _ => ∀ a, v = .ref a → H a = none
/-- wishes of an expression, of an argument list, of a test -/
def KQ (X : Cx) (Q : VK) : Ps Sq := fun m H q st' => ∀ v m' H', Nx X.K X.w m H m' H' st' → RepQ X.K m' H' q v → FrQ H q v → Q v H'
def KD (X : Cx) (Q : VK) : Ps D := fun m H d st' => ∀ v m' H', Nx X.K X.w m H m' H' st' → Rep X.K m' H' d v → Q v H'
def KDs (X : Cx) (Q : List V → Hp → Prop) : Ps (List D) := fun m H ds st' => ∀ vs m' H', Nx X.K X.w m H m' H' st' → Reps X.K m' H' ds vs → Q vs H'
def KB (X : Cx) (Q : Bool → Hp → Prop) : Ps Bool := fun m H b st' => ∀ m' H', Nx X.K X.w m H m' H' st' → Q b H'
section
variable {X : Cx} {σ : L2.St} {m m' m1 : List Addr} {st st' st1 : Store} {H H' H1 : Hp}
theorem FrQ.back {q : Sq} {v : V} (S : StoR X.K X.w m st H) (n : Nx X.K X.w m H m1 H1 st1) (h : FrQ H1 q v) : FrQ H q v := by
  cases q with
  | val d => trivial
  | fresh xs => exact fun a e => n.back S (h a e)
theorem mnQ {Q : VK} : Mn X (KQ X Q) := fun m H st m1 H1 st1 q st' S n k v m' H' n' r f => k v m' H' (n.trans n') r (f.back S n)
theorem mnD {Q : VK} : Mn X (KD X Q) := fun m H st m1 H1 st1 q st' S n k v m' H' n' r => k v m' H' (n.trans n') r
theorem mnDs {Q : List V → Hp → Prop} : Mn X (KDs X Q) := fun m H st m1 H1 st1 q st' S n k v m' H' n' r => k v m' H' (n.trans n') r
theorem mnB {Q : Bool → Hp → Prop} : Mn X (KB X Q) := fun m H st m1 H1 st1 q st' S n k m' H' n' => k m' H' (n.trans n')
theorem RepQ.mono {K : PySem.W.Frag} {w : World} {q : Sq} {v : V} (S : StoR K w m st H) (n : Nx K w m H m1 H1 st1) (r : RepQ K m H q v) : RepQ K m1 H1 q v := by
  cases q with
  | val d => exact Rep.mono S n.ext n.fr r
  | fresh xs =>
    obtain ⟨a, vs, e, h, hm, r⟩ := r
    exact ⟨a, vs, e, n.fr a _ h hm, n.ext.out h hm, r.mono S n.ext n.fr⟩
end

/-! ### readings -/
def tX (X : Cx) (f : Env → Store → R Sq) : TE := fun σ H Q => ∃ env m st, EnvR X.K m H σ env ∧ StoR X.K X.w m st H ∧ Out X σ m H (f env st) (KQ X Q m H)
def tD (X : Cx) (f : Env → Store → R D) : TE := fun σ H Q => ∃ env m st, EnvR X.K m H σ env ∧ StoR X.K X.w m st H ∧ Out X σ m H (f env st) (KD X Q m H)
def tDs (X : Cx) (f : Env → Store → R (List D)) : TA := fun σ H Q => ∃ env m st, EnvR X.K m H σ env ∧ StoR X.K X.w m st H ∧ Out X σ m H (f env st) (KDs X Q m H)
def tBo (X : Cx) (f : Env → Store → R Bool) : TT := fun σ H Q => ∃ env m st, EnvR X.K m H σ env ∧ StoR X.K X.w m st H ∧ Out X σ m H (f env st) (KB X Q m H)
end Eng
namespace L2
open PySem
theorem PE.imp {X : Cx} {e : Expr} {t t' : TE} (h : PE X e t) (i : ∀ σ H Q, t' σ H Q → t σ H Q) : PE X e t' := ⟨fun pins s σ H Q I q => h.run pins s σ H Q I (i σ H Q q)⟩
theorem PT.imp {X : Cx} {e : Expr} {t t' : TT} (h : PT X e t) (i : ∀ σ H Q, t' σ H Q → t σ H Q) : PT X e t' := ⟨fun pins s σ H Q I q => h.run pins s σ H Q I (i σ H Q q)⟩
theorem PW.imp {X : Cx} {e : Expr} {t t' : TT} (h : PW X e t) (i : ∀ σ H Q, t' σ H Q → t σ H Q) : PW X e t' := ⟨fun whole pins s σ H Q I q => h.run whole pins s σ H Q I (i σ H Q q)⟩
theorem PA.imp {X : Cx} {e : List Expr} {t t' : TA} (h : PA X e t) (i : ∀ σ H Q, t' σ H Q → t σ H Q) : PA X e t' := ⟨fun pos pins s σ H Q I q => h.run pos pins s σ H Q I (i σ H Q q)⟩
theorem PS.imp {X : Cx} {e : Stmt} {t t' : TS} (h : PS X e t) (i : ∀ D σ H, t' D σ H → t D σ H) : PS X e t' := ⟨fun pins s σ H D I q => h.run pins s σ H D I (i D σ H q)⟩
theorem PSs.imp {X : Cx} {e : List Stmt} {t t' : TS} (h : PSs X e t) (i : ∀ D σ H, t' D σ H → t D σ H) : PSs X e t' := ⟨fun pins s σ H D I q => h.run pins s σ H D I (i D σ H q)⟩
end L2
namespace Eng
open PySem PySem.Spec PyProof.Rows L2
section
variable {X : Cx}
/-- a new list becomes the store's -/
theorem sto_push {K : PySem.W.Frag} {w : World} {m : List Addr} {st : Store} {H : Hp} {a : Addr} {o : O} (S : StoR K w m st H) (hm : a ∉ m) (r : ObjR K w (m ++ [a]) H a o) (mono : ∀ (i : Nat) (b : Addr) (u : O), m[i]? = some b → st[i]? = some u → ObjR K w m H b u → ObjR K w (m ++ [a]) H b u) : StoR K w (m ++ [a]) (st ++ [o]) H := by
  refine ⟨by simp [S.len], ?_, fun i b u hb hu => ?_⟩
  · rw [List.nodup_append]
    exact ⟨S.nd, by simp, fun x hx y hy e => hm (by simp at hy; subst hy; subst e; exact hx)⟩
  · by_cases hi : i < m.length
    · rw [List.getElem?_append_left hi] at hb
      rw [List.getElem?_append_left (by rw [← S.len]; exact hi)] at hu
      exact mono i b u hb hu (S.at_ i b u hb hu)
    · have e1 : i = m.length := by
        have := (List.getElem?_eq_some_iff.mp hb).1
        simp at this
        omega
      subst e1
      simp at hb
      rw [S.len] at hu
      simp at hu
      subst hb hu
      exact r
theorem ObjR.grow {K : PySem.W.Frag} {w : World} {m m' : List Addr} {st : Store} {H : Hp} {a : Addr} {o : O} (S : StoR K w m st H) (e : Ext H m m') (r : ObjR K w m H a o) : ObjR K w m' H a o := by
  cases o with
  | lst xs => obtain ⟨vs, h, r⟩ := r; exact ⟨vs, h, r.mono S e .refl⟩
  | dic kvs => obtain ⟨es, h, r⟩ := r; exact ⟨es, h, r.mono S e .refl⟩
  | dicL kvs => obtain ⟨o, es, h, r⟩ := r; exact ⟨o, es, h, r.mono S e .refl⟩
  | ins c fs => obtain ⟨dx, vfs, h, r⟩ := r; exact ⟨dx, vfs, h, r.mono S e .refl⟩
mutual
theorem Rep.sub {K : PySem.W.Frag} {m m' : List Addr} {H : Hp} (e : ∀ (i : Nat) (a : Addr), m[i]? = some a → m'[i]? = some a) : ∀ {d : D} {v : V}, Rep K m H d v → Rep K m' H d v
  | .non, _, h => h
  | .bl _, _, h => h
  | .int _, _, h => h
  | .str _, _, h => h
  | .tup xs, _, ⟨a, vs, h1, h2, h3⟩ => ⟨a, vs, h1, h2, Reps.sub e h3⟩
  | .rol xs, _, ⟨a, vs, h1, h2, h3⟩ => ⟨a, vs, h1, h2, Reps.sub e h3⟩
  | .obj i, _, ⟨a, h1, h2⟩ => ⟨a, h1, e i a h2⟩
theorem Reps.sub {K : PySem.W.Frag} {m m' : List Addr} {H : Hp} (e : ∀ (i : Nat) (a : Addr), m[i]? = some a → m'[i]? = some a) : ∀ {ds : List D} {vs : List V}, Reps K m H ds vs → Reps K m' H ds vs
  | [], _, h => h
  | x :: xs, _, ⟨v, ws, h1, h2, h3⟩ => ⟨v, ws, h1, Rep.sub e h2, Reps.sub e h3⟩
end
theorem ObjR.sub {K : PySem.W.Frag} {w : World} {m m' : List Addr} {H : Hp} {a : Addr} {o : O} (e : ∀ (i : Nat) (a : Addr), m[i]? = some a → m'[i]? = some a) (r : ObjR K w m H a o) : ObjR K w m' H a o := by
  cases o with
  | lst xs => obtain ⟨vs, h, r⟩ := r; exact ⟨vs, h, r.sub e⟩
  | dic kvs => obtain ⟨es, h, r⟩ := r; exact ⟨es, h, Paired.mapP r.pr (fun p q z => ⟨z.1, z.2.1, z.2.2.1.sub e, z.2.2.2.sub e⟩), r.nd⟩
  | dicL kvs => obtain ⟨o, es, h, r⟩ := r; exact ⟨o, es, h, Paired.mapP r.pr (fun p q z => ⟨z.1, z.2.1, z.2.2.1.sub e, z.2.2.2.sub e⟩), r.nd⟩
  | ins c fs => obtain ⟨dx, vfs, h, r⟩ := r; exact ⟨dx, vfs, h, Paired.mapP r fun p q z => ⟨z.1, z.2.sub e⟩⟩
theorem app_get {m : List Addr} {a : Addr} : ∀ (i : Nat) (b : Addr), m[i]? = some b → (m ++ [a])[i]? = some b := fun i b h => by
  rw [List.getElem?_append_left (List.getElem?_eq_some_iff.mp h).1]; exact h
theorem sto_push' {K : PySem.W.Frag} {w : World} {m : List Addr} {st : Store} {H : Hp} {a : Addr} {o : O} (S : StoR K w m st H) (hm : a ∉ m) (r : ObjR K w m H a o) : StoR K w (m ++ [a]) (st ++ [o]) H :=
  sto_push S hm (r.sub app_get) fun _ _ _ _ _ z => z.sub app_get
theorem get_push {m : List Addr} {st : Store} {K : PySem.W.Frag} {w : World} {H : Hp} {a : Addr} (S : StoR K w m st H) : (m ++ [a])[st.length]? = some a := by
  rw [← S.len]; simp
/-- settled: a new list becomes the store's -/
theorem tX_asD {f : Env → Store → R Sq} {σ : L2.St} {H : Hp} {Q : VK} (h : tD X (fun env st => asD (f env st)) σ H Q) : tX X f σ H Q := by
  obtain ⟨env, m, st, E, S, o⟩ := h
  refine ⟨env, m, st, E, S, ?_⟩
  dsimp only at o
  unfold asD at o
  cases hf : f env st with
  | no => rw [hf] at o; exact o
  | ex x fs st' => rw [hf] at o; exact o
  | ok q st' =>
    rw [hf] at o
    intro v m' H' n r fr
    cases q with
    | val d => exact o v m' H' n r
    | fresh xs =>
      obtain ⟨a, vs, rfl, hl, hm, rs⟩ := r
      have hn : H a = none := fr a rfl
      obtain ⟨l, rfl, hl0⟩ := n.ext
      refine o (.ref a) (m ++ l ++ [a]) H' ⟨⟨l ++ [a], by simp, fun b hb => ?_⟩, sto_push' n.sto hm ⟨vs, hl, rs⟩, n.fr, n.fz⟩ ⟨a, rfl, get_push n.sto⟩
      rcases List.mem_append.mp hb with hb | hb
      · exact hl0 b hb
      · simp at hb; subst hb; exact hn
theorem pe_asD {e : Expr} {f : Env → Store → R Sq} (h : PE X e (tX X f)) : PE X e (tD X fun env st => asD (f env st)) := h.imp fun _ _ _ => tX_asD
end
end Eng
/-! E3: rules of values: names, displays, operators, comparisons, subscripts. -/
namespace Eng
open PySem PySem.Spec PyProof.Rows L2
section
variable {K : PySem.W.Frag} {w : World} {m m' m1 : List Addr} {st st' st1 : Store} {H H' H1 : Hp} {a p : Addr} {i : Nat}
theorem fr_new {o : HO} (hp : H p = none) : Fr m H (upd H p o) := fun b u h _ => by rw [upd_ne (ne_of_none h hp)]; exact h
theorem ObjR.at {o : O} (S : StoR K w m st H) (e : Ext H m m') (f : Fr m H H') (h : H' a = H a) (r : ObjR K w m H a o) : ObjR K w m' H' a o := by
  cases o with
  | lst xs => obtain ⟨vs, q, r⟩ := r; exact ⟨vs, h.trans q, r.mono S e f⟩
  | dic kvs => obtain ⟨es, q, r⟩ := r; exact ⟨es, h.trans q, r.mono S e f⟩
  | dicL kvs => obtain ⟨o, es, q, r⟩ := r; exact ⟨o, es, h.trans q, r.mono S e f⟩
  | ins c fs => obtain ⟨dx, vfs, q, r⟩ := r; exact ⟨dx, vfs, h.trans q, r.mono S e f⟩
theorem StoR.new {o : HO} (S : StoR K w m st H) (hp : H p = none) : StoR K w m st (upd H p o) :=
  ⟨S.len, S.nd, fun i b u hb hu => by
    have r := S.at_ i b u hb hu
    refine r.at S .refl (fr_new hp) (upd_ne fun e => ?_)
    subst e
    exact S.fresh hp (List.mem_of_getElem? hb)⟩
theorem Nx.new {o : HO} (S : StoR K w m st H) (hp : H p = none) : Nx K w m H m (upd H p o) st := ⟨.refl, S.new hp, fr_new hp, fun b q u h => by rw [upd_ne (ne_of_none h hp)]; exact h⟩
/-- not locked -/
def NoFz (H : Hp) (a : Addr) : Prop := ∀ o u, H a ≠ some (.frz o u)
theorem fr_set {o : HO} (ha : a ∈ m) : Fr m H (upd H a o) := fun b u h hb => by rw [upd_ne (fun e => hb (by rw [e]; exact ha))]; exact h
/-- the object at a place of the store is written -/
theorem StoR.put {o : HO} {x : O} (S : StoR K w m st H) (hi : m[i]? = some a) (r : ObjR K w m (upd H a o) a x) : StoR K w m (st.set i x) (upd H a o) := by
  have ha := List.mem_of_getElem? hi
  refine ⟨by simp [S.len], S.nd, fun j b u hb hu => ?_⟩
  by_cases hj : j = i
  · subst hj
    rw [hi] at hb; cases hb
    have hlt : j < st.length := by rw [← S.len]; exact (List.getElem?_eq_some_iff.mp hi).1
    rw [List.getElem?_set_self hlt] at hu; cases hu
    exact r
  · rw [List.getElem?_set_ne (Ne.symm hj)] at hu
    refine (S.at_ j b u hb hu).at S .refl (fr_set ha) (upd_ne fun e => ?_)
    subst e
    obtain ⟨h1, e1⟩ := List.getElem?_eq_some_iff.mp hb
    obtain ⟨h2, e2⟩ := List.getElem?_eq_some_iff.mp hi
    exact hj ((List.getElem_inj S.nd).mp (e1.trans e2.symm))
theorem Nx.put {o : HO} {x : O} (S : StoR K w m st H) (hi : m[i]? = some a) (nf : NoFz H a) (r : ObjR K w m (upd H a o) a x) : Nx K w m H m (upd H a o) (st.set i x) :=
  ⟨.refl, S.put hi r, fr_set (List.mem_of_getElem? hi), fun b q u h => by rw [upd_ne (fun e => by subst e; exact nf q u h)]; exact h⟩
theorem Reps.new {o : HO} {ds : List D} {vs : List V} (S : StoR K w m st H) (hp : H p = none) (r : Reps K m H ds vs) : Reps K m (upd H p o) ds vs := r.mono S .refl (fr_new hp)
theorem Reps.put {o : HO} {ds : List D} {vs : List V} (S : StoR K w m st H) (ha : a ∈ m) (r : Reps K m H ds vs) : Reps K m (upd H a o) ds vs := r.mono S .refl (fr_set ha)
/-- a new tuple -/
theorem Rep.tupNew {ds : List D} {vs : List V} (S : StoR K w m st H) (hp : H p = none) (r : Reps K m H ds vs) : Rep K m (upd H p (.tup vs)) (.tup ds) (.ref p) := ⟨p, vs, rfl, .of upd_same, r.new S hp⟩
theorem RepQ.lstNew {ds : List D} {vs : List V} (S : StoR K w m st H) (hp : H p = none) (r : Reps K m H ds vs) : RepQ K m (upd H p (.lst vs)) (.fresh ds) (.ref p) := ⟨p, vs, rfl, upd_same, S.fresh hp, r.new S hp⟩
theorem FrQ.lst {ds : List D} (hp : H p = none) : FrQ H (.fresh ds) (.ref p) := fun a e => by cases e; exact hp
end

/-! ### what the results come to -/
section
variable {X : Cx} {Q : VK} {m : List Addr} {H : Hp} {st : Store} {p : Addr}
/-- the answer is a value that is there -/
theorem KQ.here {q : Sq} {v : V} (S : StoR X.K X.w m st H) (k : KQ X Q m H q st) (r : RepQ X.K m H q v) (f : FrQ H q v) : Q v H := k v m H (.refl S) r f
theorem KQ.val {d : D} {v : V} (S : StoR X.K X.w m st H) (k : KQ X Q m H (.val d) st) (r : Rep X.K m H d v) : Q v H := k v m H (.refl S) r trivial
theorem KQ.tup {ds : List D} {vs : List V} (S : StoR X.K X.w m st H) (k : KQ X Q m H (.val (.tup ds)) st) (r : Reps X.K m H ds vs) (hp : H p = none) : Q (.ref p) (upd H p (.tup vs)) :=
  k _ m _ (.new S hp) (Rep.tupNew S hp r) trivial
theorem KQ.lst {ds : List D} {vs : List V} (S : StoR X.K X.w m st H) (k : KQ X Q m H (.fresh ds) st) (r : Reps X.K m H ds vs) (hp : H p = none) : Q (.ref p) (upd H p (.lst vs)) :=
  k _ m _ (.new S hp) (.lstNew S hp r) (.lst hp)
/-- the object at place i is written -/
theorem KQ.put {d : D} {v : V} {i : Nat} {a : Addr} {o : HO} {x : O} (S : StoR X.K X.w m st H) (k : KQ X Q m H (.val d) (st.set i x)) (hi : m[i]? = some a) (nf : NoFz H a) (r : ObjR X.K X.w m (upd H a o) a x) (rd : Rep X.K m (upd H a o) d v) : Q v (upd H a o) :=
  k v m _ (.put S hi nf r) rd trivial
end

/-! ### two operands -/
/-- an operation on values that raises nothing -/
def rG (X : Cx) (g : Sq → Sq → Store → R Sq) : R2 := fun v u H Q => ∃ m st x y q st', StoR X.K X.w m st H ∧ RepQ X.K m H x v ∧ RepQ X.K m H y u ∧ g x y st = .ok q st' ∧ KQ X Q m H q st'
def NoEx2 (g : Sq → Sq → Store → R Sq) : Prop := ∀ x y st e fs st', g x y st ≠ .ex e fs st'
section
variable {X : Cx} {fa fb fc : Env → Store → R Sq} {σ : L2.St} {H : Hp} {Q : VK}
theorem tX_bin {g : Sq → Sq → Store → R Sq} (hg : NoEx2 g) (h : tX X (fun env st => (fa env st).bind fun x st => (fb env st).bind fun y st => g x y st) σ H Q) : tOp (rG X g) (tX X fa) (tX X fb) σ H Q := by
  obtain ⟨env, m, st, E, S, o⟩ := h
  refine ⟨env, m, st, E, S, (o.bind S mnQ).imp fun x st1 k v m1 H1 n r f => ?_⟩
  refine ⟨env, m1, st1, E.mono S n.ext n.fr, n.sto, ((k m1 H1 n).bind n.sto mnQ).imp fun y st2 k2 u m2 H2 n2 r2 f2 => ?_⟩
  have o2 := k2 m2 H2 n2
  cases hq : g x y st2 with
  | no => rw [hq] at o2; exact o2.elim
  | ex e fs s => exact (hg _ _ _ _ _ _ hq).elim
  | ok q st' => rw [hq] at o2; exact ⟨m2, st2, x, y, q, st', n2.sto, r.mono n.sto n2, r2, hq, o2⟩
/-- one operand -/
def rG1 (X : Cx) (g : Sq → Store → R Sq) : V → Hp → VK → Prop := fun v H Q => ∃ m st x q st', StoR X.K X.w m st H ∧ RepQ X.K m H x v ∧ g x st = .ok q st' ∧ KQ X Q m H q st'
def NoEx1 (g : Sq → Store → R Sq) : Prop := ∀ x st e fs st', g x st ≠ .ex e fs st'
theorem tX_un {g : Sq → Store → R Sq} (hg : NoEx1 g) (h : tX X (fun env st => (fa env st).bind fun x st => g x st) σ H Q) : tUn (rG1 X g) (tX X fa) σ H Q := by
  obtain ⟨env, m, st, E, S, o⟩ := h
  refine ⟨env, m, st, E, S, (o.bind S mnQ).imp fun x st1 k v m1 H1 n r f => ?_⟩
  have o2 := k m1 H1 n
  cases hq : g x st1 with
  | no => rw [hq] at o2; exact o2.elim
  | ex e fs s => exact (hg _ _ _ _ _ hq).elim
  | ok q st' => rw [hq] at o2; exact ⟨m1, st1, x, q, st', n.sto, r, hq, o2⟩
end

/-! ### names and constants -/
section
variable {X : Cx}
theorem je_var {i : Nat} {x : Str} {pos : Pos} {f : Env → Store → R Sq} (hf : f = fun env st => match env[i]? with
    | some (some d) => val d st
    | _ => .no) (hN : X.N[i]? = some x) (hv : Vis X.env.scope x) (hd : (x == ("__debug__" : Str)) = false) (hcd : (x == ("__classdict__" : Str)) = false) : PE X (.Name x pos) (tX X f) := by
  subst hf
  refine (pe_var (i := i) hN hv hd hcd).imp fun σ H Q h => ?_
  obtain ⟨env, m, st, E, S, o⟩ := h
  dsimp only at o
  split at o
  · next d e =>
    obtain ⟨v, h1, h2⟩ := E.at_ i d e
    exact ⟨v, h1, KQ.val S o h2⟩
  · exact o.elim
theorem je_cst {d : D} {v : V} {e : Expr} {f : Env → Store → R Sq} (hf : f = fun _ st => val d st) (h : PE X e (tC v)) (r : ∀ m H, Rep X.K m H d v) : PE X e (tX X f) := by
  subst hf
  refine h.imp fun σ H Q h => ?_
  obtain ⟨env, m, st, E, S, o⟩ := h
  exact KQ.val S o (r m H)
end

/-! ### argument lists, displays -/
section
variable {X : Cx}
theorem ja_nil {f : Env → Store → R (List D)} (hf : f = fun _ st => .ok [] st) : PA X [] (tDs X f) := by
  subst hf
  refine pa_nil.imp fun σ H Q h => ?_
  obtain ⟨env, m, st, E, S, o⟩ := h
  exact o [] m H (.refl S) rfl
theorem ja_cons {e : Expr} {es : List Expr} {fe : Env → Store → R D} {fs f : Env → Store → R (List D)} (hf : f = fun env st => (fe env st).bind fun d st => (fs env st).bind fun ds st => .ok (d :: ds) st)
    (he : PE X e (tD X fe)) (hs : PA X es (tDs X fs)) (hst : starEach (e :: es) X.env = (false, eval e X.env) :: starEach es X.env) : PA X (e :: es) (tDs X f) := by
  subst hf
  refine (pa_cons he hs hst).imp fun σ H Q h => ?_
  obtain ⟨env, m, st, E, S, o⟩ := h
  refine ⟨env, m, st, E, S, (o.bind S mnDs).imp fun d st1 k v m1 H1 n r => ?_⟩
  refine ⟨env, m1, st1, E.mono S n.ext n.fr, n.sto, ((k m1 H1 n).bind n.sto mnDs).imp fun ds st2 k2 vs m2 H2 n2 r2 => ?_⟩
  exact k2 m2 H2 n2 (v :: vs) m2 H2 (.refl n2.sto) ⟨v, vs, rfl, r.mono n.sto n2.ext n2.fr, r2⟩
theorem je_tup {es : List Expr} {k : Nat} {pos : Pos} {fs : Env → Store → R (List D)} {f : Env → Store → R Sq} (hf : f = fun env st => (fs env st).bind fun ds st => val (.tup ds) st) (hlen : es.length ≤ 1000)
    (hds : ∀ env st ds st', fs env st = .ok ds st' → ds.length = es.length) (h : PA X es (tDs X fs)) : PE X (.Tuple es k pos) (tX X f) := by
  subst hf
  refine (pe_tup h).imp fun σ H Q h => ?_
  obtain ⟨env, m, st, E, S, o⟩ := h
  refine ⟨env, m, st, E, S, ?_⟩
  cases hq : fs env st with
  | no => simp only [hq] at o; exact o
  | ex e x s => simp only [hq] at o; exact o
  | ok ds st1 =>
    simp only [hq] at o
    intro vs m1 H1 n r
    refine ⟨?_, fun p hp => ?_⟩
    · rw [r.length, hds env st ds st1 hq]
      exact Nat.le_trans hlen (by decide)
    · exact KQ.tup n.sto (mnQ m H st m1 H1 st1 _ _ S n o) r hp
theorem je_lst {es : List Expr} {pos : Pos} {fs : Env → Store → R (List D)} {f : Env → Store → R Sq} (hf : f = fun env st => (fs env st).bind fun ds st => .ok (.fresh ds) st) (hlen : es.length ≤ 1000)
    (hds : ∀ env st ds st', fs env st = .ok ds st' → ds.length = es.length) (h : PA X es (tDs X fs)) : PE X (.List es pos) (tX X f) := by
  subst hf
  refine (pe_lst h).imp fun σ H Q h => ?_
  obtain ⟨env, m, st, E, S, o⟩ := h
  refine ⟨env, m, st, E, S, ?_⟩
  cases hq : fs env st with
  | no => simp only [hq] at o; exact o
  | ex e x s => simp only [hq] at o; exact o
  | ok ds st1 =>
    simp only [hq] at o
    intro vs m1 H1 n r
    refine ⟨?_, fun p hp => ?_⟩
    · rw [r.length, hds env st ds st1 hq]
      exact Nat.le_trans hlen (by decide)
    · exact KQ.lst n.sto (mnQ m H st m1 H1 st1 _ _ S n o) r hp
end

/-! ### operators -/
theorem ite_ok {α : Type} {c : Prop} [Decidable c] {r : R α} {q : α} {st : Store} (h : (if c then r else .no) = .ok q st) : c ∧ r = .ok q st := by
  by_cases hc : c
  · rw [if_pos hc] at h; exact ⟨hc, h⟩
  · rw [if_neg hc] at h; cases h
theorem val_ok {d : D} {q : Sq} {st st' : Store} (h : val d st = .ok q st') : q = .val d ∧ st' = st := by
  simp only [val, R.ok.injEq] at h; exact ⟨h.1.symm, h.2.symm⟩
theorem ok_ok {α : Type} {a q : α} {st st' : Store} (h : R.ok a st = .ok q st') : q = a ∧ st' = st := by
  simp only [R.ok.injEq] at h; exact ⟨h.1.symm, h.2.symm⟩
theorem opt_ok {α β : Type} {o : Option α} {st st' : Store} {f : α → Store → R β} {b : β} (h : (opt o st).bind f = .ok b st') : ∃ a, o = some a ∧ f a st = .ok b st' := by
  cases o with
  | none => cases h
  | some a => exact ⟨a, rfl, h⟩
theorem bind_ok {α β : Type} {r : R α} {st' : Store} {f : α → Store → R β} {b : β} (h : r.bind f = .ok b st') : ∃ a st1, r = .ok a st1 ∧ f a st1 = .ok b st' := by
  cases r with
  | no => cases h
  | ex x fs s => cases h
  | ok a st1 => exact ⟨a, st1, rfl, h⟩
theorem small_le {n : Nat} (h : small n = true) : n ≤ sizeLine := of_decide_eq_true h
section
variable {X : Cx} {m : List Addr} {H : Hp} {st : Store} {x : Sq} {v : V}
/-- a list that may be written: tracked -/
theorem mlst_at {K : PySem.W.Frag} {w : World} {xs : List D} (S : StoR K w m st H) (r : RepQ K m H x v) (h : mlst st x = some xs) : ∃ a vs, v = .ref a ∧ H a = some (.lst vs) ∧ Reps K m H xs vs := by
  cases x with
  | fresh ys =>
    cases h
    obtain ⟨a, vs, h1, h2, _, h4⟩ := r
    exact ⟨a, vs, h1, h2, h4⟩
  | val d =>
    cases d <;> try (simp [mlst] at h; done)
    rename_i i
    obtain ⟨a, h1, h2⟩ := r
    simp only [mlst] at h
    cases hq : st[i]? with
    | none => rw [hq] at h; simp at h
    | some o =>
      rw [hq] at h
      cases o <;> simp at h
      subst h
      obtain ⟨vs, h3, h4⟩ := S.at_ i a _ h2 hq
      exact ⟨a, vs, h1, h3, h4⟩
/-- a list that is read -/
theorem lstOf_at {K : PySem.W.Frag} {w : World} {xs : List D} (S : StoR K w m st H) (r : RepQ K m H x v) (h : lstOf st x = some xs) : ∃ a vs, v = .ref a ∧ SqL K H a vs ∧ Reps K m H xs vs := by
  cases x with
  | fresh ys =>
    cases h
    obtain ⟨a, vs, h1, h2, _, h4⟩ := r
    exact ⟨a, vs, h1, .of h2, h4⟩
  | val d =>
    cases d <;> try (simp [lstOf] at h; done)
    · cases h
      obtain ⟨a, vs, h1, h2, h3⟩ := r
      exact ⟨a, vs, h1, h2.seq, h3⟩
    · rename_i i
      obtain ⟨a, h1, h2⟩ := r
      simp only [lstOf] at h
      cases hq : st[i]? with
      | none => rw [hq] at h; simp at h
      | some o =>
        rw [hq] at h
        cases o <;> simp at h
        subst h
        obtain ⟨vs, h3, h4⟩ := S.at_ i a _ h2 hq
        exact ⟨a, vs, h1, .of h3, h4⟩
/-- a list or a tuple that is read -/
theorem seqOf_at {K : PySem.W.Frag} {w : World} {xs : List D} (S : StoR K w m st H) (r : RepQ K m H x v) (h : seqOf st x = some xs) : ∃ a vs, v = .ref a ∧ (SqL K H a vs ∨ SqT K H a vs) ∧ Reps K m H xs vs := by
  by_cases hx : ∃ ys, x = .val (.tup ys)
  · obtain ⟨ys, rfl⟩ := hx
    cases h
    obtain ⟨a, vs, h1, h2, h3⟩ := r
    exact ⟨a, vs, h1, .inr h2, h3⟩
  · have : lstOf st x = some xs := by
      rw [← h]
      unfold seqOf
      split
      · next q => exact absurd ⟨_, rfl⟩ hx
      · rfl
    obtain ⟨a, vs, h1, h2, h3⟩ := lstOf_at S r this
    exact ⟨a, vs, h1, .inl h2, h3⟩
end
section
variable {X : Cx}
theorem op_addG : OpR X (binaryOp .Add) (rG X (binop .add)) := by
  rintro pins s σ H v u vv uu Q I rv ru ⟨m, st, x, y, q, st', S, rx, ry, e, k⟩
  unfold binop at e
  split at e <;> try contradiction
  · next i j he =>
    obtain ⟨rfl, rfl⟩ := val_ok e
    exact op_add pins s σ H v u vv uu Q I rv ru ⟨_, _, rx, ry, KQ.val S k rfl⟩
  · next i j he =>
    obtain ⟨hs, e⟩ := ite_ok e
    obtain ⟨rfl, rfl⟩ := val_ok e
    exact op_add_str pins s σ H v u vv uu Q I rv ru ⟨_, _, rx, ry, small_le hs, KQ.val S k rfl⟩
  · next xs ys he =>
    obtain ⟨hs, e⟩ := ite_ok e
    obtain ⟨rfl, rfl⟩ := val_ok e
    obtain ⟨a, vs, rfl, ha, r1⟩ := rx
    obtain ⟨b, us, rfl, hb, r2⟩ := ry
    refine op_catA pins s σ H _ _ vv uu Q I rv ru ⟨a, b, vs, us, rfl, rfl, ha, hb, ?_, fun z => ?_, fun _ z => ?_, fun _ _ p hp => KQ.tup S k (r1.append r2) hp⟩
    · rw [r1.length, r2.length]; exact small_le hs
    · subst z
      have : xs = [] := List.eq_nil_of_length_eq_zero (r1.length.symm)
      subst this
      exact KQ.val S k ⟨b, us, rfl, hb, r2⟩
    · subst z
      have : ys = [] := List.eq_nil_of_length_eq_zero (r2.length.symm)
      subst this
      exact KQ.val S k ⟨a, vs, rfl, ha, by rw [List.append_nil]; exact r1⟩
  · split at e <;> try contradiction
    next xs ys hx hy =>
    obtain ⟨hs, e⟩ := ite_ok e
    obtain ⟨rfl, rfl⟩ := ok_ok e
    obtain ⟨a, vs, rfl, ha, r1⟩ := mlst_at S rx hx
    obtain ⟨b, us, rfl, hb, r2⟩ := mlst_at S ry hy
    refine op_cat pins s σ H _ _ vv uu Q I rv ru ⟨a, b, vs, us, rfl, rfl, ha, hb, ?_, fun p hp => KQ.lst S k (r1.append r2) hp⟩
    rw [r1.length, r2.length]; exact small_le hs
end
end Eng
/-! E4: rules of values, further: numbers, comparisons, data. -/
namespace Eng
open PySem PySem.Spec PyProof.Rows L2
section
variable {X : Cx}
theorem op_subG : OpR X (binaryOp .Sub) (rG X (binop .sub)) := by
  rintro pins s σ H v u vv uu Q I rv ru ⟨m, st, x, y, q, st', S, rx, ry, e, k⟩
  unfold binop at e
  split at e <;> try contradiction
  next i j he =>
    obtain ⟨rfl, rfl⟩ := val_ok e
    exact op_sub pins s σ H v u vv uu Q I rv ru ⟨_, _, rx, ry, KQ.val S k rfl⟩
theorem op_fdivG : OpR X (binaryOp .FloorDiv) (rG X (binop .fdiv)) := by
  rintro pins s σ H v u vv uu Q I rv ru ⟨m, st, x, y, q, st', S, rx, ry, e, k⟩
  unfold binop at e
  split at e <;> try contradiction
  next i j he =>
    obtain ⟨hs, e⟩ := ite_ok e
    obtain ⟨rfl, rfl⟩ := val_ok e
    exact op_fdiv pins s σ H v u vv uu Q I rv ru ⟨_, _, rx, ry, hs, KQ.val S k rfl⟩
theorem op_modG : OpR X (binaryOp .Mod) (rG X (binop .mod)) := by
  rintro pins s σ H v u vv uu Q I rv ru ⟨m, st, x, y, q, st', S, rx, ry, e, k⟩
  unfold binop at e
  split at e <;> try contradiction
  next i j he =>
    obtain ⟨hs, e⟩ := ite_ok e
    obtain ⟨rfl, rfl⟩ := val_ok e
    exact op_mod pins s σ H v u vv uu Q I rv ru ⟨_, _, rx, ry, hs, KQ.val S k rfl⟩
theorem op_powG : OpR X (binaryOp .Pow) (rG X (binop .pow)) := by
  rintro pins s σ H v u vv uu Q I rv ru ⟨m, st, x, y, q, st', S, rx, ry, e, k⟩
  unfold binop at e
  split at e <;> try contradiction
  next i j he =>
    obtain ⟨hs, e⟩ := ite_ok e
    obtain ⟨rfl, rfl⟩ := val_ok e
    exact op_pow pins s σ H v u vv uu Q I rv ru ⟨_, _, rx, ry, ⟨hs.1, by omega, hs.2.2⟩, KQ.val S k rfl⟩
theorem op_mulG : OpR X (binaryOp .Mult) (rG X (binop .mul)) := by
  rintro pins s σ H v u vv uu Q I rv ru ⟨m, st, x, y, q, st', S, rx, ry, e, k⟩
  unfold binop at e
  split at e <;> try contradiction
  · next i j he =>
    obtain ⟨hs, e⟩ := ite_ok e
    obtain ⟨rfl, rfl⟩ := val_ok e
    exact op_mul pins s σ H v u vv uu Q I rv ru ⟨_, _, rx, ry, by simpa [mulOk, CMul] using hs, KQ.val S k rfl⟩
  · next xs j he =>
    obtain ⟨hs, e⟩ := ite_ok e
    obtain ⟨rfl, rfl⟩ := val_ok e
    obtain ⟨a, vs, rfl, ha, r1⟩ := rx
    refine op_repT pins s σ H _ u vv uu Q I rv ru ⟨a, j, vs, rfl, ry, ha, ?_, hs.2.1, hs.2.2.1, by rw [r1.length]; exact hs.2.2.2, fun p hp => KQ.tup S k (r1.rep _) hp⟩
    intro z
    subst z
    exact hs.1 (List.eq_nil_of_length_eq_zero r1.length.symm)
  · next x j he =>
    obtain ⟨hs, e⟩ := ite_ok e
    obtain ⟨rfl, rfl⟩ := val_ok e
    obtain ⟨t, rfl⟩ : ∃ t, vv = Value.str x t := by rw [show v = V.str x from rx] at rv; exact rv
    obtain ⟨t2, rfl⟩ : ∃ t, uu = Value.int j t := by rw [show u = V.int j from ry] at ru; exact ru
    refine SB.mul ⟨?_, fun h1 _ => ?_, fun h1 _ => ?_⟩ fun t' k' => ⟨.str (Txt.mul x j), H, I.tok _, ⟨t', rfl⟩, KQ.val S k rfl⟩
    · have h1 : ¬ j < -(2 ^ 63 : Int) := by omega
      have h2 : ¬ j ≥ (2 ^ 63 : Int) := by omega
      rw [decide_eq_false h1, decide_eq_false h2]; rfl
    · have h3 : (1000 : Int) ≤ (2 ^ 63 - 1) / j := by
        rw [Int.le_ediv_iff_mul_le (by omega)]
        omega
      omega
    · have h3 : x.length * j.toNat ≤ 1000 * 1000 := Nat.mul_le_mul hs.2.2 (by omega)
      unfold Builtin.Str.tooLong
      simp only [decide_eq_false_iff_not, Nat.not_lt, gt_iff_lt]
      have h4 : sizeLine = 16777216 := rfl
      omega
  · split at e <;> try contradiction
    next xs hx =>
    obtain ⟨hs, e⟩ := ite_ok e
    obtain ⟨rfl, rfl⟩ := ok_ok e
    obtain ⟨a, vs, rfl, ha, r1⟩ := mlst_at S rx hx
    simp only [timesOk, Bool.and_eq_true, decide_eq_true_eq] at hs
    exact op_rep pins s σ H _ u vv uu Q I rv ru ⟨a, _, vs, rfl, ry, ha, by omega, by omega, by rw [r1.length]; exact small_le hs.2, fun p hp => KQ.lst S k (r1.rep _) hp⟩
theorem un_negG : UnR X (unaryOp .USub) (rG1 X negV) := by
  rintro pins s σ H v vv Q I rv ⟨m, st, x, q, st', S, rx, e, k⟩
  unfold negV at e
  split at e <;> try contradiction
  next i =>
    obtain ⟨rfl, rfl⟩ := val_ok e
    exact un_neg pins s σ H v vv Q I rv ⟨i, rx, KQ.val S k rfl⟩

/-! ### comparisons of ints, with None -/
variable {p : Prg} {call : String → List D → Store → R D}
theorem op_ltG : OpR X (compareOp .Lt) (rG X (cmpV p call .lt)) := by
  rintro pins s σ H v u vv uu Q I rv ru ⟨m, st, x, y, q, st', S, rx, ry, e, k⟩
  unfold cmpV at e
  split at e <;> try contradiction
  next i j he =>
    obtain ⟨rfl, rfl⟩ := val_ok e
    exact op_lt pins s σ H v u vv uu Q I rv ru ⟨_, _, rx, ry, KQ.val S k rfl⟩
theorem op_leG : OpR X (compareOp .LtE) (rG X (cmpV p call .le)) := by
  rintro pins s σ H v u vv uu Q I rv ru ⟨m, st, x, y, q, st', S, rx, ry, e, k⟩
  unfold cmpV at e
  split at e <;> try contradiction
  next i j he =>
    obtain ⟨rfl, rfl⟩ := val_ok e
    exact op_le pins s σ H v u vv uu Q I rv ru ⟨_, _, rx, ry, KQ.val S k rfl⟩
theorem op_gtG : OpR X (compareOp .Gt) (rG X (cmpV p call .gt)) := by
  rintro pins s σ H v u vv uu Q I rv ru ⟨m, st, x, y, q, st', S, rx, ry, e, k⟩
  unfold cmpV at e
  split at e <;> try contradiction
  next i j he =>
    obtain ⟨rfl, rfl⟩ := val_ok e
    exact op_gt pins s σ H v u vv uu Q I rv ru ⟨_, _, rx, ry, KQ.val S k rfl⟩
theorem op_geG : OpR X (compareOp .GtE) (rG X (cmpV p call .ge)) := by
  rintro pins s σ H v u vv uu Q I rv ru ⟨m, st, x, y, q, st', S, rx, ry, e, k⟩
  unfold cmpV at e
  split at e <;> try contradiction
  next i j he =>
    obtain ⟨rfl, rfl⟩ := val_ok e
    exact op_ge pins s σ H v u vv uu Q I rv ru ⟨_, _, rx, ry, KQ.val S k rfl⟩
theorem Rep.non_iff {K : PySem.W.Frag} {m : List Addr} {H : Hp} {d : D} {v : V} (r : Rep K m H d v) : decide (v = .non) = decide (d = .non) := by
  cases d with
  | non => rw [show v = .non from r]; rfl
  | bl b => rw [show v = .bl b from r]; rfl
  | int i => rw [show v = .int i from r]; rfl
  | str s => rw [show v = .str s from r]; rfl
  | tup xs => obtain ⟨a, vs, rfl, _⟩ := r; rfl
  | rol xs => obtain ⟨a, vs, rfl, _⟩ := r; rfl
  | obj i => obtain ⟨a, rfl, _⟩ := r; rfl
theorem op_isNG : OpR X (compareOp .Is) (rG X (cmpV p call .isN)) := by
  rintro pins s σ H v u vv uu Q I rv ru ⟨m, st, x, y, q, st', S, rx, ry, e, k⟩
  unfold cmpV at e
  split at e <;> try contradiction
  next d he =>
    obtain ⟨rfl, rfl⟩ := val_ok e
    refine op_isN pins s σ H v u vv uu Q I rv ru ⟨ry, ?_⟩
    rw [Rep.non_iff rx]
    exact KQ.val S k rfl
theorem op_notNG : OpR X (compareOp .IsNot) (rG X (cmpV p call .notN)) := by
  rintro pins s σ H v u vv uu Q I rv ru ⟨m, st, x, y, q, st', S, rx, ry, e, k⟩
  unfold cmpV at e
  split at e <;> try contradiction
  next d he =>
    obtain ⟨rfl, rfl⟩ := val_ok e
    refine op_notN pins s σ H v u vv uu Q I rv ru ⟨ry, ?_⟩
    rw [Rep.non_iff rx]
    exact KQ.val S k rfl
end

/-! ### values as data -/
theorem optM_cons {α β : Type} {f : α → Option β} {x : α} {xs : List α} {ys : List β} (h : optM f (x :: xs) = some ys) : ∃ y zs, f x = some y ∧ optM f xs = some zs ∧ ys = y :: zs := by
  simp only [optM] at h
  split at h
  · next y zs h1 h2 => exact ⟨y, zs, h1, h2, (Option.some.inj h).symm⟩
  · cases h
section
variable {K : PySem.W.Frag} {w : World} {m : List Addr} {H : Hp} {st : Store}
theorem dpAll_by {f : D → Option PyData} (hf : ∀ d v y, f d = some y → Rep K m H d v → Dp K H v y) : ∀ (xs : List D) (vs : List V) (ys : List PyData), optM f xs = some ys → Reps K m H xs vs → DpAll K H vs ys
  | [], vs, ys, h, r => by
    simp only [optM, Option.some.injEq] at h
    subst h
    rw [show vs = [] from r]
    exact .nil
  | x :: xs, vs, ys, h, r => by
    obtain ⟨y, zs, h1, h2, rfl⟩ := optM_cons h
    obtain ⟨v, us, rfl, r1, r2⟩ := r
    exact .cons (hf x v y h1 r1) (dpAll_by hf xs us zs h2 r2)
/-- the value is that data -/
theorem res_dp (S : StoR K w m st H) : ∀ (n : Nat) (d : D) (v : V) (y : PyData), res st n d = some y → Rep K m H d v → Dp K H v y := by
  intro n
  induction n with
  | zero =>
    intro d v y h r
    cases d <;> simp only [res, Option.some.injEq, reduceCtorEq] at h
    · subst h; rw [show v = .non from r]; exact .non
    · subst h; rename_i b; rw [show v = .bl b from r]; exact .bl b
    · subst h; rename_i i; rw [show v = .int i from r]; exact .int i
    · subst h; rename_i x; rw [show v = .str x from r]; exact .str x
  | succ n ih =>
    intro d v y h r
    cases d <;> simp only [res, Option.some.injEq, Option.map_eq_some_iff] at h
    · subst h; rw [show v = .non from r]; exact .non
    · subst h; rename_i b; rw [show v = .bl b from r]; exact .bl b
    · subst h; rename_i i; rw [show v = .int i from r]; exact .int i
    · subst h; rename_i x; rw [show v = .str x from r]; exact .str x
    · obtain ⟨ys, h, rfl⟩ := h
      obtain ⟨a, vs, rfl, ha, rs⟩ := r
      exact .tup ha (dpAll_by ih _ vs ys h rs)
    · obtain ⟨ys, h, rfl⟩ := h
      obtain ⟨a, vs, rfl, ha, rs⟩ := r
      exact .lst ha.seq (dpAll_by ih _ vs ys h rs)
    · obtain ⟨a, rfl, hi⟩ := r
      rename_i i
      cases hq : st[i]? with
      | none => rw [hq] at h; cases h
      | some o =>
        rw [hq] at h
        cases o <;> simp only [Option.map_eq_some_iff, reduceCtorEq] at h
        obtain ⟨ys, h, rfl⟩ := h
        obtain ⟨vs, ha, rs⟩ := S.at_ i a _ hi hq
        exact .lst (.of ha) (dpAll_by ih _ vs ys h rs)
theorem plainAll_by {f : D → Option PyData} {n : Nat} (hf : ∀ d y, f d = some y → y.plain = true ∧ y.depth ≤ n) : ∀ (xs : List D) (ys : List PyData), optM f xs = some ys → PyData.plainAll ys = true ∧ PyData.depthAll ys ≤ n
  | [], ys, h => by
    simp only [optM, Option.some.injEq] at h
    subst h
    exact ⟨rfl, Nat.zero_le _⟩
  | x :: xs, ys, h => by
    obtain ⟨y, zs, h1, h2, rfl⟩ := optM_cons h
    obtain ⟨a1, a2⟩ := hf x y h1
    obtain ⟨b1, b2⟩ := plainAll_by hf xs zs h2
    simp only [PyData.plainAll, PyData.depthAll, a1, b1, Bool.and_self, true_and]
    omega
theorem res_plain : ∀ (n : Nat) (d : D) (y : PyData), res st n d = some y → y.plain = true ∧ y.depth ≤ n := by
  intro n
  induction n with
  | zero =>
    intro d y h
    cases d <;> simp only [res, Option.some.injEq, reduceCtorEq] at h <;> (subst h; exact ⟨rfl, Nat.le_refl _⟩)
  | succ n ih =>
    intro d y h
    cases d <;> simp only [res, Option.some.injEq, Option.map_eq_some_iff] at h
    · subst h; exact ⟨rfl, Nat.zero_le _⟩
    · subst h; exact ⟨rfl, Nat.zero_le _⟩
    · subst h; exact ⟨rfl, Nat.zero_le _⟩
    · subst h; exact ⟨rfl, Nat.zero_le _⟩
    · obtain ⟨ys, h, rfl⟩ := h
      obtain ⟨a, b⟩ := plainAll_by ih _ ys h
      exact ⟨a, Nat.succ_le_succ b⟩
    · obtain ⟨ys, h, rfl⟩ := h
      obtain ⟨a, b⟩ := plainAll_by ih _ ys h
      exact ⟨a, Nat.succ_le_succ b⟩
    · rename_i i
      cases hq : st[i]? with
      | none => rw [hq] at h; cases h
      | some o =>
        rw [hq] at h
        cases o <;> simp only [Option.map_eq_some_iff, reduceCtorEq] at h
        obtain ⟨ys, h, rfl⟩ := h
        obtain ⟨a, b⟩ := plainAll_by ih _ ys h
        exact ⟨a, Nat.succ_le_succ b⟩
theorem sqPy_dp {q : Sq} {v : V} {y : PyData} (S : StoR K w m st H) (h : sqPy st q = some y) (r : RepQ K m H q v) : Dp K H v y ∧ y.plain = true ∧ y.depth ≤ 9 := by
  cases q with
  | val d =>
    obtain ⟨a, b⟩ := res_plain 8 d y h
    exact ⟨res_dp S 8 d v y h r, a, by omega⟩
  | fresh xs =>
    simp only [sqPy, Option.map_eq_some_iff] at h
    obtain ⟨ys, h, rfl⟩ := h
    obtain ⟨a, vs, rfl, ha, _, rs⟩ := r
    obtain ⟨c, d⟩ := plainAll_by (res_plain 8) _ ys h
    exact ⟨.lst (.of ha) (dpAll_by (res_dp S 8) _ vs ys h rs), c, Nat.succ_le_succ d⟩
end

/-! ### == of data; in -/
section
variable {X : Cx} {m : List Addr} {H : Hp} {st : Store}
theorem dat_eq {pins : List (Addr × Obj)} {s : Shared} {σ : L2.St} {v u : V} {vv uu : Value} {Q : VK} {q1 q2 : Sq} {y z : PyData} (hu : X.A.units + 64 < cLine) (I : L2.Inv X pins σ H s) (S : StoR X.K X.w m st H) (rv : L2.RelV v vv) (ru : L2.RelV u uu) (r1 : RepQ X.K m H q1 v) (r2 : RepQ X.K m H q2 u)
    (e1 : sqPy st q1 = some y) (e2 : sqPy st q2 = some z) (h : Q (.bl (PyData.eqv y z)) H) : wpAny (model X.prog X.w) X.A (compareOp .Eq vv uu) (EP X pins σ Q) X.xe s := by
  obtain ⟨d1, p1, n1⟩ := sqPy_dp S e1 r1
  obtain ⟨d2, p2, n2⟩ := sqPy_dp S e2 r2
  obtain ⟨as, a1⟩ := Dp.reads I y v vv d1 rv
  obtain ⟨bs, a2⟩ := Dp.reads I z u uu d2 ru
  exact SeqAt.eq_plain a1 a2 p1 p2 (by omega) ⟨.bl _, H, I, rfl, h⟩
theorem dat_ne {pins : List (Addr × Obj)} {s : Shared} {σ : L2.St} {v u : V} {vv uu : Value} {Q : VK} {q1 q2 : Sq} {y z : PyData} (hu : X.A.units + 64 < cLine) (I : L2.Inv X pins σ H s) (S : StoR X.K X.w m st H) (rv : L2.RelV v vv) (ru : L2.RelV u uu) (r1 : RepQ X.K m H q1 v) (r2 : RepQ X.K m H q2 u)
    (e1 : sqPy st q1 = some y) (e2 : sqPy st q2 = some z) (h : Q (.bl (!PyData.eqv y z)) H) : wpAny (model X.prog X.w) X.A (compareOp .NotEq vv uu) (EP X pins σ Q) X.xe s := by
  obtain ⟨d1, p1, n1⟩ := sqPy_dp S e1 r1
  obtain ⟨d2, p2, n2⟩ := sqPy_dp S e2 r2
  obtain ⟨as, a1⟩ := Dp.reads I y v vv d1 rv
  obtain ⟨bs, a2⟩ := Dp.reads I z u uu d2 ru
  exact SeqAt.ne_plain a1 a2 p1 p2 (by omega) ⟨.bl _, H, I, rfl, h⟩
/-- x in a list or a tuple, x not in -/
theorem seq_in {pins : List (Addr × Obj)} {s : Shared} {σ : L2.St} {v u : V} {vv uu : Value} {Q : VK} {x : D} {q2 : Sq} {xs : List D} {y : PyData} {ys : List PyData} (neg : Bool) (hu : X.A.units + 64 < cLine) (I : L2.Inv X pins σ H s) (S : StoR X.K X.w m st H) (rv : L2.RelV v vv) (ru : L2.RelV u uu) (r1 : Rep X.K m H x v) (r2 : RepQ X.K m H q2 u)
    (e0 : seqOf st q2 = some xs) (e1 : res st 8 x = some y) (e2 : optM (res st 8) xs = some ys) (h : Q (.bl ((ys.any fun z => PyData.eqv z y) != neg)) H) : wpAny (model X.prog X.w) X.A (compareOp (if neg then .NotIn else .In) vv uu) (EP X pins σ Q) X.xe s := by
  obtain ⟨a, vs, rfl, ha, rs⟩ := seqOf_at S r2 e0
  obtain ⟨p1, n1⟩ := res_plain 8 x y e1
  obtain ⟨p2, n2⟩ := plainAll_by (res_plain 8) xs ys e2
  obtain ⟨as, a1⟩ := Dp.reads I y v vv (res_dp S 8 x v y e1 r1) rv
  have da := dpAll_by (res_dp S 8) xs vs ys e2 rs
  rcases ha with ha | ha
  · obtain ⟨bs, a2⟩ := Dp.reads I (.list ys) (.ref a) uu (.lst ha da) ru
    cases neg
    · exact SeqAt.in_list_data a2 a1 p2 p1 (by omega) ⟨.bl _, H, I, rfl, by simpa using h⟩
    · exact SeqAt.notIn_list_data a2 a1 p2 p1 (by omega) ⟨.bl _, H, I, rfl, by simpa using h⟩
  · obtain ⟨bs, a2⟩ := Dp.reads I (.tuple ys) (.ref a) uu (.tup ha da) ru
    cases neg
    · exact SeqAt.in_tuple_data a2 a1 p2 p1 (by omega) ⟨.bl _, H, I, rfl, by simpa using h⟩
    · exact SeqAt.notIn_tuple_data a2 a1 p2 p1 (by omega) ⟨.bl _, H, I, rfl, by simpa using h⟩
end
end Eng
/-! E5: dicts of nested keys of any form (texts, numbers, None, tuples, mixed): finding, reading, storing. -/
namespace Eng
open PySem PySem.Spec PyProof.Rows

/-- what is known of a dict's entries: their keys -/
structure EntsK (w : World) (h : Heap) (ks : List NestedKey) (ents : Array DictEntry) : Prop where
  size : ents.size = ks.length
  at_ : ∀ (j : Nat) (e : DictEntry), ents[j]? = some e → ∃ k, ks[j]? = some k ∧ NestedIs h k e.key ∧ k.depth ≤ 8 ∧ e.hash = k.hash w
  nd : ks.Nodup
theorem nest_quiet {prog : Program} {w : World} {s : Shared} {k : NestedKey} {u : Value} (x : NestedIs s.heap k u) (hd : k.depth ≤ 8) : QuietAt prog w 8 s u := quiet_key k u 8 s x hd
section
variable {prog : Program} {w : World} {A : Around} {E : Value → Shared → Prop} {s : Shared}
theorem tell_nest {u : Value} {k : NestedKey} {l : List Value} {Q : Bool → Shared → Prop} (hk : NestedIs s.heap k u) (hd : k.depth ≤ 8) (hl : ∀ v ∈ l, ∃ k', NestedIs s.heap k' v ∧ k'.depth ≤ 8)
    (h : Q false s) : wpAny (model prog w) A (tableMayTell u l) Q E s := by
  unfold tableMayTell
  by_cases he : l.isEmpty = true
  · rw [if_pos he]; exact wpAny_pure h
  · rw [if_neg he]
    refine wpAny_bind (nest_quiet hk hd _ _ _ ?_)
    rw [if_neg (by decide)]
    refine wpAny_bind ?_
    refine wpAny_forIn_list _ (fun rest r s' => s' = s ∧ r = (none, ()) ∧ ∀ v ∈ rest, ∃ k', NestedIs s.heap k' v ∧ k'.depth ≤ 8) _ ?_ ?_ _ _ ⟨rfl, rfl, hl⟩
    · rintro x rest r t ⟨rfl, rfl, hr⟩
      obtain ⟨k', hx, hx8⟩ := hr x List.mem_cons_self
      refine wpAny_bind (nest_quiet hx hx8 _ _ _ ?_)
      rw [if_neg (by decide)]
      exact wpAny_pure ⟨rfl, rfl, fun v hv => hr v (List.mem_cons_of_mem _ hv)⟩
    · rintro r t ⟨rfl, rfl, _⟩
      exact wpAny_pure h
theorem eqB_nest {u v : Value} {k k' : NestedKey} {Q : Bool → Shared → Prop} (hu : A.units + 8 < cLine) (hk' : NestedIs s.heap k' v) (hk : NestedIs s.heap k u) (hd : k.depth ≤ 8) (h : Q (decide (k' = k)) s) :
    wpAny (model prog w) A (eqBool v u) Q E s := by
  rw [NestedKey.decide_eq] at h
  exact eqAt_key k' k A s v u hk' hk (by omega) _ _ _ _ h
theorem ks_unique {ks : List NestedKey} (hn : ks.Nodup) {i j : Nat} {k : NestedKey} (hi : ks[i]? = some k) (hj : ks[j]? = some k) : i = j := by
  obtain ⟨h1, e1⟩ := List.getElem?_eq_some_iff.mp hi
  obtain ⟨h2, e2⟩ := List.getElem?_eq_some_iff.mp hj
  exact (List.getElem_inj hn).mp (e1.trans e2.symm)
/-- the place of a key, or none -/
def Spot (ks : List NestedKey) (k : NestedKey) (o : Option Nat) : Prop := match o with
  | some j => ks[j]? = some k
  | none => ∀ j : Nat, ks[j]? ≠ some k
theorem wp_ite {α : Type} {M : Model} {c : Prop} [Decidable c] {m1 m2 : Sem α} {Q : α → Shared → Prop} (h1 : c → wpAny M A m1 Q E s) (h2 : ¬ c → wpAny M A m2 Q E s) : wpAny M A (if c then m1 else m2) Q E s := by
  by_cases h : c
  · rw [if_pos h]; exact h1 h
  · rw [if_neg h]; exact h2 h
variable {d : Addr} {o : Obj} {ents : Array DictEntry} {ep : Nat} {ks : List NestedKey} {k : NestedKey} {u : Value}
/-- what an entry at a place is -/
theorem ent_at (x : EntsK w s.heap ks ents) {j : Nat} (hj : j < ents.size) : ∃ e k', ents[j]? = some e ∧ ks[j]? = some k' ∧ NestedIs s.heap k' e.key ∧ k'.depth ≤ 8 ∧ e.hash = k'.hash w := by
  obtain ⟨k', a, b, c, d⟩ := x.at_ j ents[j] (Array.getElem?_eq_getElem hj)
  exact ⟨_, k', Array.getElem?_eq_getElem hj, a, b, c, d⟩
theorem same_hash (x : EntsK w s.heap ks ents) {j : Nat} (h : ks[j]? = some k) : ((ents[j]?.map (·.hash)) == some (k.hash w)) = true := by
  have hj : j < ents.size := by rw [x.size]; exact (List.getElem?_eq_some_iff.mp h).1
  obtain ⟨e, k', a, b, _, _, f⟩ := ent_at x hj
  rw [h] at b; cases b
  rw [a, Option.map_some, f]
  exact beq_self_eq_true _
/-- the places ahead of i hold no such key -/
theorem none_from (x : EntsK w s.heap ks ents) {i : Nat} (hn : ∀ j, j < i → ks[j]? ≠ some k) (hr : (List.range' i (ents.size - i)).filter (fun i => (ents[i]?.map (·.hash)) == some (k.hash w)) = []) : Spot ks k none := fun j hj => by
  rcases Nat.lt_or_ge j i with h | h
  · exact hn j h hj
  · have hlt : j < ents.size := by rw [x.size]; exact (List.getElem?_eq_some_iff.mp hj).1
    have := List.filter_eq_nil_iff.mp hr j (List.mem_range'_1.mpr ⟨h, by omega⟩)
    rw [same_hash x hj] at this
    exact this rfl
theorem walk_nest {Q : Option Nat → Shared → Prop} (hu : A.units + 8 < cLine) (hk : NestedIs s.heap k u) (hd8 : k.depth ≤ 8) (ho : s.heap.get? d = some o) (hdat : o.data = .dict ents ep) (x : EntsK w s.heap ks ents)
    (h : ∀ r, Spot ks k r → Q r s) : wpAny (model prog w) A (dictWalkPlain d u (k.hash w) ents (placesWithHash ents.size (fun i => ents[i]?.map (·.hash)) (k.hash w))) Q E s := by
  unfold dictWalkPlain
  refine wpAny_bind ?_
  refine wpAny_forIn_list _ (fun rest b t => t = s ∧ b = (none, ()) ∧ ∃ i, rest = (List.range' i (ents.size - i)).filter (fun i => (ents[i]?.map (·.hash)) == some (k.hash w)) ∧ i ≤ ents.size ∧ ∀ j, j < i → ks[j]? ≠ some k) _ ?_ ?_ _ _
    ⟨rfl, rfl, 0, by rw [placesWithHash, List.range_eq_range', Nat.sub_zero], Nat.zero_le _, fun _ z => absurd z (Nat.not_lt_zero _)⟩
  · rintro y rest b t ⟨rfl, rfl, i, hr, hi, hno⟩
    obtain ⟨hiy, hyn, hpy, hskip, hrest⟩ := filter_range'_cons _ _ _ _ _ hr.symm
    have hlt : y < ents.size := by omega
    obtain ⟨e, k', h1, h2, h3, h4, h5⟩ := ent_at x hlt
    have upto : ∀ j, j < y → ks[j]? ≠ some k := fun j hj z => by
      rcases Nat.lt_or_ge j i with q | q
      · exact hno j q z
      · have := hskip j q hj
        rw [same_hash x z] at this
        cases this
    have goOn : k' ≠ k → ∃ i, rest = (List.range' i (ents.size - i)).filter (fun i => (ents[i]?.map (·.hash)) == some (k.hash w)) ∧ i ≤ ents.size ∧ ∀ j, j < i → ks[j]? ≠ some k := fun ne =>
      ⟨y + 1, by rw [hrest]; congr 2; omega, hlt, fun j hj z => by
        rcases Nat.lt_succ_iff_lt_or_eq.mp hj with q | q
        · exact upto j q z
        · subst q; rw [h2] at z; exact ne (Option.some.inj z)⟩
    simp only [h1]
    by_cases hh : (e.hash == k.hash w) = true
    · rw [if_pos hh]
      refine wpAny_bind (wpAny_dictEpoch ho hdat (wpAny_bind (eqB_nest hu h3 hk hd8 (wpAny_bind (wpAny_dictEpoch ho hdat ?_)))))
      have en : ¬ ((ep != ep) = true) := by simp
      rw [if_neg en]
      by_cases hkk : k' = k
      · rw [decide_eq_true hkk]
        refine wpAny_bind (wpAny_rule (wpAny_pure (wpAny_pure (h (some y) ?_))))
        rw [← hkk]; exact h2
      · rw [decide_eq_false hkk]
        exact wpAny_bind (wpAny_rule (wpAny_pure ⟨rfl, rfl, goOn hkk⟩))
    · rw [if_neg hh]
      refine wpAny_pure ⟨rfl, rfl, goOn fun z => hh ?_⟩
      rw [h5, z]; exact beq_self_eq_true _
  · rintro b t ⟨rfl, rfl, i, hr, hi, hno⟩
    exact wpAny_pure (h none (none_from x hno hr.symm))
theorem strs_nest {Q : Option Nat → Shared → Prop} {y : Str} {tk : Tok} (hu : A.units + 8 < cLine) (hd8 : k.depth ≤ 8) (hk : NestedIs s.heap k (.str y tk)) (ho : s.heap.get? d = some o) (hdat : o.data = .dict ents ep) (x : EntsK w s.heap ks ents)
    (h : ∀ r, Spot ks k r → Q r s) : wpAny (model prog w) A (foundByValue d (.str y tk) ents y) Q E s := by
  cases hk
  have isk : ∀ (j : Nat) (e : DictEntry), ents[j]? = some e → (e.key.isStr y = true ↔ ks[j]? = some (.text y)) := fun j e he => by
    obtain ⟨k', a, b, _, _⟩ := x.at_ j e he
    rw [a]
    generalize e.key = v at b
    cases b <;> simp [Value.isStr]
  unfold foundByValue
  cases hf : ents.findIdx? (fun e => e.key.isStr y) with
  | none =>
    refine wpAny_pure (h none fun j hj => ?_)
    have hlt : j < ents.size := by rw [x.size]; exact (List.getElem?_eq_some_iff.mp hj).1
    have := Array.findIdx?_eq_none_iff.mp hf ents[j] (Array.getElem_mem hlt)
    rw [(isk j _ (Array.getElem?_eq_getElem hlt)).mpr hj] at this
    cases this
  | some i =>
    obtain ⟨hlt, hi, _⟩ := Array.findIdx?_eq_some_iff_getElem.mp hf
    have hki := (isk i _ (Array.getElem?_eq_getElem hlt)).mp hi
    obtain ⟨k', a, b, _, _⟩ := x.at_ i _ (Array.getElem?_eq_getElem hlt)
    rw [hki] at a; cases a
    simp only [Array.getElem?_eq_getElem hlt]
    refine wpAny_bind (wpAny_dictEpoch ho hdat (wpAny_bind (eqB_nest (k := .text y) hu b (.text y tk) hd8 (wpAny_bind (wpAny_dictEpoch ho hdat ?_)))))
    have en : ¬ ((ep != ep) = true) := by simp
    rw [if_neg en, decide_eq_true rfl]
    exact wpAny_bind (wpAny_rule (wpAny_pure (h (some i) hki)))
/-- the place of a key in a dict -/
theorem find_nest {Q : Option Nat → Shared → Prop} (hu : A.units + 8 < cLine) (hk : NestedIs s.heap k u) (hd8 : k.depth ≤ 8) (ho : s.heap.get? d = some o) (hdat : o.data = .dict ents ep) (x : EntsK w s.heap ks ents)
    (h : ∀ r, Spot ks k r → Q r s) : wpAny (model prog w) A (dictFind d u (k.hash w)) Q E s := by
  have kept : ∀ v ∈ (placesWithHash ents.size (fun i => ents[i]?.map (·.hash)) (k.hash w)).filterMap (fun i => ents[i]?.map (·.key)), ∃ k', NestedIs s.heap k' v ∧ k'.depth ≤ 8 := by
    intro v hv
    obtain ⟨i, _, hi⟩ := List.mem_filterMap.mp hv
    cases he : ents[i]? with
    | none => rw [he] at hi; cases hi
    | some e =>
      rw [he] at hi
      obtain rfl : e.key = v := by simpa using hi
      obtain ⟨k', _, b, c, _⟩ := x.at_ i e he
      exact ⟨k', b, c⟩
  have same : ¬ ((ents.any fun e => e.key == u && e.hash != k.hash w) = true) := by
    rw [Array.any_eq_true]
    rintro ⟨i, hi, hc⟩
    simp only [Bool.and_eq_true, beq_iff_eq, bne_iff_ne, ne_eq] at hc
    obtain ⟨k', _, b, _, f⟩ := x.at_ i _ (Array.getElem?_eq_getElem hi)
    rw [hc.1] at b
    rw [f, NestedIs.inj _ _ _ b hk] at hc
    exact hc.2 rfl
  unfold dictFind
  refine wpAny_holding (wpAny_bind (wpAny_dictEntries ho hdat ?_))
  cases u
  all_goals try (cases hk; done)
  all_goals dsimp only
  case str =>
    refine wp_ite (fun _ => strs_nest hu hd8 hk ho hdat x h) fun _ => ?_
    · refine wp_ite (fun _ => walk_nest hu hk hd8 ho hdat x h) fun _ => ?_
      · refine wp_ite (fun _ => ?_) fun _ => ?_
        all_goals first | refine wpAny_bind (wpAny_pure ?_) | refine wpAny_bind (tell_nest hk hd8 kept ?_)
        all_goals rw [if_neg (by simp)]
        all_goals (
          refine wpAny_bind ?_
          refine wpAny_forIn_list _ (fun rest b t => t = s ∧ ∃ i hit, b = (none, hit) ∧ rest = (List.range' i (ents.size - i)).filter (fun i => (ents[i]?.map (·.hash)) == some (k.hash w)) ∧ i ≤ ents.size ∧
              ((hit = none ∧ ∀ j, j < i → ks[j]? ≠ some k) ∨ ∃ j, hit = some j ∧ j < i ∧ ks[j]? = some k)) _ ?_ ?_ _ _
            ⟨rfl, 0, none, rfl, by rw [placesWithHash, List.range_eq_range', Nat.sub_zero], Nat.zero_le _, .inl ⟨rfl, fun _ z => absurd z (Nat.not_lt_zero _)⟩⟩
          · rintro y rest b t ⟨rfl, i, hit, rfl, hr, hi, hH⟩
            obtain ⟨hiy, hyn, hpy, hskip, hrest⟩ := filter_range'_cons _ _ _ _ _ hr.symm
            have hlt : y < ents.size := by omega
            have hrest' : rest = (List.range' (y + 1) (ents.size - (y + 1))).filter (fun i => (ents[i]?.map (·.hash)) == some (k.hash w)) := by rw [hrest]; congr 2; omega
            obtain ⟨e, k', h1, h2, h3, h4, h5⟩ := ent_at x hlt
            have hy : (hit = none ∧ ∀ j, j < y → ks[j]? ≠ some k) ∨ ∃ j, hit = some j ∧ j < y ∧ ks[j]? = some k := by
              rcases hH with ⟨z, hno⟩ | ⟨j, z, hj, hkj⟩
              · refine .inl ⟨z, fun j hj q => ?_⟩
                rcases Nat.lt_or_ge j i with c | c
                · exact hno j c q
                · have := hskip j c hj
                  rw [same_hash x q] at this
                  cases this
              · exact .inr ⟨j, z, by omega, hkj⟩
            have stay : k' ≠ k → ((hit = none ∧ ∀ j, j < y + 1 → ks[j]? ≠ some k) ∨ ∃ j, hit = some j ∧ j < y + 1 ∧ ks[j]? = some k) := fun ne => by
              rcases hy with ⟨z, hno⟩ | ⟨j, z, hj, hkj⟩
              · refine .inl ⟨z, fun j hj q => ?_⟩
                rcases Nat.lt_succ_iff_lt_or_eq.mp hj with c | c
                · exact hno j c q
                · subst c; rw [h2] at q; exact ne (Option.some.inj q)
              · exact .inr ⟨j, z, by omega, hkj⟩
            simp only [h1]
            by_cases hh : (e.hash == k.hash w) = true
            · rw [if_pos hh]
              refine wpAny_bind (wpAny_dictEpoch ho hdat (wpAny_bind (eqB_nest hu h3 hk hd8 (wpAny_bind (wpAny_dictEpoch ho hdat ?_)))))
              have en : ¬ ((ep != ep) = true) := by simp
              rw [if_neg en]
              by_cases hkk : k' = k
              · rw [decide_eq_true hkk]
                rcases hy with ⟨rfl, _⟩ | ⟨j, _, hj, hkj⟩
                · rw [if_pos rfl]
                  simp only [Option.isSome_none, Bool.false_eq_true, if_false]
                  first | refine wpAny_bind (wpAny_rule ?_) | (refine wpAny_bind (wpAny_pure ?_); refine wpAny_bind (wpAny_rule ?_))
                  refine wp_ite (fun _ => ?_) fun _ => ?_
                  · exact wpAny_pure (wpAny_pure (h (some y) (by rw [← hkk]; exact h2)))
                  · exact wpAny_pure ⟨rfl, y + 1, some y, rfl, hrest', hlt, .inr ⟨y, rfl, Nat.lt_succ_self y, by rw [← hkk]; exact h2⟩⟩
                · exact absurd (ks_unique x.nd hkj (by rw [← hkk]; exact h2)) (by omega)
              · rw [decide_eq_false hkk]
                simp only [Bool.false_eq_true, if_false, Bool.false_and]
                refine wpAny_bind (wpAny_rule ?_)
                first
                  | exact wpAny_pure ⟨rfl, y + 1, hit, rfl, hrest', hlt, stay hkk⟩
                  | exact wpAny_bind (wpAny_pure (wpAny_pure ⟨rfl, y + 1, hit, rfl, hrest', hlt, stay hkk⟩))
            · rw [if_neg hh]
              refine wpAny_pure ⟨rfl, y + 1, hit, rfl, hrest', hlt, stay fun z => hh ?_⟩
              rw [h5, z]; exact beq_self_eq_true _
          · rintro b t ⟨rfl, i, hit, rfl, hr, hi, hH⟩
            rcases hH with ⟨rfl, hno⟩ | ⟨j, rfl, _, hj⟩
            · exact wpAny_pure (h none (none_from x hno hr.symm))
            · exact wpAny_pure (h (some j) hj))
  all_goals refine wp_ite (fun _ => walk_nest hu hk hd8 ho hdat x h) fun _ => ?_
  all_goals try rw [if_neg same]
  all_goals refine wp_ite (fun _ => ?_) fun _ => ?_
  all_goals first | refine wpAny_bind (wpAny_pure ?_) | refine wpAny_bind (tell_nest hk hd8 kept ?_)
  all_goals rw [if_neg (by simp)]
  all_goals (
    refine wpAny_bind ?_
    refine wpAny_forIn_list _ (fun rest b t => t = s ∧ ∃ i hit, b = (none, hit) ∧ rest = (List.range' i (ents.size - i)).filter (fun i => (ents[i]?.map (·.hash)) == some (k.hash w)) ∧ i ≤ ents.size ∧
        ((hit = none ∧ ∀ j, j < i → ks[j]? ≠ some k) ∨ ∃ j, hit = some j ∧ j < i ∧ ks[j]? = some k)) _ ?_ ?_ _ _
      ⟨rfl, 0, none, rfl, by rw [placesWithHash, List.range_eq_range', Nat.sub_zero], Nat.zero_le _, .inl ⟨rfl, fun _ z => absurd z (Nat.not_lt_zero _)⟩⟩
    · rintro y rest b t ⟨rfl, i, hit, rfl, hr, hi, hH⟩
      obtain ⟨hiy, hyn, hpy, hskip, hrest⟩ := filter_range'_cons _ _ _ _ _ hr.symm
      have hlt : y < ents.size := by omega
      have hrest' : rest = (List.range' (y + 1) (ents.size - (y + 1))).filter (fun i => (ents[i]?.map (·.hash)) == some (k.hash w)) := by rw [hrest]; congr 2; omega
      obtain ⟨e, k', h1, h2, h3, h4, h5⟩ := ent_at x hlt
      have hy : (hit = none ∧ ∀ j, j < y → ks[j]? ≠ some k) ∨ ∃ j, hit = some j ∧ j < y ∧ ks[j]? = some k := by
        rcases hH with ⟨z, hno⟩ | ⟨j, z, hj, hkj⟩
        · refine .inl ⟨z, fun j hj q => ?_⟩
          rcases Nat.lt_or_ge j i with c | c
          · exact hno j c q
          · have := hskip j c hj
            rw [same_hash x q] at this
            cases this
        · exact .inr ⟨j, z, by omega, hkj⟩
      have stay : k' ≠ k → ((hit = none ∧ ∀ j, j < y + 1 → ks[j]? ≠ some k) ∨ ∃ j, hit = some j ∧ j < y + 1 ∧ ks[j]? = some k) := fun ne => by
        rcases hy with ⟨z, hno⟩ | ⟨j, z, hj, hkj⟩
        · refine .inl ⟨z, fun j hj q => ?_⟩
          rcases Nat.lt_succ_iff_lt_or_eq.mp hj with c | c
          · exact hno j c q
          · subst c; rw [h2] at q; exact ne (Option.some.inj q)
        · exact .inr ⟨j, z, by omega, hkj⟩
      simp only [h1]
      by_cases hh : (e.hash == k.hash w) = true
      · rw [if_pos hh]
        refine wpAny_bind (wpAny_dictEpoch ho hdat (wpAny_bind (eqB_nest hu h3 hk hd8 (wpAny_bind (wpAny_dictEpoch ho hdat ?_)))))
        have en : ¬ ((ep != ep) = true) := by simp
        rw [if_neg en]
        by_cases hkk : k' = k
        · rw [decide_eq_true hkk]
          rcases hy with ⟨rfl, _⟩ | ⟨j, _, hj, hkj⟩
          · rw [if_pos rfl]
            simp only [Option.isSome_none, Bool.false_eq_true, if_false]
            first | refine wpAny_bind (wpAny_rule ?_) | (refine wpAny_bind (wpAny_pure ?_); refine wpAny_bind (wpAny_rule ?_))
            refine wp_ite (fun _ => ?_) fun _ => ?_
            · exact wpAny_pure (wpAny_pure (h (some y) (by rw [← hkk]; exact h2)))
            · exact wpAny_pure ⟨rfl, y + 1, some y, rfl, hrest', hlt, .inr ⟨y, rfl, Nat.lt_succ_self y, by rw [← hkk]; exact h2⟩⟩
          · exact absurd (ks_unique x.nd hkj (by rw [← hkk]; exact h2)) (by omega)
        · rw [decide_eq_false hkk]
          simp only [Bool.false_eq_true, if_false, Bool.false_and]
          refine wpAny_bind (wpAny_rule ?_)
          first
            | exact wpAny_pure ⟨rfl, y + 1, hit, rfl, hrest', hlt, stay hkk⟩
            | exact wpAny_bind (wpAny_pure (wpAny_pure ⟨rfl, y + 1, hit, rfl, hrest', hlt, stay hkk⟩))
      · rw [if_neg hh]
        refine wpAny_pure ⟨rfl, y + 1, hit, rfl, hrest', hlt, stay fun z => hh ?_⟩
        rw [h5, z]; exact beq_self_eq_true _
    · rintro b t ⟨rfl, i, hit, rfl, hr, hi, hH⟩
      rcases hH with ⟨rfl, hno⟩ | ⟨j, rfl, _, hj⟩
      · exact wpAny_pure (h none (none_from x hno hr.symm))
      · exact wpAny_pure (h (some j) hj))
end

/-! ### values of ours as keys -/
section
open L2
theorem Paired.getL {α β : Type} {F : α → β → Prop} {l : List α} {r : List β} (h : Paired F l r) : ∀ {i : Nat} {a : α}, l[i]? = some a → ∃ b, r[i]? = some b ∧ F a b := by
  induction h with
  | nil => intro i a e; simp at e
  | cons f _ ih =>
    intro i a e
    cases i with
    | zero => simp at e; subst e; exact ⟨_, rfl, f⟩
    | succ i => simp only [List.getElem?_cons_succ] at e ⊢; exact ih e
theorem Paired.getR {α β : Type} {F : α → β → Prop} {l : List α} {r : List β} (h : Paired F l r) : ∀ {i : Nat} {b : β}, r[i]? = some b → ∃ a, l[i]? = some a ∧ F a b := by
  induction h with
  | nil => intro i a e; simp at e
  | cons f _ ih =>
    intro i a e
    cases i with
    | zero => simp at e; subst e; exact ⟨_, rfl, f⟩
    | succ i => simp only [List.getElem?_cons_succ] at e ⊢; exact ih e
theorem Paired.snoc {α β : Type} {F : α → β → Prop} {l : List α} {r : List β} (h : Paired F l r) {a : α} {b : β} (f : F a b) : Paired F (l ++ [a]) (r ++ [b]) := by
  induction h with
  | nil => exact .cons f .nil
  | cons g _ ih => exact .cons g ih
theorem Paired.setBoth {α β : Type} {F : α → β → Prop} {l : List α} {r : List β} (h : Paired F l r) : ∀ (i : Nat) {a : α} {b : β}, F a b → Paired F (l.set i a) (r.set i b) := by
  induction h with
  | nil => intro i a b _; exact .nil
  | cons g t ih =>
    intro i a b f
    cases i with
    | zero => exact .cons f t
    | succ i => exact .cons g (ih i f)
variable {X : Cx} {pins : List (Addr × Obj)} {σ : L2.St} {s : Shared} {m : List Addr} {H : Hp}
mutual
theorem rep_nest (I : L2.Inv X pins σ H s) : ∀ {d : D} {v : V} {u : Value} {k : NestedKey}, Rep X.K m H d v → L2.RelV v u → d.nk = some k → NestedIs s.heap k u
  | .non, v, u, k, r, rv, e => by
    cases e; rw [show v = .non from r] at rv; rw [show u = .none from rv]; exact .none
  | .bl b, v, u, k, r, rv, e => by
    cases e; rw [show v = .bl b from r] at rv; rw [show u = .bool b from rv]; exact .bool rfl
  | .int i, v, u, k, r, rv, e => by
    cases e; rw [show v = .int i from r] at rv; obtain ⟨t, rfl⟩ := rv; exact .int _ _
  | .str x, v, u, k, r, rv, e => by
    cases e; rw [show v = .str x from r] at rv; obtain ⟨t, rfl⟩ := rv; exact .text _ _
  | .tup xs, v, u, k, r, rv, e => by
    obtain ⟨a, vs, rfl, ha, rs⟩ := r
    obtain rfl : u = .ref a := rv
    simp only [D.nk, Option.map_eq_some_iff] at e
    obtain ⟨ks, e, rfl⟩ := e
    obtain ⟨its, vi, ⟨o, ho, hc, n, hd⟩, _⟩ := I.tuple ha
    exact .tup ho hc hd (reps_nest I rs (by simpa using vi) e)
  | .rol xs, _, _, _, _, _, e => by simp [D.nk] at e
  | .obj i, _, _, _, _, _, e => by simp [D.nk] at e
theorem reps_nest (I : L2.Inv X pins σ H s) : ∀ {ds : List D} {vs : List V} {us : List Value} {ks : List NestedKey}, Reps X.K m H ds vs → L2.Vals vs us → D.nks ds = some ks → NestedAll s.heap ks us
  | [], vs, us, ks, r, rv, e => by
    cases e
    rw [show vs = [] from r] at rv
    cases rv
    exact .nil
  | d :: ds, vs, us, ks, r, rv, e => by
    obtain ⟨v, ws, rfl, r1, r2⟩ := r
    cases rv with
    | cons a b =>
      simp only [D.nks] at e
      split at e
      · next k ks' h1 h2 =>
        cases e
        exact .cons (rep_nest I r1 a h1) (reps_nest I r2 b h2)
      · cases e
end
theorem key_nk {d : D} {k : NestedKey} (h : d.key = some k) : d.nk = some k ∧ k.depth ≤ 8 := by
  unfold D.key at h
  split at h
  · next k' e =>
    split at h
    · next q => cases h; exact ⟨e, q⟩
    · cases h
  · cases h
theorem paired_len {α β : Type} {F : α → β → Prop} {l : List α} {r : List β} (h : Paired F l r) : l.length = r.length := Paired.length h
/-- the entries of a dict of ours -/
theorem dic_ents (I : L2.Inv X pins σ H s) {kvs : List (D × D)} {es : List (NestedKey × V × V)} {ents : List DictEntry} (r : KvR X.K m H kvs es) (p : Paired (EntR X.w) es ents) : EntsK X.w s.heap (es.map (·.1)) ents.toArray := by
  refine ⟨by simp [paired_len p], fun j e he => ?_, r.nd⟩
  have he' : ents[j]? = some e := by simpa using he
  obtain ⟨x, hx, q1, q2, q3⟩ := Paired.getR p he'
  obtain ⟨y, hy, z1, z2, z3, z4⟩ := Paired.getR r.pr hx
  exact ⟨x.1, by rw [List.getElem?_map, hx]; rfl, rep_nest I z3 q2 z1, z2, q1⟩
/-- what a key finds -/
theorem look_at {K : PySem.W.Frag} {kvs : List (D × D)} {es : List (NestedKey × V × V)} {k : NestedKey} (r : KvR K m H kvs es) {o : Option Nat} (h : Spot (es.map (·.1)) k o) : match o with
    | some j => ∃ d v, kvs[j]? = some (d, v) ∧ d.nk = some k ∧ dLook kvs k = some v ∧ ∃ kv vv, es[j]? = some (k, kv, vv) ∧ Rep K m H d kv ∧ Rep K m H v vv
    | none => dLook kvs k = none ∧ ∀ q ∈ kvs, q.1.nk ≠ some k := by
  have other : ∀ (i : Nat) (q : D × D), kvs[i]? = some q → q.1.nk = some k → (es.map (·.1))[i]? = some k := fun i q hq hk => by
    obtain ⟨e, he, z1, _⟩ := Paired.getL r.pr hq
    rw [hk] at z1; cases z1
    rw [List.getElem?_map, he]; rfl
  cases o with
  | none =>
    have no : ∀ q ∈ kvs, q.1.nk ≠ some k := fun q hq hk => by
      obtain ⟨i, hi⟩ := List.mem_iff_getElem?.mp hq
      exact h i (other i q hi hk)
    refine ⟨?_, no⟩
    unfold dLook
    rw [List.find?_eq_none.mpr fun q hq => by simpa using no q hq]
    rfl
  | some j =>
    have h : (es.map (·.1))[j]? = some k := h
    rw [List.getElem?_map, Option.map_eq_some_iff] at h
    obtain ⟨⟨k', kv, vv⟩, he, rfl⟩ := h
    obtain ⟨⟨d, v⟩, hd, z1, z2, z3, z4⟩ := Paired.getR r.pr he
    refine ⟨d, v, hd, z1, ?_, kv, vv, he, z3, z4⟩
    unfold dLook
    have : kvs.find? (fun p => decide (p.1.nk = some k')) = some (d, v) := by
      rw [List.find?_eq_some_iff_getElem]
      refine ⟨by simpa using z1, j, (List.getElem?_eq_some_iff.mp hd).1, (List.getElem?_eq_some_iff.mp hd).2, fun i hi => ?_⟩
      have hlt : i < kvs.length := Nat.lt_trans hi (List.getElem?_eq_some_iff.mp hd).1
      simp only [Bool.not_eq_true', decide_eq_false_iff_not]
      intro hk
      have q1 := other i kvs[i] (List.getElem?_eq_getElem hlt) hk
      have q2 : (es.map (·.1))[j]? = some k' := by rw [List.getElem?_map, he]; rfl
      exact absurd (ks_unique r.nd q1 q2) (by omega)
    rw [this]
    rfl
end
end Eng
/-! E6: dicts of ours: get, in, subscripts, stores. -/
namespace Eng
open PySem PySem.Spec PyProof.Rows L2
section
variable {X : Cx} {pins : List (Addr × Obj)} {σ : L2.St} {s : Shared} {m : List Addr} {H : Hp} {A : Around} {E : Value → Shared → Prop}
variable {d : Addr} {kvs : List (D × D)} {es : List (NestedKey × V × V)} {kd : D} {k : NestedKey} {v : V} {u : Value}
theorem dicP_of (I : L2.Inv X pins σ H s) (rd : Rd H d (DicO X.w d es)) : DicP X.w d es s.heap := dicO_at (rd.ok I.hok)
theorem dicP_type {w : World} {t : Shared} (p : DicP w d es t.heap) : t.TypeIs (.ref d) "dict" := by
  obtain ⟨_, _, o, _, _, ho, hc, _⟩ := p
  exact ⟨o, ho, hc.1⟩
/-- hash(key), then its place -/
theorem dfind_ok {α : Type} {Q : α → Shared → Prop} {F : Int → Sem α} (hu : A.units + 8 < cLine) (I : L2.Inv X pins σ H s) {o : Obj} {ents : Array DictEntry} {ep : Nat} (ho : s.heap.get? d = some o) (hd : o.data = .dict ents ep)
    (p : Paired (EntR X.w) es ents.toList) (r : KvR X.K m H kvs es) (rk : Rep X.K m H kd v) (rv : L2.RelV v u) (hk : kd.key = some k)
    (h : (∀ (Q' : Option Nat → Shared → Prop), (∀ o, Spot (es.map (·.1)) k o → Q' o { s with toks := s.toks + k.draws }) → wpAny (model X.prog X.w) A (dictFind d u (k.hash X.w)) Q' E { s with toks := s.toks + k.draws }) →
      wpAny (model X.prog X.w) A (F (k.hash X.w)) Q E { s with toks := s.toks + k.draws }) : wpAny (model X.prog X.w) A (pyHash u >>= F) Q E s := by
  obtain ⟨hn, h8⟩ := key_nk hk
  have nk := rep_nest I rk rv hn
  refine wpAny_bind (pyHash_key k u A s _ nk (by omega) (h fun Q' hQ => ?_))
  have x := dic_ents I r (ents := ents.toList) p
  exact find_nest (s := { s with toks := s.toks + k.draws }) hu nk h8 ho hd (by simpa using x) hQ
theorem dget_ok {Q : Option Value → Shared → Prop} (hu : A.units + 8 < cLine) (I : L2.Inv X pins σ H s) (rd : Rd H d (DicO X.w d es)) (r : KvR X.K m H kvs es) (rk : Rep X.K m H kd v) (rv : L2.RelV v u) (hk : kd.key = some k)
    (h1 : ∀ tk x vv uu, dLook kvs k = some x → Rep X.K m H x vv → L2.RelV vv uu → Q (some uu) { s with toks := tk }) (h0 : ∀ tk, dLook kvs k = none → Q none { s with toks := tk }) : wpAny (model X.prog X.w) A (dictGet d u) Q E s := by
  obtain ⟨_, _, o, ents, ep, ho, hc, hd, p⟩ := dicP_of I rd
  unfold dictGet
  refine wpAny_holding (dfind_ok hu I ho hd p r rk rv hk fun find => ?_)
  refine wpAny_bind (find _ fun q sp => ?_)
  have lk := look_at r sp
  cases q with
  | none => exact wpAny_pure (h0 _ lk.1)
  | some j =>
    obtain ⟨dk, dv, hj, hnk, hl, kv, vv, he, q1, q2⟩ := lk
    obtain ⟨en, hen, z1, z2, z3⟩ := Paired.getL p he
    refine wpAny_bind (wpAny_dictEntries (s := { s with toks := _ }) ho hd (wpAny_pure ?_))
    have : ents[j]? = some en := by simpa using hen
    rw [this]
    exact h1 _ dv vv en.val hl q2 z3
/-- key in d -/
theorem din_ok {Q : Bool → Shared → Prop} (hu : A.units + 16 < cLine) (I : L2.Inv X pins σ H s) (rd : Rd H d (DicO X.w d es)) (r : KvR X.K m H kvs es) (rk : Rep X.K m H kd v) (rv : L2.RelV v u) (hk : kd.key = some k)
    (h : ∀ tk, Q (dLook kvs k).isSome { s with toks := tk }) : wpAny (model X.prog X.w) A (contains (.ref d) u) Q E s := by
  have P := dicP_of I rd
  refine wpAny_contains_slot (dicP_type P) F.slot_dict_contains ?_
  refine call_meetsIn F.slot_dict_contains (dicP_type P) F.entry_dict_contains (F.args_dict_contains_2 _ _) (S := fun A' R s' => A' = A ∧ s' = s ∧ ∀ tk, R (.ok (.ret (.bool (dLook kvs k).isSome))) { s with toks := tk }) (fun A' R s' hS => ?_) ⟨rfl, rfl, fun tk => wpAny_truthy_bool (h tk)⟩
  obtain ⟨rfl, rfl, hq⟩ := hS
  show wpAny _ _ (dictGet d u >>= _) _ _ _
  refine wpAny_bind (dget_ok (by simp only [Around.in1_units]; omega) I rd r rk rv hk (fun tk x vv uu hl _ _ => ?_) fun tk hl => ?_)
  · have := hq tk
    rw [hl] at this
    exact wpAny_pure this
  · have := hq tk
    rw [hl] at this
    exact wpAny_bind (wpAny_pendingKey_other P.1 (wpAny_pure this))
/-- d[key], which is there -/
theorem ditem_ok {Q : Value → Shared → Prop} {x : D} (hu : A.units + 16 < cLine) (I : L2.Inv X pins σ H s) (rd : Rd H d (DicO X.w d es)) (r : KvR X.K m H kvs es) (rk : Rep X.K m H kd v) (rv : L2.RelV v u) (hk : kd.key = some k) (hl : dLook kvs k = some x)
    (h : ∀ tk vv uu, Rep X.K m H x vv → L2.RelV vv uu → Q uu { s with toks := tk }) : wpAny (model X.prog X.w) A (getItem (.ref d) u) Q E s := by
  have P := dicP_of I rd
  unfold getItem
  refine wpAny_holding (wpAny_bind (wpAny_sequenceKey (dicP_type P) (by decide) ?_))
  refine wpAny_bind (wpAny_callSpecial?_slot (name := Str.ofString "__getitem__") (dicP_type P) slot_dict_getitem (wpAny_call_entry slot_dict_getitem (dicP_type P) entry_dict_getitem ?_ (args_dict_getitem _ _)))
  show wpAny _ _ (dictGet d u >>= _) _ _ _
  refine wpAny_bind (dget_ok (by simp only [Around.in1_units]; omega) I rd r rk rv hk (fun tk x' vv uu hl' q1 q2 => ?_) fun tk hl' => ?_)
  · rw [hl] at hl'; cases hl'
    exact wpAny_pure ⟨uu, rfl, wpAny_pure (h tk vv uu q1 q2)⟩
  · rw [hl] at hl'; cases hl'

/-! ### stores -/

/-- d[key] = value, at the dict's own level -/
theorem dset_ok {Q : Unit → Shared → Prop} {x : D} {xv : V} {xu : Value} (hu : A.units + 8 < cLine) (I : L2.Inv X pins σ H s) (ed : H d = some (DicO X.w d es)) (r : KvR X.K m H kvs es) (rk : Rep X.K m H kd v) (rv : L2.RelV v u) (hk : kd.key = some k)
    (rx : Rep X.K m H x xv) (ru : L2.RelV xv xu) (hsz : kvs.length + 1 ≤ sizeLine)
    (mono : ∀ (o : HO) (y : D) (z : V), Rep X.K m H y z → Rep X.K m (upd H d o) y z)
    (h : ∀ es' s', L2.Inv X pins σ (upd H d (DicO X.w d es')) s' → KvR X.K m (upd H d (DicO X.w d es')) (dPut kvs kd k x) es' → Q () s') : wpAny (model X.prog X.w) A (dictSet d u xu) Q E s := by
  obtain ⟨hsys, hlen, o, ents, ep, ho, hc, hd, p⟩ := dicP_of I (.inl ed)
  have mu : Mut (H d) := by rw [ed]; trivial
  obtain ⟨hn, h8⟩ := key_nk hk
  unfold dictSet
  refine wpAny_holding (dfind_ok hu I ho hd p r rk rv hk fun find => ?_)
  unfold dictSetHashed
  refine wpAny_holding (wpAny_bind (find _ fun q sp => ?_))
  have lk := look_at r sp
  have kv' : ∀ (o : HO) (l : List (D × D)) (e2 : List (NestedKey × V × V)), KvR X.K m H l e2 → KvR X.K m (upd H d o) l e2 := fun o l e2 z =>
    ⟨Paired.mapP z.pr fun a b c => ⟨c.1, c.2.1, mono o _ _ c.2.2.1, mono o _ _ c.2.2.2⟩, z.nd⟩
  cases q with
  | none =>
    obtain ⟨l0, no⟩ := lk
    refine wpAny_bind (wpAny_rule (wpAny_updateDictKeys (s := { s with toks := _ }) ho hd ?_ (hz := ?_)))
    · have e1 : dPut kvs kd k x = kvs ++ [(kd, x)] := by unfold dPut; rw [l0]; rfl
      have p2 : Paired (EntR X.w) (es ++ [(k, v, xv)]) (ents.push ⟨k.hash X.w, u, xu⟩).toList := by
        rw [Array.toList_push]
        exact Paired.snoc p ⟨rfl, rv, ru⟩
      have len2 : (es ++ [(k, v, xv)]).length ≤ sizeLine := by
        have := paired_len r.pr
        simp; omega
      have P2 : DicP X.w d (es ++ [(k, v, xv)]) (s.heap.update d (Obj.mapDictKeys fun es => es.push ⟨k.hash X.w, u, xu⟩)) :=
        ⟨hsys, len2, _, _, ep + 1, Heap.get?_update_self _ ho (Obj.isFreed_of_dict (Obj.data_mapDictKeys hd _)), hc.mapDictKeys _, Obj.data_mapDictKeys hd _, p2⟩
      refine h (es ++ [(k, v, xv)]) _ (I.write mu (.inl rfl) (fun b w hb e => (Heap.get?_update_ne _ _ _ _ hb).trans e) ⟨_, P2.2.2.choose_spec.choose_spec.choose_spec.1⟩ (dicO_ok P2)) ?_
      rw [e1]
      refine ⟨Paired.snoc (kv' _ _ _ r).pr ⟨hn, h8, mono _ _ _ rk, mono _ _ _ rx⟩, ?_⟩
      rw [List.map_append, List.nodup_append]
      refine ⟨r.nd, by simp, fun a ha b hb e => ?_⟩
      simp only [List.map_cons, List.map_nil, List.mem_singleton] at hb
      subst hb e
      obtain ⟨j, hj⟩ := List.mem_iff_getElem?.mp ha
      exact sp j hj
    · have := paired_len p
      simp only [Array.length_toList] at this
      omega
  | some j =>
    obtain ⟨dk, dv, hj, hnk, hl, kv, vv, he, q1, q2⟩ := lk
    obtain ⟨en, hen, z1, z2, z3⟩ := Paired.getL p he
    refine wpAny_bind (wpAny_rule (wpAny_bind (wpAny_updateDict (s := { s with toks := _ }) ho hd (wpAny_point ?_))))
    have hjl : j < kvs.length := (List.getElem?_eq_some_iff.mp hj).1
    have e1 : dPut kvs kd k x = kvs.set j (dk, x) := by
      unfold dPut
      rw [hl, if_pos (show (some dv).isSome = true from rfl)]
      refine List.ext_getElem? fun i => ?_
      rw [List.getElem?_map]
      by_cases hij : i = j
      · subst hij
        rw [hj, List.getElem?_set_self hjl, Option.map_some, if_pos hnk]
      · rw [List.getElem?_set_ne (Ne.symm hij)]
        cases hi : kvs[i]? with
        | none => rfl
        | some q =>
          rw [Option.map_some, if_neg]
          intro hq
          obtain ⟨e2, he2, w1, _⟩ := Paired.getL r.pr hi
          rw [hq] at w1; cases w1
          exact hij (ks_unique r.nd (by rw [List.getElem?_map, he2]; rfl) (by rw [List.getElem?_map, he]; rfl))
    have e2 : (ents.modify j fun e => { e with val := xu }).toList = ents.toList.set j { en with val := xu } := by
      refine List.ext_getElem? fun i => ?_
      rw [Array.getElem?_toList, Array.getElem?_modify]
      by_cases hij : j = i
      · subst hij
        have hlt : j < ents.toList.length := (List.getElem?_eq_some_iff.mp hen).1
        rw [if_pos rfl, List.getElem?_set_self hlt, ← Array.getElem?_toList, hen]
        rfl
      · rw [if_neg hij, List.getElem?_set_ne hij, Array.getElem?_toList]
    have p2 : Paired (EntR X.w) (es.set j (k, kv, xv)) (ents.modify j fun e => { e with val := xu }).toList := by
      rw [e2]
      exact Paired.setBoth p j ⟨z1, z2, ru⟩
    have P2 : DicP X.w d (es.set j (k, kv, xv)) (s.heap.update d (Obj.mapDict fun es => es.modify j fun e => { e with val := xu })) :=
      ⟨hsys, by simpa using hlen, _, _, ep, Heap.get?_update_self _ ho (Obj.isFreed_of_dict (Obj.data_mapDict hd _)), hc.mapDict _, Obj.data_mapDict hd _, p2⟩
    refine h _ _ (I.write mu (.inl rfl) (fun b w hb e => (Heap.get?_update_ne _ _ _ _ hb).trans e) ⟨_, P2.2.2.choose_spec.choose_spec.choose_spec.1⟩ (dicO_ok P2)) ?_
    rw [e1]
    refine ⟨Paired.setBoth (kv' _ _ _ r).pr j ⟨hnk, h8, mono _ _ _ q1, mono _ _ _ rx⟩, ?_⟩
    have : (es.set j (k, kv, xv)).map (·.1) = es.map (·.1) := by
      rw [List.map_set]
      refine List.ext_getElem? fun i => ?_
      by_cases hij : j = i
      · subst hij
        rw [List.getElem?_set_self (by simpa using (List.getElem?_eq_some_iff.mp he).1), List.getElem?_map, he]; rfl
      · rw [List.getElem?_set_ne hij]
    rw [this]; exact r.nd
end
end Eng
/-! E7: in, ==, subscripts, slices, len, list, tuple, all, any, int. -/
namespace Eng
open PySem PySem.Spec PyProof.Rows L2
section
variable {X : Cx} {m : List Addr} {H : Hp} {st : Store}
/-- a dict that is read -/
theorem dicAt_at {K : PySem.W.Frag} {w : World} {d : D} {v : V} {kvs : List (D × D)} (S : StoR K w m st H) (r : Rep K m H d v) (h : dicAt st d = some kvs) : ∃ a es, v = .ref a ∧ a ∈ m ∧ Rd H a (DicO w a es) ∧ KvR K m H kvs es := by
  cases d <;> try (simp [dicAt] at h; done)
  rename_i i
  obtain ⟨a, h1, h2⟩ := r
  simp only [dicAt] at h
  cases hq : st[i]? with
  | none => rw [hq] at h; cases h
  | some o =>
    rw [hq] at h
    cases o <;> simp only [Option.some.injEq, reduceCtorEq] at h
    · subst h
      obtain ⟨es, h3, h4⟩ := S.at_ i a _ h2 hq
      exact ⟨a, es, h1, List.mem_of_getElem? h2, .inl h3, h4⟩
    · subst h
      obtain ⟨o, es, h3, h4⟩ := S.at_ i a _ h2 hq
      exact ⟨a, es, h1, List.mem_of_getElem? h2, .inr ⟨o, h3⟩, h4⟩
theorem op_inD (hu : X.A.units + 64 < cLine) (neg : Bool) : OpR X (compareOp (if neg then .NotIn else .In)) (rG X (inV neg)) := by
  rintro pins s σ H v u vv uu Q I rv ru ⟨m, st, x, y, q, st', S, rx, ry, e, k⟩
  unfold inV at e
  split at e <;> try contradiction
  next a =>
  split at e
  · next xs hx =>
    split at e <;> try contradiction
    next y1 ys h1 h2 =>
    obtain ⟨rfl, rfl⟩ := val_ok e
    exact seq_in neg hu I S rv ru rx ry hx h1 h2 (KQ.val S k rfl)
  · split at e <;> try contradiction
    next d =>
    split at e <;> try contradiction
    next kvs kk h1 h2 =>
    obtain ⟨rfl, rfl⟩ := val_ok e
    obtain ⟨b, es, rfl, _, rd, kv⟩ := dicAt_at S ry h1
    obtain rfl : uu = Value.ref b := ru
    have fin : ∀ tk, EP X pins σ Q (.bool ((dLook kvs kk).isSome != neg)) { s with toks := tk } := fun tk => ⟨.bl _, H, I.tok tk, rfl, KQ.val S k rfl⟩
    cases neg
    · show wpAny _ _ (do return Value.bool (← contains (.ref b) vv)) _ _ s
      exact wpAny_bind (din_ok (by omega) I rd kv rx rv h2 fun tk => wpAny_pure (by simpa using fin tk))
    · show wpAny _ _ (do return Value.bool (!(← contains (.ref b) vv))) _ _ s
      exact wpAny_bind (din_ok (by omega) I rd kv rx rv h2 fun tk => wpAny_pure (by simpa using fin tk))
theorem op_inG {p : Prg} {call : String → List D → Store → R D} (hu : X.A.units + 64 < cLine) : OpR X (compareOp .In) (rG X (cmpV p call .isin)) := by
  have := op_inD (X := X) hu false
  intro pins s σ H v u vv uu Q I rv ru ⟨m, st, x, y, q, st', S, rx, ry, e, k⟩
  exact this pins s σ H v u vv uu Q I rv ru ⟨m, st, x, y, q, st', S, rx, ry, by cases x <;> exact e, k⟩
theorem op_notInG {p : Prg} {call : String → List D → Store → R D} (hu : X.A.units + 64 < cLine) : OpR X (compareOp .NotIn) (rG X (cmpV p call .notin)) := by
  have := op_inD (X := X) hu true
  intro pins s σ H v u vv uu Q I rv ru ⟨m, st, x, y, q, st', S, rx, ry, e, k⟩
  exact this pins s σ H v u vv uu Q I rv ru ⟨m, st, x, y, q, st', S, rx, ry, by cases x <;> exact e, k⟩
/-! ### subscripts -/
theorem ix_G (hu : X.A.units + 64 < cLine) : IxR X (rG X fun x y st => match y with
    | .val k => idxV x k st
    | _ => .no) := by
  rintro value slice pins s σ H v u vv uu Q I rv ru ⟨m, st, x, y, q, st', S, rx, ry, e, k⟩ hs
  dsimp only at e
  split at e <;> try contradiction
  next i =>
  unfold idxV at e
  split at e
  · next xs j hx =>
    obtain ⟨d, hd, e⟩ := opt_ok e
    obtain ⟨rfl, rfl⟩ := val_ok e
    obtain ⟨a, vs, rfl, ha, rs⟩ := seqOf_at S rx hx
    unfold L2.atI at hd
    obtain ⟨n, hn, hdn⟩ := Option.bind_eq_some_iff.mp hd
    obtain ⟨w', hw, rw'⟩ := rs.get hdn
    have hat : L2.atI vs j = some w' := by unfold L2.atI; rw [rs.length, hn]; exact hw
    rcases ha with ha | ha
    · exact ix_list value slice pins s σ H _ u vv uu Q I rv ru ⟨a, vs, j, w', rfl, ry, ha, hat, KQ.val S k rw'⟩ hs
    · exact ix_tup value slice pins s σ H _ u vv uu Q I rv ru ⟨a, vs, j, w', rfl, ry, ha, hat, KQ.val S k rw'⟩ hs
  · split at e <;> try contradiction
    next d =>
    split at e <;> try contradiction
    next kvs kk h1 h2 =>
    obtain ⟨x, hx, e⟩ := opt_ok e
    obtain ⟨rfl, rfl⟩ := val_ok e
    obtain ⟨b, es, rfl, _, rd, kv⟩ := dicAt_at S rx h1
    obtain rfl : vv = Value.ref b := rv
    exact tail_any (dicP_type (dicP_of I rd)) slot_dict_getitem.lookup (ditem_ok (by omega) I rd kv ry ru h2 hx fun tk xv xu rx' ru' => ⟨xv, H, I.tok tk, ru', KQ.val S k rx'⟩) hs
  · contradiction
/-! ### slices -/
def rSl (X : Cx) : V → Option Int → Option Int → Hp → VK → Prop := fun v lo hi H Q => ∃ m st x l h q st', StoR X.K X.w m st H ∧ RepQ X.K m H x v ∧ ioD l = some lo ∧ ioD h = some hi ∧ slcV x l h st = .ok q st' ∧ KQ X Q m H q st'
theorem Reps.cut {K : PySem.W.Frag} {ds : List D} {vs : List V} (r : Reps K m H ds vs) (lo hi : Option Int) : Reps K m H (cutD ds lo hi) (cutV vs lo hi) := by
  unfold cutD cutV
  rw [r.length]
  exact (r.drop _).take _
theorem sl_G : SlR X (rSl X) := by
  rintro pins s σ H v vv vl vu lo hi sl Q I rv hs pl pu ⟨m, st, x, l, h, q, st', S, rx, el, eh, e, k⟩
  unfold slcV at e
  rw [el, eh] at e
  dsimp only at e
  split at e
  · next xs =>
    obtain ⟨rfl, rfl⟩ := val_ok e
    obtain ⟨a, vs, rfl, ha, rs⟩ := rx
    refine sl_tupA pins s σ H _ vv vl vu lo hi sl Q I rv hs pl pu ⟨a, vs, rfl, ha, fun z => ?_, fun _ p hp => KQ.tup S k (rs.cut lo hi) hp⟩
    have hc : cutD xs lo hi = xs := by
      have z' := z
      rw [rs.length] at z'
      unfold cutD
      rw [z'.1, z'.2]
      simp
    rw [hc] at k
    exact KQ.val S k ⟨a, vs, rfl, ha, rs⟩
  · split at e <;> try contradiction
    next xs hx =>
    obtain ⟨rfl, rfl⟩ := ok_ok e
    obtain ⟨a, vs, rfl, ha, rs⟩ := lstOf_at S rx hx
    exact sl_list pins s σ H _ vv vl vu lo hi sl Q I rv hs pl pu ⟨a, vs, rfl, ha, fun p hp => KQ.lst S k (rs.cut lo hi) hp⟩

theorem dlen_ok {A : Around} {E : Value → Shared → Prop} {s : Shared} {d : Addr} {o : Obj} {ents : Array DictEntry} {ep : Nat} {Q : Value → Shared → Prop} (hd : (d == sysModules) = false) (ho : s.heap.get? d = some o) (hc : o.ExactDict) (hdat : o.data = .dict ents ep) (hfit : ents.size ≤ sizeLine)
    (h : ∀ t, Q (.int ents.size t) { s with toks := s.toks + 1 + 1 }) : wpAny (model X.prog X.w) A (call (.builtin "len") [.ref d]) Q E s := by
  have hT : s.TypeIs (.ref d) "dict" := ⟨o, ho, hc.1⟩
  have hfit : (ents.size : Int) < 2 ^ 63 := by rw [sizeLine_eq] at hfit; omega
  refine Calls.call_function_entry kind_len plain_len entry_len (args_len1 _) ?_
  unfold Builtin.«len»
  refine wpAny_bind (m := oneArg "len" _) (wpAny_pure ?_)
  refine wpAny_bind (m := callSpecial? (.ref d) (Str.ofString "__len__")) (wpAny_callSpecial?_slot (name := Str.ofString "__len__") hT F.slot_dict_len
    (wpAny_call_entry F.slot_dict_len hT F.entry_dict_len ?_ (F.args_dict_len_1 _)))
  show wpAny _ _ (dictSize d >>= _) _ _ s
  unfold dictSize
  refine wpAny_bind (wpAny_bind (wpAny_dictEntries ho hdat (wpAny_pure ?_)))
  show wpAny _ _ (Builtin.Dict.pendingCount d >>= _) _ _ s
  refine wpAny_bind (wpAny_pendingCount_other hd ?_)
  have e0 : ((ents.size : Nat) : Int) + ((0 : Nat) : Int) = ((ents.size : Nat) : Int) := by simp
  rw [e0]
  refine wpAny_ret_mkInt ?_
  show wpAny _ _ _ _ _ { s with toks := s.toks + 1 }
  refine wpAny_bind (wpAny_holding (wpAny_pure ?_))
  refine wpAny_bind (wpAny_letGo ?_)
  show wpAny _ _ (if ((ents.size : Nat) : Int) < 0 then _ else _) _ _ _
  rw [if_neg (by omega)]
  show wpAny _ _ (if ((ents.size : Nat) : Int) ≥ 2 ^ 63 then _ else _) _ _ _
  rw [if_neg (by omega)]
  exact wpAny_bind (wpAny_mkInt (wpAny_pure ⟨_, rfl, h _⟩))
/-! ### calls of builtins with one argument -/
def rC1 (X : Cx) (g : Sq → Store → R Sq) : List V → Hp → VK → Prop := fun vs H Q => ∃ v, vs = [v] ∧ rG1 X g v H Q
theorem SqL.len {pins : List (Addr × Obj)} {s : Shared} {σ : L2.St} {a : Addr} {vs : List V} (I : L2.Inv X pins σ H s) (h : SqL X.K H a vs) : vs.length ≤ sizeLine := (I.list h).choose_spec.2.2
theorem bf_len : CallR X (.builtin "len") (rC1 X (bfV .len)) := by
  rintro pins s σ H vs us Q I rs ⟨v, rfl, m, st, x, q, st', S, rx, e, k⟩
  simp only [bfV] at e
  split at e
  · next xs hx =>
    obtain ⟨rfl, rfl⟩ := val_ok e
    obtain ⟨a, ws, rfl, ha, rw'⟩ := seqOf_at S rx hx
    refine call_len pins s σ H _ us Q I rs ⟨_, ws.length, rfl, ?_, by rw [rw'.length]; exact KQ.val S k rfl⟩
    rcases ha with ha | ha
    · exact .inl ⟨ws, ha, rfl⟩
    · exact .inr ⟨ws, ha, rfl⟩
  · split at e
    · rename_i z _
      obtain ⟨hs, e⟩ := ite_ok e
      obtain ⟨rfl, rfl⟩ := val_ok e
      exact call_len pins s σ H _ us Q I rs ⟨_, z.length, rfl, by rw [show v = V.str z from rx]; exact ⟨small_le hs, rfl⟩, KQ.val S k rfl⟩
    · next d hd =>
      obtain ⟨kvs, hk, e⟩ := opt_ok e
      obtain ⟨rfl, rfl⟩ := val_ok e
      obtain ⟨b, es, rfl, _, rd, kv⟩ := dicAt_at S rx hk
      obtain ⟨u, rfl, ru⟩ := vals1 rs
      obtain rfl : u = Value.ref b := ru
      obtain ⟨hsys, hlen, o, ents, ep, ho, hc, hdat, p⟩ := dicP_of I rd
      refine dlen_ok hsys ho hc hdat ?_ fun tk => ⟨.int ents.size, H, I.tok _, ⟨_, rfl⟩, ?_⟩
      · have := paired_len p
        simp only [Array.length_toList] at this
        omega
      · have h1 := paired_len p
        have h2 := paired_len kv.pr
        simp only [Array.length_toList] at h1
        rw [← h1, ← h2]
        exact KQ.val S k rfl
    · contradiction
end
end Eng
/-! E8: list, tuple, all, any, int, sorted of lists and of dicts of any keys. -/
namespace Eng
open PySem PySem.Spec PyProof.Rows L2
/-! ### a dict walked, whatever its keys are -/
def DatH (d : Addr) (ents : Array DictEntry) (ep : Nat) (h : Heap) : Prop := ∃ o, h.get? d = some o ∧ o.ExactDict ∧ o.data = .dict ents ep
section
variable {prog : Program} {w : World} {A : Around} {d : Addr} {ents : Array DictEntry} {ep : Nat}
theorem keyiter_self {s : Shared} {it : Addr} {i n : Nat} {Q : Value → Shared → Prop} {E : Value → Shared → Prop} (st : s.heap.IsKeyIter it d i n ep) (h : Q (.ref it) s) : wpAny (model prog w) A (pyIter (.ref it)) Q E s := by
  refine wpAny_pyIter_slot st.typeIs F.slot_dict_keyiterator_iter (wpAny_call_entry F.slot_dict_keyiterator_iter st.typeIs F.entry_dict_keyiterator_iter ?_ (F.args_dict_keyiterator_iter_1 _))
  show wpAny _ _ (ret (.ref it)) _ _ s
  exact wpAny_pure ⟨_, rfl, "dict_keyiterator", _, st.typeIs, F.slot_dict_keyiterator_next.lookup, h⟩
theorem walks_ext (hh : A.handled = none) (I : Addr) (hne : d ≠ I) : Walks prog w A I [I, d] [I] ents.size (fun i v => ∃ en, ents[i]? = some en ∧ v = en.key) (fun i h => h.IsKeyIter I d i ents.size ep ∧ DatH d ents ep h) where
  sub := fun b hb => by simp at hb; simp [hb]
  frame := fun _ _ _ st hk => ⟨st.1.at fun o e => hk I (by simp) o e, let ⟨o, e, r⟩ := st.2; ⟨o, hk d (by simp) o e, r⟩⟩
  item := fun i s Q E hi st hQ => by
    obtain ⟨o, ho, hc, hd⟩ := st.2
    refine next_key_item st.1 ho hd rfl (en := ents[i]) (Array.getElem?_eq_getElem hi) fun h' st' sb => ?_
    exact hQ _ h' s.toks ⟨_, Array.getElem?_eq_getElem hi, rfl⟩ ⟨st', o, (sb.2 d hne).trans ho, hc, hd⟩ fun b o' hb e => (sb.2 b (by simpa using hb)).trans e
  done := fun s Q E st hQ => by
    obtain ⟨o, ho, hc, hd⟩ := st.2
    exact next_key_end hh st.1 ho hd rfl (Nat.le_refl _) fun h' eb => hQ h' s.toks fun b o' hb e => eb b o' (by simpa using hb) e
  self := fun i s Q E st hQ => keyiter_self st.1 hQ
theorem src_ext (lo : (d == sysModules) = false) : PySem.W.KdlSrc prog w "dict" d d ents.size (fun i v => ∃ en, ents[i]? = some en ∧ v = en.key) (DatH d ents ep) where
  type := fun s ⟨o, e, c, _⟩ => ⟨o, e, c.1⟩
  there := fun h ⟨o, e, _⟩ => ⟨Heap.lt_size e, Heap.lt_size e⟩
  keep := fun h h' ⟨o, e, r⟩ hk => ⟨o, hk d (.inl rfl) o e, r⟩
  notList := by decide
  notTuple := by decide
  hint := fun _ _ s _ ⟨o, e, c, _⟩ hq => PySem.W.kdl_hint_dict ⟨o, e, c.1⟩ hq
  iter := fun A s hh ⟨o, e, c, hd⟩ => ⟨_, _, (fun E Q hq => iter_keys lo e c hd hq), walks_ext hh _ (Nat.ne_of_lt (Heap.lt_size e)), ⟨⟨_, Heap.get?_push_size _ rfl, rfl, rfl⟩, o, Heap.get?_push_of_some _ e, c, hd⟩⟩
end
section
variable {X : Cx} {m : List Addr} {H : Hp} {st : Store}
/-- what stands in a walked thing -/
theorem walked_cases {xs : List D} {dep : Dep} {q : Sq} (h : walked st q = some (xs, dep)) : seqOf st q = some xs ∨ ∃ d kvs, q = .val d ∧ dicAt st d = some kvs ∧ xs = kvs.map (·.1) := by
  unfold walked at h
  split at h
  · cases h; exact .inl rfl
  · cases h; exact .inl rfl
  · cases h; exact .inl rfl
  · next i =>
    split at h
    · next ys hq => cases h; left; simp only [seqOf, lstOf, hq]
    · next kvs hq => cases h; right; exact ⟨.obj i, kvs, rfl, by simp only [dicAt, hq], rfl⟩
    · next kvs hq => cases h; right; exact ⟨.obj i, kvs, rfl, by simp only [dicAt, hq], rfl⟩
    · cases h
  · cases h
/-- the keys of the entries as values -/
theorem keys_vals {w : World} : ∀ {es : List (NestedKey × V × V)} {ents : List DictEntry}, Paired (EntR w) es ents → Vals (es.map (·.2.1)) (ents.map (·.key))
  | [], [], .nil => .nil
  | _ :: _, _ :: _, .cons a b => .cons a.2.1 (keys_vals b)
theorem keys_reps {K : PySem.W.Frag} {kvs : List (D × D)} {es : List (NestedKey × V × V)} (h : KvR K m H kvs es) : Reps K m H (kvs.map (·.1)) (es.map (·.2.1)) := by
  have := h.pr
  clear h
  induction this with
  | nil => rfl
  | cons a b ih => exact ⟨_, _, rfl, a.2.2.1, ih⟩
theorem items_keys {ents : Array DictEntry} {acc : Array Value} (h : ItemsOf (fun i v => ∃ en, ents[i]? = some en ∧ v = en.key) acc ents.size) : acc.toList = ents.toList.map (·.key) := by
  refine List.ext_getElem? fun i => ?_
  rw [List.getElem?_map, Array.getElem?_toList, Array.getElem?_toList]
  by_cases hi : i < acc.size
  · obtain ⟨en, e1, e2⟩ := h.2 i acc[i] (Array.getElem?_eq_getElem hi)
    rw [Array.getElem?_eq_getElem hi, e1, e2]
    rfl
  · rw [Array.getElem?_eq_none (by omega), Array.getElem?_eq_none (by rw [← h.1]; omega)]
    rfl
theorem bf_list (hc : X.calm = true) : CallR X (.type "list") (rC1 X (bfV .list)) := by
  rintro pins s σ H vs us Q I rs ⟨v, rfl, m, st, x, q, st', S, rx, e, k⟩
  simp only [bfV] at e
  obtain ⟨⟨xs, dep⟩, hw, e⟩ := opt_ok e
  obtain ⟨rfl, rfl⟩ := ok_ok e
  rcases walked_cases hw with hw | ⟨d, kvs, rfl, hk, rfl⟩
  · obtain ⟨a, ws, rfl, ha, rw'⟩ := seqOf_at S rx hw
    exact call_list_of pins s σ H _ us Q I rs ⟨a, ws, rfl, ha, fun l hl => KQ.lst S k rw' hl⟩
  · obtain ⟨b, es, rfl, _, rd, kv⟩ := dicAt_at S rx hk
    obtain ⟨u, rfl, ru⟩ := vals1 rs
    obtain rfl : u = Value.ref b := ru
    obtain ⟨hsys, hlen, o, ents, ep, ho, hce, hdat, p⟩ := dicP_of I rd
    have hl2 := paired_len p
    simp only [Array.length_toList] at hl2
    refine PySem.W.kdl_call (src_ext (prog := X.prog) (w := X.w) (ents := ents) (ep := ep) hsys) (I.ok.hd hc) ⟨o, ho, hce, hdat⟩ (by omega) fun h' tk acc c' hkp hD hacc => ?_
    have hv : Vals (es.map (·.2.1)) acc.toList := by rw [items_keys hacc]; exact keys_vals p
    refine ⟨.ref s.heap.objs.size, upd H s.heap.objs.size (.lst (es.map (·.2.1))), I.laid (t' := tk) hkp (Nat.le_refl _)
      (show ObjOk X.prog X.w _ _ _ (.lst _) from ⟨by rw [List.length_map]; exact hlen, acc.toList, c', hv, by rw [Array.toArray_toList]; exact hD⟩), rfl, KQ.lst S k (keys_reps kv) (I.hok.fresh (Nat.le_refl _))⟩
theorem bf_tuple : CallR X (.type "tuple") (rC1 X (bfV .tuple)) := by
  rintro pins s σ H vs us Q I rs ⟨v, rfl, m, st, x, q, st', S, rx, e, k⟩
  simp only [bfV] at e
  obtain ⟨xs, hw, e⟩ := opt_ok e
  obtain ⟨rfl, rfl⟩ := val_ok e
  obtain ⟨a, ws, rfl, ha, rw'⟩ := seqOf_at S rx hw
  refine call_tuple_of pins s σ H _ us Q I rs ⟨a, ws, rfl, ?_⟩
  rcases ha with ha | ha
  · exact .inl ⟨ha, fun l hl => KQ.tup S k rw' hl⟩
  · exact .inr ⟨ha, KQ.val S k ⟨a, ws, rfl, ha, rw'⟩⟩
theorem truths {K : PySem.W.Frag} : ∀ {ds : List D} {vs : List V} {bs : List Bool}, optM truth ds = some bs → Reps K m H ds vs → vs = bs.map V.bl
  | [], vs, bs, h, r => by
    simp only [optM, Option.some.injEq] at h
    subst h
    exact r
  | d :: ds, vs, bs, h, r => by
    obtain ⟨y, zs, h1, h2, rfl⟩ := optM_cons h
    obtain ⟨v, ws, rfl, r1, r2⟩ := r
    rw [truths h2 r2]
    cases d <;> simp only [truth, Option.some.injEq, reduceCtorEq] at h1
    subst h1
    rw [show v = V.bl _ from r1]
    rfl
theorem bf_all (hc : X.calm = true) : CallR X (.builtin "all") (rC1 X (bfV .all)) := by
  rintro pins s σ H vs us Q I rs ⟨v, rfl, m, st, x, q, st', S, rx, e, k⟩
  simp only [bfV] at e
  obtain ⟨bs, hw, e⟩ := opt_ok e
  obtain ⟨rfl, rfl⟩ := val_ok e
  obtain ⟨xs, hl, hw⟩ := Option.bind_eq_some_iff.mp hw
  · obtain ⟨a, ws, rfl, ha, rw'⟩ := lstOf_at S rx hl
    exact cr_all hc pins s σ H _ us Q I rs ⟨a, bs, rfl, by rw [← truths hw rw']; exact ha, KQ.val S k rfl⟩
theorem bf_any (hc : X.calm = true) : CallR X (.builtin "any") (rC1 X (bfV .any)) := by
  rintro pins s σ H vs us Q I rs ⟨v, rfl, m, st, x, q, st', S, rx, e, k⟩
  simp only [bfV] at e
  obtain ⟨bs, hw, e⟩ := opt_ok e
  obtain ⟨rfl, rfl⟩ := val_ok e
  obtain ⟨xs, hl, hw⟩ := Option.bind_eq_some_iff.mp hw
  · obtain ⟨a, ws, rfl, ha, rw'⟩ := lstOf_at S rx hl
    exact cr_any hc pins s σ H _ us Q I rs ⟨a, bs, rfl, by rw [← truths hw rw']; exact ha, KQ.val S k rfl⟩
theorem bf_int : CallR X (.type "int") (rC1 X (bfV .int)) := by
  rintro pins s σ H vs us Q I rs ⟨v, rfl, m, st, x, q, st', S, rx, e, k⟩
  simp only [bfV] at e
  split at e <;> try contradiction
  · obtain ⟨rfl, rfl⟩ := val_ok e
    exact call_int1 pins s σ H _ us Q I rs (.inl ⟨_, by rw [show v = V.int _ from rx], KQ.val S k rfl⟩)
  · obtain ⟨rfl, rfl⟩ := val_ok e
    exact call_int1 pins s σ H _ us Q I rs (.inr ⟨_, by rw [show v = V.bl _ from rx], KQ.val S k rfl⟩)
end

/-! ### sorted texts -/
def insS (x : Str) : List Str → List Str
  | [] => [x]
  | y :: ys => if decide (y.cps.toList < x.cps.toList) then y :: insS x ys else x :: y :: ys
def isort : List Str → List Str
  | [] => []
  | x :: xs => insS x (isort xs)
abbrev ltS (a b : Str) : Prop := a.cps.toList < b.cps.toList
theorem nat_trans {a b c : List Nat} (h1 : a < b) (h2 : b < c) : a < c := List.lt_trans h1 h2
theorem ltS_asym {a b : Str} (h : ltS a b) : ¬ ltS b a := List.lt_asymm h
theorem ltS_tri {a b : Str} (h1 : ¬ ltS a b) (h2 : ¬ ltS b a) : a = b := by
  have : a.cps.toList = b.cps.toList := List.le_antisymm (List.not_lt.mp h2) (List.not_lt.mp h1)
  obtain ⟨⟨a⟩⟩ := a
  obtain ⟨⟨b⟩⟩ := b
  simp only at this
  subst this
  rfl
theorem le_tr {a b c : Str} (h1 : ¬ ltS b a) (h2 : ¬ ltS c b) : ¬ ltS c a := List.not_lt.mpr (List.le_trans (List.not_lt.mp h1) (List.not_lt.mp h2))
theorem insS_perm (x : Str) : ∀ l, (insS x l).Perm (x :: l)
  | [] => .refl _
  | y :: ys => by
    unfold insS
    split
    · exact ((insS_perm x ys).cons y).trans (.swap x y ys)
    · exact .refl _
theorem isort_perm : ∀ l, (isort l).Perm l
  | [] => .refl _
  | x :: xs => (insS_perm x _).trans ((isort_perm xs).cons x)
theorem insS_sorted (x : Str) : ∀ l : List Str, l.Pairwise (fun a b => ¬ ltS b a) → (insS x l).Pairwise (fun a b => ¬ ltS b a)
  | [], _ => by simp [insS]
  | y :: ys, h => by
    unfold insS
    obtain ⟨h1, h2⟩ := List.pairwise_cons.mp h
    split
    · next c =>
      have c := of_decide_eq_true c
      refine List.pairwise_cons.mpr ⟨fun z hz => ?_, insS_sorted x ys h2⟩
      rcases List.mem_cons.mp ((insS_perm x ys).mem_iff.mp hz) with rfl | hz
      · exact ltS_asym c
      · exact h1 z hz
    · next c =>
      have c : ¬ ltS y x := fun z => c (decide_eq_true z)
      refine List.pairwise_cons.mpr ⟨fun z hz => ?_, h⟩
      rcases List.mem_cons.mp hz with rfl | hz
      · exact c
      · exact le_tr c (h1 z hz)
theorem isort_sorted : ∀ l : List Str, (isort l).Pairwise (fun a b => ¬ ltS b a)
  | [] => .nil
  | x :: xs => insS_sorted x _ (isort_sorted xs)
theorem rising_pair : ∀ (p : Str) (l : List Str), risingS p l = true → (p :: l).Pairwise (fun a b => ¬ ltS b a)
  | p, [], _ => by simp
  | p, x :: r, h => by
    simp only [risingS, Bool.and_eq_true, Bool.not_eq_true'] at h
    have h1 : ¬ ltS x p := by
      rw [ltCps_eq] at h
      exact of_decide_eq_false h.1
    have h2 := rising_pair x r h.2
    refine List.pairwise_cons.mpr ⟨fun z hz => ?_, h2⟩
    rcases List.mem_cons.mp hz with rfl | hz
    · exact h1
    · exact le_tr h1 ((List.pairwise_cons.mp h2).1 z hz)
theorem sorted_uniq {ys xs : List Str} (h : ys.Perm xs) (hs : sortedS ys = true) : ys = isort xs := by
  have hp : ys.Pairwise (fun a b => ¬ ltS b a) := by
    cases ys with
    | nil => exact .nil
    | cons p l => exact rising_pair p l hs
  exact (h.trans (isort_perm xs).symm).eq_of_pairwise (le := fun a b => ¬ ltS b a) (fun a b _ _ h1 h2 => ltS_tri h2 h1) hp (isort_sorted xs)
theorem sortD_strs : ∀ ss : List Str, sortD (ss.map D.str) = (isort ss).map D.str
  | [] => rfl
  | x :: xs => by
    have ins : ∀ l : List Str, insD (.str x) (l.map D.str) = (insS x l).map D.str := fun l => by
      induction l with
      | nil => rfl
      | cons y ys ih =>
        simp only [List.map_cons, insD, insS, D.lt]
        by_cases c : y.cps.toList < x.cps.toList
        · simp [c, ih]
        · simp [c]
    rw [List.map_cons, sortD, sortD_strs xs, ins]
    rfl
theorem all_strs : ∀ ds : List D, ds.all isStrD = true → ∃ ss : List Str, ds = ss.map D.str
  | [], _ => ⟨[], rfl⟩
  | d :: ds, h => by
    simp only [List.all_cons, Bool.and_eq_true] at h
    obtain ⟨ss, rfl⟩ := all_strs ds h.2
    cases d <;> simp [isStrD] at h
    exact ⟨_ :: ss, rfl⟩
theorem reps_strs {K : PySem.W.Frag} {m : List Addr} {H : Hp} : ∀ {ss : List Str} {vs : List V}, Reps K m H (ss.map D.str) vs → vs = ss.map V.str
  | [], vs, h => h
  | s :: ss, vs, ⟨v, ws, e, h1, h2⟩ => by
    subst e
    rw [reps_strs h2, show v = V.str s from h1]
    rfl
theorem strs_reps {K : PySem.W.Frag} {m : List Addr} {H : Hp} : ∀ ss : List Str, Reps K m H (ss.map D.str) (ss.map V.str)
  | [] => rfl
  | s :: ss => ⟨_, _, rfl, rfl, strs_reps ss⟩
section
variable {X : Cx}
theorem bf_sorted (hc : X.calm = true) : CallR X (.builtin "sorted") (rC1 X (bfV .sorted)) := by
  rintro pins s σ H vs us Q I rs ⟨v, rfl, m, st, x, q, st', S, rx, e, k⟩
  simp only [bfV] at e
  obtain ⟨xs, hw, e⟩ := opt_ok e
  obtain ⟨hs, e⟩ := ite_ok e
  obtain ⟨rfl, rfl⟩ := ok_ok e
  simp only [sortable, Bool.and_eq_true, decide_eq_true_eq] at hs k
  obtain ⟨ss, rfl⟩ := all_strs xs hs.1
  have h64 : ss.length < 64 := by simpa using hs.2
  rw [sortD_strs] at k
  split at hw
  · next xs hl =>
    cases hw
    obtain ⟨a, ws, rfl, ha, rw'⟩ := lstOf_at S rx hl
    rw [reps_strs rw'] at ha
    exact cr_sortedS pins s σ H _ us Q I rs ⟨a, ss, rfl, ha, h64, fun ys p hp hso hn => by rw [sorted_uniq hp hso]; exact KQ.lst S k (strs_reps _) hn⟩
  · split at hw <;> try contradiction
    next d _ =>
    obtain ⟨kvs, hk, hkk⟩ := Option.map_eq_some_iff.mp hw
    have hkk := hkk.symm
    obtain ⟨b, es, rfl, _, rd, kv⟩ := dicAt_at S rx hk
    obtain ⟨u, rfl, ru⟩ := vals1 rs
    obtain rfl : u = Value.ref b := ru
    obtain ⟨hsys, hlen, o, ents, ep, ho, hce, hdat, p⟩ := dicP_of I rd
    have hl2 := paired_len p
    simp only [Array.length_toList] at hl2
    refine Calls.call_function_entry PyProof.Rows.kind_sorted PyProof.Rows.plain_sorted PyProof.Rows.entry_sorted (PyProof.Rows.args_sorted1 _) ?_
    unfold Builtin.«sorted»
    refine wpAny_bind (m := checkCount "sorted" 1 1 _) (wpAny_pure ?_)
    refine wpAny_bind (PySem.W.kdu_collect (A := X.A.in1) (src_ext (prog := X.prog) (w := X.w) (ents := ents) (ep := ep) hsys) (I.ok.hd hc) ⟨o, ho, hce, hdat⟩ (by omega) fun h' tk acc hkp hacc => ?_)
    have kr := keys_reps kv
    rw [← hkk] at kr
    have hv : Vals (ss.map V.str) acc.toList := by rw [← reps_strs kr, items_keys hacc]; exact keys_vals p
    have hS : StrsAre acc.toList ss := hv.strs
    have hal : acc.toList.length = ss.length := hS.length
    have I1 : L2.Inv X pins σ H { s with heap := h', toks := tk } := I.kept hkp
    refine wpAny_bind (wpAny_newList ?_ (by rw [hal, sizeLine_eq]; omega))
    have hoL : (h'.push (seqObj "list" acc.toList.toArray 0)).get? h'.objs.size = some (seqObj "list" acc.toList.toArray 0) := Heap.get?_push_size _ rfl
    show wpAny _ _ _ _ _ { s with heap := h'.push (seqObj "list" acc.toList.toArray 0), toks := tk }
    refine wpAny_bind (wpAny_holding (wpAny_call_entry PyProof.Rows.slot_list_sort ⟨_, hoL, rfl⟩ PyProof.Rows.entry_list_sort
      (list_sort_treeK strKind_oneLt (s := { s with heap := h'.push (seqObj "list" acc.toList.toArray 0), toks := tk }) hoL hS.keysOf (fun v₁ v₂ rest e => keyKind_strs (by rw [← e]; exact hS)) (by rw [hal]; exact h64) fun st' hp hs => ⟨_, rfl, ?_⟩)
      (PyProof.Rows.args_list_sort _)))
    obtain ⟨ys, g1, g2, g3⟩ := sorted_out_str hS hp hs
    obtain ⟨e', he'⟩ := PyProof.Rows.sortedHeap_at (vs := acc.toList) (out := (arrOf st').map (·.2)) hoL
    have hlen : (ys.map V.str).length ≤ sizeLine := by
      rw [List.length_map, g2.length_eq]
      exact Nat.le_trans (Nat.le_of_lt h64) (by decide)
    refine wpAny_pure ⟨_, rfl, .ref h'.objs.size, upd H h'.objs.size (.lst (ys.map V.str)), I1.laid (t' := tk) (fun b u e => ?_) (Nat.le_refl _)
      (show ObjOk X.prog X.w _ _ _ (.lst (ys.map V.str)) from ⟨hlen, ((arrOf st').map (·.2)).toList, e', vals_of_strs g1, by rw [Array.toArray_toList]; exact he'⟩), rfl, by rw [sorted_uniq g2 g3]; exact KQ.lst S k (strs_reps _) (I1.hok.fresh (Nat.le_refl _))⟩
    have hb : b < h'.objs.size := Heap.lt_size e
    rw [PyProof.Rows.sortedHeap_old (Nat.ne_of_lt hb) (by rw [size_push']; exact Nat.lt_succ_of_lt hb)]
    exact Heap.get?_push_of_some _ e
end
end Eng
/-! E9: argument lists then an action; calls, new instances, methods, attributes, properties. -/
namespace Eng
open PySem PySem.Spec PyProof.Rows L2

/-! ### arguments, then an action -/
def rA (X : Cx) (σ : L2.St) (act : List D → Store → R Sq) : List V → Hp → VK → Prop := fun vs H Q => ∃ m ds st, StoR X.K X.w m st H ∧ Reps X.K m H ds vs ∧ Out X σ m H (act ds st) (KQ X Q m H)
section
variable {X : Cx} {σ : L2.St} {H : Hp} {Q : VK}
theorem tX_args {fs : Env → Store → R (List D)} {act : List D → Store → R Sq} (h : tX X (fun env st => (fs env st).bind act) σ H Q) : tDs X fs σ H fun vs H1 => rA X σ act vs H1 Q := by
  obtain ⟨env, m, st, E, S, o⟩ := h
  refine ⟨env, m, st, E, S, (o.bind S mnQ).imp fun ds st1 k vs m1 H1 n r => ⟨m1, ds, st1, n.sto, r, k m1 H1 n⟩⟩

/-- what a call of f wants and gives -/
def spC (K : PySem.W.Frag) (w : World) (np : Nat) (f : List D → Store → R D) : Sp := fun vs H Q E => vs.length = np ∧ ∃ m ds st, StoR K w m st H ∧ Reps K m H ds vs ∧ match f ds st with
  | .ok d st' => ∀ v m' H', Nx K w m H m' H' st' → Rep K m' H' d v → Q v H'
  | .ex x fs st' => ∀ c d H', ExcE K w m H x fs st' c d H' → E c d H'
  | .no => False
/-- a def that keeps that promise, found at a -/
structure FnH (P : Program) (w : World) (K : PySem.W.Frag) (mg : Str → Option Value) (base : Heap) (lvl : Nat) (a : Addr) (np : Nat) (f : List D → Store → R D) : Prop where
  ex : ∃ (fd : FuncData) (ps : List Str), FnOk P w K mg base (L2.CX P w) lvl a fd ps (spC K w np f) ∧ Binds K fd ps []

/-- the callee runs; what it raises is taken at these slots -/
theorem run_call {lvl : Nat} {a : Addr} {np : Nat} {f : List D → Store → R D} {pins : List (Addr × Obj)} {s : Shared} {us : List Value} {vs : List V} {W : WX} (F : FnH X.prog X.w X.K X.mg X.base lvl a np f) (hr : Room lvl X.A) (I : L2.Inv X pins σ H s) (r : Vals vs us)
    (tk : Takes X W) (h : spC X.K X.w np f vs H Q (WE W σ)) : wpAny (model X.prog X.w) X.A (call (.ref a) us) (EP X pins σ Q) X.xe s := by
  obtain ⟨fd, ps, F, hb⟩ := F.ex
  exact run_fnS F hr hb (E := WE W) (passAt tk σ) I r h
theorem takes_none {X : Cx} : Takes X (fun _ _ _ _ => False) := fun _ _ x => by
  obtain ⟨a, B, sI, pins, σ, H, cls, d, e, I, nb, up, sky, na, os, ag, w⟩ := x
  exact w.elim
/-- the wish of a call, by what it comes to -/
theorem spC_of {np : Nat} {f : List D → Store → R D} {act : List D → Store → R Sq} {vs : List V} (hact : act = fun ds st => (f ds st).bind fun d st => val d st) (hl : vs.length = np) (h : rA X σ act vs H Q) : ∃ W : WX, Takes X W ∧ spC X.K X.w np f vs H Q (WE W σ) := by
  subst hact
  obtain ⟨m, ds, st, S, r, o⟩ := h
  dsimp only at o
  cases hq : f ds st with
  | no => rw [hq] at o; exact o.elim
  | ok d st' =>
    rw [hq] at o
    refine ⟨_, takes_none, hl, m, ds, st, S, r, ?_⟩
    rw [hq]
    exact fun v m' H' n rv => o v m' H' n rv trivial
  | ex x fs st' =>
    rw [hq] at o
    refine ⟨_, o, hl, m, ds, st, S, r, ?_⟩
    rw [hq]
    exact fun c d H' e => ⟨rfl, e⟩
end

/-! ### stars, bases, tests: by an expression's form -/
def noStar : Expr → Bool
  | .Starred .. => false
  | _ => true
theorem star_plain {e : Expr} {es : List Expr} {env : PySem.Env} (h : noStar e = true) : starEach (e :: es) env = (false, eval e env) :: starEach es env := by
  cases e <;> first | rfl | cases h
theorem back_plain {pos : Pos} {env : PySem.Env} : ∀ {es : List Expr}, es.all noStar = true → (backTo pos (starEach es env)).any (·.1) = false
  | [], _ => rfl
  | e :: es, h => by
    simp only [List.all_cons, Bool.and_eq_true] at h
    rw [star_plain h.1]
    show (false || (backTo pos (starEach es env)).any (·.1)) = false
    rw [back_plain h.2]
    rfl
def noCallH : Expr → Bool
  | .Call (.Name id _) [] [] _ => id != "super"
  | _ => true
theorem base_plain {e : Expr} {f : Str} {env : PySem.Env} (h : noCallH e = true) : attributeBase e f env (eval e env) = eval e env := by
  unfold attributeBase
  split
  · next id _ pos =>
    simp only [noCallH] at h
    simp [h]
  · rfl
/-- its test is its value's truth -/
def plainT : Expr → Bool
  | .UnaryOp .Not _ _ => false
  | .BoolOp .. => false
  | .IfExp .. => false
  | .Compare .. => false
  | _ => true
theorem test_plain {e : Expr} {env : PySem.Env} (h : plainT e = true) : ∀ whole, isTrue e env whole = (do let v ← whole; standAt e.pos; holding [v] (truthy v)) := by
  intro whole
  cases e <;> first | rfl | (cases h; done) | skip
  rename_i op x pos
  cases op <;> first | rfl | (cases h; done)
def noMark : Expr → Bool
  | .Set .. => false
  | _ => true
theorem mark_plain {op : CmpOp} {e : Expr} (h : noMark e = true) : behindInMarks op e = false := by
  cases e <;> first | rfl | cases h
def noSlice : Expr → Bool
  | .Slice .. => false
  | _ => true
theorem ix_plain {e : Expr} (h : noSlice e = true) : PlainIx e := by
  intro o i
  cases e <;> first | rfl | cases h

/-! ### calls -/
theorem tDs_nil {X : Cx} {σ : L2.St} {H : Hp} {fa : Env → Store → R (List D)} {Q : List V → Hp → Prop} (h0 : ∀ env st, fa env st = .ok [] st) (h : tDs X fa σ H Q) : Q [] H := by
  obtain ⟨env, m, st, E, S, o⟩ := h
  rw [h0] at o
  exact o [] m H (.refl S) rfl
section
variable {X : Cx} {p : Prg} {lvl : Nat}
theorem je_call {g : List D → Store → R D} {a : Addr} {np : Nat} {x : Str} {es : List Expr} {pp pos : Pos} {fa : Env → Store → R (List D)} {f : Env → Store → R Sq} (hf : f = fun env st => (fa env st).bind fun ds st => (g ds st).bind fun d st => val d st)
    (F : FnH X.prog X.w X.K X.mg X.base lvl a np g) (hr : Room lvl X.A) (hg : Gl X x) (hm : X.mg x = some (.ref a)) (hk : PySem.W.keepIn X.K (.ref a) = true) (hd : (x == ("__debug__" : Str)) = false) (hn : es.length = np) (hlen : ∀ env st ds st', fa env st = .ok ds st' → ds.length = es.length)
    (h0 : es = [] → ∀ env st, fa env st = .ok [] st) (hst : es.all noStar = true) (ha : PA X es (tDs X fa)) : PE X (.Call (.Name x pp) es [] pos) (tX X f) := by
  subst hf
  refine ⟨fun pins s σ H Q I h => ?_⟩
  refine wpAny_Call_Name_kw (ld_glob I hg hm ?_ hd)
  have hA := tX_args h
  have fin : ∀ (s1 : Shared) (us : List Value) (vs : List V) (H1 : Hp), L2.Inv X pins σ H1 s1 → Vals vs us → vs.length = np → rA X σ (fun ds st => (g ds st).bind fun d st => val d st) vs H1 Q → wpAny (model X.prog X.w) X.A (call (.ref a) us) (EP X pins σ Q) X.xe s1 := fun s1 us vs H1 I1 r hl q => by
    obtain ⟨W, tk, sp⟩ := spC_of rfl hl q
    exact run_call F hr I1 r tk sp
  have hA2 : tDs X fa σ H fun vs H1 => vs.length = np ∧ rA X σ (fun ds st => (g ds st).bind fun d st => val d st) vs H1 Q := by
    obtain ⟨env, m, st, E, S, o⟩ := hA
    refine ⟨env, m, st, E, S, ?_⟩
    cases hq : fa env st with
    | no => rw [hq] at o; exact o
    | ex e x s => rw [hq] at o; exact o
    | ok ds st1 =>
      rw [hq] at o
      exact fun vs m1 H1 n r => ⟨by rw [r.length, hlen env st ds st1 hq]; exact hn, o vs m1 H1 n r⟩
  cases es with
  | nil =>
    obtain ⟨hl, q⟩ := tDs_nil (h0 rfl) hA2
    exact PySem.W.callWith_K0 I.kIn hk (fin s [] [] H I .nil hl q)
  | cons e es =>
    simp only [List.all_cons, Bool.and_eq_true] at hst
    refine PySem.W.callWith_K (h₀ := X.base) I.ok.mod.kin hk (thn (ha.run pos pins s σ H _ I hA2) fun us s1 ⟨vs, H1, I1, r, hl, q⟩ => ⟨I1.kIn, ?_⟩) (star_plain hst.1) (back_plain hst.2)
    exact fin s1 us vs H1 I1 r hl q

/-! ### a new instance -/
theorem ins_new {K : PySem.W.Frag} {w : World} {m : List Addr} {st : Store} {H : Hp} {x dx : Addr} {c : String} (S : StoR K w m st H) (hx : H x = none) (hdx : H dx = none) (hne : dx ≠ x) :
    Nx K w m H (m ++ [x]) (upd (upd H dx (.own x)) x (.ins (He.ga K (Str.ofString c)) dx [])) (st ++ [.ins c []]) := by
  have h1 : (upd H dx (.own x)) x = none := by rw [upd_ne (Ne.symm hne)]; exact hx
  have n1 : Nx K w m H m (upd H dx (.own x)) st := .new S hdx
  have n2 : Nx K w m (upd H dx (.own x)) m (upd (upd H dx (.own x)) x (.ins (He.ga K (Str.ofString c)) dx [])) st := .new n1.sto h1
  have n := n1.trans n2
  exact ⟨⟨[x], rfl, fun b hb => by simp at hb; subst hb; exact hx⟩, sto_push' n.sto (fun z => S.fresh hx z) ⟨dx, [], upd_same, .nil⟩, n.fr, n.fz⟩
def actMake (c : String) (g : List D → Store → R D) : List D → Store → R Sq := fun ds st => (g (.obj st.length :: ds) (st ++ [.ins c []])).bind fun d st' => match d with
  | .non => val (.obj st.length) st'
  | _ => .no
theorem run_make {lvl : Nat} {c : String} {a : Addr} {np : Nat} {g : List D → Store → R D} {pins : List (Addr × Obj)} {s : Shared} {us : List Value} {vs : List V} {σ : L2.St} {H : Hp} {Q : VK} (M : Mk X.K (He.ga X.K (Str.ofString c)) a) (F : FnH X.prog X.w X.K X.mg X.base lvl a (np + 1) g) (hr : Room (lvl + 1) X.A)
    (I : L2.Inv X pins σ H s) (r : Vals vs us) (hl : vs.length = np) (h : rA X σ (actMake c g) vs H Q) : wpAny (model X.prog X.w) X.A (call (.ref (He.ga X.K (Str.ofString c))) us) (EP X pins σ Q) X.xe s := by
  obtain ⟨m, ds, st, S, rd, o⟩ := h
  have hx : H (s.heap.objs.size + 1) = none := I.hok.fresh (Nat.le_succ _)
  have hdx : H s.heap.objs.size = none := I.hok.fresh (Nat.le_refl _)
  have hne : s.heap.objs.size ≠ s.heap.objs.size + 1 := Nat.ne_of_lt (Nat.lt_succ_self _)
  have n := ins_new (c := c) S hx hdx hne
  have I2 := Inv.made (C := He.ga X.K (Str.ofString c)) I
  have r2 : Vals (V.ref (s.heap.objs.size + 1) :: vs) (Value.ref (s.heap.objs.size + 1) :: us) := .cons rfl r
  have hob : Rep X.K (m ++ [s.heap.objs.size + 1]) (upd (upd H s.heap.objs.size (.own (s.heap.objs.size + 1))) (s.heap.objs.size + 1) (.ins (He.ga X.K (Str.ofString c)) s.heap.objs.size [])) (.obj st.length) (.ref (s.heap.objs.size + 1)) := ⟨_, rfl, get_push S⟩
  have rd2 : Reps X.K (m ++ [s.heap.objs.size + 1]) (upd (upd H s.heap.objs.size (.own (s.heap.objs.size + 1))) (s.heap.objs.size + 1) (.ins (He.ga X.K (Str.ofString c)) s.heap.objs.size [])) (.obj st.length :: ds) (.ref (s.heap.objs.size + 1) :: vs) := ⟨_, _, rfl, hob, rd.mono S n.ext n.fr⟩
  obtain ⟨W, tk, sp⟩ : ∃ W : WX, Takes X W ∧ spC X.K X.w (np + 1) g (.ref (s.heap.objs.size + 1) :: vs) (upd (upd H s.heap.objs.size (.own (s.heap.objs.size + 1))) (s.heap.objs.size + 1) (.ins (He.ga X.K (Str.ofString c)) s.heap.objs.size []))
      (fun v H2 => v = .non ∧ Q (.ref (s.heap.objs.size + 1)) H2) (WE W σ) := by
    unfold actMake at o
    cases hq : g (.obj st.length :: ds) (st ++ [.ins c []]) with
    | no => rw [hq] at o; exact o.elim
    | ok d st' =>
      rw [hq] at o
      dsimp only [R.bind] at o
      split at o <;> try exact o.elim
      refine ⟨_, takes_none, by simp [hl], _, _, _, n.sto, rd2, ?_⟩
      rw [hq]
      intro v m' H' n' rv
      exact ⟨rv, o (.ref (s.heap.objs.size + 1)) m' H' (n.trans n') (hob.mono n.sto n'.ext n'.fr) trivial⟩
    | ex x fs st' =>
      rw [hq] at o
      refine ⟨_, o, by simp [hl], _, _, _, n.sto, rd2, ?_⟩
      rw [hq]
      exact fun c d H' e => ⟨rfl, e.back n⟩
  obtain ⟨fd, ps, F, hb⟩ := F.ex
  have hll : (Value.ref (s.heap.objs.size + 1) :: us ++ []).length = ps.length := by
    rw [List.append_nil, ← r2.length]; exact F.len _ _ _ _ sp
  have hb1 := hb _ (Value.ref (s.heap.objs.size + 1) :: us) I2.kIn hll
  rw [List.append_nil] at hb1
  refine wpAny_call (make_map (f := a) I.kIn M.makes M.init (beq_iff_eq.mp M.fn) (codeAny_mono (F.run _ X.stack _ _ ⟨Value.ref (s.heap.objs.size + 1) :: us, []⟩ (Value.ref (s.heap.objs.size + 1) :: us) _ _ (WE W σ) (hr.make _ us [])
    (I2.env0.make _ us []) hb1 r2 sp) fun r s' hq' => ?_))
  cases r with
  | error e => exact passAt tk σ pins _ _ e s' I2 hq'
  | ok fl =>
    cases fl with
    | ret u =>
      obtain ⟨v, H', I3, rv, ev, q3⟩ := I2.after hq'
      subst ev
      exact ⟨rv, ⟨V.ref (s.heap.objs.size + 1), H', I3, rfl, q3⟩⟩
    | next => exact False.elim hq'
    | brk => exact False.elim hq'
    | cont => exact False.elim hq'
theorem len_args {X : Cx} {σ : L2.St} {H : Hp} {fa : Env → Store → R (List D)} {n : Nat} {Q : List V → Hp → Prop} (hlen : ∀ env st ds st', fa env st = .ok ds st' → ds.length = n) (h : tDs X fa σ H Q) : tDs X fa σ H fun vs H1 => vs.length = n ∧ Q vs H1 := by
  obtain ⟨env, m, st, E, S, o⟩ := h
  refine ⟨env, m, st, E, S, ?_⟩
  cases hq : fa env st with
  | no => rw [hq] at o; exact o
  | ex e x s => rw [hq] at o; exact o
  | ok ds st1 =>
    rw [hq] at o
    exact fun vs m1 H1 n r => ⟨by rw [r.length, hlen env st ds st1 hq], o vs m1 H1 n r⟩
theorem je_make {c : String} {g : List D → Store → R D} {a : Addr} {np : Nat} {es : List Expr} {pp pos : Pos} {fa : Env → Store → R (List D)} {f : Env → Store → R Sq} (hf : f = fun env st => (fa env st).bind (actMake c g))
    (M : Mk X.K (He.ga X.K (Str.ofString c)) a) (F : FnH X.prog X.w X.K X.mg X.base lvl a (np + 1) g) (hr : Room (lvl + 1) X.A) (hg : Gl X (Str.ofString c)) (hm : X.mg (Str.ofString c) = some (.ref (He.ga X.K (Str.ofString c)))) (hd : (Str.ofString c == ("__debug__" : Str)) = false)
    (hn : es.length = np) (hlen : ∀ env st ds st', fa env st = .ok ds st' → ds.length = es.length) (h0 : es = [] → ∀ env st, fa env st = .ok [] st) (hst : es.all noStar = true) (ha : PA X es (tDs X fa)) : PE X (.Call (.Name (Str.ofString c) pp) es [] pos) (tX X f) := by
  subst hf
  refine ⟨fun pins s σ H Q I h => ?_⟩
  refine wpAny_Call_Name_kw (ld_glob I hg hm ?_ hd)
  have hA2 := len_args hlen (tX_args h)
  cases es with
  | nil =>
    obtain ⟨hl, q⟩ := tDs_nil (h0 rfl) hA2
    exact PySem.W.callWith_K0 I.kIn M.kp (run_make M F hr I .nil (hl.trans hn) q)
  | cons e es =>
    simp only [List.all_cons, Bool.and_eq_true] at hst
    refine PySem.W.callWith_K (h₀ := X.base) I.ok.mod.kin M.kp (thn (ha.run pos pins s σ H _ I hA2) fun us s1 ⟨vs, H1, I1, r, hl, q⟩ => ⟨I1.kIn, ?_⟩) (star_plain hst.1) (back_plain hst.2)
    exact run_make M F hr I1 r (hl.trans hn) q
end
end Eng
/-! E10: statements' readings. -/
namespace Eng
open PySem PySem.Spec PyProof.Rows L2

/-- what a statement comes to -/
def OutS (X : Cx) (m : List Addr) (H : Hp) (Z : Ends) (r : RS) : Prop := match r with
  | .nx env' st' => ∀ σ' m' H', Nx X.K X.w m H m' H' st' → EnvR X.K m' H' σ' env' → Z.nx σ' H'
  | .rt d st' => ∀ v m' H', Nx X.K X.w m H m' H' st' → Rep X.K m' H' d v → Z.rt v H'
  | .ex x fs env' st' => Takes X fun c d σ1 H1 => ∃ m1, c = .ref (He.ga X.K (Str.ofString x)) ∧ Nx X.K X.w m H m1 H1 st' ∧ FldX X.K m1 H1 fs d ∧ EnvR X.K m1 H1 σ1 env'
  | .no => False
def tS (X : Cx) (f : Env → Store → RS) : TS := fun Z σ H => ∃ env m st, EnvR X.K m H σ env ∧ StoR X.K X.w m st H ∧ OutS X m H Z (f env st)
section
variable {X : Cx} {σ : L2.St} {m m1 : List Addr} {H H1 : Hp} {st st1 : Store} {Z : Ends}
theorem OutS.later {r : RS} (n : Nx X.K X.w m H m1 H1 st1) (o : OutS X m H Z r) : OutS X m1 H1 Z r := by
  cases r with
  | nx env' st' => exact fun σ' m' H' n' E => o σ' m' H' (n.trans n') E
  | rt d st' => exact fun v m' H' n' r => o v m' H' (n.trans n') r
  | ex x fs env' st' => exact Takes.imp o fun c d σ1 H1 ⟨m2, a, n', b⟩ => ⟨m2, a, n.trans n', b⟩
  | no => exact o
theorem OutS.bind {r : RS} {g : Env → Store → RS} (o : OutS X m H Z (r.bind g)) : OutS X m H { Z with nx := tS X g Z } r := by
  cases r with
  | nx env' st' => exact fun σ' m' H' n E => ⟨env', m', st', E, n.sto, OutS.later (r := g env' st') n o⟩
  | rt d st' => exact o
  | ex x fs env' st' => exact o
  | no => exact o
theorem OutS.imp {r : RS} {Z' : Ends} (o : OutS X m H Z r) (h1 : ∀ σ H, Z.nx σ H → Z'.nx σ H) (h2 : ∀ v H, Z.rt v H → Z'.rt v H) : OutS X m H Z' r := by
  cases r with
  | nx env' st' => exact fun σ' m' H' n E => h1 _ _ (o σ' m' H' n E)
  | rt d st' => exact fun v m' H' n r => h2 _ _ (o v m' H' n r)
  | ex x fs env' st' => exact o
  | no => exact o
/-- from the wish at the statement's to the expression's -/
theorem OutS.thn {α : Type} {r : R α} {env : Env} {k : α → Store → RS} (E : EnvR X.K m H σ env) (S : StoR X.K X.w m st H) (o : OutS X m H Z (r.thn env k)) :
    Out X σ m H r fun a st1 => ∀ m1 H1, Nx X.K X.w m H m1 H1 st1 → EnvR X.K m1 H1 σ env ∧ OutS X m1 H1 Z (k a st1) := by
  cases r with
  | ok a st1 => exact fun m1 H1 n => ⟨E.mono S n.ext n.fr, OutS.later (r := k a st1) n o⟩
  | ex x fs st' => exact Takes.imp o fun c d σ1 H1 ⟨e1, e2, m', n, f⟩ => ⟨m', e2, n, f, by rw [e1]; exact E.mono S n.ext n.fr⟩
  | no => exact o
theorem tS_thnD {fe : Env → Store → R D} {k : D → Env → Store → RS} (h : tS X (fun env st => (fe env st).thn env fun d st => k d env st) Z σ H) :
    tD X fe σ H fun v H1 => ∃ env m st d, EnvR X.K m H1 σ env ∧ StoR X.K X.w m st H1 ∧ Rep X.K m H1 d v ∧ OutS X m H1 Z (k d env st) := by
  obtain ⟨env, m, st, E, S, o⟩ := h
  refine ⟨env, m, st, E, S, (o.thn E S).imp fun d st1 q v m1 H1 n r => ?_⟩
  obtain ⟨E1, o1⟩ := q m1 H1 n
  exact ⟨env, m1, st1, d, E1, n.sto, r, o1⟩
theorem tS_thnX {fe : Env → Store → R Sq} {k : Sq → Env → Store → RS} (h : tS X (fun env st => (fe env st).thn env fun d st => k d env st) Z σ H) :
    tX X fe σ H fun v H1 => ∃ env m st d, EnvR X.K m H1 σ env ∧ StoR X.K X.w m st H1 ∧ RepQ X.K m H1 d v ∧ OutS X m H1 Z (k d env st) := by
  obtain ⟨env, m, st, E, S, o⟩ := h
  refine ⟨env, m, st, E, S, (o.thn E S).imp fun d st1 q v m1 H1 n r _ => ?_⟩
  obtain ⟨E1, o1⟩ := q m1 H1 n
  exact ⟨env, m1, st1, d, E1, n.sto, r, o1⟩
theorem tS_thnB {fe : Env → Store → R Bool} {k : Bool → Env → Store → RS} (h : tS X (fun env st => (fe env st).thn env fun d st => k d env st) Z σ H) :
    tBo X fe σ H fun b H1 => tS X (k b) Z σ H1 := by
  obtain ⟨env, m, st, E, S, o⟩ := h
  refine ⟨env, m, st, E, S, (o.thn E S).imp fun d st1 q m1 H1 n => ?_⟩
  obtain ⟨E1, o1⟩ := q m1 H1 n
  exact ⟨env, m1, st1, E1, n.sto, o1⟩
theorem tS_thnDs {fe : Env → Store → R (List D)} {k : List D → Env → Store → RS} (h : tS X (fun env st => (fe env st).thn env fun d st => k d env st) Z σ H) :
    tDs X fe σ H fun vs H1 => ∃ env m st ds, EnvR X.K m H1 σ env ∧ StoR X.K X.w m st H1 ∧ Reps X.K m H1 ds vs ∧ OutS X m H1 Z (k ds env st) := by
  obtain ⟨env, m, st, E, S, o⟩ := h
  refine ⟨env, m, st, E, S, (o.thn E S).imp fun d st1 q v m1 H1 n r => ?_⟩
  obtain ⟨E1, o1⟩ := q m1 H1 n
  exact ⟨env, m1, st1, d, E1, n.sto, r, o1⟩

/-! ### blocks -/
theorem js_nil {f : Env → Store → RS} (hf : f = fun env st => .nx env st) : PSs X [] (tS X f) := by
  subst hf
  refine pss_nil.imp fun Z σ H h => ?_
  obtain ⟨env, m, st, E, S, o⟩ := h
  exact o σ m H (.refl S) E
theorem js_cons {s : Stmt} {ss : List Stmt} {fs f fss : Env → Store → RS} (hf : f = fun env st => (fs env st).bind fss) (h1 : PS X s (tS X fs)) (h2 : PSs X ss (tS X fss)) : PSs X (s :: ss) (tS X f) := by
  subst hf
  refine (pss_cons h1 h2).imp fun Z σ H h => ?_
  obtain ⟨env, m, st, E, S, o⟩ := h
  exact ⟨env, m, st, E, S, o.bind⟩
theorem js_pass {f : Env → Store → RS} {pos : Pos} (hf : f = fun env st => .nx env st) : PS X (.Pass pos) (tS X f) := by
  subst hf
  refine ps_pass.imp fun Z σ H h => ?_
  obtain ⟨env, m, st, E, S, o⟩ := h
  exact o σ m H (.refl S) E
theorem js_ret {e : Expr} {pos : Pos} {fe : Env → Store → R D} {f : Env → Store → RS} (hf : f = fun env st => (fe env st).thn env fun d st => .rt d st) (he : PE X e (tD X fe)) : PS X (.Return (some e) pos) (tS X f) := by
  subst hf
  refine (ps_ret he).imp fun Z σ H h => ?_
  obtain ⟨env, m, st, E, S, o⟩ := tS_thnD (k := fun d _ st => .rt d st) h
  refine ⟨env, m, st, E, S, o.imp fun d st1 k v m1 H1 n r => ?_⟩
  obtain ⟨env, m2, st2, d2, _, S2, r2, o2⟩ := k v m1 H1 n r
  exact o2 v m2 H1 (.refl S2) r2
theorem js_retN {pos : Pos} {f : Env → Store → RS} (hf : f = fun _ st => .rt .non st) : PS X (.Return none pos) (tS X f) := by
  subst hf
  refine ps_retN.imp fun Z σ H h => ?_
  obtain ⟨env, m, st, E, S, o⟩ := h
  exact o _ m H (.refl S) rfl
theorem tD_mono {fe : Env → Store → R D} {Q Q' : VK} (h : tD X fe σ H Q) (i : ∀ v H, Q v H → Q' v H) : tD X fe σ H Q' := by
  obtain ⟨env, m, st, E, S, o⟩ := h
  exact ⟨env, m, st, E, S, o.imp fun d st1 k v m1 H1 n r => i _ _ (k v m1 H1 n r)⟩
theorem tX_mono {fe : Env → Store → R Sq} {Q Q' : VK} (h : tX X fe σ H Q) (i : ∀ v H, Q v H → Q' v H) : tX X fe σ H Q' := by
  obtain ⟨env, m, st, E, S, o⟩ := h
  exact ⟨env, m, st, E, S, o.imp fun d st1 k v m1 H1 n r f => i _ _ (k v m1 H1 n r f)⟩
theorem tDs_mono {fe : Env → Store → R (List D)} {Q Q' : List V → Hp → Prop} (h : tDs X fe σ H Q) (i : ∀ v H, Q v H → Q' v H) : tDs X fe σ H Q' := by
  obtain ⟨env, m, st, E, S, o⟩ := h
  exact ⟨env, m, st, E, S, o.imp fun d st1 k v m1 H1 n r => i _ _ (k v m1 H1 n r)⟩
theorem tBo_mono {fe : Env → Store → R Bool} {Q Q' : Bool → Hp → Prop} (h : tBo X fe σ H Q) (i : ∀ v H, Q v H → Q' v H) : tBo X fe σ H Q' := by
  obtain ⟨env, m, st, E, S, o⟩ := h
  exact ⟨env, m, st, E, S, o.imp fun d st1 k m1 H1 n => i _ _ (k m1 H1 n)⟩
theorem js_expr {e : Expr} {pos : Pos} {fe : Env → Store → R Sq} {f : Env → Store → RS} (hf : f = fun env st => (fe env st).thn env fun _ st => .nx env st) (he : PE X e (tX X fe)) (hs : swapsWith e none pos.line X.env = pure false) : PS X (.Expr e pos) (tS X f) := by
  subst hf
  refine (ps_expr he hs).imp fun Z σ H h => ?_
  refine tX_mono (tS_thnX (k := fun _ env st => .nx env st) h) fun v H1 ⟨env, m, st, d, E, S, r, o⟩ => ?_
  exact o σ m H1 (.refl S) E
theorem js_if {c : Expr} {a b : List Stmt} {pos : Pos} {fc : Env → Store → R Bool} {fa fb f : Env → Store → RS} (hf : f = fun env st => (fc env st).thn env fun x st => if x then fa env st else fb env st) (hc : PT X c (tBo X fc)) (ha : PSs X a (tS X fa)) (hb : PSs X b (tS X fb)) : PS X (.If c a b pos) (tS X f) := by
  subst hf
  refine (ps_if hc ha hb).imp fun Z σ H h => ?_
  refine tBo_mono (tS_thnB (k := fun x env st => if x then fa env st else fb env st) h) fun x H1 q => ?_
  cases x with
  | true => simpa using q
  | false => simpa using q

/-! ### targets -/
theorem EnvR.set {env : Env} {d : D} {v : V} {i : Nat} (E : EnvR X.K m H σ env) (r : Rep X.K m H d v) : EnvR X.K m H (σ.set i (some v)) (env.set i (some d)) := by
  refine ⟨by simp [E.len], fun j x h => ?_⟩
  by_cases hj : i = j
  · subst hj
    have hi : i < env.length := by
      have := (List.getElem?_eq_some_iff.mp h).1
      simpa using this
    rw [List.getElem?_set_self hi] at h
    cases h
    exact ⟨v, List.getElem?_set_self (by rw [E.len]; exact hi), r⟩
  · rw [List.getElem?_set_ne hj] at h
    obtain ⟨u, h1, h2⟩ := E.at_ j x h
    exact ⟨u, by rw [List.getElem?_set_ne hj]; exact h1, h2⟩
/-- what a target of names does -/
def WipeEq (ns : List Nat) (σ σ' : L2.St) : Prop := ∀ vs : List Nat, (∀ i ∈ ns, i ∈ vs) → wipe σ' vs = wipe σ vs
theorem wipe_set {σ : L2.St} {i : Nat} {o : Option V} : ∀ {vs : List Nat}, i ∈ vs → wipe (σ.set i o) vs = wipe σ vs
  | v :: vs, h => by
    show (wipe (σ.set i o) vs).set v none = (wipe σ vs).set v none
    by_cases hv : i ∈ vs
    · rw [wipe_set hv]
    · obtain rfl : i = v := (List.mem_cons.mp h).resolve_right hv
      have : ∀ (vs : List Nat), i ∉ vs → wipe (σ.set i o) vs = (wipe σ vs).set i o := fun vs => by
        induction vs with
        | nil => intro _; rfl
        | cons u us ih =>
          intro hu
          have h1 : i ≠ u := fun e => hu (by rw [e]; exact List.mem_cons_self)
          have h2 : i ∉ us := fun e => hu (List.mem_cons_of_mem _ e)
          show (wipe (σ.set i o) us).set u none = ((wipe σ us).set u none).set i o
          rw [ih h2, List.set_comm _ _ h1]
      rw [this vs hv, List.set_set]
def tTp (X : Cx) (t : Tp) : TG := fun v σ H Q => ∃ env env' m st d, EnvR X.K m H σ env ∧ StoR X.K X.w m st H ∧ Rep X.K m H d v ∧ bindP t d env = some env' ∧ ∀ σ' m' H', Nx X.K X.w m H m' H' st → EnvR X.K m' H' σ' env' → WipeEq (tpNames t) σ σ' → Q σ' H'
def tTps (X : Cx) (ts : List Tp) : TGs := fun vs σ H Q => ∃ env env' m st ds, EnvR X.K m H σ env ∧ StoR X.K X.w m st H ∧ Reps X.K m H ds vs ∧ bindPs ts ds env = some env' ∧ ∀ σ' m' H', Nx X.K X.w m H m' H' st → EnvR X.K m' H' σ' env' → WipeEq (tpsNames ts) σ σ' → Q σ' H'
theorem _root_.L2.PG.imp {tg : Expr} {t t' : TG} (h : PG X tg t) (i : ∀ v σ H Q, t' v σ H Q → t v σ H Q) : PG X tg t' := ⟨fun pins s σ H v u Q I r q => h.run pins s σ H v u Q I r (i v σ H Q q)⟩
theorem _root_.L2.PGs.imp {tg : List Expr} {t t' : TGs} (h : PGs X tg t) (i : ∀ v σ H Q, t' v σ H Q → t v σ H Q) : PGs X tg t' := ⟨fun pins s σ H v u Q I r q => h.run pins s σ H v u Q I r (i v σ H Q q)⟩
theorem jg_name {i : Nat} {x : Str} {pos : Pos} (hN : X.N.Nodup) (hi : X.N[i]? = some x) (hx : Loc X.env.scope x) (hf : X.fn x = true ∨ X.env.scope.names.lookup x = some .local) : PG X (.Name x pos) (tTp X (.nm i)) := by
  refine (pg_name hN hi hx hf).imp fun v σ H Q h => ?_
  obtain ⟨env, env', m, st, d, E, S, r, e, k⟩ := h
  simp only [bindP, Option.some.injEq] at e
  subst e
  exact k _ m H (.refl S) (E.set r) fun vs hv => wipe_set (hv i (by simp [tpNames]))
theorem jgs_nil : PGs X [] (tTps X []) := by
  refine pgs_nil.imp fun v σ H Q h => ?_
  obtain ⟨env, env', m, st, d, E, S, r, e, k⟩ := h
  cases d with
  | nil =>
    simp only [bindPs, Option.some.injEq] at e
    subst e
    exact ⟨r, k _ m H (.refl S) E fun _ _ => rfl⟩
  | cons => simp [bindPs] at e
theorem jgs_cons {t : Tp} {ts : List Tp} {e : Expr} {es : List Expr} (h1 : PG X e (tTp X t)) (h2 : PGs X es (tTps X ts)) (hs : noStar e = true) : PGs X (e :: es) (tTps X (t :: ts)) := by
  refine (pgs_cons h1 h2 (by cases e <;> first | rfl | cases hs)).imp fun v σ H Q h => ?_
  obtain ⟨env, env', m, st, ds, E, S, r, e, k⟩ := h
  cases ds with
  | nil => simp [bindPs] at e
  | cons d ds =>
    obtain ⟨v, vs, rfl, r1, r2⟩ := r
    simp only [bindPs] at e
    split at e
    · next env1 h1 =>
      refine ⟨v, vs, rfl, env, env1, m, st, d, E, S, r1, h1, fun σ1 m1 H1 n1 E1 w1 => ?_⟩
      exact ⟨env1, env', m1, st, ds, E1, n1.sto, r2.mono S n1.ext n1.fr, e, fun σ2 m2 H2 n2 E2 w2 => k σ2 m2 H2 (n1.trans n2) E2 fun vs hv => (w2 vs fun i hi => hv i (by simp [tpsNames, hi])).trans (w1 vs fun i hi => hv i (by simp [tpsNames, hi]))⟩
    · cases e
theorem assign_len {env : PySem.Env} : ∀ {es : List Expr}, es.all noStar = true → (assignEach es env).length = es.length ∧ (assignEach es env).findIdx? (·.1) = none
  | [], _ => ⟨rfl, rfl⟩
  | e :: es, h => by
    simp only [List.all_cons, Bool.and_eq_true] at h
    have : assignEach (e :: es) env = (false, assign e env) :: assignEach es env := by cases e <;> first | rfl | cases h.1
    obtain ⟨a, b⟩ := assign_len (env := env) h.2
    rw [this]
    exact ⟨by simp [a], by rw [List.findIdx?_cons]; simp [b]⟩
theorem bindPs_len : ∀ {ts : List Tp} {ds : List D} {env env' : Env}, bindPs ts ds env = some env' → ds.length = ts.length
  | [], [], _, _, _ => rfl
  | t :: ts, d :: ds, env, env', h => by
    simp only [bindPs] at h
    split at h
    · rw [List.length_cons, List.length_cons, bindPs_len h]
    · cases h
  | [], _ :: _, _, _, h => by simp [bindPs] at h
  | _ :: _, [], _, _, h => by simp [bindPs] at h
theorem jg_tup {ts : List Tp} {es : List Expr} {k : Nat} {pos : Pos} (hc : X.calm = true) (h : PGs X es (tTps X ts)) (hst : es.all noStar = true) (hl : es.length = ts.length) : PG X (.Tuple es k pos) (tTp X (.tp ts)) := by
  obtain ⟨a, b⟩ := assign_len (env := X.env) hst
  refine (pg_tup (n := es.length) hc h a b).imp fun v σ H Q h => ?_
  obtain ⟨env, env', m, st, d, E, S, r, e, k⟩ := h
  cases d <;> simp only [bindP, reduceCtorEq] at e
  obtain ⟨a, vs, rfl, ha, rs⟩ := r
  exact ⟨a, vs, rfl, ha, by rw [rs.length, bindPs_len e, hl], env, env', m, st, _, E, S, rs, e, k⟩
theorem js_asg {t : Tp} {tg e : Expr} {pos : Pos} {fe : Env → Store → R D} {f : Env → Store → RS} (hf : f = fun env st => (fe env st).thn env fun d st => match bindP t d env with
    | some env' => .nx env' st
    | none => .no) (he : PE X e (tD X fe)) (hg : PG X tg (tTp X t)) (hs : swapsWithSole [tg] e pos.line X.env = pure false) (hw : swappedStores [tg] e X.env = pure none) (h1 : noStar tg = true) : PS X (.Assign [tg] e pos) (tS X f) := by
  subst hf
  refine (ps_asg he hg hs hw (by cases tg <;> first | rfl | cases h1)).imp fun Z σ H h => ?_
  refine tD_mono (tS_thnD (k := fun d env st => match bindP t d env with
    | some env' => .nx env' st
    | none => .no) h) fun v H1 ⟨env, m, st, d, E, S, r, o⟩ => ?_
  split at o
  · next env' hb => exact ⟨env, env', m, st, d, E, S, r, hb, fun σ' m' H' n E' _ => o σ' m' H' n E'⟩
  · exact o.elim

/-! ### while -/
theorem js_while {c : Expr} {body : List Stmt} {pos : Pos} {fc : Env → Store → R Bool} {fb f : Env → Store → RS} {wh : Nat} (hf : f = whileN fc fb wh) (hp : PassesOwn (model X.prog X.w) X.A X.env X.xe) (hc : PT X c (tBo X fc)) (hb : PSs X body (tS X fb)) : PS X (.While c body [] pos) (tS X f) := by
  subst hf
  refine (ps_while hp hc hb).imp fun Z σ H h => ?_
  refine ⟨fun n σ H => tS X (whileN fc fb n) Z σ H, ⟨wh, h⟩, fun n σ H h => ?_⟩
  cases n with
  | zero => obtain ⟨env, m, st, E, S, o⟩ := h; exact o.elim
  | succ n =>
    refine tBo_mono (tS_thnB (k := fun b env st => if b then (fb env st).bind (whileN fc fb n) else .nx env st) h) fun b H1 q => ?_
    cases b with
    | true =>
      obtain ⟨env, m, st, E, S, o⟩ := q
      refine ⟨fun σ H => tS X (whileN fc fb n) Z σ H, fun σ' H' z => ⟨n, Nat.lt_succ_self n, z⟩, env, m, st, E, S, ?_⟩
      exact (OutS.bind (by simpa using o)).imp (fun _ _ z => z) fun _ _ z => z
    | false =>
      obtain ⟨env, m, st, E, S, o⟩ := q
      exact (show OutS X m H1 Z (.nx env st) from by simpa using o) σ m H1 (.refl S) E
end
end Eng
/-! E11: what is walked; for. -/
namespace Eng
open PySem PySem.Spec PyProof.Rows L2

/-- the abstract heap is read otherwise -/
def Re (X : Cx) (H H' : Hp) : Prop := ∀ pins σ s, L2.Inv X pins σ H s → L2.Inv X pins σ H' s
theorem Re.refl {X : Cx} {H : Hp} : Re X H H := fun _ _ _ I => I
def reE (X : Cx) (Z : Ends) : Ends := ⟨fun σ H => ∃ H', Re X H H' ∧ Z.nx σ H', fun v H => ∃ H', Re X H H' ∧ Z.rt v H', fun σ H => ∃ H', Re X H H' ∧ Z.bk σ H', fun σ H => ∃ H', Re X H H' ∧ Z.ct σ H'⟩
theorem ps_re {X : Cx} {s : Stmt} {t : TS} (h : PS X s t) : PS X s (fun Z σ H => t (reE X Z) σ H) := ⟨fun pins s σ H Z I hw => thn (h.run pins s σ H _ I hw) fun f s1 q => by
  cases f with
  | next => obtain ⟨σ', H', I2, H2, r, q⟩ := q; exact ⟨σ', _, r _ _ _ I2, q⟩
  | brk => obtain ⟨σ', H', I2, H2, r, q⟩ := q; exact ⟨σ', _, r _ _ _ I2, q⟩
  | cont => obtain ⟨σ', H', I2, H2, r, q⟩ := q; exact ⟨σ', _, r _ _ _ I2, q⟩
  | ret v => obtain ⟨x, σ', H', I2, rv, H2, r, q⟩ := q; exact ⟨x, σ', _, r _ _ _ I2, rv, q⟩⟩
theorem pe_re {X : Cx} {e : Expr} {t : TE} (h : PE X e t) : PE X e (fun σ H Q => t σ H fun v H1 => ∃ H', Re X H1 H' ∧ Q v H') := ⟨fun pins s σ H Q I hw => thn (h.run pins s σ H _ I hw) fun u s1 ⟨v, H1, I1, r, H2, re, q⟩ => ⟨v, H2, re _ _ _ I1, r, q⟩⟩

/-- an iterator's turns give these values -/
structure Walked (X : Cx) (m : List Addr) (H : Hp) (J : L2.It) (xs : List D) (dep : Dep) (st : Store) (m1 : List Addr) (H1 : Hp) (un : Hp → Hp) : Prop where
  nx : Nx X.K X.w m H m1 H1 (dep.lock st)
  ok : dep.ok (dep.lock st) = true
  go : ∀ (i : Nat) m2 H2 st2, Nx X.K X.w m1 H1 m2 H2 st2 → dep.ok st2 = true → i < xs.length → J.go i H2 ∧ ∀ x H3, J.yld i H2 x H3 → ∃ d, xs[i]? = some d ∧ Nx X.K X.w m2 H2 m2 H3 st2 ∧ Rep X.K m2 H3 d x
  stop : ∀ (i : Nat) m2 H2 st2, Nx X.K X.w m1 H1 m2 H2 st2 → dep.ok st2 = true → xs.length ≤ i → J.stop i H2
  un : ∀ m2 H2 st2 st3, Nx X.K X.w m1 H1 m2 H2 st2 → dep.unlock st2 = some st3 → Nx X.K X.w m H m2 (un H2) st3 ∧ Re X H2 (un H2) ∧ (∀ d v, Rep X.K m2 H2 d v → Rep X.K m2 (un H2) d v) ∧ ∀ a o, a ∉ m2 → H2 a = some o → un H2 a = some o
def KI (X : Cx) (R : L2.It → Hp → Prop) : Ps (List D × Dep) := fun m H w st' => ∀ J m1 H1 un, Walked X m H J w.1 w.2 st' m1 H1 un → R J H1
theorem mnI {X : Cx} {R : L2.It → Hp → Prop} : Mn X (KI X R) := fun m H st m1 H1 st1 w st' S n k J m2 H2 un W => k J m2 H2 un ⟨n.trans W.nx, W.ok, W.go, W.stop, fun m3 H3 st2 st3 n3 e => ⟨n.trans (W.un m3 H3 st2 st3 n3 e).1, (W.un m3 H3 st2 st3 n3 e).2⟩⟩
def tI (X : Cx) (f : Env → Store → R (List D × Dep)) : TI := fun σ H R => ∃ env m st, EnvR X.K m H σ env ∧ StoR X.K X.w m st H ∧ Out X σ m H (f env st) (KI X R m H)

section
variable {X : Cx} {m : List Addr} {H : Hp} {st : Store}
theorem Dep.free_un {xs : List D} {J : L2.It} {m1 : List Addr} {H1 : Hp} (n : Nx X.K X.w m H m1 H1 st)
    (go : ∀ (i : Nat) m2 H2 st2, Nx X.K X.w m1 H1 m2 H2 st2 → i < xs.length → J.go i H2 ∧ ∀ x H3, J.yld i H2 x H3 → ∃ d, xs[i]? = some d ∧ Nx X.K X.w m2 H2 m2 H3 st2 ∧ Rep X.K m2 H3 d x)
    (stop : ∀ (i : Nat) m2 H2 st2, Nx X.K X.w m1 H1 m2 H2 st2 → xs.length ≤ i → J.stop i H2) : Walked X m H J xs .free st m1 H1 id :=
  ⟨n, rfl, fun i m2 H2 st2 n2 _ h => go i m2 H2 st2 n2 h, fun i m2 H2 st2 n2 _ h => stop i m2 H2 st2 n2 h, fun m2 H2 st2 st3 n2 e => by
    cases e
    exact ⟨n.trans n2, Re.refl, fun d v r => r, fun a o _ h => h⟩⟩
/-- a list that stands -/
theorem walk_lst {xs : List D} {a : Addr} (stay : ∀ m2 H2 st2, Nx X.K X.w m H m2 H2 st2 → ∃ vs, SqL X.K H2 a vs ∧ Reps X.K m2 H2 xs vs) (S : StoR X.K X.w m st H) : Walked X m H (Itl X.K a) xs .free st m H id := by
  refine Dep.free_un (.refl S) (fun i m2 H2 st2 n hi => ?_) fun i m2 H2 st2 n hi => ?_
  · obtain ⟨vs, hl, rs⟩ := stay m2 H2 st2 n
    obtain ⟨v, hv, rv⟩ := rs.get (List.getElem?_eq_getElem hi)
    refine ⟨⟨vs, v, hl, hv⟩, fun x H3 y => ?_⟩
    obtain ⟨rfl, y⟩ := y
    have := y vs hl
    rw [hv] at this
    cases this
    exact ⟨_, List.getElem?_eq_getElem hi, .refl n.sto, rv⟩
  · obtain ⟨vs, hl, rs⟩ := stay m2 H2 st2 n
    exact ⟨vs, hl, by rw [rs.length]; exact hi⟩
theorem walk_tup {xs : List D} {a : Addr} (stay : ∀ m2 H2 st2, Nx X.K X.w m H m2 H2 st2 → ∃ vs, SqT X.K H2 a vs ∧ Reps X.K m2 H2 xs vs) (S : StoR X.K X.w m st H) : Walked X m H (Itt X.K a) xs .free st m H id := by
  refine Dep.free_un (.refl S) (fun i m2 H2 st2 n hi => ?_) fun i m2 H2 st2 n hi => ?_
  · obtain ⟨vs, hl, rs⟩ := stay m2 H2 st2 n
    obtain ⟨v, hv, rv⟩ := rs.get (List.getElem?_eq_getElem hi)
    refine ⟨⟨vs, v, hl, hv⟩, fun x H3 y => ?_⟩
    obtain ⟨rfl, y⟩ := y
    have := y vs hl
    rw [hv] at this
    cases this
    exact ⟨_, List.getElem?_eq_getElem hi, .refl n.sto, rv⟩
  · obtain ⟨vs, hl, rs⟩ := stay m2 H2 st2 n
    exact ⟨vs, hl, by rw [rs.length]; exact hi⟩
/-- a list of the store: it stands while the evaluator says so -/
theorem walk_sto {xs : List D} {a : Addr} {i : Nat} (S : StoR X.K X.w m st H) (hm : m[i]? = some a) (hi : st[i]? = some (.lst xs)) : Walked X m H (Itl X.K a) xs (.lst i xs) st m H id := by
  have at_ : ∀ m2 H2 st2, Nx X.K X.w m H m2 H2 st2 → Dep.ok st2 (.lst i xs) = true → ∃ vs, SqL X.K H2 a vs ∧ Reps X.K m2 H2 xs vs := fun m2 H2 st2 n ok => by
    simp only [Dep.ok] at ok
    split at ok
    · next ys hy =>
      have := of_decide_eq_true ok
      subst this
      obtain ⟨vs, h1, h2⟩ := n.sto.at_ i a _ (n.ext.get hm) hy
      exact ⟨vs, .of h1, h2⟩
    · cases ok
  refine ⟨.refl S, by simp [Dep.lock, Dep.ok, hi], fun j m2 H2 st2 n ok hj => ?_, fun j m2 H2 st2 n ok hj => ?_, fun m2 H2 st2 st3 n e => ?_⟩
  · obtain ⟨vs, hl, rs⟩ := at_ m2 H2 st2 n ok
    obtain ⟨v, hv, rv⟩ := rs.get (List.getElem?_eq_getElem hj)
    refine ⟨⟨vs, v, hl, hv⟩, fun x H3 y => ?_⟩
    obtain ⟨rfl, y⟩ := y
    have := y vs hl
    rw [hv] at this
    cases this
    exact ⟨_, List.getElem?_eq_getElem hj, .refl n.sto, rv⟩
  · obtain ⟨vs, hl, rs⟩ := at_ m2 H2 st2 n ok
    exact ⟨vs, hl, by rw [rs.length]; exact hj⟩
  · cases e
    exact ⟨n, Re.refl, fun d v r => r, fun a o _ h => h⟩

/-! ### the keys of a dict -/
def Itx (w : World) (d : Addr) (o : Obj) (es : List (NestedKey × V × V)) : L2.It :=
  ⟨fun i H => H d = some (.frz o (DicO w d es)) ∧ i < es.length, fun i H x H' => H' = H ∧ ∃ e, es[i]? = some e ∧ x = e.2.1, fun i H => H d = some (.frz o (DicO w d es)) ∧ es.length ≤ i⟩
theorem frz_ext {pins : List (Addr × Obj)} {σ : L2.St} {s : Shared} {d : Addr} {o : Obj} {es : List (NestedKey × V × V)} (I : L2.Inv X pins σ H s) (h : H d = some (.frz o (DicO X.w d es))) :
    s.heap.get? d = some o ∧ (d == sysModules) = false ∧ o.ExactDict ∧ ∃ ents ep, o.data = .dict ents ep ∧ Paired (EntR X.w) es ents.toList ∧ ents.size = es.length := by
  obtain ⟨hd, x⟩ := I.hok d _ h
  obtain ⟨hs, hlen, o', ents, ep, ho, hc, hdat, p⟩ := dicO_at x
  rw [hd] at ho
  cases ho
  have := paired_len p
  simp only [Array.length_toList] at this
  exact ⟨hd, hs, hc, ents, ep, hdat, p, this.symm⟩
theorem turn_ext {P : Program} {w : World} {K : PySem.W.Frag} {tg : Expr} {d : Addr} {o : Obj} {es : List (NestedKey × V × V)} {ents : Array DictEntry} {ep : Nat} (it : Addr) (hod : o.data = .dict ents ep) : Turn P w K tg (Itx w d o es) [it] it (fun i h => h.IsKeyIter it d i es.length ep) where
  mem := by simp
  obj := fun i h st b hb => by
    have e : b = it := by simpa using hb
    subst e
    obtain ⟨oi, e, c, dd⟩ := st
    exact ⟨oi, e, fun v z => by rw [dd] at z; cases z⟩
  keep := fun i h h' st k => st.at fun oi e => k it (by simp) oi e
  item := by
    intro X hP hw hK hc i pins s σ H E I hf st hg
    subst hP hw hK
    obtain ⟨hd, hi⟩ := hg
    obtain ⟨f0, f1, f2, f3, f4, f5⟩ := hf it (by simp)
    obtain ⟨hgd, hs, hx, ents', ep', hdt, pr, hsz⟩ := frz_ext I hd
    obtain ⟨rfl, rfl⟩ := dict_ep hod hdt
    obtain ⟨e, he⟩ : ∃ e, es[i]? = some e := ⟨es[i], List.getElem?_eq_getElem hi⟩
    obtain ⟨en, hen, z1, z2, z3⟩ := Paired.getL pr he
    refine next_key_item st hgd hdt hsz (by simpa using hen) fun h' st' sb => ?_
    have I1 : L2.Inv X pins σ H { s with heap := h' } := I.turned (t' := s.toks) (fun b ob hb e => (sb.2 b hb).trans e) f0 f1 f3 f4 f5
    obtain ⟨oi, e', c, dd⟩ := id st'
    exact ⟨en.key, rfl, go_of (s := { s with heap := h' }) e' c dd (by decide) ⟨e.2.1, H, I1, z2, ⟨rfl, e, he, rfl⟩, st', fun b hb => (hf b hb).1⟩⟩
  done := by
    intro X hP hw hK hc i pins s σ H E I hf st hg
    subst hP hw hK
    obtain ⟨hd, hi⟩ := hg
    obtain ⟨f0, f1, f2, f3, f4, f5⟩ := hf it (by simp)
    obtain ⟨hgd, hs, hx, ents', ep', hdt, pr, hsz⟩ := frz_ext I hd
    obtain ⟨rfl, rfl⟩ := dict_ep hod hdt
    exact next_key_end (I.ok.hd hc) st hgd hdt hsz hi fun h' eb => ⟨rfl, I.turned (t' := s.toks) (fun b ob hb e => eb b ob hb e) f0 f1 f3 f4 f5⟩
  self := fun A i s Q E st h => keyiter_self st h
theorem kv_get2 {K : PySem.W.Frag} {kvs : List (D × D)} {es : List (NestedKey × V × V)} (r : KvR K m H kvs es) : kvs.length = es.length := paired_len r.pr
/-- a dict that is locked -/
theorem walk_frz {kvs : List (D × D)} {es : List (NestedKey × V × V)} {d : Addr} {o : Obj} (h : H d = some (.frz o (DicO X.w d es))) (r : KvR X.K m H kvs es) (S : StoR X.K X.w m st H) :
    (∀ (i : Nat) m2 H2 st2, Nx X.K X.w m H m2 H2 st2 → i < (kvs.map (·.1)).length → (Itx X.w d o es).go i H2 ∧ ∀ x H3, (Itx X.w d o es).yld i H2 x H3 → ∃ d, (kvs.map (·.1))[i]? = some d ∧ Nx X.K X.w m2 H2 m2 H3 st2 ∧ Rep X.K m2 H3 d x) ∧
    ∀ (i : Nat) m2 H2 st2, Nx X.K X.w m H m2 H2 st2 → (kvs.map (·.1)).length ≤ i → (Itx X.w d o es).stop i H2 := by
  refine ⟨fun i m2 H2 st2 n hi => ?_, fun i m2 H2 st2 n hi => ?_⟩
  · have hi' : i < kvs.length := by simpa using hi
    refine ⟨⟨n.fz _ _ _ h, by rw [← kv_get2 r]; exact hi'⟩, fun x H3 y => ?_⟩
    obtain ⟨rfl, e, he, rfl⟩ := y
    obtain ⟨p, hp, z1, z2, z3, z4⟩ := Paired.getR r.pr he
    exact ⟨p.1, by rw [List.getElem?_map, hp]; rfl, .refl n.sto, z3.mono S n.ext n.fr⟩
  · exact ⟨n.fz _ _ _ h, by rw [← kv_get2 r]; simpa using hi⟩
theorem upd_self {a : Addr} {o : HO} (h : H a = some o) : upd H a o = H := by
  funext b
  by_cases e : b = a
  · subst e; rw [upd_same, h]
  · rw [upd_ne e]
/-- a dict that is not: it is locked -/
theorem walk_dic {pins : List (Addr × Obj)} {σ : L2.St} {s : Shared} {kvs : List (D × D)} {es : List (NestedKey × V × V)} {d : Addr} {i : Nat} (I : L2.Inv X pins σ H s) (S : StoR X.K X.w m st H) (hm : m[i]? = some d) (hi : st[i]? = some (.dic kvs)) (h : H d = some (DicO X.w d es)) (r : KvR X.K m H kvs es) :
    ∃ od, L2.Inv X pins σ (upd H d (.frz od (DicO X.w d es))) s ∧ Walked X m H (Itx X.w d od es) (kvs.map (·.1)) (.dic i) st m (upd H d (.frz od (DicO X.w d es))) (fun H2 => upd H2 d (DicO X.w d es)) := by
  have mu : Mut (some (DicO X.w d es)) := trivial
  obtain ⟨od, I1⟩ := I.lock h mu
  have hd := List.mem_of_getElem? hm
  have nf : NoFz H d := fun o u e => by rw [h] at e; cases e
  have hlk : Dep.lock st (.dic i) = st.set i (.dicL kvs) := by simp [Dep.lock, hi]
  have n1 : Nx X.K X.w m H m (upd H d (.frz od (DicO X.w d es))) (st.set i (.dicL kvs)) := .put S hm nf ⟨od, es, upd_same, r.mono S .refl (fr_set hd)⟩
  refine ⟨od, I1, ?_⟩
  have w := walk_frz upd_same (r.mono S .refl (fr_set hd)) n1.sto
  refine ⟨by rw [hlk]; exact n1, rfl, fun j m2 H2 st2 n _ hj => w.1 j m2 H2 st2 n hj, fun j m2 H2 st2 n _ hj => w.2 j m2 H2 st2 n hj, fun m2 H2 st2 st3 n e => ?_⟩
  simp only [Dep.unlock] at e
  split at e
  · next kv2 hk =>
    cases e
    have hm2 : m2[i]? = some d := n.ext.get hm
    obtain ⟨o', es', e1, r1⟩ := n.sto.at_ i d _ hm2 hk
    have e2 : H2 d = some (.frz od (DicO X.w d es)) := n.fz _ _ _ upd_same
    rw [e1] at e2
    simp only [Option.some.injEq, HO.frz.injEq] at e2
    obtain ⟨_, e3⟩ := e2
    rw [e3] at e1
    refine ⟨⟨(n1.trans n).ext, n.sto.put hm2 ⟨es', by rw [upd_same, e3], r1.mono n.sto .refl (fr_set (n.ext.sub hd))⟩, fun b u hb hbm => ?_, fun b o u hb => ?_⟩, ?_, fun x v rx => rx.mono n.sto .refl (fr_set (n.ext.sub hd)), fun a o ha h => by rw [upd_ne (fun z => ha (by rw [z]; exact n.ext.sub hd))]; exact h⟩
    · rw [upd_ne (fun z => hbm (by rw [z]; exact hd))]
      exact (n1.trans n).fr b u hb hbm
    · rw [upd_ne (fun z => nf o u (by rw [← z]; exact hb))]
      exact (n1.trans n).fz b o u hb
    · intro pins2 σ2 s2 I2
      exact I2.unlock e1 (I.nofrz h mu)
  · cases e

/-! ### iterables -/
def evSeq (fe : Env → Store → R Sq) : Env → Store → R (List D × Dep) := fun env st => (fe env st).bind fun x st => opt (walked st x) st
theorem jp_seq {tg e : Expr} {fe : Env → Store → R Sq} (he : PE X e (tX X fe)) : PI X tg e (tI X (evSeq fe)) := by
  refine ⟨fun pins s σ H R I h => ?_⟩
  obtain ⟨env, m, st, E, S, o⟩ := h
  unfold evSeq at o
  -- what the expression comes to, in the evaluator
  have base : ∀ {Q : VK}, (Out X σ m H (fe env st) (KQ X Q m H)) → tX X fe σ H Q := fun q => ⟨env, m, st, E, S, q⟩
  cases hq : fe env st with
  | no => rw [hq] at o; exact o.elim
  | ex x fs st' =>
    rw [hq] at o
    exact (pi_list (tg := tg) he).run pins s σ H R I (base (by rw [hq]; exact o))
  | ok x st1 =>
    rw [hq] at o
    simp only [Eng.R.bind] at o
    cases hw : walked st1 x with
    | none => rw [hw] at o; exact o.elim
    | some w =>
      obtain ⟨xs, dep⟩ := w
      rw [hw] at o
      have o : KI X R m H (xs, dep) st1 := o
      unfold walked at hw
      split at hw
      · cases hw
        refine (pi_list (tg := tg) he).run pins s σ H R I (base ?_)
        rw [hq]
        rintro v m1 H1 n ⟨a, vs, rfl, ha, hm, rs⟩ fr
        refine ⟨a, rfl, ⟨vs, .of ha⟩, o _ m1 H1 id ?_⟩
        have w := walk_lst (a := a) (xs := xs) (m := m1) (H := H1) (fun m2 H2 st2 n2 => ⟨vs, .of (n2.fr a _ ha hm), rs.mono n.sto n2.ext n2.fr⟩) n.sto
        exact ⟨n.trans w.nx, w.ok, w.go, w.stop, fun m2 H2 st2 st3 n2 e => ⟨n.trans (w.un m2 H2 st2 st3 n2 e).1, (w.un m2 H2 st2 st3 n2 e).2⟩⟩
      · cases hw
        refine (pi_tup (tg := tg) he).run pins s σ H R I (base ?_)
        rw [hq]
        rintro v m1 H1 n ⟨a, vs, rfl, ha, rs⟩ fr
        refine ⟨a, rfl, ⟨vs, ha⟩, o _ m1 H1 id ?_⟩
        have w := walk_tup (a := a) (xs := xs) (m := m1) (H := H1) (fun m2 H2 st2 n2 => ⟨vs, SqT.fr n.sto n2.fr ha, rs.mono n.sto n2.ext n2.fr⟩) n.sto
        exact ⟨n.trans w.nx, w.ok, w.go, w.stop, fun m2 H2 st2 st3 n2 e => ⟨n.trans (w.un m2 H2 st2 st3 n2 e).1, (w.un m2 H2 st2 st3 n2 e).2⟩⟩
      · cases hw
        refine (pi_list (tg := tg) he).run pins s σ H R I (base ?_)
        rw [hq]
        rintro v m1 H1 n ⟨a, vs, rfl, ha, rs⟩ fr
        refine ⟨a, rfl, ⟨vs, ha.seq⟩, o _ m1 H1 id ?_⟩
        have w := walk_lst (a := a) (xs := xs) (m := m1) (H := H1) (fun m2 H2 st2 n2 => ⟨vs, (RolAt.fr n.sto n2.fr ha).seq, rs.mono n.sto n2.ext n2.fr⟩) n.sto
        exact ⟨n.trans w.nx, w.ok, w.go, w.stop, fun m2 H2 st2 st3 n2 e => ⟨n.trans (w.un m2 H2 st2 st3 n2 e).1, (w.un m2 H2 st2 st3 n2 e).2⟩⟩
      · next i =>
        split at hw
        · next ys hi =>
          cases hw
          refine (pi_list (tg := tg) he).run pins s σ H R I (base ?_)
          rw [hq]
          rintro v m1 H1 n ⟨a, rfl, hm⟩ fr
          obtain ⟨vs, ha, rs⟩ := n.sto.at_ i a _ hm hi
          refine ⟨a, rfl, ⟨vs, .of ha⟩, o _ m1 H1 id ?_⟩
          have w := walk_sto n.sto hm hi
          exact ⟨n.trans w.nx, w.ok, w.go, w.stop, fun m2 H2 st2 st3 n2 e => ⟨n.trans (w.un m2 H2 st2 st3 n2 e).1, (w.un m2 H2 st2 st3 n2 e).2⟩⟩
        · next kvs hi =>
          cases hw
          refine thn (he.run pins s σ H (fun v H1 => ∃ m1, Nx X.K X.w m H m1 H1 st1 ∧ Rep X.K m1 H1 (.obj i) v) I (base (by rw [hq]; exact fun v m1 H1 n r fr => ⟨m1, n, r⟩))) fun u s1 ⟨v, H1, I1, rv, m1, n, a, ev, hm⟩ => ?_
          subst ev
          obtain rfl : u = Value.ref a := rv
          obtain ⟨es, ha, kv⟩ := n.sto.at_ i a _ hm hi
          obtain ⟨od, I2, w⟩ := walk_dic I1 n.sto hm hi ha kv
          obtain ⟨hgd, hs, hx, ents, ep, hdt, pr, hsz⟩ := frz_ext I2 upd_same
          refine iter_keys hs hgd hx hdt (pi_one (tk := s1.toks) I2 _ (turn_ext _ hdt) ⟨_, Heap.get?_push_size _ rfl, rfl, ?_⟩ (o _ m1 _ _ ⟨n.trans w.nx, w.ok, w.go, w.stop, fun m2 H2 st2 st3 n2 e => ⟨n.trans (w.un m2 H2 st2 st3 n2 e).1, (w.un m2 H2 st2 st3 n2 e).2⟩⟩))
          rw [hsz]
          rfl
        · next kvs hi =>
          cases hw
          refine thn (he.run pins s σ H (fun v H1 => ∃ m1, Nx X.K X.w m H m1 H1 st1 ∧ Rep X.K m1 H1 (.obj i) v) I (base (by rw [hq]; exact fun v m1 H1 n r fr => ⟨m1, n, r⟩))) fun u s1 ⟨v, H1, I1, rv, m1, n, a, ev, hm⟩ => ?_
          subst ev
          obtain rfl : u = Value.ref a := rv
          obtain ⟨od, es, ha, kv⟩ := n.sto.at_ i a _ hm hi
          obtain ⟨hgd, hs, hx, ents, ep, hdt, pr, hsz⟩ := frz_ext I1 ha
          have wf := walk_frz ha kv n.sto
          have w := Dep.free_un (xs := kvs.map (·.1)) (J := Itx X.w a od es) (.refl n.sto) wf.1 wf.2
          refine iter_keys hs hgd hx hdt (pi_one (tk := s1.toks) I1 _ (turn_ext _ hdt) ⟨_, Heap.get?_push_size _ rfl, rfl, ?_⟩ (o _ m1 _ _ ⟨n.trans w.nx, w.ok, w.go, w.stop, fun m2 H2 st2 st3 n2 e => ⟨n.trans (w.un m2 H2 st2 st3 n2 e).1, (w.un m2 H2 st2 st3 n2 e).2⟩⟩))
          rw [hsz]
          rfl
        · cases hw
      · cases hw
theorem range_get : ∀ (n i : Nat) (lo : Int), i < n → (rangeD lo n)[i]? = some (.int (lo + i))
  | 0, i, lo, h => absurd h (Nat.not_lt_zero _)
  | n + 1, 0, lo, h => by simp [rangeD]
  | n + 1, i + 1, lo, h => by
    rw [rangeD, List.getElem?_cons_succ, range_get n i (lo + 1) (Nat.lt_of_succ_lt_succ h)]
    congr 2
    omega
theorem range_len : ∀ (n : Nat) (lo : Int), (rangeD lo n).length = n
  | 0, _ => rfl
  | n + 1, lo => by rw [rangeD, List.length_cons, range_len n]
theorem walk_rng (S : StoR X.K X.w m st H) (lo : Int) (n : Nat) : Walked X m H (Itr lo n) (rangeD lo n) .free st m H id := by
  refine Dep.free_un (.refl S) (fun i m2 H2 st2 nx hi => ?_) fun i m2 H2 st2 nx hi => ?_
  · rw [range_len] at hi
    refine ⟨hi, fun x H3 y => ?_⟩
    obtain ⟨rfl, rfl⟩ := y
    exact ⟨_, range_get n i lo hi, .refl nx.sto, rfl⟩
  · rw [range_len] at hi
    exact hi
theorem smallI_ok {i : Int} (h : smallI i = true) : -(2 ^ 62) ≤ i ∧ i < 2 ^ 62 := of_decide_eq_true h
theorem jp_rng1 {tg a : Expr} {p pos : Pos} {fe : Env → Store → R Sq} {f : Env → Store → R (List D × Dep)} (hf : f = fun env st => (fe env st).bind fun x st => match x with
    | .val (.int n) => if smallI n then .ok (rangeD 0 n.toNat, .free) st else .no
    | _ => .no) (hg : Gl X "range") (hm : X.mg "range" = none) (hs : noStar a = true) (he : PE X a (tX X fe)) : PI X tg (.Call (.Name "range" p) [a] [] pos) (tI X f) := by
  subst hf
  refine ⟨fun pins s σ H R I h => ?_⟩
  refine (pi_range1 (tg := tg) hg hm (pa_cons he pa_nil (star_plain hs)) (star_plain hs)).run pins s σ H R I ?_
  obtain ⟨env, m, st, E, S, o⟩ := h
  refine ⟨env, m, st, E, S, (o.bind S mnI).imp fun x st1 k v m1 H1 n r fr => ?_⟩
  have k := k m1 H1 n
  cases x with
  | fresh => exact k.elim
  | val d =>
  cases d with
  | int i => ?_
  | _ => exact k.elim
  dsimp only at k
  by_cases hi : smallI i = true
  · rw [if_pos hi] at k
    obtain ⟨h1, h2⟩ := smallI_ok hi
    refine ⟨i, by rw [show v = V.int i from r], h1, h2, ?_⟩
    exact k _ m1 H1 id (walk_rng n.sto 0 i.toNat)
  · rw [if_neg hi] at k
    exact k.elim

/-! ### for -/
theorem forL_drop {dep : Dep} {f : D → Env → Store → RS} {xs : List D} {i : Nat} {x : D} (h : xs[i]? = some x) (env : Env) (st : Store) : forL dep f (xs.drop i) env st = match f x env st with
    | .nx env' st' => if dep.ok st' then forL dep f (xs.drop (i + 1)) env' st' else .no
    | r => r := by
  have hi := (List.getElem?_eq_some_iff.mp h).1
  rw [List.drop_eq_getElem_cons hi, (List.getElem?_eq_some_iff.mp h).2]
  rfl
theorem js_for {t : Tp} {tg iter : Expr} {body : List Stmt} {pos : Pos} {fi : Env → Store → R (List D × Dep)} {fb f : Env → Store → RS} (hf : f = fun env st => (fi env st).thn env fun w st => RS.unlock w.2 (forL w.2 (fun x env st => match bindP t x env with
      | some env' => fb env' st
      | none => .no) w.1 env (w.2.lock st)))
    (hp : PassesOwn (model X.prog X.w) X.A X.env X.xe) (hc : X.calm = true) (hi : PI X tg iter (tI X fi)) (hg : PG X tg (tTp X t)) (hb : PSs X body (tS X fb)) (hs : ∀ x, foldedSetIterable iter X.env x = pure x) : PS X (.For tg iter body [] pos) (tS X f) := by
  subst hf
  refine (ps_re (ps_for hp hc hi hg hb hs)).imp fun Z σ H h => ?_
  obtain ⟨env, m, st, E, S, o⟩ := h
  dsimp only at o
  cases hq : fi env st with
  | no => rw [hq] at o; exact o.elim
  | ex x fs st' =>
    refine ⟨env, m, st, E, S, ?_⟩
    rw [hq] at o ⊢
    exact Takes.imp o fun c d σ1 H1 ⟨e1, e2, m', n, f⟩ => ⟨m', e2, n, f, by rw [e1]; exact E.mono S n.ext n.fr⟩
  | ok w st1 =>
  obtain ⟨xs, dep⟩ := w
  rw [hq] at o
  have o : OutS X m H Z (RS.unlock dep (forL dep (fun x env st => match bindP t x env with
      | some env' => fb env' st
      | none => .no) xs env (dep.lock st1))) := o
  refine ⟨env, m, st, E, S, ?_⟩
  rw [hq]
  intro J m1 H1 un W
  have W : Walked X m H J xs dep st1 m1 H1 un := W
  have k1 : ∀ (r : RS) (m2 : List Addr) (H2 : Hp) (st2 : Store), Nx X.K X.w m1 H1 m2 H2 st2 → OutS X m H Z (RS.unlock dep r) → OutS X m2 H2 (reE X Z) r := fun r m2 H2 st2 n2 o => by
    cases r with
    | nx env' st' =>
      simp only [RS.unlock] at o
      split at o
      · next st3 e =>
        intro σ' m' H' n' E'
        obtain ⟨u1, u2, u3, _⟩ := W.un m' H' st' st3 (n2.trans n') e
        exact ⟨_, u2, o σ' m' _ u1 ⟨E'.len, fun i d h => let ⟨v, a, b⟩ := E'.at_ i d h; ⟨v, a, u3 d v b⟩⟩⟩
      · exact o.elim
    | rt d st' =>
      simp only [RS.unlock] at o
      split at o
      · next st3 e =>
        intro v m' H' n' r'
        obtain ⟨u1, u2, u3, _⟩ := W.un m' H' st' st3 (n2.trans n') e
        exact ⟨_, u2, o v m' _ u1 (u3 d v r')⟩
      · exact o.elim
    | ex x fs env' st' =>
      cases dep with
      | dic i => exact o.elim
      | free => exact OutS.later (Z := reE X Z) (r := .ex x fs env' st') (W.nx.trans n2) o
      | lst i ys => exact OutS.later (Z := reE X Z) (r := .ex x fs env' st') (W.nx.trans n2) o
    | no => exact o
  have o1 := k1 _ m1 H1 _ (.refl W.nx.sto) o
  generalize hF : (fun x env st => match bindP t x env with
      | some env' => fb env' st
      | none => RS.no) = F at o1
  refine ⟨fun i k σ H => k = xs.length - i ∧ i ≤ xs.length ∧ ∃ env2 m2 st2, EnvR X.K m2 H σ env2 ∧ Nx X.K X.w m1 H1 m2 H st2 ∧ dep.ok st2 = true ∧ OutS X m2 H (reE X Z) (forL dep F (xs.drop i) env2 st2), ⟨xs.length, rfl, Nat.zero_le _, env, m1, _, E.mono S W.nx.ext W.nx.fr, .refl W.nx.sto, W.ok, o1⟩, ?_⟩
  rintro i k σ2 H2 ⟨rfl, hi, env2, m2, st2, E2, n2, ok2, o2⟩
  by_cases hlt : i < xs.length
  · obtain ⟨go, yld⟩ := W.go i m2 H2 st2 n2 ok2 hlt
    refine .inr ⟨go, fun σ' H' => i + 1 ≤ xs.length ∧ ∃ env2 m2 st2, EnvR X.K m2 H' σ' env2 ∧ Nx X.K X.w m1 H1 m2 H' st2 ∧ dep.ok st2 = true ∧ OutS X m2 H' (reE X Z) (forL dep F (xs.drop (i + 1)) env2 st2), fun σ' H' z => ⟨xs.length - (i + 1), by omega, rfl, z⟩, fun x H3 y => ?_⟩
    obtain ⟨d, hd, n3, rd⟩ := yld x H3 y
    rw [forL_drop hd] at o2
    -- the turn's end
    have bind : OutS X m2 H2 { reE X Z with nx := fun σ' H' => i + 1 ≤ xs.length ∧ ∃ env2 m2 st2, EnvR X.K m2 H' σ' env2 ∧ Nx X.K X.w m1 H1 m2 H' st2 ∧ dep.ok st2 = true ∧ OutS X m2 H' (reE X Z) (forL dep F (xs.drop (i + 1)) env2 st2) } (F d env2 st2) := by
      cases hr : F d env2 st2 with
      | no => rw [hr] at o2; exact o2
      | rt d st' => rw [hr] at o2; exact o2
      | ex x fs env' st' => rw [hr] at o2; exact o2
      | nx env' st' =>
        rw [hr] at o2
        dsimp only at o2
        by_cases hok : dep.ok st' = true
        · rw [if_pos hok] at o2
          exact fun σ' m' H' n' E' => ⟨hlt, env', m', st', E', n2.trans n', hok, OutS.later n' o2⟩
        · rw [if_neg hok] at o2
          exact o2.elim
    subst hF
    dsimp only at bind
    split at bind
    · next env3 hb3 =>
      refine ⟨env2, env3, m2, st2, d, E2.mono n2.sto n3.ext n3.fr, n3.sto, rd, hb3, fun σ4 m4 H4 n4 E4 _ => ?_⟩
      refine ⟨env3, m4, st2, E4, n4.sto, ?_⟩
      exact (OutS.later (n3.trans n4) bind).imp (fun _ _ z => z) fun _ _ z => z
    · exact bind.elim
  · have e : i = xs.length := by omega
    subst e
    refine .inl ⟨W.stop _ m2 H2 st2 n2 ok2 (Nat.le_refl _), ?_⟩
    rw [List.drop_length] at o2
    exact o2 σ2 m2 H2 (.refl n2.sto) E2
end
end Eng
/-! E12: list comprehensions. -/
namespace Eng
open PySem PySem.Spec PyProof.Rows L2

/-- an address that is not the store's is forgotten -/
abbrev D0 := D
def del (H : Hp) (D : Addr) : Hp := fun b => if b = D then none else H b
theorem del_ne {H : Hp} {D b : Addr} (h : b ≠ D) : del H D b = H b := by unfold del; rw [if_neg h]
theorem del_same {H : Hp} {D : Addr} : del H D D = none := by unfold del; rw [if_pos rfl]
theorem upd_del {H : Hp} {D : Addr} {o : HO} : upd (del H D) D o = upd H D o := by
  funext b
  by_cases h : b = D
  · subst h; rw [upd_same, upd_same]
  · rw [upd_ne h, upd_ne h, del_ne h]
/-- the one at D is no tuple and not locked -/
def Own (H : Hp) (D : Addr) : Prop := ∀ o, H D = some o → (∀ vs, o ≠ .tup vs) ∧ ∀ x u, o ≠ .frz x u
section
variable {K : PySem.W.Frag} {w : World} {m m1 m2 : List Addr} {st st1 st2 : Store} {H H1 H2 : Hp} {D : Addr}
theorem SqT.del {a : Addr} {vs : List V} (hD : Own H D) (h : SqT K H a vs) : SqT K (del H D) a vs := by
  rcases h with h | h
  · have ne : a ≠ D := fun e => by
      subst e
      rcases h with h | ⟨o, h⟩
      · exact (hD _ h).1 vs rfl
      · exact (hD _ h).2 o _ rfl
    rcases h with h | ⟨o, h⟩
    · exact .inl (.inl (by rw [del_ne ne]; exact h))
    · exact .inl (.inr ⟨o, by rw [del_ne ne]; exact h⟩)
  · exact .inr h
theorem RolAt.del {a : Addr} {vs : List V} (hD : Own H D) (h : RolAt K H a vs) : RolAt K (del H D) a vs := by
  rcases h with ⟨o, h⟩ | h
  · have ne : a ≠ D := fun e => by subst e; exact (hD _ h).2 o _ rfl
    exact .inl ⟨o, by rw [del_ne ne]; exact h⟩
  · exact .inr h
mutual
theorem Rep.del (hD : Own H D) : ∀ {d : D0} {v : V}, Rep K m H d v → Rep K m (Eng.del H D) d v
  | .non, _, h => h
  | .bl _, _, h => h
  | .int _, _, h => h
  | .str _, _, h => h
  | .tup xs, _, ⟨a, vs, h1, h2, h3⟩ => ⟨a, vs, h1, SqT.del hD h2, Reps.del hD h3⟩
  | .rol xs, _, ⟨a, vs, h1, h2, h3⟩ => ⟨a, vs, h1, RolAt.del hD h2, Reps.del hD h3⟩
  | .obj i, _, h => h
theorem Reps.del (hD : Own H D) : ∀ {ds : List D0} {vs : List V}, Reps K m H ds vs → Reps K m (Eng.del H D) ds vs
  | [], _, h => h
  | x :: xs, _, ⟨v, ws, h1, h2, h3⟩ => ⟨v, ws, h1, Rep.del hD h2, Reps.del hD h3⟩
end
theorem StoR.del (S : StoR K w m st H) (hD : Own H D) (hm : D ∉ m) : StoR K w m st (Eng.del H D) := by
  refine ⟨S.len, S.nd, fun i b u hb hu => ?_⟩
  have ne : b ≠ D := fun e => hm (by rw [← e]; exact List.mem_of_getElem? hb)
  have r := S.at_ i b u hb hu
  cases u with
  | lst xs => obtain ⟨vs, h, r⟩ := r; exact ⟨vs, by rw [del_ne ne]; exact h, r.del hD⟩
  | dic kvs => obtain ⟨es, h, r⟩ := r; exact ⟨es, by rw [del_ne ne]; exact h, Paired.mapP r.pr (fun p q z => ⟨z.1, z.2.1, z.2.2.1.del hD, z.2.2.2.del hD⟩), r.nd⟩
  | dicL kvs => obtain ⟨o, es, h, r⟩ := r; exact ⟨o, es, by rw [del_ne ne]; exact h, Paired.mapP r.pr (fun p q z => ⟨z.1, z.2.1, z.2.2.1.del hD, z.2.2.2.del hD⟩), r.nd⟩
  | ins c fs => obtain ⟨dx, vfs, h, r⟩ := r; exact ⟨dx, vfs, by rw [del_ne ne]; exact h, Paired.mapP r fun p q z => ⟨z.1, z.2.del hD⟩⟩
theorem Nx.del (n : Nx K w m H m1 H1 st1) (h0 : H D = none) (hD : Own H1 D) (hm : D ∉ m1) : Nx K w m H m1 (Eng.del H1 D) st1 := by
  refine ⟨n.ext, n.sto.del hD hm, fun a o h ha => ?_, fun a o u h => ?_⟩
  · rw [del_ne (ne_of_none h h0)]; exact n.fr a o h ha
  · rw [del_ne (ne_of_none h h0)]; exact n.fz a o u h
end

/-! ### without exceptions -/
def tX0 (X : Cx) (f : Env → Store → R Sq) : TE := fun σ H Q => ∃ env m st q st', EnvR X.K m H σ env ∧ StoR X.K X.w m st H ∧ f env st = .ok q st' ∧ KQ X Q m H q st'
def tD0 (X : Cx) (f : Env → Store → R D) : TE := fun σ H Q => ∃ env m st q st', EnvR X.K m H σ env ∧ StoR X.K X.w m st H ∧ f env st = .ok q st' ∧ KD X Q m H q st'
def tB0 (X : Cx) (f : Env → Store → R Bool) : TT := fun σ H Q => ∃ env m st q st', EnvR X.K m H σ env ∧ StoR X.K X.w m st H ∧ f env st = .ok q st' ∧ KB X Q m H q st'
section
variable {X : Cx} {s : Shared} {H0 : Hp} {scope : Scope} {cenv : PySem.Env} {fp : List Addr} {e : Expr}
theorem blk_D {f : Env → Store → R D} (h : PE (X.blk s H0 scope cenv fp) e (tD (X.blk s H0 scope cenv fp) f)) : PE (X.blk s H0 scope cenv fp) e (tD0 X f) := h.imp fun σ H Q ⟨env, m, st, q, st', E, S, hq, k⟩ => ⟨env, m, st, E, S, by rw [hq]; exact k⟩
theorem blk_B {f : Env → Store → R Bool} (h : PT (X.blk s H0 scope cenv fp) e (tBo (X.blk s H0 scope cenv fp) f)) : PT (X.blk s H0 scope cenv fp) e (tB0 X f) := h.imp fun σ H Q ⟨env, m, st, q, st', E, S, hq, k⟩ => ⟨env, m, st, E, S, by rw [hq]; exact k⟩
theorem blk_G {tg : Expr} {t : Tp} (h : PG (X.blk s H0 scope cenv fp) tg (tTp (X.blk s H0 scope cenv fp) t)) : PG (X.blk s H0 scope cenv fp) tg (tTp X t) := h
end

/-! ### the loop -/
theorem envR_wipe {K : PySem.W.Frag} {m : List Addr} {H : Hp} {σ : L2.St} {env : Env} (E : EnvR K m H σ env) : ∀ vs : List Nat, EnvR K m H (wipe σ vs) (wipeE env vs)
  | [] => E
  | v :: vs => by
    have E' := envR_wipe E vs
    refine ⟨by show ((wipe σ vs).set v none).length = ((wipeE env vs).set v none).length; rw [List.length_set, List.length_set]; exact E'.len, fun i d h => ?_⟩
    have h : ((wipeE env vs).set v none)[i]? = some (some d) := h
    by_cases hv : v = i
    · subst hv
      rw [List.getElem?_set] at h
      simp at h
    · rw [List.getElem?_set_ne hv] at h
      obtain ⟨u, h1, h2⟩ := E'.at_ i d h
      exact ⟨u, by show ((wipe σ vs).set v none)[i]? = _; rw [List.getElem?_set_ne hv]; exact h1, h2⟩
theorem wipe_sub {σ : L2.St} {vs : List Nat} : ∀ us : List Nat, (∀ i ∈ us, i ∈ vs) → wipe (wipe σ us) vs = wipe σ vs
  | [], _ => rfl
  | u :: us, h => by
    show wipe ((wipe σ us).set u none) vs = _
    rw [wipe_set (h u List.mem_cons_self), wipe_sub us fun i hi => h i (List.mem_cons_of_mem _ hi)]
theorem wipe_wipe {σ : L2.St} (vs : List Nat) : wipe (wipe σ vs) vs = wipe σ vs := wipe_sub vs fun _ h => h
/-- one turn -/
def lcTurn (t : Tp) (fc : Option (Env → Store → R Bool)) (fe : Env → Store → R D) (env0 : Env) : D → Store → R (Option D) := fun x st => match bindP t x env0 with
  | some env' => match fc with
    | none => (fe env' st).bind fun d st => .ok (some d) st
    | some c => (c env' st).bind fun b st => if b then (fe env' st).bind fun d st => .ok (some d) st else .ok none st
  | none => .no
def evLc (t : Tp) (fi : Env → Store → R (List D × Dep)) (fc : Option (Env → Store → R Bool)) (fe : Env → Store → R D) (own : List Nat) : Env → Store → R Sq := fun env st => (fi env st).bind fun w st => if small w.1.length = false then .no else
  (compL w.2 (lcTurn t fc fe (wipeE env own)) w.1 (w.2.lock st)).bind fun ds st => match w.2.unlock st with
    | some st => .ok (.fresh ds) st
    | none => .no
theorem compL_cons {α : Type} {dep : Dep} {f : D → Store → R (Option α)} {x : D} {xs : List D} {st st' : Store} {ys : List α} (h : compL dep f (x :: xs) st = .ok ys st') : ∃ o st1 zs, f x st = .ok o st1 ∧ dep.ok st1 = true ∧ compL dep f xs st1 = .ok zs st' ∧ ys = o.toList ++ zs := by
  simp only [compL] at h
  split at h
  · next o st1 hf =>
    obtain ⟨hok, h⟩ := ite_ok h
    split at h
    · next zs st2 hz =>
      obtain ⟨rfl, rfl⟩ := ok_ok h
      refine ⟨o, st1, zs, hf, hok, hz, ?_⟩
      cases o <;> rfl
    · cases h
  · cases h
/-- the tests' reading -/
def tIfs (X : Cx) : Option (Env → Store → R Bool) → TT
  | none => tYes
  | some fc => tB0 X fc
section
variable {X : Cx}
theorem lc_read {t : Tp} {fi : Env → Store → R (List D × Dep)} {fc : Option (Env → Store → R Bool)} {fe : Env → Store → R D} {own : List Nat} {σ : L2.St} {H : Hp} {Q : VK} (hsub : ∀ i ∈ tpNames t, i ∈ own) (h : tX X (evLc t fi fc fe own) σ H Q) :
    tLc (tI X fi) (tTp X t) (tIfs X fc) (tD0 X fe) own σ H fun v H1 => ∃ H', Re X H1 H' ∧ Q v H' := by
  obtain ⟨env, m, st, E, S, o⟩ := h
  unfold evLc at o
  refine ⟨env, m, st, E, S, ?_⟩
  cases hq : fi env st with
  | no => rw [hq] at o; exact o.elim
  | ex x fs st' => rw [hq] at o; exact o
  | ok w st1 =>
  obtain ⟨xs, dep⟩ := w
  rw [hq] at o
  simp only [R.bind] at o
  by_cases hs : small xs.length = false
  · rw [if_pos hs] at o; exact o.elim
  rw [if_neg hs] at o
  have hs : xs.length ≤ sizeLine := small_le (by simpa using hs)
  intro J m1 H1 un W D hD
  have W : Walked X m H J xs dep st1 m1 H1 un := W
  cases hc : compL dep (lcTurn t fc fe (wipeE env own)) xs (dep.lock st1) with
  | no => rw [hc] at o; exact o.elim
  | ex x fs st' =>
    exfalso
    cases xs with
    | nil => simp [compL] at hc
    | cons x xs =>
      simp only [compL] at hc
      split at hc
      · split at hc
        · split at hc <;> cases hc
        · cases hc
      · cases hc
  | ok ys stE =>
  rw [hc] at o
  dsimp only at o
  cases hu : dep.unlock stE with
  | none => rw [hu] at o; exact o.elim
  | some st3 =>
  rw [hu] at o
  have o : KQ X Q m H (.fresh ys) st3 := o
  have E1 : EnvR X.K m1 H1 σ env := E.mono S W.nx.ext W.nx.fr
  refine ⟨fun i k Hc => k = xs.length - i ∧ i ≤ xs.length ∧ ∃ m2 G st2 done acc rest, Hc = upd G D (.lst acc) ∧ G D = none ∧ Nx X.K X.w m1 H1 m2 G st2 ∧ dep.ok st2 = true ∧ Reps X.K m2 G done acc ∧ done.length ≤ i ∧
      compL dep (lcTurn t fc fe (wipeE env own)) (xs.drop i) st2 = .ok rest stE ∧ ys = done ++ rest, ⟨xs.length, rfl, Nat.zero_le _, m1, H1, _, [], [], ys, rfl, hD, .refl W.nx.sto, W.ok, rfl, Nat.le_refl _, hc, rfl⟩, ?_⟩
  rintro i k Hc ⟨rfl, hi, m2, G, st2, done, acc, rest, rfl, hG, n2, ok2, rd, hdi, hrest, hys⟩
  have nG : Nx X.K X.w m2 G m2 (upd G D (.lst acc)) st2 := .new n2.sto hG
  have n2' := n2.trans nG
  have hDm : D ∉ m2 := n2.sto.fresh hG
  by_cases hlt : i < xs.length
  · obtain ⟨go, yld⟩ := W.go i m2 _ st2 n2' ok2 hlt
    refine .inr ⟨go, fun H' => i + 1 ≤ xs.length ∧ ∃ m2 G st2 done acc rest, H' = upd G D (.lst acc) ∧ G D = none ∧ Nx X.K X.w m1 H1 m2 G st2 ∧ dep.ok st2 = true ∧ Reps X.K m2 G done acc ∧ done.length ≤ i + 1 ∧
      compL dep (lcTurn t fc fe (wipeE env own)) (xs.drop (i + 1)) st2 = .ok rest stE ∧ ys = done ++ rest, fun H' z => ⟨xs.length - (i + 1), by omega, rfl, z⟩, fun x H3 y => ?_⟩
    obtain ⟨d, hd, n3, rdx⟩ := yld x H3 y
    have hdr : xs.drop i = d :: xs.drop (i + 1) := by
      have hi := (List.getElem?_eq_some_iff.mp hd).1
      rw [List.drop_eq_getElem_cons hi, (List.getElem?_eq_some_iff.mp hd).2]
    rw [hdr] at hrest
    obtain ⟨ov, st4, zs, hf, hok, hz, hr⟩ := compL_cons hrest
    unfold lcTurn at hf
    have E2 : EnvR X.K m2 H3 (wipe σ own) (wipeE env own) := envR_wipe ((E1.mono W.nx.sto n2'.ext n2'.fr).mono n2'.sto n3.ext n3.fr) own
    -- the turn's end: H4 is what stands behind it
    have fin : ∀ (m4 : List Addr) (H4 : Hp) (ys2 : List D0) (vs2 : List V), Nx X.K X.w m2 (upd G D (.lst acc)) m4 H4 st4 → Reps X.K m4 H4 ys2 vs2 → ov.toList = ys2 → ys2.length ≤ 1 →
        H4 D = some (.lst acc) ∧ (i + 1 ≤ xs.length ∧ ∃ m2 G st2 done acc' rest, upd H4 D (.lst (acc ++ vs2)) = upd G D (.lst acc') ∧ G D = none ∧ Nx X.K X.w m1 H1 m2 G st2 ∧ dep.ok st2 = true ∧ Reps X.K m2 G done acc' ∧ done.length ≤ i + 1 ∧
      compL dep (lcTurn t fc fe (wipeE env own)) (xs.drop (i + 1)) st2 = .ok rest stE ∧ ys = done ++ rest) := fun m4 H4 ys2 vs2 n4 rv ho h1 => by
      have hD4 : H4 D = some (.lst acc) := n4.fr D _ upd_same hDm
      have hDm4 : D ∉ m4 := n4.ext.out upd_same hDm
      have own4 : Own H4 D := fun o e => by rw [hD4] at e; cases e; exact ⟨(fun _ z => nomatch z), (fun _ _ z => nomatch z)⟩
      refine ⟨hD4, hlt, m4, del H4 D, st4, done ++ ys2, acc ++ vs2, zs, upd_del.symm, del_same, (n2'.trans n4).del hD own4 hDm4, hok, ?_, ?_, hz, ?_⟩
      · exact (((rd.mono n2.sto nG.ext nG.fr).mono n2'.sto n4.ext n4.fr).del own4).append (rv.del own4)
      · rw [List.length_append]; omega
      · rw [hys, hr, ho, List.append_assoc]
    have hacc : acc.length < sizeLine := by rw [rd.length]; omega
    cases hb : bindP t d (wipeE env own) with
    | none => rw [hb] at hf; cases hf
    | some env4 =>
    rw [hb] at hf
    dsimp only at hf
    refine ⟨wipeE env own, env4, m2, st2, d, E2, n3.sto, rdx, hb, fun σ5 m5 H5 n5 E5 w5 => ⟨(w5 own hsub).trans (by
      have : ∀ vs : List Nat, wipe (wipe σ vs) vs = wipe σ vs := fun vs => wipe_wipe vs
      exact this own), ?_⟩⟩
    cases fc with
    | none =>
      obtain ⟨dv, st6, he, hf⟩ := bind_ok hf
      obtain ⟨rfl, rfl⟩ := ok_ok hf
      unfold tIfs tYes
      dsimp only
      rw [if_pos rfl]
      refine ⟨env4, m5, st2, dv, st4, E5, n5.sto, he, fun v m6 H6 n6 r6 => ?_⟩
      obtain ⟨a, b⟩ := fin m6 H6 [dv] [v] ((n3.trans n5).trans n6) (.one r6) rfl (Nat.le_refl _)
      exact ⟨acc, a, hacc, b⟩
    | some c =>
      obtain ⟨b, st6, hcb, hf⟩ := bind_ok hf
      refine ⟨env4, m5, st2, b, st6, E5, n5.sto, hcb, fun m6 H6 n6 => ?_⟩
      cases b with
      | true =>
        rw [if_pos rfl] at hf ⊢
        obtain ⟨dv, st7, he, hf⟩ := bind_ok hf
        obtain ⟨rfl, rfl⟩ := ok_ok hf
        refine ⟨env4, m6, st6, dv, st4, E5.mono n5.sto n6.ext n6.fr, n6.sto, he, fun v m7 H7 n7 r7 => ?_⟩
        obtain ⟨a, b⟩ := fin m7 H7 [dv] [v] (((n3.trans n5).trans n6).trans n7) (.one r7) rfl (Nat.le_refl _)
        exact ⟨acc, a, hacc, b⟩
      | false =>
        rw [if_neg (by decide)] at hf
        obtain ⟨rfl, rfl⟩ := ok_ok hf
        rw [if_neg (by decide)]
        obtain ⟨a, b⟩ := fin m6 H6 [] [] ((n3.trans n5).trans n6) rfl rfl (Nat.zero_le _)
        rw [List.append_nil, upd_self a] at b
        exact b
  · have e : i = xs.length := by omega
    subst e
    rw [List.drop_length] at hrest
    obtain ⟨rfl, rfl⟩ := ok_ok (show R.ok [] st2 = .ok rest stE from hrest)
    rw [List.append_nil] at hys
    subst hys
    refine .inl ⟨W.stop _ m2 _ _ n2' ok2 (Nat.le_refl _), ?_⟩
    obtain ⟨u1, u2, u3, u4⟩ := W.un m2 _ _ st3 n2' hu
    refine ⟨_, u2, o _ m2 _ u1 ⟨D, acc, rfl, u4 D _ hDm upd_same, hDm, ?_⟩ fun a ea => ?_⟩
    · have : ∀ (ds : List D0) (vs : List V), Reps X.K m2 (upd G D (.lst acc)) ds vs → Reps X.K m2 (un (upd G D (.lst acc))) ds vs := fun ds => by
        induction ds with
        | nil => exact fun vs h => h
        | cons d ds ih => rintro vs ⟨v, ws, e, r1, r2⟩; exact ⟨v, ws, e, u3 d v r1, ih ws r2⟩
      exact this _ _ (rd.mono n2.sto nG.ext nG.fr)
    · cases ea
      exact W.nx.back S hD
theorem je_lc {t : Tp} {fi : Env → Store → R (List D × Dep)} {fc : Option (Env → Store → R Bool)} {fe : Env → Store → R D} {own : List (Str × Nat)} {elt tg iter : Expr} {ifs : List Expr} {scope : Scope} {pos : Pos} {f : Env → Store → R Sq} (hf : f = evLc t fi fc fe (own.map (·.2)))
    (hsub : ∀ i ∈ tpNames t, i ∈ own.map (·.2)) (hc : X.calm = true) (hN : X.N.Nodup) (hi : PI X tg iter (tI X fi)) (ok : BlkOk X.N X.env.scope scope own)
    (hg : ∀ (s : Shared) (H : Hp) (C : Addr) (cl : List (Str × Addr)) (fp : List Addr), PG (X.blk s H scope (compEnvC scope cl C X.env) fp) tg (tTp X t))
    (ht : ∀ (s : Shared) (H : Hp) (C : Addr) (cl : List (Str × Addr)) (fp : List Addr), PTs (X.blk s H scope (compEnvC scope cl C X.env) fp) ifs (tIfs X fc))
    (he : ∀ (s : Shared) (H : Hp) (C : Addr) (cl : List (Str × Addr)) (fp : List Addr), PE (X.blk s H scope (compEnvC scope cl C X.env) fp) elt (tD0 X fe)) (hs : ∀ x, foldedSetIterable iter X.env x = pure x) :
    PE X (.ListComp elt [⟨tg, iter, ifs, 0⟩] scope pos) (tX X f) := by
  subst hf
  exact (pe_re (pe_lc hc hN hi ok hg ht he hs)).imp fun σ H Q h => lc_read hsub h
/-- name = [..], stored from within -/
theorem js_setLc {i : Nat} {y : Str} {py : Pos} {t : Tp} {fi : Env → Store → R (List D × Dep)} {fc : Option (Env → Store → R Bool)} {fe : Env → Store → R D} {own : List (Str × Nat)} {elt tg iter : Expr} {ifs : List Expr} {scope : Scope} {pos spos : Pos} {f : Env → Store → RS}
    (hf : f = fun env st => (asD (evLc t fi fc fe (own.map (·.2)) env st)).thn env fun d st => match bindP (.nm i) d env with
      | some env' => .nx env' st
      | none => .no)
    (hy : X.N[i]? = some y) (hyl : X.env.scope.names.lookup y = some .local) (hsw : swapsWith (.ListComp elt [⟨tg, iter, ifs, 0⟩] scope pos) (some (.Name y py)) spos.line X.env = pure true)
    (hsub : ∀ i ∈ tpNames t, i ∈ own.map (·.2)) (hc : X.calm = true) (hN : X.N.Nodup) (hi : PI X tg iter (tI X fi)) (ok : BlkOk X.N X.env.scope scope own)
    (hg : ∀ (s : Shared) (H : Hp) (C : Addr) (cl : List (Str × Addr)) (fp : List Addr), PG (X.blk s H scope (compEnvC scope cl C X.env) fp) tg (tTp X t))
    (ht : ∀ (s : Shared) (H : Hp) (C : Addr) (cl : List (Str × Addr)) (fp : List Addr), PTs (X.blk s H scope (compEnvC scope cl C X.env) fp) ifs (tIfs X fc))
    (he : ∀ (s : Shared) (H : Hp) (C : Addr) (cl : List (Str × Addr)) (fp : List Addr), PE (X.blk s H scope (compEnvC scope cl C X.env) fp) elt (tD0 X fe)) (hs : ∀ x, foldedSetIterable iter X.env x = pure x) :
    PS X (.Assign [.Name y py] (.ListComp elt [⟨tg, iter, ifs, 0⟩] scope pos) spos) (tS X f) := by
  subst hf
  refine (ps_re (ps_setLc hc hN hy hyl hsw hi ok hg ht he hs)).imp fun Z σ H h => ?_
  have h1 := tX_asD (tS_thnD (fe := fun env st => asD (evLc t fi fc fe (own.map (·.2)) env st)) (k := fun d env st => match bindP (.nm i) d env with
      | some env' => RS.nx env' st
      | none => .no) h)
  have h2 := lc_read hsub h1
  have key : ∀ v H1, (∃ H', Re X H1 H' ∧ ∃ env m st d, EnvR X.K m H' σ env ∧ StoR X.K X.w m st H' ∧ Rep X.K m H' d v ∧ OutS X m H' Z (match bindP (.nm i) d env with
      | some env' => RS.nx env' st
      | none => .no)) → gName i v σ H1 (reE X Z).nx := fun v H1 ⟨H', re, env, m, st, d, E, S, r, o⟩ => by
    simp only [bindP] at o
    exact ⟨H', re, o _ m H' (.refl S) (E.set r)⟩
  -- the wish of the new list is met
  obtain ⟨env, m, st, E, S, o⟩ := h2
  refine ⟨env, m, st, E, S, o.imp fun w st1 k J m1 H1 un W => ?_⟩
  have k2 := k J m1 H1 un W
  intro D hD
  obtain ⟨W1, w0, step⟩ := k2 D hD
  refine ⟨W1, w0, fun i2 m2 H2 w2 => ?_⟩
  rcases step i2 m2 H2 w2 with ⟨a, b⟩ | h
  · exact .inl ⟨a, key _ _ b⟩
  · exact .inr h
end
end Eng
/-! E13: dict comprehensions (keys of any form). -/
namespace Eng
open PySem PySem.Spec PyProof.Rows L2
theorem dx_empty {P : Program} {w : World} {H : Hp} (h : Heap) (hb : sysModules < h.objs.size) : ObjOk P w H (h.push { cls := .type "dict", data := .dict #[] }) h.objs.size (DicO w h.objs.size []) :=
  dicO_ok ⟨beq_eq_false_iff_ne.mpr (Nat.ne_of_gt hb), Nat.zero_le _, _, #[], 0, Heap.get?_push_size _ rfl, ⟨rfl, rfl, rfl⟩, rfl, .nil⟩
mutual
theorem rep_own1 {K : PySem.W.Frag} {m : List Addr} {H H' : Hp} (ht : ∀ {a : Addr} {vs : List V}, SqT K H a vs → SqT K H' a vs) (hr : ∀ {a : Addr} {vs : List V}, RolAt K H a vs → RolAt K H' a vs) : ∀ (d : D0) (v : V), Rep K m H d v → Rep K m H' d v
  | .non, _, h => h
  | .bl _, _, h => h
  | .int _, _, h => h
  | .str _, _, h => h
  | .tup xs, _, ⟨a, vs, h1, h2, h3⟩ => ⟨a, vs, h1, ht h2, reps_own1 ht hr xs vs h3⟩
  | .rol xs, _, ⟨a, vs, h1, h2, h3⟩ => ⟨a, vs, h1, hr h2, reps_own1 ht hr xs vs h3⟩
  | .obj i, _, h => h
theorem reps_own1 {K : PySem.W.Frag} {m : List Addr} {H H' : Hp} (ht : ∀ {a : Addr} {vs : List V}, SqT K H a vs → SqT K H' a vs) (hr : ∀ {a : Addr} {vs : List V}, RolAt K H a vs → RolAt K H' a vs) : ∀ (d : List D0) (v : List V), Reps K m H d v → Reps K m H' d v
  | [], _, h => h
  | x :: xs, _, ⟨v, ws, h1, h2, h3⟩ => ⟨v, ws, h1, rep_own1 ht hr x v h2, reps_own1 ht hr xs ws h3⟩
end
theorem dPut_len (kvs : List (D0 × D0)) (kd : D0) (k : NestedKey) (v : D0) : (dPut kvs kd k v).length ≤ kvs.length + 1 := by
  unfold dPut
  split
  · rw [List.length_map]; omega
  · rw [List.length_append]; simp
theorem putAll_cons {kvs : List (D0 × D0)} {q : D0 × D0} {zs : List (D0 × D0)} {l : List (D0 × D0)} (h : putAll kvs ((some q).toList ++ zs) = some l) : ∃ k l1, q.1.key = some k ∧ l1 = dPut kvs q.1 k q.2 ∧ putAll (dPut kvs q.1 k q.2) zs = some l := by
  simp only [putAll, Option.toList, List.cons_append, List.nil_append, foldO] at h
  split at h
  · next b hb =>
    obtain ⟨k, hk, rfl⟩ := Option.map_eq_some_iff.mp hb
    exact ⟨k, _, hk, rfl, h⟩
  · cases h
/-- what a turn's store asks and gives -/
def tDx (K : PySem.W.Frag) (w : World) (wi : TI) (g : TG) (tt : TT) (tk tv : TE) (vs : List Nat) : TE := fun σ H Q => wi σ H fun J H1 => ∀ D, H1 D = none → ∃ W : Nat → Nat → Hp → Prop, (∃ m, W 0 m (upd H1 D (DicO w D []))) ∧ ∀ i m H, W i m H →
  (J.stop i H ∧ Q (.ref D) H) ∨ (J.go i H ∧ ∃ Nx : Hp → Prop, (∀ H', Nx H' → ∃ m', m' < m ∧ W (i + 1) m' H') ∧ ∀ x H', J.yld i H x H' → g x (wipe σ vs) H' fun σ2 H2 => wipe σ2 vs = wipe σ vs ∧ tt σ2 H2 fun b H3 =>
    if b = true then tk σ2 H3 fun y H4 => tv σ2 H4 fun z H5 => ∃ (es : List (NestedKey × V × V)) (mm : List Addr) (kvs : List (D0 × D0)) (kd : D0) (k : NestedKey) (x : D0), H5 D = some (DicO w D es) ∧ KvR K mm H5 kvs es ∧ Rep K mm H5 kd y ∧ kd.key = some k ∧ Rep K mm H5 x z ∧ kvs.length + 1 ≤ sizeLine ∧
      (∀ (o : HO) (y : D0) (z : V), Rep K mm H5 y z → Rep K mm (upd H5 D o) y z) ∧ ∀ es', KvR K mm (upd H5 D (DicO w D es')) (dPut kvs kd k x) es' → Nx (upd H5 D (DicO w D es')) else Nx H3)
section
variable {X : Cx}
theorem dx_core {pins : List (Addr × Obj)} {s : Shared} {σ : L2.St} {H : Hp} {Q : VK} {kx vx tg iter : Expr} {ifs : List Expr} {scope : Scope} {own : List (Str × Nat)} {pos pos' : Pos} {wi : TI} {g : TG} {tt : TT} {tk tv : TE} {use : Option (Value → Sem Unit)} {Qf : Value → Shared → Prop}
    (hu : X.A.units + 64 < cLine) (hc : X.calm = true) (hN : X.N.Nodup) (I : L2.Inv X pins σ H s) (hi : PI X tg iter wi) (ok : BlkOk X.N X.env.scope scope own)
    (hg : ∀ (s : Shared) (H : Hp) (C : Addr) (cl : List (Str × Addr)) (fp : List Addr), PG (X.blk s H scope (compEnvC scope cl C X.env) fp) tg g) (ht : ∀ (s : Shared) (H : Hp) (C : Addr) (cl : List (Str × Addr)) (fp : List Addr), PTs (X.blk s H scope (compEnvC scope cl C X.env) fp) ifs tt)
    (hk : ∀ (s : Shared) (H : Hp) (C : Addr) (cl : List (Str × Addr)) (fp : List Addr), PE (X.blk s H scope (compEnvC scope cl C X.env) fp) kx tk)
    (he : ∀ (s : Shared) (H : Hp) (C : Addr) (cl : List (Str × Addr)) (fp : List Addr), PE (X.blk s H scope (compEnvC scope cl C X.env) fp) vx tv) (hs : ∀ x, foldedSetIterable iter X.env x = pure x)
    (h : tDx X.K X.w wi g tt tk tv (own.map (·.2)) σ H Q)
    (hRR : ∀ D C s' m H', L2.Inv X pins σ H' s' → Q (.ref D) H' → s'.heap.Ns C m → FpOk X pins H' C → compPost (model X.prog X.w) X.A X.xe use Qf (.ref D) C (.ok .next) s') :
    wpAny (model X.prog X.w) X.A (comprehension (.DictComp kx vx [⟨tg, iter, ifs, 0⟩] scope pos) scope X.env pos' newDict false (eval iter X.env) use) Qf X.xe s := by
  have hfree : ∀ y ∈ scope.names, y.2 = .free → ∃ c, X.env.cells.lookup y.1 = some c := fun y hy e => by
    rcases ok.free y hy e with k | k
    · exact I.ok.has _ (.inl k)
    · exact I.ok.has _ (.inr k)
  refine wpAny_comprehension_free (use := use) rfl hs (closure_ok hfree) ok.kind (fun y hy e => by rw [ok.uniq y hy, e])
    (thn (hi.run pins s σ H _ I h) fun xv s1 hx => thn hx fun itv s2 h2 => ?_)
  obtain ⟨it, fp, tn, J, H2, e, I2, T, st2, f2, q⟩ := h2
  subst e
  refine wpAny_newObj_type (newEnv_comp ?_)
  generalize hD : s2.heap.objs.size = D
  have hDn : H2 D = none := I2.hok.fresh (Nat.le_of_eq hD)
  obtain ⟨W, ⟨m0, w0⟩, turn⟩ := q D hDn
  -- the new list
  generalize hs3 : ({ s2 with heap := s2.heap.push { cls := .type "dict", data := .dict #[] } } : Shared) = s3
  have I3 : L2.Inv X pins σ (upd H2 D (DicO X.w D [])) s3 := by
    rw [← hs3]
    refine I2.laid (t' := s2.toks) (fun b o e => Heap.get?_push_of_some _ e) (Nat.le_of_eq hD) ?_
    rw [← hD]
    exact dx_empty s2.heap I2.big
  have h3 : s3.heap = s2.heap.push { cls := .type "dict", data := .dict #[] } := by rw [← hs3]
  have sz : ∀ b ∈ fp, b < s2.heap.objs.size := fun b hb => by
    obtain ⟨o, e, _⟩ := T.obj _ _ st2 b hb
    exact Heap.lt_size e
  have f3 : ∀ b ∈ fp, FpOk X pins (upd H2 D (DicO X.w D [])) b ∧ b < s3.heap.objs.size := fun b hb => by
    have hlt := sz b hb
    refine ⟨⟨?_, (f2 b hb).2⟩, by rw [h3, Heap.size_push]; exact Nat.lt_succ_of_lt hlt⟩
    rw [upd_ne (by rw [← hD]; exact Nat.ne_of_lt hlt)]
    exact (f2 b hb).1
  have st3 : tn 0 s3.heap := T.keep _ _ _ st2 fun b _ o e => by rw [h3]; exact Heap.get?_push_of_some _ e
  have I4 := block_start I3 ok hN f3
  have pg := hg s3 (upd H2 D (DicO X.w D [])) s3.heap.objs.size (cellsFrom (s3.heap.objs.size + 1) scope.names (cloFrom X.env.cells scope.names [])) fp
  have pt := ht s3 (upd H2 D (DicO X.w D [])) s3.heap.objs.size (cellsFrom (s3.heap.objs.size + 1) scope.names (cloFrom X.env.cells scope.names [])) fp
  have pk := hk s3 (upd H2 D (DicO X.w D [])) s3.heap.objs.size (cellsFrom (s3.heap.objs.size + 1) scope.names (cloFrom X.env.cells scope.names [])) fp
  have pe := he s3 (upd H2 D (DicO X.w D [])) s3.heap.objs.size (cellsFrom (s3.heap.objs.size + 1) scope.names (cloFrom X.env.cells scope.names [])) fp
  show codeAny _ _ (.compStart (.DictComp kx vx [⟨tg, iter, ifs, 0⟩] scope pos) 0 (.ref it) (.ref D) (compEnvC scope (cellsFrom (s3.heap.objs.size + 1) scope.names (cloFrom X.env.cells scope.names [])) s3.heap.objs.size X.env)) (compPost (model X.prog X.w) X.A X.xe use Qf (.ref D) s3.heap.objs.size) { s3 with heap := pushCells (s3.heap.push { cls := .type "dict", data := .dict #[] }) scope.names }
  have nfp : ∀ b ∈ fp, (upd H2 D (DicO X.w D [])) b = none := fun b hb => (f3 b hb).1.1
  generalize hce : compEnvC scope (cellsFrom (s3.heap.objs.size + 1) scope.names (cloFrom X.env.cells scope.names [])) s3.heap.objs.size X.env = ce at I4 pg pt pk pe ⊢
  have cL : ce.locals = s3.heap.objs.size := by subst hce; rfl
  generalize hH3 : upd H2 D (DicO X.w D []) = H3 at I3 I4 pg pt pk pe w0 nfp f3
  generalize hs4 : ({ s3 with heap := pushCells (s3.heap.push { cls := .type "dict", data := .dict #[] }) scope.names } : Shared) = s4 at I4 ⊢
  have st4 : tn 0 s4.heap := T.keep _ _ _ st3 fun b _ o e => by rw [← hs4]; exact pushCells_keeps _ _ _ _ (Heap.get?_push_of_some _ e)
  have stat : ∀ {σ' : L2.St} {H' : Hp} {s' : Shared}, L2.Inv (X.blk s3 H3 scope ce fp) [] σ' H' s' → (∀ b ∈ fp, H' b = none) → ∀ b ∈ fp, FpOk (X.blk s3 H3 scope ce fp) [] H' b := fun {σ' H' s'} I' hn b hb =>
    ⟨hn b hb, (I'.ok.exf b hb).1, I'.ok.exfs b hb, .inl hb, fun x c e => (I'.ok.exf b hb).2 x c e, fun p hp => absurd (show p ∈ ([] : List (Addr × Obj)) ++ [] from hp) (by simp)⟩
  have loop : codeAny (model X.prog X.w) X.A (.compLoop (.DictComp kx vx [⟨tg, iter, ifs, 0⟩] scope pos) 0 (.ref it) (.ref D) ce) (compPost (model X.prog X.w) X.A X.xe use Qf (.ref D) s3.heap.objs.size) s4 := by
    refine compLoop_anyD (fun n s' => ∃ i H', L2.Inv (X.blk s3 H3 scope ce fp) [] (wipe σ (own.map (·.2))) H' s' ∧ tn i s'.heap ∧ (∀ b ∈ fp, H' b = none) ∧ W i n H') ?_ m0 ⟨0, H3, I4, st4, nfp, w0⟩
    rintro n s5 ⟨i, H5, I5, st5, n5, w5⟩
    rcases turn i n H5 w5 with ⟨stop, qq⟩ | ⟨go, Nx, hNx, step⟩
    · have td := T.done (X.blk s3 H3 scope ce fp) rfl rfl rfl hc i [] s5 _ H5 (fun _ _ => False) I5 (stat I5 n5) st5 stop
      refine thnF td fun r s6 ⟨hr, I6⟩ => ?_
      subst hr
      -- back in the def's context
      have I7 : L2.Inv X pins σ H5 s6 := I3.call' (ch := fp) I6.os I6.base I6.hok I6.bare fun b hb => ⟨(f3 b hb).1.2.2.2.1, (f3 b hb).1.2.1, (f3 b hb).1.2.2.2.2.1, (f3 b hb).1.2.2.2.2.2⟩
      have nC : H5 s3.heap.objs.size = none := by
        have z : H5 ce.locals = none := I6.free
        rw [cL] at z
        exact z
      obtain ⟨m, hn, _⟩ := I6.loc
      have hn : s6.heap.Ns ce.locals m := hn
      rw [cL] at hn
      exact hRR D s3.heap.objs.size s6 m H5 I7 qq hn (I3.fpOk (Nat.le_refl _) nC)
    · have ti := T.item (X.blk s3 H3 scope ce fp) rfl rfl rfl hc i [] s5 _ H5 (fun _ _ => False) I5 (stat I5 n5) st5 go
      refine thnF ti fun r s6 ⟨u, hr, h6⟩ => ?_
      subst hr
      refine thnF h6 fun _ s7 ⟨x, H7, I7, r7, y7, st7, n7⟩ => ?_
      have I7' := I7.pinned (stat I7 n7) (T.obj _ _ st7)
      refine thnF (pg.run _ s7 _ H7 x u _ I7' r7 (step x H7 y7)) fun _ s8 ⟨σ8, H8, I8, hw8, q8⟩ => ?_
      refine thnF (pt.run _ s8 σ8 H8 _ I8 q8) fun b s9 ⟨H9, I9, q9⟩ => ?_
      -- the turn's end
      have fin : ∀ {s' : Shared} {H' : Hp}, L2.Inv (X.blk s3 H3 scope ce fp) ([] ++ pinsAt fp s7.heap) σ8 H' s' → Nx H' → ∃ m, m < n ∧ ∃ i H', L2.Inv (X.blk s3 H3 scope ce fp) [] (wipe σ (own.map (·.2))) H' s' ∧ tn i s'.heap ∧ (∀ b ∈ fp, H' b = none) ∧ W i m H' := fun {s' H'} I' nx => by
        obtain ⟨m', hm, w'⟩ := hNx H' nx
        have pin' : ∀ b ∈ fp, ∀ o, s7.heap.get? b = some o → s'.heap.get? b = some o ∧ H' b = none := fun b hb o e =>
          let z := I'.pin (b, o) (List.mem_append_right _ (List.mem_append_right _ (mem_pinsAt hb e)))
          ⟨z.1, z.2.1⟩
        have hl : (wipe σ (own.map (·.2))).length = σ8.length := by rw [← hw8, wipe_length]
        refine ⟨m', hm, i + 1, H', (I'.unpinned (pins := [])).weak hl (fun j v e => ?_), T.keep _ _ _ st7 fun b hb o e => (pin' b hb o e).1, fun b hb => ?_, w'⟩
        · rw [← hw8] at e
          exact (wipe_some e).1
        · obtain ⟨o, e, _⟩ := T.obj _ _ st7 b hb
          exact (pin' b hb o e).2
      cases b with
      | false =>
        simp only [Bool.false_eq_true, if_false] at q9 ⊢
        exact fin I9 q9
      | true =>
        simp only [if_true] at q9 ⊢
        refine thnF (pk.run _ s9 σ8 H9 _ I9 q9) fun z s10 ⟨yk, H10, I10, r10, q10⟩ => ?_
        refine thnF (pe.run _ s10 σ8 H10 _ I10 q10) fun z2 s11 ⟨yv, H11, I11, r11, es, mm, kvs, kd, k, x, hD11, kv, rk, hk, rx, hz11, mono, nx⟩ => ?_
        exact dset_ok (X := X.blk s3 H3 scope ce fp) (show X.A.units + 8 < cLine from by omega) I11 hD11 kv rk r10 hk rx r11 hz11 mono fun es' s12 I12 kv' => fin I12 (nx es' kv')
  exact codeAny_compStart_dict loop (T.self X.A 0 _ _ _ st4 loop)
theorem pe_dx {kx vx tg iter : Expr} {ifs : List Expr} {scope : Scope} {own : List (Str × Nat)} {pos : Pos} {wi : TI} {g : TG} {tt : TT} {tk tv : TE} (hu : X.A.units + 64 < cLine) (hc : X.calm = true) (hN : X.N.Nodup) (hi : PI X tg iter wi) (ok : BlkOk X.N X.env.scope scope own)
    (hg : ∀ (s : Shared) (H : Hp) (C : Addr) (cl : List (Str × Addr)) (fp : List Addr), PG (X.blk s H scope (compEnvC scope cl C X.env) fp) tg g) (ht : ∀ (s : Shared) (H : Hp) (C : Addr) (cl : List (Str × Addr)) (fp : List Addr), PTs (X.blk s H scope (compEnvC scope cl C X.env) fp) ifs tt)
    (hk : ∀ (s : Shared) (H : Hp) (C : Addr) (cl : List (Str × Addr)) (fp : List Addr), PE (X.blk s H scope (compEnvC scope cl C X.env) fp) kx tk)
    (he : ∀ (s : Shared) (H : Hp) (C : Addr) (cl : List (Str × Addr)) (fp : List Addr), PE (X.blk s H scope (compEnvC scope cl C X.env) fp) vx tv) (hs : ∀ x, foldedSetIterable iter X.env x = pure x := by intro _; rfl) :
    PE X (.DictComp kx vx [⟨tg, iter, ifs, 0⟩] scope pos) (tDx X.K X.w wi g tt tk tv (own.map (·.2))) := by
  refine ⟨fun pins s σ H Q I h => ?_⟩
  rw [arm_eval_DictComp]
  refine dx_core hu hc hN I hi ok hg ht hk he hs h fun D C s' m H' I' q hn f => ⟨m, hn, fun h'' sb => ?_⟩
  obtain ⟨f0, f1, f2, f3, f4, f5⟩ := f
  exact ⟨.ref D, H', I'.turned (t' := s'.toks) (fun b o hb e => (sb.2 b hb).trans e) f0 f1 f3 f4 f5, rfl, q⟩
theorem Rep.owned {K : PySem.W.Frag} {m : List Addr} {H : Hp} {D : Addr} {o : HO} (hD : Own H D) : ∀ {d : D0} {v : V}, Rep K m H d v → Rep K m (upd H D o) d v := by
  have ht : ∀ {a : Addr} {vs : List V}, SqT K H a vs → SqT K (upd H D o) a vs := fun {a vs} h => by
    rcases h with h | h
    · have ne : a ≠ D := fun e => by
        subst e
        rcases h with h | ⟨q, h⟩
        · exact (hD _ h).1 vs rfl
        · exact (hD _ h).2 q _ rfl
      rcases h with h | ⟨q, h⟩
      · exact .inl (.inl (by rw [upd_ne ne]; exact h))
      · exact .inl (.inr ⟨q, by rw [upd_ne ne]; exact h⟩)
    · exact .inr h
  have hr : ∀ {a : Addr} {vs : List V}, RolAt K H a vs → RolAt K (upd H D o) a vs := fun {a vs} h => by
    rcases h with ⟨q, h⟩ | h
    · have ne : a ≠ D := fun e => by subst e; exact (hD _ h).2 q _ rfl
      exact .inl ⟨q, by rw [upd_ne ne]; exact h⟩
    · exact .inr h
  intro d v h
  exact rep_own1 ht hr d v h

/-- a turn of a dict comprehension -/
def dcTurn (t : Tp) (fk fv : Env → Store → R D0) (env0 : Env) : D0 → Store → R (Option (D0 × D0)) := fun x st => match bindP t x env0 with
  | some env' => (fk env' st).bind fun kd st => (fv env' st).bind fun vd st => .ok (some (kd, vd)) st
  | none => .no
def evDc (t : Tp) (fi : Env → Store → R (List D0 × Dep)) (fk fv : Env → Store → R D0) (own : List Nat) : Env → Store → R Sq := fun env st => (fi env st).bind fun w st => if small w.1.length = false then .no else
  (compL w.2 (dcTurn t fk fv (wipeE env own)) w.1 (w.2.lock st)).bind fun ps st => match w.2.unlock st with
    | some st => (opt (putAll [] ps) st).bind fun l st => .ok (.val (.obj st.length)) (st ++ [.dic l])
    | none => .no
theorem dc_read {t : Tp} {fi : Env → Store → R (List D0 × Dep)} {fk fv : Env → Store → R D0} {own : List Nat} {σ : L2.St} {H : Hp} {Q : VK} (hsub : ∀ i ∈ tpNames t, i ∈ own) (h : tX X (evDc t fi fk fv own) σ H Q) :
    tDx X.K X.w (tI X fi) (tTp X t) tYes (tD0 X fk) (tD0 X fv) own σ H fun v H1 => ∃ H', Re X H1 H' ∧ Q v H' := by
  obtain ⟨env, m, st, E, S, o⟩ := h
  unfold evDc at o
  refine ⟨env, m, st, E, S, ?_⟩
  cases hq : fi env st with
  | no => rw [hq] at o; exact o.elim
  | ex x fs st' => rw [hq] at o; exact o
  | ok w st1 =>
  obtain ⟨xs, dep⟩ := w
  rw [hq] at o
  simp only [R.bind] at o
  by_cases hs : small xs.length = false
  · rw [if_pos hs] at o; exact o.elim
  rw [if_neg hs] at o
  have hs : xs.length ≤ sizeLine := small_le (by simpa using hs)
  intro J m1 H1 un W D hD
  have W : Walked X m H J xs dep st1 m1 H1 un := W
  cases hc : compL dep (dcTurn t fk fv (wipeE env own)) xs (dep.lock st1) with
  | no => rw [hc] at o; exact o.elim
  | ex x fs st' =>
    exfalso
    cases xs with
    | nil => simp [compL] at hc
    | cons x xs =>
      simp only [compL] at hc
      split at hc
      · split at hc
        · split at hc <;> cases hc
        · cases hc
      · cases hc
  | ok ys stE =>
  rw [hc] at o
  dsimp only at o
  cases hu : dep.unlock stE with
  | none => rw [hu] at o; exact o.elim
  | some st3 =>
  rw [hu] at o
  dsimp only at o
  cases hl : putAll [] ys with
  | none => rw [hl] at o; exact o.elim
  | some l =>
  rw [hl] at o
  have o : KQ X Q m H (.val (.obj st3.length)) (st3 ++ [.dic l]) := o
  have E1 : EnvR X.K m1 H1 σ env := E.mono S W.nx.ext W.nx.fr
  refine ⟨fun i k Hc => k = xs.length - i ∧ i ≤ xs.length ∧ ∃ m2 G st2 kvs es rest, Hc = upd G D (DicO X.w D es) ∧ G D = none ∧ Nx X.K X.w m1 H1 m2 G st2 ∧ dep.ok st2 = true ∧ KvR X.K m2 G kvs es ∧ kvs.length ≤ i ∧
      compL dep (dcTurn t fk fv (wipeE env own)) (xs.drop i) st2 = .ok rest stE ∧ putAll kvs rest = some l, ⟨xs.length, rfl, Nat.zero_le _, m1, H1, _, [], [], ys, rfl, hD, .refl W.nx.sto, W.ok, ⟨.nil, .nil⟩, Nat.le_refl _, hc, hl⟩, ?_⟩
  rintro i k Hc ⟨rfl, hi, m2, G, st2, kvs, es, rest, rfl, hG, n2, ok2, kv, hdi, hrest, hys⟩
  have nG : Nx X.K X.w m2 G m2 (upd G D (DicO X.w D es)) st2 := .new n2.sto hG
  have n2' := n2.trans nG
  have hDm : D ∉ m2 := n2.sto.fresh hG
  by_cases hlt : i < xs.length
  · obtain ⟨go, yld⟩ := W.go i m2 _ st2 n2' ok2 hlt
    refine .inr ⟨go, fun H' => i + 1 ≤ xs.length ∧ ∃ m2 G st2 kvs es rest, H' = upd G D (DicO X.w D es) ∧ G D = none ∧ Nx X.K X.w m1 H1 m2 G st2 ∧ dep.ok st2 = true ∧ KvR X.K m2 G kvs es ∧ kvs.length ≤ i + 1 ∧
      compL dep (dcTurn t fk fv (wipeE env own)) (xs.drop (i + 1)) st2 = .ok rest stE ∧ putAll kvs rest = some l, fun H' z => ⟨xs.length - (i + 1), by omega, rfl, z⟩, fun x H3 y => ?_⟩
    obtain ⟨d, hd, n3, rdx⟩ := yld x H3 y
    have hdr : xs.drop i = d :: xs.drop (i + 1) := by
      have hi := (List.getElem?_eq_some_iff.mp hd).1
      rw [List.drop_eq_getElem_cons hi, (List.getElem?_eq_some_iff.mp hd).2]
    rw [hdr] at hrest
    obtain ⟨ov, st4, zs, hf, hok, hz, hr⟩ := compL_cons hrest
    unfold dcTurn at hf
    have E2 : EnvR X.K m2 H3 (wipe σ own) (wipeE env own) := envR_wipe ((E1.mono W.nx.sto n2'.ext n2'.fr).mono n2'.sto n3.ext n3.fr) own
    cases hb : bindP t d (wipeE env own) with
    | none => rw [hb] at hf; cases hf
    | some env4 =>
    rw [hb] at hf
    obtain ⟨kd, st5, hfk, hf⟩ := bind_ok hf
    obtain ⟨vd, st6, hfv, hf⟩ := bind_ok hf
    obtain ⟨rfl, rfl⟩ := ok_ok hf
    rw [hr] at hys
    obtain ⟨k, l1, hk, hp, hys⟩ := putAll_cons hys
    refine ⟨wipeE env own, env4, m2, st2, d, E2, n3.sto, rdx, hb, fun σ5 m5 H5 n5 E5 w5 => ⟨(w5 own hsub).trans (wipe_wipe own), ?_⟩⟩
    unfold tYes
    dsimp only
    rw [if_pos rfl]
    refine ⟨env4, m5, st2, kd, st5, E5, n5.sto, hfk, fun kv6 m6 H6 n6 r6 => ?_⟩
    refine ⟨env4, m6, st5, vd, st4, E5.mono n5.sto n6.ext n6.fr, n6.sto, hfv, fun v7 m7 H7 n7 r7 => ?_⟩
    have n37 := ((n3.trans n5).trans n6).trans n7
    have hD7 : H7 D = some (DicO X.w D es) := n37.fr D _ upd_same hDm
    have hDm7 : D ∉ m7 := n37.ext.out upd_same hDm
    have own7 : Own H7 D := fun o e => by rw [hD7] at e; cases e; exact ⟨(fun _ z => nomatch z), (fun _ _ z => nomatch z)⟩
    refine ⟨es, m7, kvs, kd, k, vd, hD7, (kv.mono n2.sto nG.ext nG.fr).mono n2'.sto n37.ext n37.fr, r6.mono n6.sto n7.ext n7.fr, hk, r7, by omega, fun o y z h => h.owned own7, fun es' kv' => ?_⟩
    refine ⟨hlt, m7, del H7 D, st4, dPut kvs kd k vd, es', zs, upd_del.symm, del_same, (n2'.trans n37).del hD own7 hDm7, hok, ?_, ?_, hz, ?_⟩
    · have own8 : Own (upd H7 D (DicO X.w D es')) D := fun o e => by rw [upd_same] at e; cases e; exact ⟨(fun _ z => nomatch z), (fun _ _ z => nomatch z)⟩
      have e8 : del (upd H7 D (DicO X.w D es')) D = del H7 D := by
        funext b
        by_cases hb : b = D
        · subst hb; rw [del_same, del_same]
        · rw [del_ne hb, del_ne hb, upd_ne hb]
      rw [← e8]
      exact ⟨Paired.mapP kv'.pr fun p q z => ⟨z.1, z.2.1, z.2.2.1.del own8, z.2.2.2.del own8⟩, kv'.nd⟩
    · have := dPut_len kvs kd k vd; omega
    · exact hys
  · have e : i = xs.length := by omega
    subst e
    rw [List.drop_length] at hrest
    obtain ⟨rfl, rfl⟩ := ok_ok (show R.ok [] st2 = .ok rest stE from hrest)
    have hys : kvs = l := by simpa [putAll, foldO] using hys
    subst hys
    refine .inl ⟨W.stop _ m2 _ _ n2' ok2 (Nat.le_refl _), ?_⟩
    obtain ⟨u1, u2, u3, u4⟩ := W.un m2 _ _ st3 n2' hu
    have hDn := W.nx.back S hD
    obtain ⟨lx, ex, hx⟩ := u1.ext
    refine ⟨_, u2, o _ (m2 ++ [D]) _ ⟨⟨lx ++ [D], by rw [ex, List.append_assoc], fun b hb => ?_⟩, sto_push' u1.sto hDm ⟨es, u4 D _ hDm upd_same, ?_⟩, u1.fr, u1.fz⟩ ⟨D, rfl, get_push u1.sto⟩ trivial⟩
    · rcases List.mem_append.mp hb with hb | hb
      · exact hx b hb
      · simp at hb; subst hb; exact hDn
    · have kv2 := kv.mono n2.sto nG.ext nG.fr
      exact ⟨Paired.mapP kv2.pr fun p q z => ⟨z.1, z.2.1, u3 _ _ z.2.2.1, u3 _ _ z.2.2.2⟩, kv2.nd⟩
theorem je_dc {t : Tp} {fi : Env → Store → R (List D0 × Dep)} {fk fv : Env → Store → R D0} {own : List (Str × Nat)} {kx vx tg iter : Expr} {scope : Scope} {pos : Pos} {f : Env → Store → R Sq} (hf : f = evDc t fi fk fv (own.map (·.2)))
    (hu : X.A.units + 64 < cLine) (hsub : ∀ i ∈ tpNames t, i ∈ own.map (·.2)) (hc : X.calm = true) (hN : X.N.Nodup) (hi : PI X tg iter (tI X fi)) (ok : BlkOk X.N X.env.scope scope own)
    (hg : ∀ (s : Shared) (H : Hp) (C : Addr) (cl : List (Str × Addr)) (fp : List Addr), PG (X.blk s H scope (compEnvC scope cl C X.env) fp) tg (tTp X t))
    (hk : ∀ (s : Shared) (H : Hp) (C : Addr) (cl : List (Str × Addr)) (fp : List Addr), PE (X.blk s H scope (compEnvC scope cl C X.env) fp) kx (tD0 X fk))
    (he : ∀ (s : Shared) (H : Hp) (C : Addr) (cl : List (Str × Addr)) (fp : List Addr), PE (X.blk s H scope (compEnvC scope cl C X.env) fp) vx (tD0 X fv)) (hs : ∀ x, foldedSetIterable iter X.env x = pure x) :
    PE X (.DictComp kx vx [⟨tg, iter, [], 0⟩] scope pos) (tX X f) := by
  subst hf
  exact (pe_re (pe_dx hu hc hN hi ok hg (fun _ _ _ _ _ => pts_nil) hk he hs)).imp fun σ H Q h => dc_read hsub h
end
end Eng
/-! E14: further expressions: truth, chains, if-expressions, subscripts, slices, stars, isinstance, attributes. -/
namespace Eng
open PySem PySem.Spec PyProof.Rows L2
section
variable {X : Cx} {σ : L2.St} {H : Hp}
/-- two parts, then an action -/
theorem tX_two {fa fb : Env → Store → R Sq} {g : Sq → Sq → Store → R Sq} {Q : VK} (h : tX X (fun env st => (fa env st).bind fun x st => (fb env st).bind fun y st => g x y st) σ H Q) :
    tX X fa σ H fun v H1 => tX X fb σ H1 fun u H2 => ∃ m st x y, StoR X.K X.w m st H2 ∧ RepQ X.K m H2 x v ∧ RepQ X.K m H2 y u ∧ Out X σ m H2 (g x y st) (KQ X Q m H2) := by
  obtain ⟨env, m, st, E, S, o⟩ := h
  refine ⟨env, m, st, E, S, (o.bind S mnQ).imp fun x st1 k v m1 H1 n r f => ?_⟩
  refine ⟨env, m1, st1, E.mono S n.ext n.fr, n.sto, ((k m1 H1 n).bind n.sto mnQ).imp fun y st2 k2 u m2 H2 n2 r2 f2 => ?_⟩
  exact ⟨m2, st2, x, y, n2.sto, r.mono n.sto n2, r2, k2 m2 H2 n2⟩
/-- one part, then an action with the names -/
theorem tX_one {fa : Env → Store → R Sq} {g : Sq → Env → Store → R Sq} {Q : VK} (h : tX X (fun env st => (fa env st).bind fun x st => g x env st) σ H Q) :
    tX X fa σ H fun v H1 => ∃ env m st x, EnvR X.K m H1 σ env ∧ StoR X.K X.w m st H1 ∧ RepQ X.K m H1 x v ∧ Out X σ m H1 (g x env st) (KQ X Q m H1) := by
  obtain ⟨env, m, st, E, S, o⟩ := h
  refine ⟨env, m, st, E, S, (o.bind S mnQ).imp fun x st1 k v m1 H1 n r f => ?_⟩
  exact ⟨env, m1, st1, x, E.mono S n.ext n.fr, n.sto, r, k m1 H1 n⟩
/-- .. a test -/
theorem tX_test {fa : Env → Store → R Sq} {g : Bool → Env → Store → R Sq} {Q : VK} (h : tX X (fun env st => (asB (fa env st)).bind fun x st => g x env st) σ H Q) : tBo X (fun env st => asB (fa env st)) σ H fun b H1 => tX X (g b) σ H1 Q := by
  obtain ⟨env, m, st, E, S, o⟩ := h
  refine ⟨env, m, st, E, S, (o.bind S mnQ).imp fun x st1 k m1 H1 n => ?_⟩
  exact ⟨env, m1, st1, E.mono S n.ext n.fr, n.sto, k m1 H1 n⟩
theorem tBo_test {fa : Env → Store → R Bool} {g : Bool → Env → Store → R Bool} {Q : Bool → Hp → Prop} (h : tBo X (fun env st => (fa env st).bind fun x st => g x env st) σ H Q) : tBo X fa σ H fun b H1 => tBo X (g b) σ H1 Q := by
  obtain ⟨env, m, st, E, S, o⟩ := h
  refine ⟨env, m, st, E, S, (o.bind S mnB).imp fun x st1 k m1 H1 n => ?_⟩
  exact ⟨env, m1, st1, E.mono S n.ext n.fr, n.sto, k m1 H1 n⟩
/-- a value that is a bool -/
theorem tX_asB {f : Env → Store → R Sq} {Q : Bool → Hp → Prop} (h : tBo X (fun env st => asB (f env st)) σ H Q) : tX X f σ H fun v H1 => ∃ b, v = .bl b ∧ Q b H1 := by
  obtain ⟨env, m, st, E, S, o⟩ := h
  refine ⟨env, m, st, E, S, ?_⟩
  dsimp only [asB] at o
  cases hf : f env st with
  | no => rw [hf] at o; exact o
  | ex x fs st' => rw [hf] at o; exact o
  | ok q st' =>
    rw [hf] at o
    intro v m' H' n r fr
    simp only [Eng.R.bind] at o
    split at o
    · exact ⟨_, r, o m' H' n⟩
    · exact o.elim
end

/-! ### truth -/
section
variable {X : Cx}
theorem jt_val {e : Expr} {f : Env → Store → R Sq} (h : PE X e (tX X f)) (he : plainT e = true) : PT X e (tBo X fun env st => asB (f env st)) := (pt_val h (test_plain he)).imp fun σ H Q q => tX_asB q
theorem jt_not {e : Expr} {pos : Pos} {fa : Env → Store → R Bool} {f : Env → Store → R Bool} (hf : f = fun env st => (fa env st).bind fun b st => .ok (!b) st) (h : PT X e (tBo X fa)) : PT X (.UnaryOp .Not e pos) (tBo X f) := by
  subst hf
  refine (pt_not h).imp fun σ H Q q => ?_
  refine tBo_mono (tBo_test (g := fun b _ st => .ok (!b) st) q) fun b H1 ⟨env, m, st, E, S, k⟩ => ?_
  exact k m H1 (.refl S)
theorem jw_and {a b : Expr} {rest : List Expr} {pos : Pos} {fa fb f : Env → Store → R Bool} (hf : f = fun env st => (fa env st).bind fun x st => if x then fb env st else .ok false st) (ha : PT X a (tBo X fa)) (hb : PW X (.BoolOp .And (b :: rest) pos) (tBo X fb)) : PW X (.BoolOp .And (a :: b :: rest) pos) (tBo X f) := by
  subst hf
  refine (pw_and ha hb).imp fun σ H Q q => ?_
  refine tBo_mono (tBo_test (g := fun x env st => if x then fb env st else .ok false st) q) fun x H1 q => ?_
  cases x with
  | true => rw [if_pos rfl]; simpa using q
  | false =>
    rw [if_neg (by decide)]
    obtain ⟨env, m, st, E, S, k⟩ := q
    exact (show KB X Q m H1 false st from by simpa [Out, val] using k) m H1 (.refl S)
theorem jw_or {a b : Expr} {rest : List Expr} {pos : Pos} {fa fb f : Env → Store → R Bool} (hf : f = fun env st => (fa env st).bind fun x st => if x then .ok true st else fb env st) (ha : PT X a (tBo X fa)) (hb : PW X (.BoolOp .Or (b :: rest) pos) (tBo X fb)) : PW X (.BoolOp .Or (a :: b :: rest) pos) (tBo X f) := by
  subst hf
  refine (pw_or ha hb).imp fun σ H Q q => ?_
  refine tBo_mono (tBo_test (g := fun x env st => if x then .ok true st else fb env st) q) fun x H1 q => ?_
  cases x with
  | false => rw [if_neg (by decide)]; simpa using q
  | true =>
    rw [if_pos rfl]
    obtain ⟨env, m, st, E, S, k⟩ := q
    exact (show KB X Q m H1 true st from by simpa [Out, val] using k) m H1 (.refl S)
theorem je_not {e : Expr} {pos : Pos} {fa f : Env → Store → R Sq} (hf : f = fun env st => (asB (fa env st)).bind fun b st => val (.bl (!b)) st) (h : PE X e (tX X fa)) : PE X (.UnaryOp .Not e pos) (tX X f) := by
  subst hf
  refine (pe_not h).imp fun σ H Q q => ?_
  refine tX_mono (tX_asB (tX_test (g := fun b _ st => val (.bl (!b)) st) q)) fun v H1 ⟨b, e, env, m, st, E, S, k⟩ => ?_
  exact ⟨b, e, KQ.val S k rfl⟩
theorem je_and {a b : Expr} {rest : List Expr} {pos : Pos} {fa fb f : Env → Store → R Sq} (hf : f = fun env st => (asB (fa env st)).bind fun x st => if x then fb env st else val (.bl false) st) (ha : PE X a (tX X fa)) (hb : PE X (.BoolOp .And (b :: rest) pos) (tX X fb)) : PE X (.BoolOp .And (a :: b :: rest) pos) (tX X f) := by
  subst hf
  refine (pe_and ha hb).imp fun σ H Q q => ?_
  refine tX_mono (tX_asB (tX_test (g := fun x env st => if x then fb env st else val (.bl false) st) q)) fun v H1 ⟨c, e, q⟩ => ⟨c, e, ?_⟩
  cases c with
  | true => rw [if_pos rfl]; simpa using q
  | false =>
    rw [if_neg (by decide)]
    obtain ⟨env, m, st, E, S, k⟩ := q
    exact KQ.val S (show KQ X Q m H1 (.val (.bl false)) st from by simpa [Out, val] using k) rfl
theorem je_or {a b : Expr} {rest : List Expr} {pos : Pos} {fa fb f : Env → Store → R Sq} (hf : f = fun env st => (asB (fa env st)).bind fun x st => if x then val (.bl true) st else fb env st) (ha : PE X a (tX X fa)) (hb : PE X (.BoolOp .Or (b :: rest) pos) (tX X fb)) : PE X (.BoolOp .Or (a :: b :: rest) pos) (tX X f) := by
  subst hf
  refine (pe_or ha hb).imp fun σ H Q q => ?_
  refine tX_mono (tX_asB (tX_test (g := fun x env st => if x then val (.bl true) st else fb env st) q)) fun v H1 ⟨c, e, q⟩ => ⟨c, e, ?_⟩
  cases c with
  | false => rw [if_neg (by decide)]; simpa using q
  | true =>
    rw [if_pos rfl]
    obtain ⟨env, m, st, E, S, k⟩ := q
    exact KQ.val S (show KQ X Q m H1 (.val (.bl true)) st from by simpa [Out, val] using k) rfl
theorem je_ite {c a b : Expr} {pos : Pos} {fc fa fb f : Env → Store → R Sq} (hf : f = fun env st => (asB (fc env st)).bind fun x st => if x then fa env st else fb env st) (hc : PT X c (tBo X fun env st => asB (fc env st))) (ha : PE X a (tX X fa)) (hb : PE X b (tX X fb)) : PE X (.IfExp c a b pos) (tX X f) := by
  subst hf
  refine (pe_ifExp hc ha hb).imp fun σ H Q q => ?_
  refine tBo_mono (tX_test (g := fun x env st => if x then fa env st else fb env st) q) fun x H1 q => ?_
  cases x with
  | true => rw [if_pos rfl]; simpa using q
  | false => rw [if_neg (by decide)]; simpa using q

/-! ### operators -/
theorem je_bin {op : Operator} {g : Sq → Sq → Store → R Sq} {a b : Expr} {pos : Pos} {fa fb f : Env → Store → R Sq} (hf : f = fun env st => (fa env st).bind fun x st => (fb env st).bind fun y st => g x y st) (hg : NoEx2 g) (ho : OpR X (binaryOp op) (rG X g)) (ha : PE X a (tX X fa)) (hb : PE X b (tX X fb)) : PE X (.BinOp a op b pos) (tX X f) := by
  subst hf
  exact (pe_op ho ha hb).imp fun σ H Q q => tX_bin hg q
theorem je_un {op : UnaryOp} {g : Sq → Store → R Sq} {a : Expr} {pos : Pos} {fa f : Env → Store → R Sq} (hf : f = fun env st => (fa env st).bind fun x st => g x st) (hg : NoEx1 g) (ho : UnR X (unaryOp op) (rG1 X g)) (ha : PE X a (tX X fa)) : PE X (.UnaryOp op a pos) (tX X f) := by
  subst hf
  exact (pe_un ho ha).imp fun σ H Q q => tX_un hg q
theorem je_cmp {op : CmpOp} {g : Sq → Sq → Store → R Sq} {a b : Expr} {pos : Pos} {fa fb f : Env → Store → R Sq} (hf : f = fun env st => (fa env st).bind fun x st => (fb env st).bind fun y st => g x y st) (hg : NoEx2 g) (ho : OpR X (compareOp op) (rG X g)) (ha : PE X a (tX X fa)) (hb : PE X b (tX X fb)) (hm : noMark b = true) : PE X (.Compare a [op] [b] pos) (tX X f) := by
  subst hf
  exact (pe_cmpR ho ha hb (mark_plain hm)).imp fun σ H Q q => tX_bin hg q
theorem jt_cmp {op : CmpOp} {g : Sq → Sq → Store → R Sq} {a b : Expr} {pos : Pos} {fa fb f : Env → Store → R Sq} (hf : f = fun env st => (fa env st).bind fun x st => (fb env st).bind fun y st => g x y st) (hg : NoEx2 g) (ho : OpR X (compareOp op) (rG X g)) (ha : PE X a (tX X fa)) (hb : PE X b (tX X fb)) (hm : noMark b = true) : PT X (.Compare a [op] [b] pos) (tBo X fun env st => asB (f env st)) := by
  subst hf
  exact (pt_cmpR ho ha hb (mark_plain hm)).imp fun σ H Q q => tX_bin hg (tX_asB q)
def cmpI : Cop → Int → Int → Bool
  | .lt, i, j => decide (i < j)
  | _, i, j => decide (i ≤ j)
/-- the rule of < or of <= -/
def ltle (o : Cop) : CmpOp := match o with
  | .lt => .Lt
  | _ => .LtE
theorem op_ltle (o : Cop) : OpR X (compareOp (ltle o)) (rI0 fun i j => .bl (cmpI o i j)) := by
  cases o <;> first | exact op_lt | exact op_le
theorem intCmp_is {o : Cop} {i j : Int} {b : Bool} (h : intCmp o i j = some b) : b = cmpI o i j := by
  cases o <;> simp [intCmp] at h <;> simp [cmpI, h]
theorem chain_read {o p : Cop} {fa fb fc : Env → Store → R Sq} {σ : L2.St} {H : Hp} {Q : VK} (h : tX X (fun env st => (fa env st).bind fun x st => (fb env st).bind fun y st => match x, y with
    | .val (.int i), .val (.int j) => match intCmp o i j with
      | some true => (fc env st).bind fun z st => match z with
        | .val (.int k) => (opt (intCmp p j k) st).bind fun r st => val (.bl r) st
        | _ => .no
      | some false => val (.bl false) st
      | none => .no
    | _, _ => .no) σ H Q) : tChain (rI0 fun i j => .bl (cmpI o i j)) (rI0 fun i j => .bl (cmpI p i j)) (tX X fa) (tX X fb) (tX X fc) σ H Q := by
  obtain ⟨env, m, st, E, S, o1⟩ := h
  refine ⟨env, m, st, E, S, (o1.bind S mnQ).imp fun x st1 k v m1 H1 n r f => ?_⟩
  refine ⟨env, m1, st1, E.mono S n.ext n.fr, n.sto, ((k m1 H1 n).bind n.sto mnQ).imp fun y st2 k2 u m2 H2 n2 r2 f2 => ?_⟩
  replace k2 := k2 m2 H2 n2
  split at k2 <;> try exact k2.elim
  rename_i i j
  have rv : v = V.int i := r
  have ru : u = V.int j := r2
  subst rv ru
  refine ⟨i, j, rfl, rfl, _, rfl, ?_⟩
  split at k2
  · next hh =>
    rw [← intCmp_is hh, if_pos rfl]
    refine ⟨env, m2, st2, (E.mono S n.ext n.fr).mono n.sto n2.ext n2.fr, n2.sto, (k2.bind n2.sto mnQ).imp fun z st3 k3 w' m3 H3 n3 r3 f3 => ?_⟩
    replace k3 := k3 m3 H3 n3
    split at k3 <;> try exact k3.elim
    rename_i kk
    have rw' : w' = V.int kk := r3
    subst rw'
    cases hp : intCmp p j kk with
    | none => rw [hp] at k3; exact k3.elim
    | some b =>
      rw [hp] at k3
      refine ⟨j, kk, rfl, rfl, ?_⟩
      show Q (V.bl (cmpI p j kk)) H3
      rw [← intCmp_is hp]
      exact KQ.val n3.sto k3 rfl
  · next hh =>
    rw [← intCmp_is hh, if_neg (by decide)]
    exact KQ.val n2.sto k2 rfl
  · exact k2.elim

/-! ### what raises nothing -/
theorem opt_noex {α β : Type} {o : Option α} {st : Store} {f : α → Store → R β} {x : String} {fs : Fs} {s : Store} (hf : ∀ a, f a st ≠ .ex x fs s) : (opt o st).bind f ≠ .ex x fs s := by
  cases o with
  | none => exact fun z => nomatch z
  | some a => exact hf a
theorem ite_noex {α : Type} {c : Prop} [Decidable c] {r : R α} {x : String} {fs : Fs} {s : Store} (h : r ≠ .ex x fs s) : (if c then r else .no) ≠ .ex x fs s := by
  by_cases hc : c
  · rw [if_pos hc]; exact h
  · rw [if_neg hc]; exact fun z => nomatch z
theorem val_noex {d : D} {st : Store} {x : String} {fs : Fs} {s : Store} : val d st ≠ .ex x fs s := fun z => nomatch z
theorem idx_noex {a : Sq} {i : D} {st : Store} {x : String} {fs : Fs} {s : Store} : ¬ idxV a i st = .ex x fs s := by
  unfold idxV
  split
  · exact opt_noex fun _ => val_noex
  · split
    · split
      · exact opt_noex fun _ => val_noex
      · exact fun z => nomatch z
    · exact fun z => nomatch z
  · exact fun z => nomatch z
theorem noex_bin (o : Bop) : NoEx2 (binop o) := by
  intro x y st e fs st'
  unfold binop
  split <;> first
    | exact val_noex
    | exact ite_noex val_noex
    | (split <;> first | exact ite_noex (fun z => nomatch z) | exact fun z => nomatch z)
    | exact fun z => nomatch z
theorem noex_neg : NoEx1 negV := by
  intro x st e fs st'
  unfold negV
  split <;> first | exact val_noex | exact fun z => nomatch z
/-! ### subscripts, slices -/
theorem je_idx {a b : Expr} {pos : Pos} {fa fb f : Env → Store → R Sq} (hf : f = fun env st => (fa env st).bind fun x st => (asD (fb env st)).bind fun k st => idxV x k st) (hu : X.A.units + 64 < cLine) (ha : PE X a (tX X fa)) (hb : PE X b (tX X fb)) (hs : noSlice b = true) : PE X (.Subscript a b pos) (tX X f) := by
  subst hf
  refine (pe_ix (ix_G hu) ha hb (ix_plain hs)).imp fun σ H Q h => ?_
  obtain ⟨env, m, st, E, S, o⟩ := h
  refine ⟨env, m, st, E, S, (o.bind S mnQ).imp fun x st1 k v m1 H1 n r f => ?_⟩
  have k := k m1 H1 n
  refine ⟨env, m1, st1, E.mono S n.ext n.fr, n.sto, ?_⟩
  cases hq : fb env st1 with
  | no => rw [hq] at k; exact k
  | ex e fs s => rw [hq] at k; exact k
  | ok y st2 =>
    rw [hq] at k
    intro u m2 H2 n2 r2 f2
    cases y with
    | fresh ys =>
      exfalso
      simp only [asD, settle, Eng.R.bind] at k
      unfold idxV at k
      split at k
      · next h1 h2 => cases h2
      · split at k
        · split at k
          · next h1 h2 => simp [D.key, D.nk] at h2
          · exact k
        · exact k
      · exact k
    | val d =>
      simp only [asD, settle, Eng.R.bind] at k
      cases hi : idxV x d st2 with
      | no => rw [hi] at k; exact k.elim
      | ex e fs s => exact (idx_noex hi).elim
      | ok q st' =>
        rw [hi] at k
        exact ⟨m2, st2, x, .val d, q, st', n2.sto, r.mono n.sto n2, r2, hi, mnQ m1 H1 st1 m2 H2 st2 q st' n.sto n2 k⟩
/-! ### slices -/
def evPart (fo : Option (Env → Store → R Sq)) : Env → Store → R (Option D) := fun env st => match fo with
  | none => .ok none st
  | some fe => (asD (fe env st)).bind fun d st => match d with
    | .int _ => .ok (some d) st
    | _ => .no
/-- what stands at a bound -/
def tPartO (X : Cx) : Option (Env → Store → R Sq) → TO
  | none => tNoPart
  | some fe => tPart (tD X fun env st => asD (fe env st))
theorem slc_noex {a : Sq} {l h : Option D} {st : Store} {x : String} {fs : Fs} {s : Store} : ¬ slcV a l h st = .ex x fs s := by
  unfold slcV
  split
  · split
    · exact val_noex
    · split <;> exact fun z => nomatch z
  · exact fun z => nomatch z
theorem je_slc {a : Expr} {lo hi : Option Expr} {p2 pos : Pos} {fa f : Env → Store → R Sq} {fl fh : Option (Env → Store → R Sq)} (hf : f = fun env st => (fa env st).bind fun x st => (evPart fl env st).bind fun l st => (evPart fh env st).bind fun h st => slcV x l h st)
    (ha : PE X a (tX X fa)) (hl : PO X lo (tPartO X fl)) (hh : PO X hi (tPartO X fh)) : PE X (.Subscript a (.Slice lo hi none p2) pos) (tX X f) := by
  subst hf
  refine (pe_slice sl_G ha hl hh).imp fun σ H Q h => ?_
  -- the three parts, one behind another
  have part : ∀ (fo : Option (Env → Store → R Sq)) (g : Option D → Env → Store → R Sq) (env : Env) (m : List Addr) (st : Store) (H : Hp) (T : Option Int → Hp → Prop), EnvR X.K m H σ env → StoR X.K X.w m st H → Out X σ m H ((evPart fo env st).bind fun l st => g l env st) (KQ X Q m H) →
      (∀ lo l m1 H1 st1, ioD l = some lo → Nx X.K X.w m H m1 H1 st1 → Out X σ m1 H1 (g l env st1) (KQ X Q m1 H1) → T lo H1) → tPartO X fo σ H T := fun fo g env m st H T E S o k => by
    cases fo with
    | none => exact k none none m H st rfl (.refl S) o
    | some fe =>
      refine ⟨env, m, st, E, S, ?_⟩
      dsimp only [evPart] at o ⊢
      cases hq : asD (fe env st) with
      | no => rw [hq] at o; exact o
      | ex e fs s => rw [hq] at o; exact o
      | ok d st1 =>
        rw [hq] at o
        intro v m1 H1 n r
        simp only [Eng.R.bind] at o
        cases d with
        | int i => exact ⟨i, r, k (some i) (some (.int i)) m1 H1 st1 rfl n (Out.later (r := g (some (.int i)) env st1) (P := KQ X Q) S n mnQ o)⟩
        | _ => exact o.elim
  obtain ⟨env, m, st, E, S, o⟩ := h
  refine ⟨env, m, st, E, S, (o.bind S mnQ).imp fun x st1 k v m1 H1 n r f => ?_⟩
  refine part fl (fun l env st => (evPart fh env st).bind fun h st => slcV x l h st) env m1 st1 H1 _ (E.mono S n.ext n.fr) n.sto (k m1 H1 n) fun lo l m2 H2 st2 hl n2 o2 => ?_
  refine part fh (fun h _ st => slcV x l h st) env m2 st2 H2 _ ((E.mono S n.ext n.fr).mono n.sto n2.ext n2.fr) n2.sto o2 fun hi h m3 H3 st3 hh n3 o3 => ?_
  cases hq : slcV x l h st3 with
  | no => rw [hq] at o3; exact o3.elim
  | ex e fs s => exact (slc_noex hq).elim
  | ok q st' =>
    rw [hq] at o3
    exact ⟨m3, st3, x, l, h, q, st', n3.sto, r.mono n.sto (n2.trans n3), hl, hh, hq, o3⟩
end
end Eng
/-! E15: dicts of texts and ints, read the library's way. -/
namespace Eng
open PySem PySem.Spec PyProof.Rows L2
def nkK : Key → NestedKey
  | .inl i => .num i
  | .inr s => .text s
def toE (kvs : List (Key × V)) : List (NestedKey × V × V) := kvs.map fun kv => (nkK kv.1, kV kv.1, kv.2)
theorem nkK_inj {a b : Key} (h : nkK a = nkK b) : a = b := by
  cases a <;> cases b <;> simp [nkK] at h <;> rw [h]
theorem nkK_hash {w : World} (k : Key) : (nkK k).hash w = keyH w k := by cases k <;> rfl
theorem dk_pairs {P : Program} {w : World} : ∀ {kvs : List (Key × V)} {vs : List (Key × Value)} {es : List DictEntry}, KV kvs vs → Pairs (mixKind P w) es vs → (∀ e ∈ es, ∃ k, keyIs k e.key = true ∧ e.hash = keyH w k) → Paired (EntR w) (toE kvs) es
  | [], [], [], _, _, _ => .nil
  | kv :: kvs, q :: vs, e :: es, .cons a b, .cons h1 h2 h3, hk => by
    refine .cons ⟨?_, ?_, ?_⟩ (dk_pairs b h3 fun e he => hk e (List.mem_cons_of_mem _ he))
    · obtain ⟨k', z1, z2⟩ := hk e List.mem_cons_self
      have h1' : keyIs q.1 e.key = true := h1
      have : k' = q.1 := (mixKind P w).inj _ _ _ z1 h1'
      subst this
      rw [z2, ← nkK_hash]
      show _ = (nkK kv.1).hash w
      rw [a.1]
    · show RelV (kV kv.1) e.key
      rw [a.1]
      exact relV_key h1
    · show RelV kv.2 e.val
      rw [h2]
      exact a.2
  | _ :: _, [], _, h, _, _ => nomatch h
  | [], _ :: _, _, h, _, _ => nomatch h
  | _, [], _ :: _, _, h, _ => nomatch h
  | _, _ :: _, [], _, h, _ => nomatch h
theorem dk_ext {P : Program} {w : World} {H : Hp} {h : Heap} {a : Addr} {kvs : List (Key × V)} (x : ObjOk P w H h a (.dK kvs)) : DicP w a (toE kvs) h := by
  obtain ⟨z, hd, vs, rel, o, es, ep, ho, hc, hdat, hk, hp, hn⟩ := x
  refine ⟨hd, by simpa [toE] using z, o, es, ep, ho, hc, hdat, dk_pairs rel hp fun e he => ?_⟩
  obtain ⟨k, z1, z2⟩ := hk e (by simpa using he)
  exact ⟨k, z1, z2⟩
theorem ext_pairs {P : Program} {w : World} : ∀ {kvs : List (Key × V)} {es : List DictEntry}, Paired (EntR w) (toE kvs) es → ∃ vs, KV kvs vs ∧ Pairs (mixKind P w) es vs ∧ ∀ e ∈ es, ∃ k, keyIs k e.key = true ∧ e.hash = keyH w k
  | [], [], _ => ⟨[], .nil, .nil, by simp⟩
  | kv :: kvs, e :: es, .cons a b => by
    obtain ⟨vs, z1, z2, z3⟩ := ext_pairs b
    have hk : keyIs kv.1 e.key = true := kV_is (P := P) (w := w) a.2.1
    refine ⟨(kv.1, e.val) :: vs, .cons ⟨rfl, a.2.2⟩ z1, .cons hk rfl z2, fun x hx => ?_⟩
    rcases List.mem_cons.mp hx with rfl | hx
    · exact ⟨kv.1, hk, by rw [a.1]; exact nkK_hash _⟩
    · exact z3 x hx
theorem toE_keys (kvs : List (Key × V)) : (toE kvs).map (·.1) = (kvs.map (·.1)).map nkK := by simp [toE, Function.comp_def]
theorem nodup_key {kvs : List (Key × V)} (h : ((toE kvs).map (·.1)).Nodup) : (kvs.map (·.1)).Nodup := by
  rw [toE_keys] at h
  refine List.Pairwise.imp ?_ (List.pairwise_map.mp h)
  intro x y hxy e
  exact hxy (by rw [e])
theorem ext_dk {P : Program} {w : World} {H : Hp} {h : Heap} {a : Addr} {kvs : List (Key × V)} (x : DicP w a (toE kvs) h) (nd : ((toE kvs).map (·.1)).Nodup) : ObjOk P w H h a (.dK kvs) := by
  obtain ⟨hd, z, o, es, ep, ho, hc, hdat, p⟩ := x
  obtain ⟨vs, z1, z2, z3⟩ := ext_pairs (P := P) p
  refine ⟨by simpa [toE] using z, hd, vs, z1, o, es, ep, ho, hc, hdat, fun e he => ?_, z2, ?_⟩
  · obtain ⟨k, a, b⟩ := z3 e (by simpa using he)
    exact ⟨k, a, b⟩
  · rw [← z1.keys]
    exact nodup_key nd
section
variable {X : Cx} {m : List Addr} {H : Hp} {st : Store} {a : Addr}
theorem re_write {u u' : HO} (h : H a = some u) (mu : Mut (some u)) (new : ∀ h' : Heap, ObjOk X.prog X.w H h' a u → ObjOk X.prog X.w (upd H a u') h' a u') : Re X H (upd H a u') := by
  intro pins σ s I
  have x := I.hok a u h
  obtain ⟨od, e⟩ := objOk_get x
  exact I.write (x := a) (e := a) (t' := s.toks) (h' := s.heap) (by rw [h]; exact mu) (.inl rfl) (fun b v _ q => q) ⟨od, e⟩ (new _ x)
theorem re_dk {kvs : List (Key × V)} (h : H a = some (.dK kvs)) : Re X H (upd H a (DicO X.w a (toE kvs))) := re_write h trivial fun _ x => dicO_ok (dk_ext x)
theorem re_ext {kvs : List (Key × V)} (h : H a = some (DicO X.w a (toE kvs))) (nd : ((toE kvs).map (·.1)).Nodup) : Re X H (upd H a (.dK kvs)) := re_write h trivial fun _ x => ext_dk (dicO_at x) nd
/-- a dict of texts and ints -/
theorem keyed {K : PySem.W.Frag} : ∀ {kvs : List (D0 × D0)} {es : List (NestedKey × V × V)}, Paired (fun (p : D0 × D0) (e : NestedKey × V × V) => p.1.nk = some e.1 ∧ e.1.depth ≤ 8 ∧ Rep K m H p.1 e.2.1 ∧ Rep K m H p.2 e.2.2) kvs es → kvs.all (fun p => isKeyD p.1) = true → ∃ ks : List (Key × V), es = toE ks
  | [], [], _, _ => ⟨[], rfl⟩
  | p :: kvs, e :: es, .cons h b, ha => by
    simp only [List.all_cons, Bool.and_eq_true] at ha
    obtain ⟨ks, rfl⟩ := keyed b ha.2
    obtain ⟨h1, h2, h3, h4⟩ := h
    obtain ⟨pk, pv⟩ := p
    obtain ⟨ek, ekv, ev⟩ := e
    dsimp only at h1 h2 h3 h4 ha
    cases pk <;> simp only [isKeyD, Bool.false_eq_true, false_and] at ha
    · simp only [D.nk, Option.some.injEq] at h1
      subst h1
      obtain rfl : ekv = _ := h3
      exact ⟨(.inl _, ev) :: ks, rfl⟩
    · simp only [D.nk, Option.some.injEq] at h1
      subst h1
      obtain rfl : ekv = _ := h3
      exact ⟨(.inr _, ev) :: ks, rfl⟩
/-- dict(d), read: the dict's copy -/
theorem dict_read {v : V} {H : Hp} {Q : VK} (h : rG1 X (bfV .dict) v H Q) : ∃ (a : Addr) (ks : List (Key × V)) (H0 : Hp), v = .ref a ∧ Re X H H0 ∧ H0 a = some (.dK ks) ∧ ∀ p, H0 p = none → ∃ H', Re X (upd H0 p (.dK ks)) H' ∧ Q (.ref p) H' := by
  obtain ⟨m, st, x, q, st', S, rx, e, k⟩ := h
  simp only [bfV] at e
  split at e <;> try contradiction
  next i =>
  split at e <;> try contradiction
  next kvs hi =>
  obtain ⟨ha, e⟩ := ite_ok e
  obtain ⟨rfl, rfl⟩ := ok_ok e
  obtain ⟨a, rfl, hm⟩ := rx
  obtain ⟨es, h1, h2⟩ := S.at_ i a _ hm hi
  obtain ⟨ks, rfl⟩ := keyed h2.pr ha
  have ham := List.mem_of_getElem? hm
  refine ⟨a, ks, upd H a (.dK ks), rfl, re_ext h1 h2.nd, upd_same, fun p hp => ?_⟩
  have hpa : p ≠ a := fun e => by rw [e, upd_same] at hp; cases hp
  have hpn : H p = none := by rwa [upd_ne hpa] at hp
  -- back again, both
  refine ⟨upd H p (DicO X.w p (toE ks)), ?_, ?_⟩
  · have e1 : upd (upd (upd H a (.dK ks)) p (.dK ks)) p (DicO X.w p (toE ks)) = upd (upd H p (DicO X.w p (toE ks))) a (.dK ks) := by
      rw [upd_upd]
      funext b
      by_cases hb : b = p
      · subst hb; rw [upd_same, upd_ne hpa, upd_same]
      · rw [upd_ne hb]
        by_cases hba : b = a
        · subst hba; rw [upd_same, upd_same]
        · rw [upd_ne hba, upd_ne hba, upd_ne hb]
    have e2 : upd (upd (upd H p (DicO X.w p (toE ks))) a (.dK ks)) a (DicO X.w a (toE ks)) = upd H p (DicO X.w p (toE ks)) := by
      rw [upd_upd]
      funext b
      by_cases hba : b = a
      · subst hba; rw [upd_same, upd_ne (Ne.symm hpa), h1]
      · rw [upd_ne hba]
    have r1 : Re X (upd (upd H a (.dK ks)) p (.dK ks)) (upd (upd H p (DicO X.w p (toE ks))) a (.dK ks)) := by rw [← e1]; exact re_dk upd_same
    have r2 : Re X (upd (upd H p (DicO X.w p (toE ks))) a (.dK ks)) (upd H p (DicO X.w p (toE ks))) := by
      have := re_dk (X := X) (H := upd (upd H p (DicO X.w p (toE ks))) a (.dK ks)) (a := a) upd_same
      rwa [e2] at this
    exact fun pins σ s I => r2 _ _ _ (r1 _ _ _ I)
  · have n : Nx X.K X.w m H m (upd H p (DicO X.w p (toE ks))) st := .new S hpn
    have hpm : p ∉ m := S.fresh hpn
    refine k _ (m ++ [p]) _ ⟨⟨[p], rfl, fun b hb => by simp at hb; subst hb; exact hpn⟩, sto_push' n.sto hpm ⟨_, upd_same, h2.mono S n.ext n.fr⟩, n.fr, n.fz⟩ ⟨p, rfl, get_push S⟩ trivial
theorem je_dictC {e : Expr} {p pos : Pos} {fa f : Env → Store → R Sq} (hf : f = fun env st => (fa env st).bind fun x st => bfV .dict x st) (hg : Gl X "dict") (hm : X.mg "dict" = none) (hs : noStar e = true) (he : PE X e (tX X fa)) (hne : NoEx1 (bfV .dict)) : PE X (.Call (.Name "dict" p) [e] [] pos) (tX X f) := by
  subst hf
  have r : CallR X (.type "dict") (fun xs H Q => ∃ (a : Addr) (ks : List (Key × V)) (H0 : Hp), xs = [.ref a] ∧ Re X H H0 ∧ H0 a = some (.dK ks) ∧ ∀ p, H0 p = none → Q (.ref p) (upd H0 p (.dK ks))) := by
    rintro pins s σ H xs us Q I rs ⟨a, ks, H0, rfl, re, h0, q⟩
    exact call_dictD pins s σ H0 _ us Q (re _ _ _ I) rs ⟨a, ks, rfl, .inl h0, q⟩
  refine (pe_re (pe_callTy r hg hm (by rfl) (pa_cons he pa_nil (star_plain hs)) (by decide) (by decide) (star_plain hs) rfl)).imp fun σ H Q h => ?_
  refine tX_mono (tX_un hne h) fun v H1 h1 => ?_
  obtain ⟨a, ks, H0, rfl, re, h0, q⟩ := dict_read h1
  exact ⟨a, ks, H0, rfl, re, h0, q⟩
end
end Eng
/-! E16: dict displays; calls of builtins; isinstance; stars. -/
namespace Eng
open PySem PySem.Spec PyProof.Rows L2
section
variable {X : Cx} {m : List Addr} {H : Hp} {st : Store} {a : Addr}
/-- keys and values, one after another -/
def RepPs (K : PySem.W.Frag) (m : List Addr) (H : Hp) (ps : List (D0 × D0)) (vs : List (V × V)) : Prop := Paired (fun (p : D0 × D0) (q : V × V) => Rep K m H p.1 q.1 ∧ Rep K m H p.2 q.2) ps vs
def KPs (X : Cx) (Q : List (V × V) → Hp → Prop) : Ps (List (D0 × D0)) := fun m H ps st' => ∀ vs m' H', Nx X.K X.w m H m' H' st' → RepPs X.K m' H' ps vs → Q vs H'
theorem mnPs {Q : List (V × V) → Hp → Prop} : Mn X (KPs X Q) := fun m H st m1 H1 st1 q st' S n k vs m' H' n' r => k vs m' H' (n.trans n') r
theorem RepPs.mono {K : PySem.W.Frag} {w : World} {m1 : List Addr} {H1 : Hp} {st1 : Store} {ps : List (D0 × D0)} {vs : List (V × V)} (S : StoR K w m st H) (n : Nx K w m H m1 H1 st1) (r : RepPs K m H ps vs) : RepPs K m1 H1 ps vs := Paired.mapP r fun a b z => ⟨z.1.mono S n.ext n.fr, z.2.mono S n.ext n.fr⟩
def tPs (X : Cx) (f : Env → Store → R (List (D0 × D0))) : L2.St → Hp → (List (V × V) → Hp → Prop) → Prop := fun σ H Q => ∃ env m st, EnvR X.K m H σ env ∧ StoR X.K X.w m st H ∧ Out X σ m H (f env st) (KPs X Q m H)
/-- the pairs of a display -/
structure JPs (X : Cx) (pos : Pos) (keys : List (Option Expr)) (values : List Expr) (f : Env → Store → R (List (D0 × D0))) : Prop where
  ex : ∃ trs, PPs X pos keys values trs ∧ ∀ σ H Q, tPs X f σ H Q → tPairs trs σ H Q
theorem jps_nil {pos : Pos} : JPs X pos [] [] fun _ st => .ok [] st := ⟨[], pps_nil, fun σ H Q ⟨env, m, st, E, S, k⟩ => k [] m H (.refl S) .nil⟩
theorem jps_cons {pos : Pos} {k v : Expr} {ks : List (Option Expr)} {vs : List Expr} {fk fv : Env → Store → R D0} {fs f : Env → Store → R (List (D0 × D0))} (hf : f = fun env st => (fk env st).bind fun a st => (fv env st).bind fun b st => (fs env st).bind fun ds st => .ok ((a, b) :: ds) st)
    (hk : PE X k (tD X fk)) (hv : PE X v (tD X fv)) (hs : JPs X pos ks vs fs) : JPs X pos (some k :: ks) (v :: vs) f := by
  subst hf
  obtain ⟨trs, h1, h2⟩ := hs.ex
  refine ⟨_, pps_cons hk hv h1, fun σ H Q h => ?_⟩
  obtain ⟨env, m, st, E, S, o⟩ := h
  refine ⟨env, m, st, E, S, (o.bind S mnPs).imp fun a st1 ka v1 m1 H1 n1 r1 => ?_⟩
  have E1 := E.mono S n1.ext n1.fr
  refine ⟨env, m1, st1, E1, n1.sto, ((ka m1 H1 n1).bind n1.sto mnPs).imp fun b st2 kb v2 m2 H2 n2 r2 => ?_⟩
  have E2 := E1.mono n1.sto n2.ext n2.fr
  refine h2 σ H2 _ ⟨env, m2, st2, E2, n2.sto, ((kb m2 H2 n2).bind n2.sto mnPs).imp fun ds st3 kd v3 m3 H3 n3 r3 => ?_⟩
  exact kd m3 H3 n3 ((v1, v2) :: v3) m3 H3 (.refl n3.sto) (.cons ⟨(r1.mono n1.sto n2.ext n2.fr).mono n2.sto n3.ext n3.fr, r2.mono n2.sto n3.ext n3.fr⟩ r3)
/-- the library's store and ours -/
theorem put_ext {K : PySem.W.Frag} {acc : List (D0 × D0)} {accK : List (Key × V)} {kd x : D0} {k : NestedKey} {ky : Key} {v : V} (r : KvR K m H acc (toE accK)) (hk : kd.key = some k) (hn : nkK ky = k) (rk : Rep K m H kd (kV ky)) (rx : Rep K m H x v) : KvR K m H (dPut acc kd k x) (toE (putK accK ky v)) := by
  obtain ⟨h1, h8⟩ := key_nk hk
  have look : ∀ {acc : List (D0 × D0)} {es : List (NestedKey × V × V)}, Paired (fun (p : D0 × D0) (e : NestedKey × V × V) => p.1.nk = some e.1 ∧ e.1.depth ≤ 8 ∧ Rep K m H p.1 e.2.1 ∧ Rep K m H p.2 e.2.2) acc es → ((dLook acc k).isSome = true ↔ k ∈ es.map (·.1)) := fun {acc es} h => by
    induction h with
    | nil => simp [dLook]
    | @cons p e l1 l2 a b ih =>
      unfold dLook at ih ⊢
      rw [List.find?_cons, List.map_cons, List.mem_cons]
      by_cases c : p.1.nk = some k
      · have : k = e.1 := by rw [a.1] at c; exact (Option.some.inj c).symm
        simp [c, this]
      · have : ¬ k = e.1 := fun z => c (by rw [a.1, z])
        simp only [c, decide_false, this, false_or]
        exact ih
  have hl := look r.pr
  unfold dPut putK
  by_cases hc : (accK.any fun kv => decide (kv.1 = ky)) = true
  · have hm : k ∈ (toE accK).map (·.1) := by
      rw [toE_keys, ← hn]
      obtain ⟨kv, h2, h3⟩ := List.any_eq_true.mp hc
      exact List.mem_map_of_mem (List.mem_map.mpr ⟨kv, h2, of_decide_eq_true h3⟩)
    rw [if_pos (hl.mpr hm), if_pos hc]
    have e1 : toE (accK.map fun kv => if kv.1 = ky then (kv.1, v) else kv) = (toE accK).map fun e => if e.1 = k then (e.1, e.2.1, v) else e := by
      unfold toE
      rw [List.map_map, List.map_map]
      refine List.map_congr_left fun kv _ => ?_
      show (nkK _, kV _, _) = _
      by_cases c : kv.1 = ky
      · simp [c, hn]
      · have c2 : ¬ nkK kv.1 = k := fun z => c (nkK_inj (z.trans hn.symm))
        simp [c, c2]
    rw [e1]
    refine ⟨?_, ?_⟩
    · have h := r.pr
      clear hl r
      revert h
      generalize toE accK = es
      intro h
      induction h with
      | nil => exact .nil
      | @cons p e l1 l2 a b ih =>
        refine .cons ?_ (ih)
        dsimp only
        by_cases c : p.1.nk = some k
        · have c2 : e.1 = k := by rw [a.1] at c; exact Option.some.inj c
          rw [if_pos c, if_pos c2]
          exact ⟨a.1, a.2.1, a.2.2.1, rx⟩
        · have c2 : ¬ e.1 = k := fun z => c (by rw [a.1, z])
          rw [if_neg c, if_neg c2]
          exact a
    · have : ((toE accK).map fun e => if e.1 = k then (e.1, e.2.1, v) else e).map (·.1) = (toE accK).map (·.1) := by
        rw [List.map_map]
        refine List.map_congr_left fun e _ => ?_
        show (if e.1 = k then (e.1, e.2.1, v) else e).1 = e.1
        split <;> rfl
      rw [this]; exact r.nd
  · have hm : ¬ k ∈ (toE accK).map (·.1) := fun z => hc (by
      rw [toE_keys, ← hn] at z
      obtain ⟨k2, h2, h3⟩ := List.mem_map.mp z
      obtain ⟨kv, h4, h5⟩ := List.mem_map.mp h2
      exact List.any_eq_true.mpr ⟨kv, h4, decide_eq_true (h5.trans (nkK_inj h3))⟩)
    rw [if_neg (fun z => hm (hl.mp z)), if_neg hc]
    have e1 : toE (accK ++ [(ky, v)]) = toE accK ++ [(k, kV ky, v)] := by simp [toE, hn]
    rw [e1]
    refine ⟨Paired.snoc r.pr ⟨h1, h8, rk, rx⟩, ?_⟩
    rw [List.map_append, List.nodup_append]
    exact ⟨r.nd, by simp, fun x hx y hy e => by simp at hy; subst hy e; exact hm hx⟩
theorem keyV {K : PySem.W.Frag} {d : D0} {v : V} {k : NestedKey} (hk : isKeyD d = true) (r : Rep K m H d v) (h : d.key = some k) : ∃ ky : Key, v = kV ky ∧ nkK ky = k := by
  obtain ⟨h1, _⟩ := key_nk h
  cases d <;> simp only [isKeyD, Bool.false_eq_true] at hk
  · simp only [D.nk, Option.some.injEq] at h1
    exact ⟨.inl _, r, h1⟩
  · simp only [D.nk, Option.some.injEq] at h1
    exact ⟨.inr _, r, h1⟩
theorem merge_ext {K : PySem.W.Frag} : ∀ {ps : List (D0 × D0)} {vs : List (V × V)} {acc l : List (D0 × D0)} {accK : List (Key × V)}, RepPs K m H ps vs → ps.all (fun q => isKeyD q.1) = true → KvR K m H acc (toE accK) → putAll acc ps = some l →
    ∃ kvs : List (Key × V), vs = kvs.map (fun kv => (kV kv.1, kv.2)) ∧ KvR K m H l (toE (mergeK accK kvs))
  | [], [], acc, l, accK, _, _, r, h => by
    have : acc = l := by simpa [putAll, foldO] using h
    subst this
    exact ⟨[], rfl, r⟩
  | p :: ps, v :: vs, acc, l, accK, .cons a b, ha, r, h => by
    simp only [List.all_cons, Bool.and_eq_true] at ha
    obtain ⟨k, l1, hk, _, h⟩ := putAll_cons (q := p) (zs := ps) h
    obtain ⟨ky, e1, e2⟩ := keyV ha.1 a.1 hk
    have r2 := put_ext r hk e2 (by rw [← e1]; exact a.1) a.2
    obtain ⟨kvs, e3, r3⟩ := merge_ext b ha.2 r2 h
    refine ⟨(ky, v.2) :: kvs, ?_, r3⟩
    rw [e3, List.map_cons, ← e1]
/-- the new dict becomes the store's -/
theorem disp_end {m2 : List Addr} {H0 H2 : Hp} {st2 : Store} {p : Addr} {l : List (D0 × D0)} {kvs : List (Key × V)} {Q : VK} (hp : H0 p = none) (S : StoR X.K X.w m st H0) (n : Nx X.K X.w m (upd H0 p (.dK [])) m2 H2 st2) (h2 : H2 p = some (.dK [])) (r : KvR X.K m2 H2 l (toE kvs)) (k : KQ X Q m H0 (.val (.obj st2.length)) (st2 ++ [.dic l])) :
    ∃ H', Re X (upd H2 p (.dK kvs)) H' ∧ Q (.ref p) H' := by
  have own2 : Own H2 p := fun o e => by rw [h2] at e; cases e; exact ⟨(fun _ z => nomatch z), (fun _ _ z => nomatch z)⟩
  have hpm : p ∉ m2 := n.ext.out upd_same (S.fresh hp)
  refine ⟨upd H2 p (DicO X.w p (toE kvs)), by have := re_dk (X := X) (H := upd H2 p (.dK kvs)) (a := p) upd_same; rwa [upd_upd] at this, ?_⟩
  have rr : ∀ {d : D0} {v : V}, Rep X.K m2 H2 d v → Rep X.K m2 (upd H2 p (DicO X.w p (toE kvs))) d v := fun h => h.owned own2
  have S2 : StoR X.K X.w m2 st2 (upd H2 p (DicO X.w p (toE kvs))) := by
    refine ⟨n.sto.len, n.sto.nd, fun i b u hb hu => ?_⟩
    have ne : b ≠ p := fun e => hpm (by rw [← e]; exact List.mem_of_getElem? hb)
    have r := n.sto.at_ i b u hb hu
    have rs : ∀ {ds : List D0} {vs : List V}, Reps X.K m2 H2 ds vs → Reps X.K m2 (upd H2 p (DicO X.w p (toE kvs))) ds vs := fun {ds} => by
      induction ds with
      | nil => exact fun {vs} h => h
      | cons d ds ih => exact fun {vs} ⟨v, ws, e, r1, r2⟩ => ⟨v, ws, e, rr r1, ih r2⟩
    cases u with
    | lst xs => obtain ⟨vs, h, r⟩ := r; exact ⟨vs, by rw [upd_ne ne]; exact h, rs r⟩
    | dic kvs => obtain ⟨es, h, r⟩ := r; exact ⟨es, by rw [upd_ne ne]; exact h, Paired.mapP r.pr (fun p q z => ⟨z.1, z.2.1, rr z.2.2.1, rr z.2.2.2⟩), r.nd⟩
    | dicL kvs => obtain ⟨o, es, h, r⟩ := r; exact ⟨o, es, by rw [upd_ne ne]; exact h, Paired.mapP r.pr (fun p q z => ⟨z.1, z.2.1, rr z.2.2.1, rr z.2.2.2⟩), r.nd⟩
    | ins c fs => obtain ⟨dx, vfs, h, r⟩ := r; exact ⟨dx, vfs, by rw [upd_ne ne]; exact h, Paired.mapP r fun p q z => ⟨z.1, rr z.2⟩⟩
  obtain ⟨lx, ex, hx⟩ := n.ext
  refine k _ (m2 ++ [p]) _ ⟨⟨lx ++ [p], by rw [ex, List.append_assoc], fun b hb => ?_⟩, sto_push' S2 hpm ⟨_, upd_same, Paired.mapP r.pr (fun p q z => ⟨z.1, z.2.1, rr z.2.2.1, rr z.2.2.2⟩), r.nd⟩, fun b o h hb => ?_, fun b o u h => ?_⟩ ⟨p, rfl, get_push S2⟩ trivial
  · rcases List.mem_append.mp hb with hb | hb
    · have := hx b hb
      by_cases e : b = p
      · subst e; rw [upd_same] at this; cases this
      · rwa [upd_ne e] at this
    · simp at hb; subst hb; exact hp
  · have ne : b ≠ p := ne_of_none h hp
    rw [upd_ne ne]
    exact n.fr b o (by rw [upd_ne ne]; exact h) hb
  · have ne : b ≠ p := ne_of_none h hp
    rw [upd_ne ne]
    exact n.fz b o u (by rw [upd_ne ne]; exact h)
def evDct (fs : Env → Store → R (List (D0 × D0))) : Env → Store → R Sq := fun env st => (fs env st).bind fun ps st => if ps.all (fun q => isKeyD q.1) && decide (ps.length ≤ 15) then (opt (putAll [] ps) st).bind fun l st => .ok (.val (.obj st.length)) (st ++ [.dic l]) else .no
theorem je_dct0 {pos : Pos} {f : Env → Store → R Sq} (hf : f = evDct fun _ st => .ok [] st) : PE X (.Dict [] [] pos) (tX X f) := by
  subst hf
  refine (pe_re pe_dnewK).imp fun σ H Q h => ?_
  obtain ⟨env, m, st, E, S, o⟩ := h
  have o : KQ X Q m H (.val (.obj st.length)) (st ++ [.dic []]) := o
  intro p hp
  have n : Nx X.K X.w m H m (upd H p (.dK [])) st := .new S hp
  have := disp_end (kvs := []) hp S (.refl n.sto) upd_same ⟨.nil, .nil⟩ o
  rwa [upd_upd] at this
theorem je_dct {keys : List (Option Expr)} {values : List Expr} {pos : Pos} {fs : Env → Store → R (List (D0 × D0))} {f : Env → Store → R Sq} (hf : f = evDct fs) (h : JPs X pos keys values fs) (hall : keys.all (·.isSome) = true) (hl : keys.length = values.length) (h0 : keys ≠ []) (h15 : keys.length ≤ 15) : PE X (.Dict keys values pos) (tX X f) := by
  subst hf
  obtain ⟨trs, h1, h2⟩ := h.ex
  refine (pe_re (pe_disp h1 hall hl h0 h15)).imp fun σ H Q h => ?_
  obtain ⟨env, m, st, E, S, o⟩ := h
  intro p hp
  have n : Nx X.K X.w m H m (upd H p (.dK [])) st := .new S hp
  refine h2 σ _ _ ⟨env, m, st, E.mono S n.ext n.fr, n.sto, ?_⟩
  dsimp only [evDct] at o
  cases hq : fs env st with
  | no => rw [hq] at o; exact o
  | ex x fs st' => rw [hq] at o; exact Tk.imp o fun c d H' z => z.back n
  | ok ps st1 =>
  rw [hq] at o
  intro vs m2 H2 n2 r2
  simp only [Eng.R.bind] at o
  by_cases hc : (ps.all (fun q => isKeyD q.1) && decide (ps.length ≤ 15)) = true
  · rw [if_pos hc] at o
    simp only [Bool.and_eq_true, decide_eq_true_eq] at hc
    cases hp2 : putAll [] ps with
    | none => rw [hp2] at o; exact o.elim
    | some l =>
    rw [hp2] at o
    have o : KQ X Q m H (.val (.obj st1.length)) (st1 ++ [.dic l]) := o
    have hD : H2 p = some (.dK []) := n2.fr p _ upd_same (S.fresh hp)
    obtain ⟨kvs, e3, r3⟩ := merge_ext (accK := []) r2 hc.1 ⟨.nil, .nil⟩ hp2
    refine ⟨hD, kvs, e3, ?_, disp_end hp S n2 hD r3 o⟩
    have := congrArg List.length e3
    rw [List.length_map] at this
    rw [← this, ← paired_len r2]
    exact hc.2
  · rw [if_neg hc] at o; exact o.elim
end
end Eng
/-! E17: calls of builtins; isinstance; stars; methods of lists; a module's dict. -/
namespace Eng
open PySem PySem.Spec PyProof.Rows L2
theorem bf_noex (f : Bf) : NoEx1 (bfV f) := by
  intro x st e fs st'
  cases f <;> simp only [bfV]
  · split
    · exact val_noex
    · split
      · exact ite_noex val_noex
      · exact opt_noex fun _ => val_noex
      · exact fun z => nomatch z
  · exact opt_noex fun _ => (fun z => nomatch z)
  · exact opt_noex fun _ => val_noex
  · exact opt_noex fun _ => val_noex
  · exact opt_noex fun _ => val_noex
  · exact opt_noex fun _ => ite_noex (fun z => nomatch z)
  · split <;> first | exact val_noex | exact fun z => nomatch z
  · split <;> first | exact ite_noex val_noex | exact fun z => nomatch z
  · split
    · split
      · exact ite_noex (fun z => nomatch z)
      · exact fun z => nomatch z
    · exact fun z => nomatch z
section
variable {X : Cx}
theorem one_arg {e : Expr} {fa : Env → Store → R Sq} (hs : noStar e = true) (he : PE X e (tX X fa)) : PA X [e] (tCons (tX X fa) tNil) := pa_cons he pa_nil (star_plain hs)
theorem je_bfB {g : Sq → Store → R Sq} {id : String} {x : Str} {e : Expr} {p pos : Pos} {fa f : Env → Store → R Sq} (hf : f = fun env st => (fa env st).bind fun x st => g x st) (hc : CallR X (.builtin id) (rC1 X g)) (hne : NoEx1 g) (hg : Gl X x) (hm : X.mg x = none) (hv : bootBuiltins x = some (.builtin id)) (hn : x ≠ "__name__") (hd : (x == ("__debug__" : Str)) = false)
    (hs : noStar e = true) (he : PE X e (tX X fa)) : PE X (.Call (.Name x p) [e] [] pos) (tX X f) := by
  subst hf
  refine (pe_callB hc hg hm hv (one_arg hs he) hn hd (star_plain hs) rfl).imp fun σ H Q h => ?_
  exact tX_mono (tX_un hne h) fun v H1 h1 => ⟨v, rfl, h1⟩
theorem je_bfT {g : Sq → Store → R Sq} {T : String} {x : Str} {e : Expr} {p pos : Pos} {fa f : Env → Store → R Sq} (hf : f = fun env st => (fa env st).bind fun x st => g x st) (hc : CallR X (.type T) (rC1 X g)) (hne : NoEx1 g) (hg : Gl X x) (hm : X.mg x = none) (hv : bootBuiltins x = some (.type T)) (hn : x ≠ "__name__") (hd : (x == ("__debug__" : Str)) = false)
    (hs : noStar e = true) (he : PE X e (tX X fa)) : PE X (.Call (.Name x p) [e] [] pos) (tX X f) := by
  subst hf
  refine (pe_callTy hc hg hm hv (one_arg hs he) hn hd (star_plain hs) rfl).imp fun σ H Q h => ?_
  exact tX_mono (tX_un hne h) fun v H1 h1 => ⟨v, rfl, h1⟩

/-! ### isinstance -/
def tyName : Ty → Option String
  | .int => some "int"
  | .bool => some "bool"
  | .str => some "str"
  | .tuple => some "tuple"
  | .list => some "list"
  | .dict => some "dict"
  | .cls _ => none
theorem isi_kit {K : PySem.W.Frag} {a b : String} {r : Bool} (h : kitB a b = some r) : PySem.W.kitOne K (.type a) (.type b) = some r := kit_ty h
/-- the type's own answers, of the builtin ones -/
theorem kits : (["NoneType", "bool", "int", "str", "tuple", "list", "dict"].all fun a => ["int", "bool", "str", "tuple", "list", "dict"].all fun b => decide (kitB a b = some (a == b || (a == "bool" && b == "int")))) = true := by decide +kernel
theorem kit_at {a b : String} (ha : a ∈ ["NoneType", "bool", "int", "str", "tuple", "list", "dict"]) (hb : b ∈ ["int", "bool", "str", "tuple", "list", "dict"]) : kitB a b = some (a == b || (a == "bool" && b == "int")) :=
  of_decide_eq_true (List.all_eq_true.mp (List.all_eq_true.mp kits a ha) b hb)
theorem isi_run {pins : List (Addr × Obj)} {s : Shared} {σ : L2.St} {H : Hp} {m : List Addr} {st : Store} {d : D0} {v : V} {u : Value} {t : Ty} {T : String} {b : Bool} {Q : Value → Shared → Prop} (hT : tyName t = some T) (S : StoR X.K X.w m st H) (r : Rep X.K m H d v) (ru : L2.RelV v u) (I : L2.Inv X pins σ H s) (e : tyIs st t d = some b)
    (h : ∀ tk, Q (.bool b) { s with toks := tk }) : wpAny (model X.prog X.w) X.A (call (.builtin "isinstance") [u, .type T]) Q X.xe s := by
  have hb : T ∈ ["int", "bool", "str", "tuple", "list", "dict"] := by cases t <;> simp [tyName] at hT <;> subst hT <;> simp
  have go : ∀ {P : Heap → Prop} {a : String}, a ∈ ["NoneType", "bool", "int", "str", "tuple", "list", "dict"] → PySem.W.KitX X.K u (.type a) P → P s.heap → u ≠ .builtin "__main__.__loader__#opaque" → (a == T || (a == "bool" && T == "int")) = b → wpAny (model X.prog X.w) X.A (call (.builtin "isinstance") [u, .type T]) Q X.xe s :=
    fun ha Z p hx hr => PySem.W.kia_one Z I.kIn p (isi_kit (by rw [kit_at ha hb, hr])) hx h
  cases d with
  | non =>
    obtain rfl : v = V.non := r
    obtain rfl : u = Value.none := ru
    refine go (by simp) PySem.W.kitx_none True.intro (fun z => nomatch z) ?_
    cases t <;> simp [tyName] at hT <;> subst hT <;> simp [tyIs] at e <;> subst e <;> rfl
  | bl y =>
    obtain rfl : v = V.bl y := r
    obtain rfl : u = Value.bool y := ru
    refine go (by simp) PySem.W.kitx_bool True.intro (fun z => nomatch z) ?_
    cases t <;> simp [tyName] at hT <;> subst hT <;> simp [tyIs] at e <;> subst e <;> rfl
  | int i =>
    obtain rfl : v = V.int i := r
    obtain ⟨tk, rfl⟩ := ru
    refine go (by simp) PySem.W.kitx_int True.intro (fun z => nomatch z) ?_
    cases t <;> simp [tyName] at hT <;> subst hT <;> simp [tyIs] at e <;> subst e <;> rfl
  | str x =>
    obtain rfl : v = V.str x := r
    obtain ⟨tk, rfl⟩ := ru
    refine go (by simp) PySem.W.kitx_str True.intro (fun z => nomatch z) ?_
    cases t <;> simp [tyName] at hT <;> subst hT <;> simp [tyIs] at e <;> subst e <;> rfl
  | tup xs =>
    obtain ⟨a, vs, rfl, ha, _⟩ := r
    obtain rfl : u = Value.ref a := ru
    obtain ⟨its, _, ⟨o, h1, h2, _⟩, _⟩ := I.tuple ha
    refine go (by simp) PySem.W.kitx_tuple ⟨o, h1, h2⟩ (fun z => nomatch z) ?_
    cases t <;> simp [tyName] at hT <;> subst hT <;> simp [tyIs] at e <;> subst e <;> rfl
  | rol xs =>
    obtain ⟨a, vs, rfl, ha, _⟩ := r
    obtain rfl : u = Value.ref a := ru
    obtain ⟨its, _, pl, _⟩ := I.list ha.seq
    obtain ⟨o, h1, h2, _⟩ := pl.isList
    refine go (by simp) PySem.W.kitx_list ⟨o, h1, h2⟩ (fun z => nomatch z) ?_
    cases t <;> simp [tyName] at hT <;> subst hT <;> simp [tyIs] at e <;> subst e <;> rfl
  | obj i =>
    obtain ⟨a, rfl, hm⟩ := r
    obtain rfl : u = Value.ref a := ru
    cases hq : st[i]? with
    | none => cases t <;> simp [tyName] at hT <;> simp [tyIs, hq] at e
    | some o =>
      have ob := S.at_ i a o hm hq
      cases o with
      | lst xs =>
        obtain ⟨vs, ha, _⟩ := ob
        obtain ⟨its, _, pl, _⟩ := I.list (.of ha)
        obtain ⟨o, h1, h2, _⟩ := pl.isList
        refine go (by simp) PySem.W.kitx_list ⟨o, h1, h2⟩ (fun z => nomatch z) ?_
        cases t <;> simp [tyName] at hT <;> subst hT <;> simp [tyIs, hq] at e <;> subst e <;> rfl
      | dic kvs =>
        obtain ⟨es, ha, _⟩ := ob
        obtain ⟨_, _, o, _, _, h1, h2, _⟩ := dicP_of I (.inl ha)
        refine go (by simp) PySem.W.kitx_dict ⟨o, h1, h2.1⟩ (fun z => nomatch z) ?_
        cases t <;> simp [tyName] at hT <;> subst hT <;> simp [tyIs, hq] at e <;> subst e <;> rfl
      | dicL kvs =>
        obtain ⟨ob, es, ha, _⟩ := ob
        obtain ⟨_, _, o, _, _, h1, h2, _⟩ := dicP_of I (.inr ⟨_, ha⟩)
        refine go (by simp) PySem.W.kitx_dict ⟨o, h1, h2.1⟩ (fun z => nomatch z) ?_
        cases t <;> simp [tyName] at hT <;> subst hT <;> simp [tyIs, hq] at e <;> subst e <;> rfl
      | ins c fs => cases t <;> simp [tyName] at hT <;> simp [tyIs, hq] at e
theorem je_isi {t : Ty} {T : String} {x : Str} {e : Expr} {p p2 pos : Pos} {fa f : Env → Store → R Sq} (hf : f = fun env st => (asD (fa env st)).bind fun d st => (opt (tyIs st t d) st).bind fun b st => val (.bl b) st) (hT : tyName t = some T)
    (hg : Gl X "isinstance") (hm : X.mg "isinstance" = none) (hg2 : Gl X x) (hm2 : X.mg x = none) (hv2 : bootBuiltins x = some (.type T)) (hn2 : x ≠ "__name__") (hd2 : (x == ("__debug__" : Str)) = false) (hs : noStar e = true) (he : PE X e (tX X fa)) : PE X (.Call (.Name "isinstance" p) [e, .Name x p2] [] pos) (tX X f) := by
  subst hf
  have r : CallR X (.builtin "isinstance") (fun vs H Q => ∃ v m st d b, vs = [v, .ty T] ∧ StoR X.K X.w m st H ∧ Rep X.K m H d v ∧ tyIs st t d = some b ∧ Q (.bl b) H) := by
    rintro pins s σ H vs us Q I rs ⟨v, m, st, d, b, rfl, S, rd, eb, q⟩
    obtain ⟨u1, u2, rfl, r1, r2⟩ := vals2 rs
    obtain rfl : u2 = Value.type T := r2
    exact isi_run hT S rd r1 I eb fun tk => ⟨.bl b, H, I.tok tk, rfl, q⟩
  have h2 : PE X (.Name x p2) (tC (.ty T)) := pe_bltn hg2 hm2 hv2 rfl hn2 hd2
  refine (pe_callB r hg hm (by rfl) (pa_cons (pe_asD he) (pa_cons h2 pa_nil rfl) (star_plain hs)) (by decide) (by decide) (star_plain hs) rfl).imp fun σ H Q h => ?_
  obtain ⟨env, m, st, E, S, o⟩ := h
  refine ⟨env, m, st, E, S, (o.bind S mnQ).imp fun d st1 k v m1 H1 n r => ?_⟩
  have k := k m1 H1 n
  cases hb : tyIs st1 t d with
  | none => rw [hb] at k; exact k.elim
  | some b =>
    rw [hb] at k
    exact ⟨v, m1, st1, d, b, rfl, n.sto, r, hb, KQ.val n.sto k rfl⟩

/-! ### argument lists with stars -/
theorem jx_nil {f : Env → Store → R (List D0)} (hf : f = fun _ st => .ok [] st) : PA X [] (tDs X f) := ja_nil hf
theorem jx_star {e : Expr} {es : List Expr} {p : Pos} {fe : Env → Store → R Sq} {fs f : Env → Store → R (List D0)} (hf : f = fun env st => (fe env st).bind fun x st => (opt (seqOf st x) st).bind fun xs st => (fs env st).bind fun ds st => .ok (xs ++ ds) st) (he : PE X e (tX X fe)) (hs : PA X es (tDs X fs)) : PA X (.Starred e p :: es) (tDs X f) := by
  subst hf
  refine (StX.pa_star he hs rfl).imp fun σ H Q h => ?_
  obtain ⟨env, m, st, E, S, o⟩ := h
  refine ⟨env, m, st, E, S, (o.bind S mnDs).imp fun x st1 k v m1 H1 n r fr => ?_⟩
  have k := k m1 H1 n
  cases hq : seqOf st1 x with
  | none => rw [hq] at k; exact k.elim
  | some xs =>
  rw [hq] at k
  obtain ⟨a, vs, rfl, ha, rs⟩ := seqOf_at n.sto r hq
  have k : Out X σ m1 H1 ((fs env st1).bind fun ds st => .ok (xs ++ ds) st) (KDs X Q m1 H1) := k
  refine ⟨a, vs, rfl, ha.symm, env, m1, st1, E.mono S n.ext n.fr, n.sto, (k.bind n.sto mnDs).imp fun ds st2 k2 us m2 H2 n2 r2 => ?_⟩
  exact k2 m2 H2 n2 (vs ++ us) m2 H2 (.refl n2.sto) ((rs.mono n.sto n2.ext n2.fr).append r2)
theorem je_lstS {es : List Expr} {pos : Pos} {fs : Env → Store → R (List D0)} {f : Env → Store → R Sq} (hf : f = fun env st => (fs env st).bind fun ds st => if small ds.length then .ok (.fresh ds) st else .no) (h : PA X es (tDs X fs)) : PE X (.List es pos) (tX X f) := by
  subst hf
  refine (pe_lst h).imp fun σ H Q h => ?_
  obtain ⟨env, m, st, E, S, o⟩ := h
  refine ⟨env, m, st, E, S, (o.bind S mnQ).imp fun ds st1 k vs m1 H1 n r => ?_⟩
  have k := k m1 H1 n
  by_cases hs : small ds.length = true
  · rw [if_pos hs] at k
    exact ⟨by rw [r.length]; exact small_le hs, fun p hp => KQ.lst n.sto k r hp⟩
  · rw [if_neg hs] at k; exact k.elim
theorem je_tupS {es : List Expr} {kk : Nat} {pos : Pos} {fs : Env → Store → R (List D0)} {f : Env → Store → R Sq} (hf : f = fun env st => (fs env st).bind fun ds st => if small ds.length then val (.tup ds) st else .no) (h : PA X es (tDs X fs)) : PE X (.Tuple es kk pos) (tX X f) := by
  subst hf
  refine (pe_tup h).imp fun σ H Q h => ?_
  obtain ⟨env, m, st, E, S, o⟩ := h
  refine ⟨env, m, st, E, S, (o.bind S mnQ).imp fun ds st1 k vs m1 H1 n r => ?_⟩
  have k := k m1 H1 n
  by_cases hs : small ds.length = true
  · rw [if_pos hs] at k
    exact ⟨by rw [r.length]; exact small_le hs, fun p hp => KQ.tup n.sto k r hp⟩
  · rw [if_neg hs] at k; exact k.elim

/-! ### a module's values -/
theorem je_glb {d : D0} {x : Str} {v : V} {u : Value} {pos : Pos} {f : Env → Store → R Sq} (hf : f = fun _ st => val d st) (hg : Gl X x) (hm : X.mg x = some u) (r : L2.RelV v u) (rd : ∀ m H, Rep X.K m H d v) (hd : (x == ("__debug__" : Str)) = false) : PE X (.Name x pos) (tX X f) := je_cst hf (pe_glob hg hm r hd) rd
/-- what a module's dict gives -/
def KDic (K : PySem.W.Frag) (w : World) (a : Addr) (kvs : List (D0 × D0)) : Prop := ∀ k d, dLook kvs k = some d → ∀ z, k = .text z → ∃ v, KDct K w a z v ∧ ∀ m H, Rep K m H d v
theorem je_gidx {kvs : List (D0 × D0)} {x : Str} {a : Addr} {e : Expr} {p pos : Pos} {fa f : Env → Store → R Sq} (hf : f = fun env st => (asD (fa env st)).bind fun k st => (opt (match k with
      | .str z => dLook kvs (.text z)
      | _ => none) st).bind fun d st => val d st) (hg : Gl X x) (hm : X.mg x = some (.ref a)) (hk : KDic X.K X.w a kvs) (hd : (x == ("__debug__" : Str)) = false) (hs : noSlice e = true) (he : PE X e (tX X fa)) : PE X (.Subscript (.Name x p) e pos) (tX X f) := by
  subst hf
  refine (pe_ix ix_kdict (pe_glob (v := .ref a) hg hm rfl hd) (pe_asD he) (ix_plain hs)).imp fun σ H Q h => ?_
  obtain ⟨env, m, st, E, S, o⟩ := h
  refine ⟨env, m, st, E, S, (o.bind S mnQ).imp fun d st1 k v m1 H1 n r => ?_⟩
  have k := k m1 H1 n
  cases d with
  | str z =>
    dsimp only at k
    cases hl : dLook kvs (.text z) with
    | none => rw [hl] at k; exact k.elim
    | some y =>
      rw [hl] at k
      obtain ⟨vv, h1, h2⟩ := hk _ y hl z rfl
      exact ⟨a, z, vv, rfl, r, h1, KQ.val n.sto k (h2 m1 H1)⟩
  | _ => exact k.elim

/-! ### methods of lists -/
theorem line_plain {apos cpos : Pos} (h : (apos.endLine == cpos.line) = true) : (apos.endLine == cpos.line) = true := h
theorem je_rev {o : Expr} {apos cpos : Pos} {fo f : Env → Store → R Sq} (hf : f = fun env st => (fo env st).bind fun x st => bmV .reverse x [] st) (ho : PE X o (tX X fo)) (hb : noCallH o = true) (hl : (apos.endLine == cpos.line) = true) : PE X (.Call (.Attribute o "reverse" apos) [] [] cpos) (tX X f) := by
  subst hf
  refine (pe_bm0 PySem.F.plainAttrs_list PySem.F.slot_list_reverse PySem.F.type_list_reverse mt_reverse ho (base_plain hb) hl).imp fun σ H Q h => ?_
  obtain ⟨env, m, st, E, S, o⟩ := h
  refine ⟨env, m, st, E, S, (o.bind S mnQ).imp fun x st1 k v m1 H1 n r fr => ?_⟩
  have k := k m1 H1 n
  cases x with
  | fresh => exact k.elim
  | val d =>
  cases d with
  | obj i => ?_
  | _ => exact k.elim
  have k : Out X σ m1 H1 (match st1[i]? with
    | some (.lst xs) => val .non (st1.set i (.lst xs.reverse))
    | _ => .no) (KQ X Q m1 H1) := k
  split at k <;> try exact k.elim
  next xs hi =>
  obtain ⟨a, rfl, hm⟩ := r
  obtain ⟨vs, ha, rs⟩ := n.sto.at_ i a _ hm hi
  have nf : NoFz H1 a := fun o u e => by rw [ha] at e; cases e
  exact ⟨.inl ⟨rfl, vs, .of ha⟩, a, vs, rfl, rfl, ha, KQ.put n.sto k hm nf ⟨_, upd_same, (rs.reverse).mono n.sto .refl (fr_set (List.mem_of_getElem? hm))⟩ rfl⟩
end
end Eng
/-! E18: stores: items, attributes, several targets. -/
namespace Eng
open PySem PySem.Spec PyProof.Rows L2
theorem ofStr_inj {a b : String} (h : Str.ofString a = Str.ofString b) : a = b := by
  have h1 : (Str.ofString a).cps.toList = (Str.ofString b).cps.toList := by rw [h]
  have e : ∀ s : String, (Str.ofString s).cps.toList = s.toList.map Char.toNat := fun s => by rw [Str.ofString_eq_toList]
  rw [e, e] at h1
  have inj : ∀ x y : Char, x.toNat = y.toNat → x = y := fun x y h => Char.ext (UInt32.toNat_inj.mp h)
  have : a.toList = b.toList := by
    revert h1
    generalize a.toList = l1
    generalize b.toList = l2
    induction l1 generalizing l2 with
    | nil => intro h; cases l2 <;> simp at h <;> rfl
    | cons x xs ih =>
      intro h
      cases l2 with
      | nil => simp at h
      | cons y ys =>
        simp only [List.map_cons, List.cons.injEq] at h
        rw [inj x y h.1, ih ys h.2]
  exact String.toList_inj.mp this
section
variable {X : Cx} {m : List Addr} {H : Hp} {st : Store}
/-- o[i] = v, as the evaluator has it -/
def rSetX (X : Cx) : TSet := fun o i v H Q => ∃ m st ov k d st', StoR X.K X.w m st H ∧ RepQ X.K m H ov o ∧ Rep X.K m H k i ∧ Rep X.K m H d v ∧ evG.setI ov k d st = .ok () st' ∧ ∀ m' H', Nx X.K X.w m H m' H' st' → Q H'
theorem set_G (hu : X.A.units + 64 < cLine) : PSet X (rSetX X) := by
  rintro pins s σ H o i v ov iv u Q I ro ri rv ⟨m, st, oo, k, d, st', S, r1, r2, r3, e, q⟩
  unfold evG.setI at e
  cases oo with
  | fresh => cases e
  | val oo =>
  cases oo with
  | obj j => ?_
  | _ => cases e
  dsimp only at e
  obtain ⟨a, rfl, hm⟩ := r1
  obtain rfl : ov = Value.ref a := ro
  have ham := List.mem_of_getElem? hm
  cases hj : st[j]? with
  | none => rw [hj] at e; cases e
  | some ob =>
  rw [hj] at e
  cases ob with
  | lst xs =>
    cases k with
    | int z => ?_
    | _ => simp only [D.key, D.nk] at e; cases e
    dsimp only at e
    cases hn : L2.ixN xs.length z with
    | none => rw [hn] at e; cases e
    | some n =>
    rw [hn] at e
    obtain ⟨_, rfl⟩ := ok_ok e
    obtain ⟨vs, ha, rs⟩ := S.at_ j a _ hm hj
    have nf : NoFz H a := fun o u e => by rw [ha] at e; cases e
    refine set_list pins s σ H (.ref a) i v (.ref a) iv u Q I rfl ri rv ⟨a, vs, z, n, rfl, r2, ha, by rw [rs.length]; exact hn, q m _ ?_⟩
    exact .put S hm nf ⟨_, upd_same, (rs.set n r3).mono S .refl (fr_set ham)⟩
  | dic kvs =>
    have e : (match k.key with
        | some kk => if small (kvs.length + 1) then R.ok () (st.set j (.dic (dPut kvs k kk d))) else .no
        | none => .no) = .ok () st' := by cases k <;> exact e
    cases hk : k.key with
    | none => rw [hk] at e; cases e
    | some kk =>
    rw [hk] at e
    obtain ⟨hs, e⟩ := ite_ok e
    obtain ⟨_, rfl⟩ := ok_ok e
    obtain ⟨es, ha, kv⟩ := S.at_ j a _ hm hj
    have nf : NoFz H a := fun o u e => by rw [ha] at e; cases e
    have hT := dicP_type (dicP_of I (.inl ha))
    unfold setItem
    refine wpAny_holding (wpAny_bind (wpAny_sequenceKey hT (by decide) ?_))
    refine wpAny_bind (wpAny_callSpecial?_slot (name := Str.ofString "__setitem__") hT slot_dict_setitem (wpAny_call_entry slot_dict_setitem hT entry_dict_setitem ?_ (args_dict_setitem _ _ _)))
    show wpAny _ _ (Builtin.Dict.notOrdered "__setitem__" ⟨[.ref a, iv, u], []⟩ >>= _) _ _ s
    refine wpAny_bind (wpAny_notOrdered_dict hT ?_)
    show wpAny _ _ (dictSet a iv u >>= _) _ _ s
    refine wpAny_bind (dset_ok (by simp only [Around.in1_units]; omega) I ha kv r2 ri hk r3 rv (small_le hs) (fun o y z r => r.mono S .refl (fr_set ham)) fun es' s' I' kv' => wpAny_pure ⟨.none, rfl, wpAny_pure ⟨_, I', q m _ (.put S hm nf ⟨es', upd_same, kv'⟩)⟩⟩)
  | dicL kvs => cases k <;> cases e
  | ins c fs => cases k <;> cases e

theorem setI_noex {ov : Sq} {k d : D0} {st : Store} {x : String} {fs : Fs} {s : Store} : evG.setI ov k d st = .ex x fs s → False := by
  unfold evG.setI
  split
  · split
    · split <;> exact fun z => by cases z
    · split
      · split <;> exact fun z => by cases z
      · exact fun z => by cases z
    · exact fun z => by cases z
  · exact fun z => by cases z
/-! ### targets of all kinds -/
/-- what a target does with a value -/
def tTg (X : Cx) (f : D0 → Env → Store → RS) : TG := fun v σ H Q => ∃ env m st d, EnvR X.K m H σ env ∧ StoR X.K X.w m st H ∧ Rep X.K m H d v ∧ OutS X m H ⟨Q, fun _ _ => False, fun _ _ => False, fun _ _ => False⟩ (f d env st)
theorem jt_sub {o i : Expr} {pos : Pos} {fo : Env → Store → R Sq} {fi : Env → Store → R D0} {f : D0 → Env → Store → RS} (hf : f = fun d env st => (fo env st).thn env fun ov st => (fi env st).thn env fun k st => (evG.setI ov k d st).thn env fun _ st => .nx env st)
    (hu : X.A.units + 64 < cLine) (ho : PE X o (tX X fo)) (hi : PE X i (tD X fi)) (hs : noSlice i = true) : PG X (.Subscript o i pos) (tTg X f) := by
  subst hf
  refine (pg_sub ho hi (set_G hu) (by intro v; cases i <;> first | rfl | cases hs)).imp fun v σ H Q h => ?_
  obtain ⟨env, m, st, d, E, S, r, o⟩ := h
  refine ⟨env, m, st, E, S, (OutS.thn E S o).imp fun ov st1 k ov' m1 H1 n1 r1 _ => ?_⟩
  obtain ⟨E1, o1⟩ := k m1 H1 n1
  refine ⟨env, m1, st1, E1, n1.sto, (OutS.thn E1 n1.sto o1).imp fun k2 st2 kk iv m2 H2 n2 r2 => ?_⟩
  obtain ⟨E2, o2⟩ := kk m2 H2 n2
  cases hq : evG.setI ov k2 d st2 with
  | no => rw [hq] at o2; exact o2.elim
  | ex e fs s =>
    exact (setI_noex hq).elim
  | ok q st3 =>
    rw [hq] at o2
    refine ⟨m2, st2, ov, k2, d, st3, n2.sto, (r1.mono n1.sto n2), r2, (r.mono S n1.ext n1.fr).mono n1.sto n2.ext n2.fr, hq, fun m3 H3 n3 => ?_⟩
    exact o2 σ m3 H3 n3 (E2.mono n2.sto n3.ext n3.fr)
theorem js_tg {tg e : Expr} {pos : Pos} {fe : Env → Store → R D0} {ft : D0 → Env → Store → RS} {f : Env → Store → RS} (hf : f = fun env st => (fe env st).thn env fun d st => ft d env st) (he : PE X e (tD X fe)) (hg : PG X tg (tTg X ft)) (hnrt : ∀ d env st v st', ft d env st ≠ .rt v st')
    (hs : swapsWithSole [tg] e pos.line X.env = pure false) (hw : swappedStores [tg] e X.env = pure none) (h1 : noStar tg = true) : PS X (.Assign [tg] e pos) (tS X f) := by
  subst hf
  refine (ps_asg he hg hs hw (by cases tg <;> first | rfl | cases h1)).imp fun Z σ H h => ?_
  refine tD_mono (tS_thnD (k := ft) h) fun v H1 ⟨env, m, st, d, E, S, r, o⟩ => ⟨env, m, st, d, E, S, r, ?_⟩
  cases hq : ft d env st with
  | rt v st' => exact (hnrt _ _ _ _ _ hq).elim
  | nx env' st' => rw [hq] at o; exact o
  | ex x fs env' st' => rw [hq] at o; exact o
  | no => rw [hq] at o; exact o

/-! ### attributes -/
/-- what is known of the classes -/
structure ClsF (K : PySem.W.Frag) (p : Prg) : Prop where
  cl : ∀ c cd, p.cls.lookup c = some cd → Cls K (He.ga K (Str.ofString c))
  no : ∀ c f, rawA p c f = true → NoAttr K (He.ga K (Str.ofString c)) (Str.ofString f)
theorem rawA_cls {p : Prg} {c f : String} (h : rawA p c f = true) : ∃ cd, p.cls.lookup c = some cd := by
  unfold rawA at h
  split at h
  · next cd e => exact ⟨cd, e⟩
  · cases h
theorem FsR.look {K : PySem.W.Frag} {f : String} : ∀ {fs : Fs} {vfs : List (Str × V)}, FsR K m H fs vfs → ∀ {d : D0}, fs.lookup f = some d → ∃ v, vfs.lookup (Str.ofString f) = some v ∧ Rep K m H d v
  | [], [], _, d, h => by cases h
  | (g, x) :: fs, (gs, v) :: vfs, .cons a b, d, h => by
    obtain ⟨a1, a2⟩ := a
    dsimp only at a1 a2
    subst a1
    by_cases e : f = g
    · subst e
      simp only [List.lookup, beq_self_eq_true] at h ⊢
      cases h
      exact ⟨v, rfl, a2⟩
    · have e1 : (f == g) = false := beq_eq_false_iff_ne.mpr e
      have e2 : (Str.ofString f == Str.ofString g) = false := beq_eq_false_iff_ne.mpr fun z => e (ofStr_inj z)
      simp only [List.lookup, e1, e2] at h ⊢
      exact FsR.look b h
theorem FsR.put {K : PySem.W.Frag} {f : String} {d : D0} {v : V} (rd : Rep K m H d v) : ∀ {fs : Fs} {vfs : List (Str × V)}, FsR K m H fs vfs → FsR K m H (putA f d fs) (putF (Str.ofString f) v vfs)
  | [], [], _ => .cons ⟨rfl, rd⟩ .nil
  | (g, x) :: fs, (gs, u) :: vfs, .cons a b => by
    obtain ⟨a1, a2⟩ := a
    dsimp only at a1 a2
    subst a1
    rw [putA, putF]
    by_cases e : g = f
    · subst e
      rw [if_pos rfl, if_pos rfl]
      exact .cons ⟨rfl, rd⟩ b
    · rw [if_neg e, if_neg (fun z => e (ofStr_inj z))]
      exact .cons ⟨rfl, a2⟩ (FsR.put rd b)
/-- o.f = v -/
theorem js_fld {p : Prg} {f : String} {o e : Expr} {pos pos' : Pos} {fo fe : Env → Store → R D0} {g : Env → Store → RS} (hf : g = fun env st => (fe env st).thn env fun d st => (fo env st).thn env fun ov st => (evSetF p ov f d st).thn env fun _ st => .nx env st) (C : ClsF X.K p)
    (he : PE X e (tD X fe)) (ho : PE X o (tD X fo)) (hs : swapsWith e (some (.Attribute o (Str.ofString f) pos')) pos.line X.env = pure false) : PS X (.Assign [.Attribute o (Str.ofString f) pos'] e pos) (tS X g) := by
  subst hf
  refine (ps_fld ho he hs).imp fun Z σ H h => ?_
  obtain ⟨env, m, st, E, S, q⟩ := h
  refine ⟨env, m, st, E, S, (q.thn E S).imp fun d st1 k v m1 H1 n1 r1 => ?_⟩
  obtain ⟨E1, o1⟩ := k m1 H1 n1
  refine ⟨env, m1, st1, E1, n1.sto, (o1.thn E1 n1.sto).imp fun ov st2 k2 x m2 H2 n2 r2 => ?_⟩
  obtain ⟨E2, o2⟩ := k2 m2 H2 n2
  unfold evSetF at o2
  cases ov with
  | obj i => ?_
  | _ => exact o2.elim
  dsimp only at o2
  cases hi : st2[i]? with
  | none => rw [hi] at o2; exact o2.elim
  | some ob =>
  rw [hi] at o2
  cases ob with
  | ins c fs => ?_
  | _ => exact o2.elim
  dsimp only at o2
  by_cases hc : fs.length < 50 ∧ rawA p c f = true
  · rw [if_pos hc] at o2
    obtain ⟨a, rfl, hm⟩ := r2
    obtain ⟨dx, vfs, ha, rf⟩ := n2.sto.at_ i a _ hm hi
    obtain ⟨cd, hcd⟩ := rawA_cls hc.2
    have ham := List.mem_of_getElem? hm
    have nf : NoFz H2 a := fun o u e => by rw [ha] at e; cases e
    have rd := r1.mono n1.sto n2.ext n2.fr
    refine ⟨a, _, dx, vfs, rfl, ha, C.cl c cd hcd, C.no c f hc.2, by rw [← paired_len rf]; omega, ?_⟩
    have n3 : Nx X.K X.w m2 H2 m2 _ (st2.set i (.ins c (putA f d fs))) := .put n2.sto hm nf (o := .ins (He.ga X.K (Str.ofString c)) dx (putF (Str.ofString f) v vfs)) ⟨dx, _, upd_same, (FsR.put rd rf).mono n2.sto .refl (fr_set ham)⟩
    exact o2 σ m2 _ n3 (E2.mono n2.sto n3.ext n3.fr)
  · rw [if_neg hc] at o2; exact o2.elim
/-- e.f, plain -/
def evAttr (p : Prg) (f : String) (fo : Env → Store → R D0) : Env → Store → R Sq := fun env st => (fo env st).bind fun x st => match x with
  | .obj i => match st[i]? with
    | some (.ins c fs) => if rawA p c f then (opt (fs.lookup f) st).bind fun d st => val d st else .no
    | _ => .no
  | _ => .no
theorem je_attr {p : Prg} {f : String} {o : Expr} {pos : Pos} {fo : Env → Store → R D0} {g : Env → Store → R Sq} (hf : g = evAttr p f fo) (C : ClsF X.K p) (ho : PE X o (tD X fo)) (hb : noCallH o = true) : PE X (.Attribute o (Str.ofString f) pos) (tX X g) := by
  subst hf
  refine (pe_fld ho (base_plain hb)).imp fun σ H Q h => ?_
  obtain ⟨env, m, st, E, S, q⟩ := h
  refine ⟨env, m, st, E, S, (q.bind S mnQ).imp fun x st1 k v m1 H1 n r => ?_⟩
  have k := k m1 H1 n
  cases x with
  | obj i => ?_
  | _ => exact k.elim
  dsimp only at k
  cases hi : st1[i]? with
  | none => rw [hi] at k; exact k.elim
  | some ob =>
  rw [hi] at k
  cases ob with
  | ins c fs => ?_
  | _ => exact k.elim
  dsimp only at k
  by_cases hc : rawA p c f = true
  · rw [if_pos hc] at k
    cases hl : fs.lookup f with
    | none => rw [hl] at k; exact k.elim
    | some d =>
    rw [hl] at k
    obtain ⟨a, rfl, hm⟩ := r
    obtain ⟨dx, vfs, ha, rf⟩ := n.sto.at_ i a _ hm hi
    obtain ⟨cd, hcd⟩ := rawA_cls hc
    obtain ⟨v, hv, rv⟩ := FsR.look rf hl
    exact ⟨a, _, dx, vfs, v, rfl, ha, C.cl c cd hcd, C.no c f hc, hv, KQ.val n.sto k rv⟩
  · rw [if_neg hc] at k; exact k.elim

/-! ### several targets -/
def tTgs (X : Cx) (f : List D0 → Env → Store → RS) : TGs := fun vs σ H Q => ∃ env m st ds, EnvR X.K m H σ env ∧ StoR X.K X.w m st H ∧ Reps X.K m H ds vs ∧ OutS X m H ⟨Q, fun _ _ => False, fun _ _ => False, fun _ _ => False⟩ (f ds env st)
theorem jtgs_nil {f : List D0 → Env → Store → RS} (hf : f = fun ds env st => match ds with
    | [] => .nx env st
    | _ => .no) : PGs X [] (tTgs X f) := by
  subst hf
  refine pgs_nil.imp fun vs σ H Q h => ?_
  obtain ⟨env, m, st, ds, E, S, r, o⟩ := h
  cases ds with
  | nil => exact ⟨r, o σ m H (.refl S) E⟩
  | cons => exact o.elim
theorem jtgs_cons {e : Expr} {es : List Expr} {f1 : D0 → Env → Store → RS} {fs f : List D0 → Env → Store → RS} (hf : f = fun ds env st => match ds with
    | d :: ds => (f1 d env st).bind fun env st => fs ds env st
    | [] => .no) (h1 : PG X e (tTg X f1)) (h2 : PGs X es (tTgs X fs)) (hs : noStar e = true) (hnrt : ∀ d env st v st', f1 d env st ≠ .rt v st') : PGs X (e :: es) (tTgs X f) := by
  subst hf
  refine (pgs_cons h1 h2 (by cases e <;> first | rfl | cases hs)).imp fun vs σ H Q h => ?_
  obtain ⟨env, m, st, ds, E, S, r, o⟩ := h
  cases ds with
  | nil => exact o.elim
  | cons d ds =>
  obtain ⟨v, ws, rfl, r1, r2⟩ := r
  refine ⟨v, ws, rfl, env, m, st, d, E, S, r1, ?_⟩
  have o : OutS X m H ⟨Q, fun _ _ => False, fun _ _ => False, fun _ _ => False⟩ ((f1 d env st).bind fun env st => fs ds env st) := o
  cases hq : f1 d env st with
  | no => rw [hq] at o; exact o
  | ex x xs e2 s2 => rw [hq] at o; exact o
  | rt v st' => exact (hnrt _ _ _ _ _ hq).elim
  | nx env1 st1 =>
    rw [hq] at o
    intro σ1 m1 H1 n1 E1
    exact ⟨env1, m1, st1, ds, E1, n1.sto, r2.mono S n1.ext n1.fr, OutS.later (r := fs ds env1 st1) n1 o⟩
theorem jtg_tup {es : List Expr} {k : Nat} {pos : Pos} {fs : List D0 → Env → Store → RS} {f : D0 → Env → Store → RS} (hf : f = fun d env st => match d with
    | .tup ds => if ds.length = es.length then fs ds env st else .no
    | _ => .no) (hc : X.calm = true) (h : PGs X es (tTgs X fs)) (hst : es.all noStar = true) : PG X (.Tuple es k pos) (tTg X f) := by
  subst hf
  obtain ⟨a, b⟩ := assign_len (env := X.env) hst
  refine (pg_tup (n := es.length) hc h a b).imp fun v σ H Q h => ?_
  obtain ⟨env, m, st, d, E, S, r, o⟩ := h
  cases d with
  | tup ds => ?_
  | _ => exact o.elim
  dsimp only at o
  by_cases hl : ds.length = es.length
  · rw [if_pos hl] at o
    obtain ⟨a, vs, rfl, ha, rs⟩ := r
    exact ⟨a, vs, rfl, ha, by rw [rs.length, hl], env, m, st, ds, E, S, rs, o⟩
  · rw [if_neg hl] at o; exact o.elim
/-- three names at once -/
theorem js_par3 {i j l : Nat} {x y z : Str} {a b c : Expr} {fs : Env → Store → R (List D0)} {px py pz pt pos : Pos} {kt k2 : Nat} {pt2 : Pos} {f : Env → Store → RS} (hf : f = fun env st => (fs env st).thn env fun ds st => match setAll [i, j, l] ds env with
      | some env' => .nx env' st
      | none => .no) (hc : X.calm = true) (hN : X.N.Nodup) (hi : X.N[i]? = some x) (hj : X.N[j]? = some y) (hl : X.N[l]? = some z) (hij : i ≠ j) (hil : i ≠ l) (hjl : j ≠ l)
    (hx : X.env.scope.names.lookup x = some .local) (hy : X.env.scope.names.lookup y = some .local) (hz : X.env.scope.names.lookup z = some .local) (ha : PA X [a, b, c] (tDs X fs))
    (hw : swappedStores [.Tuple [.Name x px, .Name y py, .Name z pz] kt pt] (.Tuple [a, b, c] k2 pt2) X.env = pure (some [x, y, z])) : PS X (.Assign [.Tuple [.Name x px, .Name y py, .Name z pz] kt pt] (.Tuple [a, b, c] k2 pt2) pos) (tS X f) := by
  subst hf
  refine (ps_par3 hc hN hi hj hl hij hil hjl hx hy hz ha hw rfl).imp fun Z σ H h => ?_
  refine tDs_mono (tS_thnDs (k := fun ds env st => match setAll [i, j, l] ds env with
      | some env' => .nx env' st
      | none => .no) h) fun vs H1 ⟨env, m, st, ds, E, S, r, o⟩ => ?_
  match ds, r, o with
  | [d1, d2, d3], ⟨v1, _, e1, r1, v2, _, e2, r2, v3, _, e3, r3, e4⟩, o =>
    subst e1 e2 e3 e4
    simp only [setAll] at o
    exact ⟨v1, v2, v3, rfl, o _ m H1 (.refl S) (((E.set r1).set r2).set r3)⟩
  | [], _, o => exact o.elim
  | [_], _, o => exact o.elim
  | [_, _], _, o => exact o.elim
  | _ :: _ :: _ :: _ :: _, _, o => exact o.elim
end
end Eng
/-! E19: own exceptions over ValueError whose __init__ says super().__init__(text), then self.f = x. -/
namespace Eng
open PySem PySem.Spec PyProof.Rows L2
section
open PySem.W
variable {prog : Program} {w : World} {A : Around} {E : Value → Shared → Prop} {h : Heap} {g : Array GenState} {d : Drawn} {t : Nat} {os : OsState}
/-- ValueError.__init__ bound to e, called -/
theorem mw_call {nm q : Str} {C N : Addr} {bs bm : List Value} {hdct : Bool} {sn : List Str} {sub : List Value} {ab : Bool} {col : Option Bool} {dd : Option Addr} {k0 k1 k2 k3 k5 : Option Value} {u e t0 : Addr} {rest : List Value} {Q : Value → Shared → Prop}
    (hC : h.get? C = some (excClassObj nm q C N bs bm hdct sn sub ab col dd k0 k1 k2 k3 k5 "ValueError.__new__")) (he : h.get? e = some (HandSPX.excO C t0)) (hu : h.get? u = some (kxs_mw "ValueError.__init__" e)) (hrest : rest.length ≤ sizeLine)
    (hq : ∀ h' t1, (∀ b o, b ≠ e → h.get? b = some o → h'.get? b = some o) → h'.get? e = some (HandSPX.excO C t1) → Q .none ⟨h', g, d, t, os⟩) :
    wpAny (model prog w) A (call (.ref u) rest) Q E ⟨h, g, d, t, os⟩ := by
  refine wpAny_call (codeAny_of_tree ?_)
  show wpAny _ A.in1 (callAny (.ref u) ⟨rest, []⟩) _ _ _
  simp only [callAny]
  refine wpAny_bind (wpAny_load hu ?_)
  simp only [kxs_mw, show (Value.type "method-wrapper" == Value.type "method" || Value.type "method-wrapper" == Value.type "builtin_function_or_method" || Value.type "method-wrapper" == Value.type "method-wrapper") = true by decide, if_true]
  refine KFB.if_so (by decide) ?_
  refine wpAny_bind (check_bound_init F.excBase_ValueError.toExcCallFacts hC he rfl ?_)
  refine wpAny_bind (wpAny_pure (wpAny_pure ?_))
  refine ⟨plainId_quiet F.excBase_ValueError.init.plain _, codeAny_builtin F.excBase_ValueError.initEntry ?_⟩
  exact exc_init_tree (cls := .ref C) (t0 := t0) (dv := none) (c2 := .none) (c3 := .none) (b4 := .bool false) he hrest fun h' k e' t' => hq h' _ k e'
end


/-! ### the text of the message -/
section
open PySem.W
variable {prog : Program} {w : World}
/-- evaluated at a heap that has h's objects, it gives a text (or what φ says) and changes nothing else -/
def Ev (prog : Program) (w : World) (env : PySem.Env) (h : Heap) (e : Expr) (φ : Value → Prop) : Prop :=
  ∀ (A : Around) (E : Value → Shared → Prop) (Q : Value → Shared → Prop) (g : Array GenState) (d : Drawn) (t : Nat) (os : OsState),
    (∀ v t', φ v → Q v ⟨h, g, d, t', os⟩) → wpAny (model prog w) A (eval e env) Q E ⟨h, g, d, t, os⟩
/-- a text of at most n signs -/
def TxtN (n : Nat) (v : Value) : Prop := ∃ (y : Str) (t : Tok), v = .str y t ∧ y.length ≤ n
/-- what {x} or {x!r} takes -/
def FmtV (v : Value) : Prop := (∃ (y : Str) (t : Tok), v = .str y t ∧ y.length ≤ 1000000 ∧ (reprText y).length ≤ 1000000) ∨ (∃ (i : Int) (t : Tok), v = .int i t ∧ i.natAbs.log2 < 1920) ∨ v = .none
theorem ev_str {env : PySem.Env} {h : Heap} {y : Str} {k : Nat} {p : Pos} : Ev prog w env h (.Constant (.str y) k p) (TxtN y.length) := fun A E Q g d t os q => Calls.Constant_str (q _ _ ⟨y, _, rfl, Nat.le_refl _⟩)
theorem ev_name {env : PySem.Env} {h : Heap} {m : Str → Option Value} {x : Str} {v : Value} {p : Pos} (hn : h.Ns env.locals m) (hv : m x = some v) (hk : env.scope.kind = .function) (hl : env.kindOf x = some .local)
    (hd : (x == ("__debug__" : Str)) = false) : Ev prog w env h (.Name x p) (fun u => u = v) := fun A E Q g d t os q =>
  wpAny_Name (wpAny_loadName_local hk hl (s := ⟨h, g, d, t, os⟩) hn hv (q _ _ rfl)) hd
theorem int_len {i : Int} (hi : i.natAbs.log2 < 1920) : (Str.ofString (toString i)).length ≤ 1000000 := by
  have e := int_text_length_le (k := 1920) (by decide) hi
  rw [PySem.ofString_length]; omega
theorem ev_fmt {env : PySem.Env} {h : Heap} {e : Expr} {v : Value} {p : Pos} (he : Ev prog w env h e (fun u => u = v)) (hv : FmtV v) : Ev prog w env h (.FormattedValue e (-1) none p) (TxtN 1000000) := fun A E Q g d t os q => by
  refine wpAny_FormattedValue_plain (he _ _ _ _ _ _ _ fun u t' hu => ?_)
  subst hu
  rcases hv with ⟨y, k, rfl, hz, _⟩ | ⟨i, k, rfl, hi⟩ | rfl
  · exact wpAny_formatField_str (q _ _ ⟨y, _, rfl, hz⟩) (q _ _ ⟨y, _, rfl, hz⟩) (by rw [sizeLine_eq]; omega)
  · exact wpAny_formatField_int hi (q _ _ ⟨_, _, rfl, int_len hi⟩)
  · exact wpAny_formatField_none (q _ _ ⟨_, _, rfl, by decide⟩)
theorem ev_fmtR {env : PySem.Env} {h : Heap} {e : Expr} {v : Value} {p : Pos} (he : Ev prog w env h e (fun u => u = v)) (hv : FmtV v) : Ev prog w env h (.FormattedValue e 114 none p) (TxtN 1000000) := fun A E Q g d t os q => by
  refine wpAny_FormattedValue_repr (he _ _ _ _ _ _ _ fun u t' hu => ?_)
  subst hu
  rcases hv with ⟨y, k, rfl, _, hz⟩ | ⟨i, k, rfl, hi⟩ | rfl
  · exact pyReprObj_str (wpAny_formatField_str (q _ _ ⟨_, _, rfl, hz⟩) (q _ _ ⟨_, _, rfl, hz⟩) (by rw [sizeLine_eq]; omega)) (by rw [sizeLine_eq]; omega)
  · exact pyReprObj_int hi (wpAny_formatField_str (q _ _ ⟨_, _, rfl, int_len hi⟩) (q _ _ ⟨_, _, rfl, int_len hi⟩) (int_text_fits hi))
  · exact pyReprObj_none (wpAny_formatField_str (q _ _ ⟨_, _, rfl, by decide⟩) (q _ _ ⟨_, _, rfl, by decide⟩) (by decide))
/-- the parts, each of at most a million signs -/
inductive Evs (prog : Program) (w : World) (env : PySem.Env) (h : Heap) : List Expr → Prop
  | nil : Evs prog w env h []
  | cons {e : Expr} {es : List Expr} (he : Ev prog w env h e (TxtN 1000000)) (r : Evs prog w env h es) : Evs prog w env h (e :: es)
theorem Ev.imp {env : PySem.Env} {h : Heap} {e : Expr} {φ ψ : Value → Prop} (he : Ev prog w env h e φ) (i : ∀ v, φ v → ψ v) : Ev prog w env h e ψ := fun A E Q g d t os q => he A E Q g d t os fun v t' hv => q v t' (i v hv)
theorem evs_run {env : PySem.Env} {h : Heap} {es : List Expr} (r : Evs prog w env h es) : ∀ (n : Nat) (acc : Str) (A : Around) (E : Value → Shared → Prop) (Q : Str → Shared → Prop) (g : Array GenState) (d : Drawn) (t : Nat) (os : OsState), acc.length ≤ n * 1000000 → n + es.length ≤ 10 →
    (∀ out t', out.length ≤ sizeLine → Q out ⟨h, g, d, t', os⟩) → Joins (model prog w) A E (evalEach es env) acc Q ⟨h, g, d, t, os⟩ := by
  induction r with
  | nil =>
    intro n acc A E Q g d t os h1 h2 q
    have e0 : evalEach [] env = [] := by first | rfl | simp [evalEach]
    rw [e0]
    simp only [List.length_nil] at h2
    exact q acc _ (by rw [sizeLine_eq]; omega)
  | @cons e es he r ih =>
    intro n acc A E Q g d t os h1 h2 q
    have e0 : evalEach (e :: es) env = eval e env :: evalEach es env := by first | rfl | simp [evalEach]
    rw [e0]
    refine he _ _ _ _ _ _ _ fun v t' hv => ?_
    obtain ⟨y, k, rfl, hy⟩ := hv
    have hl : (acc ++ y).length = acc.length + y.length := strLen_append _ _
    simp only [List.length_cons] at h2
    exact ⟨y, k, rfl, by rw [hl, sizeLine_eq]; omega, ih (n + 1) (acc ++ y) _ _ _ _ _ _ _ (by rw [hl]; omega) (by omega) q⟩
theorem ev_joined {env : PySem.Env} {h : Heap} {v1 v2 : Expr} {rest : List Expr} {p : Pos} (r : Evs prog w env h (v1 :: v2 :: rest)) (hl : rest.length ≤ 8) : Ev prog w env h (.JoinedStr (v1 :: v2 :: rest) p) (fun v => ∃ y t, v = .str y t) := fun A E Q g d t os q =>
  wpAny_JoinedStr (evs_run r 0 Str.empty _ _ _ _ _ _ _ (Nat.zero_le _) (by simp only [List.length_cons]; omega) fun out t' hz => ⟨hz, q _ _ ⟨_, _, rfl⟩⟩)
end

/-- what the text and the written part say of such a class: its __init__ is the def at fI -/
structure ExcF (P : Program) (K : PySem.W.Frag) (C fI : Addr) : Prop where
  T : OexC K C
  iC : PySem.W.findIn K (.ref C) "__init__" = some (some (.ref fI))
  tI : PySem.W.typeIn K (.ref fI) = some (.type "function")
  sup : PySem.W.ks_superIn K C C "__init__" = some (some (.builtin "ValueError.__init__"))
  sub : PySem.W.subIn K (.ref C) (.type "ValueError") = some true
  self : PySem.W.mroIn K C (.ref C) = some true
  opq : PySem.W.nsIn K PySem.cStatics "thirdparty.any" = some none
  top : (P.main.scope.names.lookup ("super" : Str)).isSome = false
/-- the exception e of the class C while its __init__ runs at L: all else stands -/
structure EI (hp0 : Heap) (e C L : Addr) (m : Str → Option Value) (dv : Option Addr) (fs : List (Str × Value)) (h : Heap) : Prop where
  keep : ∀ b o, hp0.get? b = some o → h.get? b = some o
  e0 : hp0.get? e = none
  el : L ≠ e
  ex : ∃ t1 : Addr, h.get? e = some ({ cls := .ref C, dict := dv, data := .fields #[.ref t1, .none, .none, .none, .bool false, .none] } : Obj)
  ns : h.Ns L m
  dn : match dv with
    | none => fs = []
    | some dx => dx ≠ e ∧ dx ≠ L ∧ hp0.get? dx = none ∧ ∃ mA, h.Ns1 dx mA ∧ ∀ y, mA y = fs.lookup y
theorem EI.more {hp0 h h' : Heap} {e C L : Addr} {m : Str → Option Value} {dv : Option Addr} {fs : List (Str × Value)} (I : EI hp0 e C L m dv fs h) (k : ∀ b o, h.get? b = some o → h'.get? b = some o) : EI hp0 e C L m dv fs h' := by
  refine ⟨fun b o z => k b o (I.keep b o z), I.e0, I.el, let ⟨t1, z⟩ := I.ex; ⟨t1, k _ _ z⟩, I.ns.keeps k, ?_⟩
  have dn := I.dn
  cases dv with
  | none => exact dn
  | some dx =>
    obtain ⟨a, b, c, mA, hn, hl⟩ := dn
    exact ⟨a, b, c, mA, hn.at fun o q => k _ _ q, hl⟩

section
open PySem.W
variable {prog : Program} {w : World} {A : Around} {E : Value → Shared → Prop} {K : PySem.W.Frag} {mg : Str → Option Value} {hp0 base : Heap} {e C fI L cda cc : Addr} {m : Str → Option Value} {g : Array GenState} {d : Drawn} {t : Nat} {os : OsState}
variable {name qual : Str} {params : Arguments} {body : List Stmt} {scope : Scope} {dV kV doc pm ct : Value} {an od : Option Addr} {osl : Array (Option Value)} {oc : Value}
/-- what the def __init__ is: the parts that the walk looks at -/
structure InitD (prog : Program) (K : PySem.W.Frag) (C fI cda cc : Addr) (fd : FuncData) : Prop where
  at_ : ∃ oc od osl, K.lookup fI = some ⟨oc, od, .func fd, osl⟩
  code : ∃ ccl cdd vs ccs file tf, K.lookup cda = some ⟨ccl, cdd, .fields vs, ccs⟩ ∧ vs[2]? = some (.str file tf) ∧ ((prog.main.file : Str) == file) = true
  cell : ∃ cl cld csl, K.lookup cc = some ⟨cl, cld, .cell (some (.ref C)), csl⟩
  cls : ∃ cd, clsIn K C = some cd
  ks : fd.scope.names.lookup ("super" : Str) = some .globalImplicit
  kc : fd.scope.names.lookup ("__class__" : Str) = some .free
  kself : fd.scope.names.lookup ("self" : Str) = some .local
  kk : fd.scope.kind = .function
  cod : fd.code = .ref cda
  clo : fd.closure = [(("__class__" : Str), cc)]
  glo : fd.globals = mainGlobals
  bl : fd.builtins = builtinsNs
  par : ∃ ar : Arg, (fd.params.posonlyargs ++ fd.params.args).head? = some ar ∧ ar.arg = "self"
theorem ex_super {fd : FuncData} {me : Expr} {p0 p1 p2 p3 p4 : Pos} {h : Heap} {bd : List Stmt} (D : InitD prog K C fI cda cc fd) (T : ExcF prog K C fI) (MO : Mod K mg base) (hb0 : ∀ b o, base.get? b = some o → hp0.get? b = some o) (hms : mg "super" = none)
    (I : EI hp0 e C L m none [] h) (hself : m "self" = some (.ref e)) (hme : ∀ h', (∀ b o, h.get? b = some o → h'.get? b = some o) → Ev prog w (callEnv fd L fI) h' me (fun v => ∃ y tk, v = .str y tk))
    (hst : starEach [me] (callEnv fd L fI) = [(false, eval me (callEnv fd L fI))]) {pl : Sem Bool}
    (hc : eval (.Call (.Attribute (.Call (.Name "super" p0) [] [] p1) "__init__" p2) [me] [] p3) (callEnv fd L fI) = (do
      let ov ← attributeBase (.Call (.Name "super" p0) [] [] p1) "__init__" (callEnv fd L fI) (eval (.Call (.Name "super" p0) [] [] p1) (callEnv fd L fI))
      standAt p2.atName
      let (f, first) ← holding [ov] (getMethod ov "__init__" pl)
      callWith p3 f first (backTo p3 (starEach [me] (callEnv fd L fI))) [])) :
    _root_.PySem.wpAt (model prog w) A (.func bd (callEnv fd L fI)) (exec (.Expr (.Call (.Attribute (.Call (.Name "super" p0) [] [] p1) "__init__" p2) [me] [] p3) p4) (callEnv fd L fI))
      (fun fl s' => fl = .next ∧ ∃ h' t', s' = ⟨h', g, d, t', os⟩ ∧ EI hp0 e C L m none [] h') E ⟨h, g, d, t, os⟩ := by
  refine ks_wpAt_Expr_any ?_ (by unfold interactive; show (fd.scope.kind == .module && _) = false; rw [D.kk]; rfl) (by rfl)
  refine ks_wpAt_MethodCall (pl := pl) ?_ hc
  have hb : ∀ b o, base.get? b = some o → h.get? b = some o := fun b o z => I.keep b o (hb0 b o z)
  have KI : K.In h := MO.kin.keeps hb
  obtain ⟨oc, od, osl, hf⟩ := D.at_
  obtain ⟨ccl, cdd, vs, ccs, file, tf, hcode, hvs, hfile⟩ := D.code
  obtain ⟨cl, cld, csl, hcell⟩ := D.cell
  obtain ⟨cd, hD⟩ := D.cls
  obtain ⟨ar, hp, har⟩ := D.par
  obtain ⟨mb, hb1, hb2⟩ := MO.blt
  obtain ⟨t1, hx⟩ := I.ex
  obtain ⟨oD, hD1, hD2⟩ : ∃ oD, h.get? C = some oD ∧ oD.data = .cls cd := by
    unfold clsIn at hD
    split at hD
    · rename_i c d cd' sl ho
      cases hD
      exact ⟨_, KI _ _ ho, rfl⟩
    · cases hD
  have xC : e ≠ C := fun z => by
    rw [z, hD1] at hx
    cases hx
    cases hD2
  refine ks_wpAt_super_base (env := callEnv fd L fI) (f := fI) (cc := cda) D.ks D.kc (by decide) rfl (KI _ _ hf) rfl hp D.cod (KI _ _ hcode) rfl hvs hfile T.top ?_
  refine ks_loadName_global D.kk D.ks (Calls.loadGlobal_builtin (env := callEnv fd L fI) (mg := mg) (mb := mb) (by show h.Ns fd.globals mg; rw [D.glo]; exact MO.glob.keeps hb) hms (by show h.Ns fd.builtins mb; rw [D.bl]; exact hb1.keeps hb) ((hb2 _ (by decide)).trans (by first | rfl | decide +kernel)) ⟨rfl, ?_⟩)
  refine wpAny_loadName_free (env := callEnv fd L fI) (c := cc) D.kk D.kc (by show fd.closure.lookup _ = _; rw [D.clo]; rfl) ⟨_, KI _ _ hcell, rfl⟩ ?_
  refine wpAny_loadName_local (env := callEnv fd L fI) D.kk (by rw [har]; exact D.kself) I.ns (by rw [har]; exact hself) ?_
  refine ks_wpAny_isType_cls hD1 hD2 ⟨rfl, ?_⟩
  refine ks_wpAny_call_super hD1 hD2 hx rfl (fun c z => by cases z) (looks_mroIn KI T.self) (fun h1 e1 k1 => ?_)
  have KI1 : K.In h1 := KI.keeps k1
  have hx1 := k1 _ _ hx
  have sup := T.sup
  unfold ks_superIn at sup
  rw [hD] at sup
  have I1 : InstAt h1 e ({ cls := .ref C, dict := none, data := .fields #[.ref t1, .none, .none, .none, .bool false, .none] } : Obj) C none := ⟨hx1, rfl, rfl, trivial⟩
  refine kxs_getMethod kxs_ValueError e1 (looks_opaque KI1 T.opq) (l₀ := cd.mro) ?_ rfl KI1 sup (I1.type.andThen (looks_subIn KI1 T.sub)) xC (by decide) ?_
  · exact fun A Q E s k q => wpAny_bind ((looks_clsIn KI1 hD) A _ E s k (wpAny_pure q))
  have k2 : ∀ b o, h.get? b = some o → (h1.push (kxs_mw "ValueError.__init__" e)).get? b = some o := fun b o z => Heap.get?_push_of_some _ (k1 b o z)
  have hu : (h1.push (kxs_mw "ValueError.__init__" e)).get? h1.objs.size = some (kxs_mw "ValueError.__init__" e) := Heap.get?_push_at rfl rfl
  rw [hst]
  obtain ⟨nm, q, N, bs, bm, sn, sub, ab, col, dd, k0', k1', k2', k3', k5', hC, hbm⟩ := T.T.cls
  refine kxs_callWith (i := "ValueError.__init__") (x := e) (by rfl) (Calls.evalArgs_plain (Calls.spliced_cons (hme _ k2 _ _ _ _ _ _ _ fun v t' hv => Calls.spliced_nil ⟨hu, ?_⟩)))
  refine mw_call (C := C) (t0 := t1) (KI _ _ hC |> fun z => k2 _ _ z) (k2 _ _ hx) hu (by show 1 ≤ sizeLine; rw [sizeLine_eq]; omega) fun h' t2 k e2 => ?_
  have kk : ∀ b o, b ≠ e → h.get? b = some o → h'.get? b = some o := fun b o hb z => k b o hb (k2 b o z)
  refine ⟨rfl, h', _, rfl, fun b o z => kk b o (fun y => by rw [y, I.e0] at z; cases z) (I.keep b o z), I.e0, I.el, ⟨t2, e2⟩, ?_, I.dn⟩
  exact I.ns.at fun o z => kk L o I.el z
end

section
open PySem.W
variable {prog : Program} {w : World} {A : Around} {E : Value → Shared → Prop} {K : PySem.W.Frag} {mg : Str → Option Value} {hp0 base : Heap} {e C fI L cda cc : Addr} {m : Str → Option Value} {g : Array GenState} {d : Drawn} {t : Nat} {os : OsState}
theorem lookupV_put (f g : Str) (y : Value) (fs : List (Str × Value)) : ((f, y) :: fs).lookup g = if g = f then some y else fs.lookup g := by
  by_cases h : g = f
  · subst h
    simp [List.lookup]
  · have e : (g == f) = false := by simpa using h
    rw [if_neg h]
    simp [List.lookup, e]
theorem within_fs : ∀ {fs : List (Str × Value)} {mA : Str → Option Value}, (∀ f, mA f = fs.lookup f) → Within mA (fs.map (·.1)) := fun {fs mA} r y hy => by
  have key : ∀ {l : List (Str × Value)} {v : Value}, l.lookup y = some v → y ∈ l.map (·.1) := by
    intro l
    induction l with
    | nil =>
      intro v h
      cases h
    | cons p l ih =>
      intro v h
      obtain ⟨f, z⟩ := p
      rw [lookupV_put] at h
      by_cases e : y = f
      · rw [e]
        exact List.mem_cons_self ..
      · rw [if_neg e] at h
        exact List.mem_cons_of_mem _ (ih h)
  cases hm : mA y with
  | none => exact absurd hm hy
  | some u =>
    rw [r y] at hm
    exact key hm
/-- self.f = x -/
theorem ex_fld {fd : FuncData} {f x : Str} {v : Value} {p0 p1 p2 p3 : Pos} {h : Heap} {bd : List Stmt} {dv : Option Addr} {fs : List (Str × Value)} (D : InitD prog K C fI cda cc fd) (T : ExcF prog K C fI) (MO : Mod K mg base) (hb0 : ∀ b o, base.get? b = some o → hp0.get? b = some o)
    (I : EI hp0 e C L m dv fs h) (hself : m "self" = some (.ref e)) (hx : m x = some v) (kx : fd.scope.names.lookup x = some .local) (dx : (x == ("__debug__" : Str)) = false) (hno : findIn K (.ref C) f = some none) (hl : fs.length ≤ 900)
    (hs : swapsWith (.Name x p2) (some (.Attribute (.Name "self" p0) f p1)) p3.line (callEnv fd L fI) = pure false := by rfl) :
    _root_.PySem.wpAt (model prog w) A (.func bd (callEnv fd L fI)) (exec (.Assign [.Attribute (.Name "self" p0) f p1] (.Name x p2) p3) (callEnv fd L fI))
      (fun fl s' => fl = .next ∧ ∃ h' t' dv', s' = ⟨h', g, d, t', os⟩ ∧ EI hp0 e C L m (some dv') ((f, v) :: fs) h') E ⟨h, g, d, t, os⟩ := by
  refine ks_wpAt_Assign_Attr (wpAt_of_wpAny (wpAny_Name (wpAny_loadName_local (env := callEnv fd L fI) D.kk kx I.ns hx ?_) dx)) hs
  refine wpAny_Name (wpAny_loadName_local (env := callEnv fd L fI) D.kk D.kself I.ns hself ?_) (by decide)
  have KI : K.In h := MO.kin.keeps fun b o z => I.keep b o (hb0 b o z)
  obtain ⟨nm, q, N, bs, bm, sn, sub, ab, col, dd, k0', k1', k2', k3', k5', hC, hbm⟩ := T.T.cls
  have hcl : clsIn K C = some { name := nm, bases := bs, mro := .ref C :: bm, ns := N, qualname := q, hasDict := true, slotNames := sn, subclasses := sub, abstract := ab, collection := col, hasDel := false } := by unfold clsIn; rw [hC] <;> rfl
  obtain ⟨t1, ho⟩ := I.ex
  obtain ⟨oL, es, ep, hL, hL2⟩ := id I.ns
  cases dv with
  | none =>
    have en : fs = [] := I.dn
    subst en
    refine set_plain KI (ox := { cls := .ref C, dict := none, data := .fields #[.ref t1, .none, .none, .none, .bool false, .none] }) (od := none) ⟨ho, rfl, rfl, trivial⟩ T.T.sa ?_
    refine HandSPX.exc_osa KI ho hcl (show HandSPX.refsVE (.ref C :: bm) = true from hbm) rfl hno (fun h' tk' dx k dn dne hx' hn => ?_)
    have dL : dx ≠ L := fun z => by
      have := Heap.lt_size hL
      rw [← z] at this
      exact absurd this (Nat.not_lt.mpr dn)
    refine ⟨rfl, h', tk', dx, rfl, fun b o z => k b o (fun y => by rw [y, I.e0] at z; cases z) (I.keep b o z), I.e0, I.el, ⟨t1, hx'⟩, I.ns.at fun o z => k L o I.el z, dne, dL, ?_, _, hn, fun y => ?_⟩
    · cases z : hp0.get? dx with
      | none => rfl
      | some o => exact absurd (Heap.lt_size (I.keep _ _ z)) (Nat.not_lt.mpr dn)
    · rw [lookupV_put] <;> rfl
  | some dx =>
    obtain ⟨n1, n2, n3, mA, hns, rel⟩ := I.dn
    obtain ⟨oD, esD, epD, hoD, hD2⟩ := id hns
    refine set_plain KI (ox := { cls := .ref C, dict := some dx, data := .fields #[.ref t1, .none, .none, .none, .bool false, .none] }) (od := some oD) ⟨ho, rfl, rfl, hoD⟩ T.T.sa ?_
    refine OEX.osa_old KI ho hns (within_fs rel) (by rw [List.length_map]; omega) hcl (show HandSPX.refsVE (.ref C :: bm) = true from hbm) rfl hno (fun h' tk' k hn => ?_)
    refine ⟨rfl, h', tk', dx, rfl, fun b o z => k b o (fun y => by rw [y, n3] at z; cases z) (I.keep b o z), I.e0, I.el, ⟨t1, k _ _ (Ne.symm n1) ho⟩, I.ns.at fun o z => k L o (Ne.symm n2) z, n1, n2, n3, _, hn, fun y => ?_⟩
    rw [lookupV_put, ← rel y]
end
end Eng
/-! E20: an own exception made and raised. -/
namespace Eng
open PySem PySem.Spec PyProof.Rows L2
/-- o.name(..) on one line, few arguments, no stars -/
theorem starEach_all {es : List Expr} {env : PySem.Env} (h : es.all noStar = true) : (starEach es env).all (!·.1) = true := by
  induction es with
  | nil => rfl
  | cons e es ih =>
    simp only [List.all_cons, Bool.and_eq_true] at h
    rw [star_plain h.1]
    simp only [List.all_cons, Bool.not_false, Bool.true_and]
    exact ih h.2
theorem mcall {o : Expr} {name : Str} {apos pos : Pos} {es : List Expr} {env : PySem.Env} (hl : (apos.endLine == pos.line) = true) (hst : es.all noStar = true) (hn : es.length < 30) :
    eval (.Call (.Attribute o name apos) es [] pos) env = (do
      let ov ← attributeBase o name env (eval o env)
      standAt apos.atName
      let (f, first) ← holding [ov] (getMethod ov name (do return (← importBound o env).getD true))
      callWith pos f first (backTo pos (starEach es env)) []) := by
  have e1 : methodCallForm (es.length + ([] : List Keyword).length) (backTo pos (starEach es env)) (backToKw pos (keywordEach [] env)) = true := by
    unfold methodCallForm
    have a1 : (backTo pos (starEach es env)).all (!·.1) = true := by
      have := starEach_all (env := env) hst
      unfold backTo
      rw [List.all_map]
      exact this
    rw [a1]
    simp [hn, backToKw, keywordEach]
  have e2 : methodCallPos true o env apos pos = pure pos := by unfold methodCallPos; simp [hl]
  show (do let ov ← attributeBase o name env (eval o env); standAt apos.atName; methodCall o name apos pos env ov (es.length + ([] : List Keyword).length) (backTo pos (starEach es env)) (backToKw pos (keywordEach [] env))) = _
  unfold methodCall calleeOf
  rw [e1, e2]
  simp only [if_true, pure_bind]
  rfl

section
open PySem.W
variable {prog : Program} {w : World} {A : Around} {E : Value → Shared → Prop} {K : PySem.W.Frag} {mg : Str → Option Value} {hp0 base : Heap} {e C fI L cda cc : Addr} {m : Str → Option Value} {g : Array GenState} {d : Drawn} {t : Nat} {os : OsState}
/-- the lines self.f = x, x the parameter i (behind self) of ps -/
def fldLs (ps : List Str) : List Stmt → List (String × Nat) → Bool
  | [], [] => true
  | .Assign [.Attribute (.Name s _) f _] (.Name x _) _ :: r, (g, i) :: l => decide (s = "self") && decide (f = Str.ofString g) && decide (ps[i + 1]? = some x) && fldLs ps r l
  | _, _ => false
def valOf (us : List Value) (i : Nat) : Value := us.getD i .none
theorem ex_flds {fd : FuncData} {bd : List Stmt} {ps : List Str} {us : List Value} (D : InitD prog K C fI cda cc fd) (T : ExcF prog K C fI) (MO : Mod K mg base) (hb0 : ∀ b o, base.get? b = some o → hp0.get? b = some o)
    (hself : m "self" = some (.ref e)) (hm : ∀ (i : Nat) (x : Str), ps[i + 1]? = some x → m x = some (valOf us i)) (hk : ∀ x ∈ ps, fd.scope.names.lookup x = some .local ∧ (x == ("__debug__" : Str)) = false) :
    ∀ (r : List Stmt) (l : List (String × Nat)) (dv : Option Addr) (fs : List (Str × Value)) (h : Heap) (t : Nat), fldLs ps r l = true → (∀ q ∈ l, findIn K (.ref C) (Str.ofString q.1) = some none) → fs.length + l.length ≤ 900 → EI hp0 e C L m dv fs h →
      _root_.PySem.wpAt (model prog w) A (.func bd (callEnv fd L fI)) (execs r (callEnv fd L fI))
        (fun fl s' => fl = .next ∧ ∃ h' t' dv', s' = ⟨h', g, d, t', os⟩ ∧ (dv' = none ↔ l = [] ∧ dv = none) ∧ EI hp0 e C L m dv' ((l.map fun q => (Str.ofString q.1, valOf us q.2)).reverse ++ fs) h') E ⟨h, g, d, t, os⟩
  | [], l, dv, fs, h, t, hf, hno, hl, I => by
    cases l with
    | cons q l => simp [fldLs] at hf
    | nil => exact wpAt_of_wpAny (wpAny_execs_nil ⟨rfl, h, t, dv, rfl, by simp, by simpa using I⟩)
  | st :: r, l, dv, fs, h, t, hf, hno, hl, I => by
    unfold fldLs at hf
    split at hf
    · cases ‹st :: r = []›
    · rename_i s0 p0 f p1 x p2 p3 r' g0 i l' e1
      cases e1
      simp only [Bool.and_eq_true, decide_eq_true_eq] at hf
      obtain ⟨⟨⟨rfl, rfl⟩, hx⟩, hf⟩ := hf
      have kx := hk x (List.mem_of_getElem? hx)
      simp only [List.length_cons] at hl
      refine ks_wpAt_execs_cons (PySem.wpAt_mono (ex_fld (f := Str.ofString g0) (v := valOf us i) D T MO hb0 I hself (hm i x hx) kx.1 kx.2 (hno _ (List.mem_cons_self ..)) (by omega)) (fun fl s' hs => ?_) fun _ _ z => z)
      obtain ⟨rfl, h', t', dv', rfl, I'⟩ := hs
      refine PySem.wpAt_mono (ex_flds D T MO hb0 hself hm hk _ l' _ _ h' t' hf (fun q hq => hno q (List.mem_cons_of_mem _ hq)) (by simp only [List.length_cons]; omega) I') (fun fl s' hs => ?_) fun _ _ z => z
      obtain ⟨rfl, h2, t2, dv2, rfl, hn, I2⟩ := hs
      exact ⟨rfl, h2, t2, dv2, rfl, by simp [hn], by simpa using I2⟩
    · cases hf
end

section
open PySem.W
variable {prog : Program} {w : World}
/-- a name that the message shows -/
def shows (ps : List Str) (sh : List Nat) (x : Str) : Bool := sh.any fun i => decide (ps[i + 1]? = some x)
def msgPart (ps : List Str) (sh : List Nat) : Expr → Bool
  | .Constant (.str y) _ _ => decide (y.length ≤ 1000000)
  | .FormattedValue (.Name x _) c none _ => (decide (c = -1) || decide (c = 114)) && shows ps sh x
  | _ => false
def msgOk (ps : List Str) (sh : List Nat) : Expr → Bool
  | .Constant (.str _) _ _ => true
  | .JoinedStr (v1 :: v2 :: rest) _ => decide (rest.length ≤ 8) && (v1 :: v2 :: rest).all (msgPart ps sh)
  | _ => false
theorem msgPart_ok {env : PySem.Env} {h : Heap} {m : Str → Option Value} {ps : List Str} {us : List Value} {sh : List Nat} (hn : h.Ns env.locals m) (hk : env.scope.kind = .function) (hm : ∀ (i : Nat) (x : Str), ps[i + 1]? = some x → m x = some (valOf us i))
    (hl : ∀ x ∈ ps, env.kindOf x = some .local ∧ (x == ("__debug__" : Str)) = false) (hv : ∀ i ∈ sh, FmtV (valOf us i)) {e : Expr} (h1 : msgPart ps sh e = true) : Ev prog w env h e (TxtN 1000000) := by
  unfold msgPart at h1
  split at h1
  · exact ev_str.imp fun v z => by
      obtain ⟨y, k, e, l⟩ := z
      have := of_decide_eq_true h1
      exact ⟨y, k, e, Nat.le_trans l this⟩
  · rename_i x p0 c p1
    simp only [Bool.and_eq_true, Bool.or_eq_true, decide_eq_true_eq] at h1
    obtain ⟨hc, hs⟩ := h1
    unfold shows at hs
    rw [List.any_eq_true] at hs
    obtain ⟨i, hi, hx⟩ := hs
    have hx := of_decide_eq_true hx
    have q := hl x (List.mem_of_getElem? hx)
    have N : Ev prog w env h (.Name x p0) (fun u => u = valOf us i) := ev_name hn (hm i x hx) hk q.1 q.2
    rcases hc with rfl | rfl
    · exact ev_fmt N (hv i hi)
    · exact ev_fmtR N (hv i hi)
  · cases h1
theorem msg_ok {env : PySem.Env} {h : Heap} {m : Str → Option Value} {ps : List Str} {us : List Value} {sh : List Nat} (hn : h.Ns env.locals m) (hk : env.scope.kind = .function) (hm : ∀ (i : Nat) (x : Str), ps[i + 1]? = some x → m x = some (valOf us i))
    (hl : ∀ x ∈ ps, env.kindOf x = some .local ∧ (x == ("__debug__" : Str)) = false) (hv : ∀ i ∈ sh, FmtV (valOf us i)) {e : Expr} (h1 : msgOk ps sh e = true) : Ev prog w env h e (fun v => ∃ y tk, v = .str y tk) := by
  unfold msgOk at h1
  split at h1
  · exact ev_str.imp fun v z => by
      obtain ⟨y, k, e, l⟩ := z
      exact ⟨y, k, e⟩
  · rename_i v1 v2 rest p
    simp only [Bool.and_eq_true, decide_eq_true_eq] at h1
    have all : ∀ {es : List Expr}, es.all (msgPart ps sh) = true → Evs prog w env h es := by
      intro es
      induction es with
      | nil => intro _; exact .nil
      | cons e es ih =>
        intro z
        simp only [List.all_cons, Bool.and_eq_true] at z
        exact .cons (msgPart_ok hn hk hm hl hv z.1) (ih z.2)
    exact ev_joined (all h1.2) h1.1
  · cases h1
theorem msg_noStar {ps : List Str} {sh : List Nat} {e : Expr} (h1 : msgOk ps sh e = true) : noStar e = true := by
  unfold msgOk at h1
  split at h1
  · rfl
  · rfl
  · cases h1
/-- the whole of __init__ -/
def initOk (ps : List Str) (xd : XDef) : List Stmt → Bool
  | .Expr (.Call (.Attribute (.Call (.Name s _) [] [] _) i p2) [me] [] p3) _ :: r => decide (s = "super") && decide (i = "__init__") && (p2.endLine == p3.line) && msgOk ps xd.shown me && fldLs ps r xd.flds.reverse
  | _ => false
variable {A : Around} {K : PySem.W.Frag} {mg : Str → Option Value} {base : Heap} {C fI cda cc : Addr}
theorem zip_get {ps : List Str} {us : List Value} (nd : ps.Nodup) {j : Nat} {x : Str} {v : Value} (h1 : ps[j]? = some x) (h2 : us[j]? = some v) : (ps.zip us).reverse.lookup x = some v := by
  induction ps generalizing us j with
  | nil => simp at h1
  | cons p ps ih =>
    cases us with
    | nil => simp at h2
    | cons u us =>
      have nd' := List.nodup_cons.mp nd
      rw [List.zip_cons_cons, List.reverse_cons, List.lookup_append]
      cases j with
      | zero =>
        simp only [List.getElem?_cons_zero, Option.some.injEq] at h1 h2
        subst h1 h2
        have : (ps.zip us).reverse.lookup p = none := by
          rw [List.lookup_eq_none_iff]
          intro q hq
          have hq := List.mem_reverse.mp hq
          have := (List.of_mem_zip hq).1
          cases hb : (p == q.1) with
          | false => simp [bne, hb]
          | true => exact absurd (eq_of_beq hb ▸ this) nd'.1
        rw [this]
        simp [List.lookup]
      | succ j =>
        simp only [List.getElem?_cons_succ] at h1 h2
        rw [ih nd'.2 h1 h2]
        rfl
theorem init_run {fd : FuncData} {ps : List Str} {xd : XDef} {body : List Stmt} {us : List Value} {hp0 hp : Heap} {e t0 : Addr} {g : Array GenState} {d : Drawn} {t : Nat} {os : OsState} {R : Result → Shared → Prop}
    (D : InitD prog K C fI cda cc fd) (T : ExcF prog K C fI) (MO : Mod K mg base) (hb0 : ∀ b o, base.get? b = some o → hp0.get? b = some o) (hms : mg "super" = none)
    (hbody : fd.body = .stmts body) (hini : initOk ("self" :: ps) xd body = true) (nd : (("self" : Str) :: ps).Nodup) (hk : ∀ x ∈ ("self" : Str) :: ps, fd.scope.names.lookup x = some .local ∧ (x == ("__debug__" : Str)) = false) (hcl : ∀ x ∈ fd.scope.names, x.2 ≠ .cell)
    (hco : fd.scope.isCoroutine = false) (hge : fd.scope.isGenerator = false) (hcd : codeIn K (.ref cda) fd.qualname = true) (hB : Binds K fd ("self" :: ps) []) (hno : ∀ q ∈ xd.flds, findIn K (.ref C) (Str.ofString q.1) = some none) (hfl : xd.flds.length ≤ 900)
    (hl : us.length = ps.length) (hv : ∀ i ∈ xd.shown, FmtV (valOf us i)) (hroom : A.depth < recursionLimit) (k0 : ∀ b o, hp0.get? b = some o → hp.get? b = some o) (e0 : hp0.get? e = none) (hex : hp.get? e = some (HandSPX.excO C t0))
    (hR : ∀ h' t' dv m L, (dv = none ↔ xd.flds = []) → EI hp0 e C L m dv (xd.flds.map fun q => (Str.ofString q.1, valOf us q.2)) h' → R (.ok (.ret .none)) ⟨h', g, d, t', os⟩) :
    codeAny (model prog w) A (.call (.ref fI) ⟨.ref e :: us, []⟩) R ⟨hp, g, d, t, os⟩ := by
  have KI : K.In hp := MO.kin.keeps fun b o z => k0 _ _ (hb0 b o z)
  obtain ⟨oc, od, osl, hf⟩ := D.at_
  have lim : hp.NoLimit := MO.nolimit.keeps fun b o z => k0 _ _ (hb0 b o z)
  have hb := hB ⟨hp, g, d, t, os⟩ (.ref e :: us) KI (by simp [hl])
  rw [List.append_nil] at hb
  refine ks_codeAny_call_defAt (fd := fd) (body := body) (binds := (("self" : Str) :: ps).zip (.ref e :: us)) hroom (KI _ _ hf) rfl lim (by rw [D.cod]; exact codeRec_of KI hcd) hbody hb hcl (fun x hx => (hk x.1 (List.of_mem_zip (a := x.1) (b := x.2) hx).1).1) (fun h1 hns hk1 => ?_) hco hge D.kk
  have hself : ((("self" : Str) :: ps).zip (Value.ref e :: us)).reverse.lookup ("self" : Str) = some (Value.ref e) := zip_get nd (j := 0) rfl rfl
  have hm : ∀ (i : Nat) (x : Str), (("self" : Str) :: ps)[i + 1]? = some x → ((("self" : Str) :: ps).zip (Value.ref e :: us)).reverse.lookup x = some (valOf us i) := fun i x hx => by
    refine zip_get nd hx ?_
    have hx' : ps[i]? = some x := by simpa using hx
    have hi : i < us.length := by rw [hl]; exact (List.getElem?_eq_some_iff.mp hx').1
    simp [valOf, List.getD, List.getElem?_eq_getElem hi]
  have I0 : EI hp0 e C hp.objs.size (fun x => ((("self" : Str) :: ps).zip (Value.ref e :: us)).reverse.lookup x) none [] h1 := by
    refine ⟨fun b o z => hk1 _ _ (k0 b o z), e0, ?_, ⟨t0, hk1 _ _ hex⟩, hns, rfl⟩
    exact fun z => absurd (Heap.lt_size hex) (by rw [← z]; exact Nat.lt_irrefl _)
  unfold initOk at hini
  split at hini
  · rename_i s p0 p1 i p2 me p3 p4 r
    simp only [Bool.and_eq_true, decide_eq_true_eq] at hini
    obtain ⟨⟨⟨⟨rfl, rfl⟩, hline⟩, hmsg⟩, hfld⟩ := hini
    have hst : [me].all noStar = true := by simp [msg_noStar hmsg]
    refine ks_wpAt_execs_cons (PySem.wpAt_mono (ex_super (hp0 := hp0) (e := e) D T MO hb0 hms I0 hself (fun h' k => ?_) (by rw [star_plain (msg_noStar hmsg)]; rfl) (mcall hline hst (show 1 < 30 by decide))) (fun fl s' hs => ?_) fun _ _ z => z)
    · exact msg_ok (env := callEnv fd hp.objs.size fI) (hns.keeps k) D.kk hm hk hv hmsg
    · obtain ⟨rfl, h', t', rfl, I1⟩ := hs
      refine PySem.wpAt_mono (ex_flds D T MO hb0 hself hm hk r xd.flds.reverse none [] h' t' hfld (fun q hq => hno q (List.mem_reverse.mp hq)) (by simp; omega) I1) (fun fl s' hs => ?_) fun _ _ z => z
      obtain ⟨rfl, h2, t2, dv, rfl, hn, I2⟩ := hs
      have I3 : EI hp0 e C hp.objs.size (fun x => ((("self" : Str) :: ps).zip (Value.ref e :: us)).reverse.lookup x) dv (xd.flds.map fun q => (Str.ofString q.1, valOf us q.2)) h2 := by
        rw [List.map_reverse, List.reverse_reverse, List.append_nil] at I2
        exact I2
      exact hR h2 t2 dv _ _ (by simpa using hn) I3
  · cases hini
end

section
open PySem.W
/-- all that is asked of a class whose instances are raised: the class at C has its own __init__ at fI, of np parameters -/
structure XcF (P : Program) (K : PySem.W.Frag) (x : String) (xd : XDef) : Prop where
  ex : ∃ (fI cda cc : Addr) (fd : FuncData) (ps : List Str) (body : List Stmt), InitD P K (He.ga K (Str.ofString x)) fI cda cc fd ∧ ExcF P K (He.ga K (Str.ofString x)) fI ∧ fd.body = .stmts body ∧ initOk ("self" :: ps) xd body = true ∧ (("self" : Str) :: ps).Nodup ∧
    (∀ y ∈ ("self" : Str) :: ps, fd.scope.names.lookup y = some .local ∧ (y == ("__debug__" : Str)) = false) ∧ (∀ y ∈ fd.scope.names, y.2 ≠ .cell) ∧ fd.scope.isCoroutine = false ∧ fd.scope.isGenerator = false ∧ codeIn K (.ref cda) fd.qualname = true ∧ Binds K fd ("self" :: ps) [] ∧
    (∀ q ∈ xd.flds, findIn K (.ref (He.ga K (Str.ofString x))) (Str.ofString q.1) = some none) ∧ xd.flds.length ≤ 900 ∧ ps.length = xd.np
  kp : keepIn K (.ref (He.ga K (Str.ofString x))) = true
def valV (vs : List V) (i : Nat) : V := vs.getD i .non
theorem getD_rel {vs : List V} {us : List Value} (r : Vals vs us) : ∀ (i : Nat), i < vs.length → RelV (vs.getD i .non) (us.getD i .none) := by
  induction r with
  | nil => intro i h; exact absurd h (Nat.not_lt_zero _)
  | cons rv rs ih =>
    intro i h
    cases i with
    | zero => exact rv
    | succ i => exact ih i (Nat.lt_of_succ_lt_succ h)
theorem relO_map {vs : List V} {us : List Value} (r : Vals vs us) (hl : List (String × Nat)) (hi : ∀ q ∈ hl, q.2 < vs.length) (g : Str) :
    RelO ((hl.map fun q => (Str.ofString q.1, valV vs q.2)).lookup g) ((hl.map fun q => (Str.ofString q.1, valOf us q.2)).lookup g) := by
  induction hl with
  | nil => exact True.intro
  | cons q l ih =>
    simp only [List.map_cons]
    rw [lookup_put, lookupV_put]
    by_cases h : g = Str.ofString q.1
    · rw [if_pos h, if_pos h]
      have hlt := hi q (List.mem_cons_self ..)
      have hlt2 : q.2 < us.length := by rw [← r.length]; exact hlt
      show RelV (valV vs q.2) (valOf us q.2)
      unfold valV valOf
      exact getD_rel r _ hlt
    · rw [if_neg h, if_neg h]
      exact ih fun q hq => hi q (List.mem_cons_of_mem _ hq)
section
variable {X : Cx} {pins : List (Addr × Obj)} {σ : L2.St} {H : Hp} {s : Shared} {x : String} {xd : XDef} {us : List Value} {vs : List V} {Q : XK} {k : Nat}
theorem run_exc (F : XcF X.prog X.K x xd) (hms : X.mg "super" = none) (hr : Room (k + 1) X.A) (I : L2.Inv X pins σ H s) (r : Vals vs us) (hl : vs.length = xd.np) (hi : ∀ q ∈ xd.flds, q.2 < xd.np) (hv : ∀ i ∈ xd.shown, FmtV (valOf us i)) (hus : us.length ≤ sizeLine)
    (h0 : xd.flds = [] → Q (.ref (He.ga X.K (Str.ofString x))) none H) (h1 : ∀ dx, xd.flds ≠ [] → H dx = none → Q (.ref (He.ga X.K (Str.ofString x))) (some dx) (upd H dx (.xd (xd.flds.map fun q => (Str.ofString q.1, valV vs q.2))))) :
    wpAny (model X.prog X.w) X.A (call (.ref (He.ga X.K (Str.ofString x))) us) (MkP X pins σ Q) X.xe s := by
  obtain ⟨fI, cda, cc, fd, ps, body, D, T, hbody, hini, nd, hk, hcl, hco, hge, hcd, hB, hno, hfl, hnp⟩ := F.ex
  obtain ⟨nm, q, N, bs, bm, sn, sub, ab, col, dd, k0, k1, k2, k3, k5, hC, hbm⟩ := T.T.cls
  obtain ⟨hp, g, d, t, os⟩ := s
  have hlen : us.length = ps.length := by rw [← r.length, hl, hnp]
  have hfresh : hp.get? (hp.objs.size + 1) = none := by
    cases z : hp.get? (hp.objs.size + 1) with
    | none => rfl
    | some o => exact absurd (Heap.lt_size z) (Nat.not_lt.mpr (Nat.le_succ _))
  have kk : ∀ b o, hp.get? b = some o → ((hp.push (kdv_tup us)).push (HandSPX.excO (He.ga X.K (Str.ofString x)) hp.objs.size)).get? b = some o := fun b o e => Heap.get?_push_of_some _ (Heap.get?_push_of_some _ e)
  have hget : ((hp.push (kdv_tup us)).push (HandSPX.excO (He.ga X.K (Str.ofString x)) hp.objs.size)).get? (hp.objs.size + 1) = some (HandSPX.excO (He.ga X.K (Str.ofString x)) hp.objs.size) := by heap_get
  refine wpAny_call (HandSPX.call_own PySem.F.excBase_ValueError (fun Y => HandSPX.refsVE_contains Y bm hbm) (I.kIn _ _ hC) (looks_findIn I.kIn T.iC) (fun self => bind_fn I.kIn self T.tI) hus ?_)
  refine init_run (ps := ps) D T I.ok.mod I.bk hms hbody hini nd hk hcl hco hge hcd hB hno hfl hlen hv (hr.make _ us []).depth kk hfresh hget fun h' t' dv m L hdv EJ => ?_
  refine ⟨rfl, ?_⟩
  obtain ⟨t1, he⟩ := EJ.ex
  obtain ⟨G, g1', g2'⟩ := restrict h' fun b => decide (b ≠ hp.objs.size + 1)
  have gk : ∀ b, b ≠ hp.objs.size + 1 → G.get? b = h'.get? b := fun b hb => g1' b (decide_eq_true hb)
  have ge : G.get? (hp.objs.size + 1) = none := g2' _ (by simp)
  have nb : ∀ {b : Addr} {o : Obj}, hp.get? b = some o → b ≠ hp.objs.size + 1 := fun {b o} z y => by rw [y, hfresh] at z; cases z
  have kG : ∀ b o, hp.get? b = some o → G.get? b = some o := fun b o z => by rw [gk b (nb z)]; exact EJ.keep b o z
  have kG' : ∀ b o, G.get? b = some o → h'.get? b = some o := fun b o z => by
    have hb : b ≠ hp.objs.size + 1 := fun y => by rw [y, ge] at z; cases z
    rw [← gk b hb]; exact z
  have na : H (hp.objs.size + 1) = none := I.hok.gone hfresh
  have ra : Raises X (.ref (He.ga X.K (Str.ofString x))) := raises_own T.T.exC T.T.tyC
  cases dv with
  | none =>
    have J : L2.Inv X pins σ H ⟨G, g, d, t', os⟩ := I.un (t' := t') (Un.kept kG) (I.hok.kept kG)
    exact ⟨_, _, _, ⟨G, g, d, t', os⟩, H, _, none, rfl, J, kG', ge, he, ⟨rfl, rfl⟩, rfl, rfl, na, rfl, I.bare, ra, h0 (hdv.mp rfl)⟩
  | some dx =>
    obtain ⟨n1, n2, n3, mA, hns, rel⟩ := EJ.dn
    have hd0 : H dx = none := I.hok.gone n3
    have J : L2.Inv X pins σ (upd H dx (.xd (xd.flds.map fun q => (Str.ofString q.1, valV vs q.2)))) ⟨G, g, d, t', os⟩ := I.laidN (t' := t') kG n3 hd0 ⟨mA, hns.at fun o z => by rw [gk dx n1]; exact z, fun f => by rw [rel f]; exact relO_map r xd.flds (fun q hq => by rw [hl]; exact hi q hq) f⟩
    exact ⟨_, _, _, ⟨G, g, d, t', os⟩, _, _, some dx, rfl, J, kG', ge, he, ⟨rfl, rfl⟩, rfl, rfl, by rw [upd_ne (Ne.symm n1)]; exact na, rfl, I.bare, ra, h1 dx (fun z => by have := hdv.mpr z; cases this) hd0⟩
end
end

section
variable {X : Cx} {m : List Addr} {H : Hp}
theorem fmt_of {ds : List D} {vs : List V} {us : List Value} (rd : Reps X.K m H ds vs) (r : Vals vs us) {i : Nat} {dd : D} (hi : ds[i]? = some dd) (hf : fmtOk dd = true) : FmtV (valOf us i) := by
  obtain ⟨v, hv, rv⟩ := rd.get hi
  obtain ⟨u, hu, ru⟩ := Vals.get r hv
  have e : valOf us i = u := by simp [valOf, List.getD, hu]
  rw [e]
  cases dd with
  | str s =>
    cases rv
    obtain ⟨t, rfl⟩ := ru
    simp only [fmtOk, Bool.and_eq_true, decide_eq_true_eq] at hf
    exact .inl ⟨s, t, rfl, hf.1, hf.2⟩
  | int i =>
    cases rv
    obtain ⟨t, rfl⟩ := ru
    simp only [fmtOk, decide_eq_true_eq] at hf
    exact .inr (.inl ⟨i, t, rfl, hf⟩)
  | non =>
    cases rv
    cases ru
    exact .inr (.inr rfl)
  | _ => simp [fmtOk] at hf
end

section
variable {X : Cx} {m : List Addr} {H : Hp}
theorem fs_lt {ds : List D} : ∀ {l : List (String × Nat)} {fs : Fs}, optM (fun q : String × Nat => (ds[q.2]?).map fun d => (q.1, d)) l = some fs → ∀ q ∈ l, q.2 < ds.length
  | [], _, _, q, hq => by cases hq
  | q0 :: l, fs, h, q, hq => by
    obtain ⟨y, zs, h1, h2, rfl⟩ := optM_cons h
    rcases List.mem_cons.mp hq with rfl | hq
    · rw [Option.map_eq_some_iff] at h1
      obtain ⟨d, hd, _⟩ := h1
      exact (List.getElem?_eq_some_iff.mp hd).1
    · exact fs_lt h2 q hq
theorem fs_rel {ds : List D} {vs : List V} (rd : Reps X.K m H ds vs) : ∀ {l : List (String × Nat)} {fs : Fs}, optM (fun q : String × Nat => (ds[q.2]?).map fun d => (q.1, d)) l = some fs →
    ∀ (f : String) (y : D), fs.lookup f = some y → ∃ v, (l.map fun q => (Str.ofString q.1, valV vs q.2)).lookup (Str.ofString f) = some v ∧ Rep X.K m H y v
  | [], fs, h, f, y, hf => by
    cases h
    cases hf
  | q0 :: l, fs, h, f, y, hf => by
    obtain ⟨z, zs, h1, h2, rfl⟩ := optM_cons h
    rw [Option.map_eq_some_iff] at h1
    obtain ⟨d, hd, rfl⟩ := h1
    simp only [List.map_cons]
    rw [lookup_put]
    by_cases e : f = q0.1
    · subst e
      rw [if_pos rfl]
      simp only [List.lookup, beq_self_eq_true, Option.some.injEq] at hf
      subst hf
      obtain ⟨v, hv, rv⟩ := rd.get hd
      exact ⟨v, by simp [valV, List.getD, hv], rv⟩
    · rw [if_neg fun z => e (ofStr_inj z)]
      have e' : (f == q0.1) = false := by simpa using e
      simp only [List.lookup, e'] at hf
      exact fs_rel rd h2 f y hf
variable {p : Prg} {x : String} {xd : XDef} {k : Nat}
theorem js_raise {es : List Expr} {pp cpos pos : Pos} {fa : Env → Store → R (List D)} {f : Env → Store → RS} (hf : f = fun env st => (fa env st).thn env fun ds st => mkExc p x ds env st) (hx : p.exs.lookup x = some xd) (F : XcF X.prog X.K x xd) (hms : X.mg "super" = none) (hr : Room (k + 1) X.A)
    (hg : Gl X (Str.ofString x)) (hm : X.mg (Str.ofString x) = some (.ref (He.ga X.K (Str.ofString x)))) (hd : (Str.ofString x == ("__debug__" : Str)) = false) (hc : X.calm = true) (hes : es.length ≤ 1000)
    (hlen : ∀ env st ds st', fa env st = .ok ds st' → ds.length = es.length) (h0 : es = [] → ∀ env st, fa env st = .ok [] st) (hst : es.all noStar = true) (ha : PA X es (tDs X fa)) :
    PS X (.Raise (some (.Call (.Name (Str.ofString x) pp) es [] cpos)) none pos) (tS X f) := by
  subst hf
  refine ⟨fun pins s σ H Dz I h => ?_⟩
  have h1 := len_args hlen (tS_thnDs h)
  show wpAny _ _ (do standAt pos; raiseStmt X.env (some (do let v ← eval (.Call (.Name (Str.ofString x) pp) es [] cpos) X.env; standAt pos; pure v)) none) _ _ _
  refine wpAny_bind (wpAny_standAt (raise_made (I.ok.hd hc) (wpAny_bind (wpAny_mono (Q := MkP X pins σ fun c d H' => ∃ W : WX, Takes X W ∧ W c d σ H') (E := X.xe) ?_ (fun u s1 hu => wpAny_bind (wpAny_standAt (wpAny_pure ?_))) fun _ _ x => x))))
  · refine wpAny_Call_Name_kw (ld_glob I hg hm ?_ hd)
    have go : ∀ {us : List Value} {vs : List V} {s1 : Shared} {H1 : Hp}, L2.Inv X pins σ H1 s1 → Vals vs us → vs.length = es.length → (∃ env m st ds, EnvR X.K m H1 σ env ∧ StoR X.K X.w m st H1 ∧ Reps X.K m H1 ds vs ∧ OutS X m H1 Dz (mkExc p x ds env st)) →
        wpAny (model X.prog X.w) X.A (call (.ref (He.ga X.K (Str.ofString x))) us) (MkP X pins σ fun c d H' => ∃ W : WX, Takes X W ∧ W c d σ H') X.xe s1 := by
      intro us vs s1 H1 I1 r hl ⟨env, m, st, ds, ER, S, rd, o⟩
      unfold mkExc at o
      rw [hx] at o
      dsimp only at o
      split at o
      case isFalse => exact o.elim
      next hcnd =>
      split at o
      case h_2 => exact o.elim
      next fs hfs =>
      obtain ⟨hnp, hsh⟩ := hcnd
      have hvl : vs.length = xd.np := by rw [rd.length, hnp]
      refine run_exc F hms hr I1 r hvl (fun q hq => by rw [← hnp]; exact fs_lt hfs q hq) (fun i hi => ?_) (by rw [← r.length, hl, sizeLine_eq]; omega) (fun he => ?_) fun dx hne hdx => ?_
      · have := List.all_eq_true.mp hsh i hi
        split at this
        · next d hd => exact fmt_of rd r hd this
        · cases this
      · refine ⟨_, o, m, rfl, .refl S, .inl ⟨?_, rfl⟩, ER⟩
        rw [he] at hfs
        cases hfs
        rfl
      · have n : Nx X.K X.w m H1 m (upd H1 dx (.xd (xd.flds.map fun q => (Str.ofString q.1, valV vs q.2)))) st := Nx.new S hdx
        refine ⟨_, o, m, rfl, n, .inr ⟨dx, _, ?_, rfl, upd_same, fun f y hy => ?_⟩, ER.mono S n.ext n.fr⟩
        · intro z
          subst z
          cases hfl : xd.flds with
          | nil => exact hne hfl
          | cons q l =>
            rw [hfl] at hfs
            obtain ⟨_, _, _, _, z⟩ := optM_cons hfs
            cases z
        · obtain ⟨v, hv, rv⟩ := fs_rel rd hfs f y hy
          exact ⟨v, hv, Rep.mono S n.ext n.fr rv⟩
    cases es with
    | nil =>
      obtain ⟨hl, q⟩ := tDs_nil (h0 rfl) h1
      exact PySem.W.callWith_K0 I.kIn F.kp (go I .nil hl q)
    | cons e es =>
      simp only [List.all_cons, Bool.and_eq_true] at hst
      exact PySem.W.callWith_K (h₀ := X.base) I.ok.mod.kin F.kp (thn (ha.run cpos pins s σ H _ I h1) fun us s1 ⟨vs, H1, I1, r, hl, q⟩ => ⟨I1.kIn, go I1 r hl q⟩) (star_plain hst.1) (back_plain hst.2)
  · obtain ⟨a, oe, vs, sI, H', cls, d, rfl, J, kk, hne, hao, hz, hdd, h11, na, os, ag, r, W, tk, q⟩ := hu
    obtain ⟨r1, r2⟩ := r (model X.prog X.w) s1.heap (J.kIn.keeps kk)
    exact ⟨a, oe, vs, cls, rfl, hao, hz.1, hdd, h11, r1, r2, tk _ _ (XE.new J kk hne hao hz hdd h11 na os ag q)⟩
end
end Eng
/-! E21: try with several clauses, with or without a name. -/
namespace Eng
open PySem PySem.Spec PyProof.Rows L2
/-- the reading of a clause: its class, the slot of its name, its suite -/
abbrev Clau := Value × Option Nat × (Addr → Value → Option Addr → TS)
def gone (i : Option Nat) (D : Ends) : Ends := match i with
  | none => D
  | some i => { nx := fun σ' H' => D.nx (σ'.set i none) H', rt := D.rt, bk := fun σ' H' => D.bk (σ'.set i none) H', ct := fun σ' H' => D.ct (σ'.set i none) H' }
def held (i : Option Nat) (σ : L2.St) (a : Addr) : L2.St := match i with
  | none => σ
  | some i => σ.set i (some (.ref a))
/-- what the clauses wish of an exception of the body, one after the other -/
def wMix (K : PySem.W.Frag) (Wout : WX) (D : Ends) : List Clau → WX
  | [] => Wout
  | (c, i, ts) :: r => fun cls d σ H => ∃ b, PySem.W.exmOne K cls c = some b ∧ (b = true → ∀ a, H a = none → ts a cls d (gone i D) (held i σ a) H) ∧ (b = false → wMix K Wout D r cls d σ H)
inductive Mix (X : Cx) : List ExceptHandler → List Clau → Prop
  | nil : Mix X [] []
  | cons {x : Str} {c : Value} {ts : Addr → Value → Option Addr → TS} {b₀ : Stmt} {suite : List Stmt} {np pos' : Pos} {hds : List ExceptHandler} {l : List Clau} (hc : Names X x c)
      (hsu : ∀ (a : Addr) (oe : Obj) (cls : Value) (d : Option Addr) (pn : List (Addr × Obj)), Zc cls d oe → (∃ vs, oe.data = .fields vs) → PSs (X.suite a ((a, oe) :: pn)) (b₀ :: suite) (ts a cls d)) (r : Mix X hds l) :
      Mix X (.ExceptHandler (some (.Name x np)) none (b₀ :: suite) pos' :: hds) ((c, none, ts) :: l)
  | named {x n : Str} {c : Value} {i : Nat} {ts : Addr → Value → Option Addr → TS} {b₀ : Stmt} {suite : List Stmt} {np pos' : Pos} {hds : List ExceptHandler} {l : List Clau} (hN : X.N.Nodup) (hi : X.N[i]? = some n) (hln : X.env.kindOf n = some .local) (hc : Names X x c)
      (hsu : ∀ (a : Addr) (oe : Obj) (cls : Value) (d : Option Addr) (pn : List (Addr × Obj)), Zc cls d oe → (∃ vs, oe.data = .fields vs) → PSs (X.suite a ((a, oe) :: pn)) (b₀ :: suite) (ts a cls d)) (r : Mix X hds l) :
      Mix X (.ExceptHandler (some (.Name x np)) (some n) (b₀ :: suite) pos' :: hds) ((c, some i, ts) :: l)
section
variable {X : Cx} {body : List Stmt} {h₀ : ExceptHandler} {hds : List ExceptHandler} {l : List Clau} {pos : Pos} {tb : WX → TS} {Wout : WX}
theorem ps_try_mix (hs : X.stack = X.env :: X.outer) (hf : X.env.frame = some X.env.locals)
    (hb : ∀ (W : WX) (pn : List (Addr × Obj)) (xe : Value → Shared → Prop), Takes (X.tr pn xe) W → PassesOwn (model X.prog X.w) X.A X.env xe → PSs (X.tr pn xe) body (tb W))
    (hh : Mix X (h₀ :: hds) l) : PS X (.Try body (h₀ :: hds) [] [] pos) (fun D σ H => ∃ Wout, Takes X Wout ∧ tb (wMix X.K Wout D l) D σ H) := by
  refine ⟨fun pins s σ H D I ⟨Wout, tk, h⟩ => ?_⟩
  have ok := I.ok
  have hfr : X.A.frames = some (X.env :: X.outer) := by rw [ok.frames, hs]
  refine wpAny_Try_except ?_
  refine wpAny_mono ((hb (wMix X.K Wout D l) (X.pn ++ pins) (fun e s₁ => wpAny (model X.prog X.w) X.A (noteFrame e X.env) (fun _ s₂ => wpAny (model X.prog X.w) X.A (setFlight e none) (fun _ s₃ =>
    wpAny (model X.prog X.w) X.A (handleBy e X.env (h₀ :: hds)) (SP X pins D) X.xe s₃) X.xe s₂) X.xe s₁) (fun u s' xx => ?_) PassesOwn.looking).run [] s σ H D (I.toTry _) h) (fun f s1 hsp => ?_) (fun e s1 he => he)
  · -- the catch
    obtain ⟨a, B, sI, pins', σ', H', cls, d, rfl, J', nb, up, sky, na, os, ag, w⟩ := xx
    have J : L2.Inv X pins σ' H' sI := J'.ofTry ok
    have sky' : Sky B (X.env :: X.outer) a (Zc cls d) X.env.locals s'.heap := by rw [← hs]; exact sky
    show wpAny (model X.prog X.w) X.A (noteFrame (.ref a) X.env) _ _ _
    refine Sky.land Zc.steady hfr hf sky' fun h3 fl3 up3 => ?_
    have J3 : L2.Inv X pins σ' H' { s' with heap := h3 } := J.landed nb fl3.1 (up.trans up3) os ag
    obtain ⟨oe3, vs3, he3, hz3, hd3⟩ := fl3.there
    have notFr : ∀ {h : Heap} {o : Obj} {vs : Array Value}, h.FunFrames B (X.env :: X.outer) → h.get? a = some o → o.data = .fields vs → a ∉ frs (X.env :: X.outer) := fun {h o vs} ff e dd hm => by
      obtain ⟨_, o', e', hnf⟩ := ff.mem hm
      rw [e] at e'; cases e'
      exact hnf _ dd
    have nfr := notFr fl3.2.2.1 he3 hd3
    have nL : a ≠ X.env.locals := fun z => nfr (List.mem_filterMap.mpr ⟨X.env, List.mem_cons_self, by rw [hf, z]⟩)
    have nF : a ∉ X.fs := fun hm => by
      obtain ⟨e, he, q⟩ := List.mem_filterMap.mp hm
      exact nfr (List.mem_filterMap.mpr ⟨e, List.mem_cons_of_mem _ he, q⟩)
    have S3 := J3.suite he3 hd3 na nL nF
    have LT : PySem.W.Looks (model X.prog X.w) h3 (typeOf (.ref a)) cls := fun A Q E s k q => wpAny_typeOf_ref (k _ _ he3) (by rw [hz3.1]; exact q)
    have test : ∀ {x : Str} {c : Value} {np : Pos} {Q : Value → Shared → Prop} {E : Value → Shared → Prop}, Names X x c → Q c { s' with heap := h3 } → wpAny (model X.prog X.w) (X.A.mark (some (.ref a))) (eval (.Name x np) X.env) Q E { s' with heap := h3 } := fun {x c np Q E} hc q => by
      obtain ⟨hg, hdbg, hm | ⟨hm, hv, hnn⟩⟩ := hc
      · exact ld_glob (X := X.suite a ((a, oe3) :: (X.pn ++ pins))) S3 hg hm q hdbg
      · exact ld_blt (X := X.suite a ((a, oe3) :: (X.pn ++ pins))) S3 hg hm hv q hnn hdbg
    have go : ∀ {hds' : List ExceptHandler} {l' : List Clau}, Mix X hds' l' → wMix X.K Wout D l' cls d σ' H' →
        wpAny (model X.prog X.w) X.A (handleBy (.ref a) X.env hds') (SP X pins D) X.xe { s' with heap := h3 } := by
      intro hds' l' hk
      induction hk with
      | nil =>
        intro w
        refine wpAny_handleBy_nil ?_
        obtain ⟨k1, k2, k3, oe, vs, T, oT, ts', he, hz, hd, h1, hr⟩ := id fl3
        unfold PySem.passOn
        refine wpAny_bind (wpAny_field he hd h1 ?_)
        rw [if_neg (show ¬ ((Value.ref T == Value.none) = true) from by simp)]
        have fin : wpAny (model X.prog X.w) X.A (setFlight (.ref a) X.env.frame) (fun _ s4 => wpAny (model X.prog X.w) X.A (throw (.ref a) : Sem Flow) (SP X pins D) X.xe s4) X.xe { s' with heap := h3 } := by
          rw [hf]
          refine HandSPX.setFlight_upZ fl3 fun h4 hh4 up4 => wpAny_throw (tk _ _ ?_)
          exact ⟨a, B, sI, pins, σ', H', cls, d, rfl, J, nb, (up.trans up3).trans up4, .inr (.inr (by rw [hs]; exact hh4)), na, os, ag, w⟩
        first
          | exact wpAny_bind (wpAny_pure (wpAny_bind fin))
          | exact wpAny_bind fin
      | @cons x c ts b₀ suite np pos' hds2 l2 hc hsu r ih =>
        intro w
        obtain ⟨b, hb1, hyes, hno⟩ := w
        refine wpAny_handleBy_cons (codeAny_handlers_test ?_) (by intro q; cases q)
        have LM := PySem.W.exm_one (M := model X.prog X.w) (J3.kIn) LT hb1
        refine test hc (LM.here ?_)
        cases b with
        | true =>
          refine codeAny_handlers_suite ?_
          refine HandSPX.lands_againZ fl3 fun h4 fl4 up4 => ?_
          have J4 : L2.Inv X pins σ' H' { s' with heap := h4 } := J.landed nb fl4.1 ((up.trans up3).trans up4) os ag
          obtain ⟨oe4, vs4, he4, hz4, hd4⟩ := fl4.there
          have S4 := J4.suite he4 hd4 na nL nF
          refine wpAny_mono ((hsu a oe4 cls d (X.pn ++ pins) hz4 ⟨_, hd4⟩).run [] _ _ H' _ S4 (hyes rfl a na)) (fun f s6 hsp => ?_) (fun _ _ z => False.elim z)
          cases f with
          | next =>
            obtain ⟨σ6, H6, S6, q6⟩ := hsp
            exact ⟨_, _, S6.unsuite ok, q6⟩
          | brk =>
            obtain ⟨σ6, H6, S6, q6⟩ := hsp
            exact ⟨_, _, S6.unsuite ok, q6⟩
          | cont =>
            obtain ⟨σ6, H6, S6, q6⟩ := hsp
            exact ⟨_, _, S6.unsuite ok, q6⟩
          | ret u =>
            obtain ⟨v6, σ6, H6, S6, r6, q6⟩ := hsp
            exact ⟨_, _, _, S6.unsuite ok, r6, q6⟩
        | false =>
          show wpAny _ X.A (handleBy (.ref a) X.env hds2) _ _ _
          exact ih (hno rfl)
      | @named x n c i ts b₀ suite np pos' hds2 l2 hN hi hln hc hsu r ih =>
        intro w
        obtain ⟨b, hb1, hyes, hno⟩ := w
        have hloc : Loc X.env.scope n := .inl hln
        refine wpAny_handleBy_cons (codeAny_handlers_test ?_) (by intro q; cases q)
        have LM := PySem.W.exm_one (M := model X.prog X.w) (J3.kIn) LT hb1
        refine test hc (LM.here ?_)
        cases b with
        | true =>
          refine codeAny_handlers_suite_as ?_
          refine HandSPX.lands_againZ fl3 fun h4 fl4 up4 => ?_
          have J4 : L2.Inv X pins σ' H' { s' with heap := h4 } := J.landed nb fl4.1 ((up.trans up3).trans up4) os ag
          obtain ⟨oe4, vs4, he4, hz4, hd4⟩ := fl4.there
          have S4 := J4.suite he4 hd4 na nL nF
          refine store_ok (X := X.suite a ((a, oe4) :: (X.pn ++ pins))) (v := .ref a) S4 hN hi hloc rfl (fun s5 S5 => ?_) (.inr hln)
          refine wpAny_mono ((hsu a oe4 cls d (X.pn ++ pins) hz4 ⟨_, hd4⟩).run [] s5 _ H' _ S5 (hyes rfl a na)) (fun f s6 hsp => ?_) (fun _ _ z => False.elim z)
          have end_ : ∀ {σ6 : L2.St} {H6 : Hp} {Q : Shared → Prop}, L2.Inv (X.suite a ((a, oe4) :: (X.pn ++ pins))) [] σ6 H6 s6 → (∀ s7, L2.Inv X pins (σ6.set i none) H6 s7 → Q s7) →
              wpAny (model X.prog X.w) X.A (do bindName X.env n .none; unbindBehindTheSuite X.env n pos') (fun _ s7 => Q s7) X.xe s6 := fun {σ6 H6 Q} S6 hq => gone_ok (S6.unsuite ok) hN hi hln hq
          cases f with
          | next =>
            obtain ⟨σ6, H6, S6, q6⟩ := hsp
            exact end_ S6 fun s7 J7 => ⟨_, _, J7, q6⟩
          | brk =>
            obtain ⟨σ6, H6, S6, q6⟩ := hsp
            exact end_ S6 fun s7 J7 => ⟨_, _, J7, q6⟩
          | cont =>
            obtain ⟨σ6, H6, S6, q6⟩ := hsp
            exact end_ S6 fun s7 J7 => ⟨_, _, J7, q6⟩
          | ret u =>
            obtain ⟨v6, σ6, H6, S6, r6, q6⟩ := hsp
            exact end_ S6 fun s7 J7 => ⟨_, _, _, J7, r6, q6⟩
        | false =>
          show wpAny _ X.A (handleBy (.ref a) X.env hds2) _ _ _
          exact ih (hno rfl)
    exact go hh w
  · cases f with
    | next =>
      obtain ⟨σ', H', J', q⟩ := hsp
      exact wpAny_execs_nil ⟨σ', H', J'.ofTry ok, q⟩
    | brk =>
      obtain ⟨σ', H', J', q⟩ := hsp
      exact ⟨σ', H', J'.ofTry ok, q⟩
    | cont =>
      obtain ⟨σ', H', J', q⟩ := hsp
      exact ⟨σ', H', J'.ofTry ok, q⟩
    | ret u =>
      obtain ⟨v, σ', H', J', r, q⟩ := hsp
      exact ⟨v, σ', H', J'.ofTry ok, r, q⟩
end
end Eng
set_option maxHeartbeats 4000000
/-! S3: isinstance of a caught error of an own class, whether it has fields or not. -/
namespace Eng
open PySem PySem.Spec PyProof.Rows L2
section
variable {prog : Program} {w : World} {A : Around} {E : Value → Shared → Prop} {s : Shared} {K : PySem.W.Frag} {x D : Addr} {ox : Obj} {od : Option Obj}
/-- x.__class__, whatever stands in x's dict -/
theorem cls_of_exc {Q : Option Value → Shared → Prop} (C : ExcC K D) (X : K.In s.heap) (I : PySem.W.InstAt s.heap x ox D od) (h : Q (some (.ref D)) { s with toks := s.toks + 1 }) : wpAny (model prog w) A (getAttr? (.ref x) "__class__") Q E s := by
  obtain ⟨cd0, hc0, _⟩ := PySem.W.any_some C.hd
  have hf : PySem.W.findObj K D od "__class__" = some (.bind (.builtin "getset_descriptor.__get__") (.builtin "object.__class__")) := by
    unfold PySem.W.findObj
    rw [hc0, Option.bind_some, C.ha, Option.bind_some]
    simp [C.hn, C.ht]
  obtain ⟨hp, g, d, t, os⟩ := s
  have L0 := I.type (M := model prog w)
  have L1 := PySem.W.looks_findIn (M := model prog w) X C.hg
  have L2 := PySem.W.looks_findIn (M := model prog w) X C.hk
  have L3 := PySem.W.looks_find (M := model prog w) X I hf
  have sub : PySem.W.Looks (model prog w) hp (isInstance (.ref x) (.type "BaseException")) true := L0.andThen (PySem.W.looks_subIn X C.hs)
  have y0 : (false && onTheHeap (Value.builtin "BaseException.__getattribute__")) = false := rfl
  have y2 : (Value.builtin "BaseException.__getattribute__" == Value.builtin "object.__getattribute__") = false := by decide +kernel
  have y1 : (onTheHeap (Value.ref D) && Value.builtin "BaseException.__getattribute__" == Value.builtin "object.__getattribute__") = false := by
    rw [y2]; rfl
  unfold getAttr? getAttrBy? getAttrBy
  refine wpAny_bind (wpAny_mkText ?_)
  refine wpAny_bind (wpAny_attempt (wpAny_holding ?_))
  refine wpAny_bind (L0.at ?_)
  refine wpAny_bind (L1.at ?_)
  show wpAny _ _ (if (onTheHeap (Value.ref D) && Value.builtin "BaseException.__getattribute__" == Value.builtin "object.__getattribute__") = true then _ else _) _ _ _
  rw [y1, if_neg Bool.false_ne_true]
  unfold getAttrByItsOwn hookBefore
  refine wpAny_bind ?_
  rw [if_pos (show onTheHeap (Value.ref D) = true from rfl)]
  refine L2.at ?_
  refine wpAny_bind ?_
  refine wpAny_attempt (wpAny_holding ?_)
  unfold callGetattribute
  rw [y0, if_neg Bool.false_ne_true]
  unfold boundAndCalled
  rw [PySem.F.excAttr_ValueError.ga.bind (.ref x)]
  refine wpAny_bind (wpAny_pure ?_)
  show wpAny _ _ (call (.builtin "BaseException.__getattribute__") [.ref x, .str "__class__" t]) _ _ _
  refine wpAny_call ?_
  refine codeAny_call_builtin PySem.F.excAttr_ValueError.ga.plain PySem.F.entry_bexc_ga ?_
  refine @PySem.W.check_slot (model prog w) _ _ ⟨hp, g, d, t + 1, os⟩ "BaseException.__getattribute__" "BaseException" "__getattribute__" (.ref x) [.str "__class__" t] [] _ (by decide +kernel) (by decide +kernel) sub
    (PySem.F.args_bexc_ga (.ref x) (.str "__class__" t)) ?_
  unfold Builtin.«object.__getattribute__»
  refine wpAny_bind (wpAny_of_eq (a := ((Value.ref x : Value), [Value.str "__class__" t])) (by first | rfl | (simp only [slotArgs]; rfl)) ?_)
  refine wpAny_bind (wpAny_pure ?_)
  refine wpAny_bind (L0.at ?_)
  refine wpAny_bind (L3.at ?_)
  show wpAny _ _ (holding [Value.builtin "object.__class__"] (call (.builtin "getset_descriptor.__get__") [.builtin "object.__class__", .ref x, .ref D]) >>= ret) _ _ _
  refine wpAny_bind (wpAny_holding ?_)
  refine wpAny_call (PySem.W.class_get (s := ⟨hp, g, d, t + 1, os⟩) (ox := ox) (od := od) X I C.hm ?_)
  refine wpAny_pure ?_
  show wpAny _ _ (handedOut (.ref D)) _ _ _
  rw [PySem.W.handedOut_of (v := .ref D) rfl]
  first
    | exact wpAny_pure (wpAny_pure h)
    | exact wpAny_pure h
    | exact wpAny_pure (wpAny_bind (wpAny_pure (wpAny_pure h)))
theorem kit_of_exc (C : ExcC K D) : PySem.W.KitX K (.ref x) (.ref D) (fun h => PySem.W.InstAt h x ox D od) where
  ty := fun _ _ _ I => I.type
  it := fun _ _ X _ => by
    obtain ⟨cd0, hc0, _⟩ := PySem.W.any_some C.hd
    unfold PySem.W.clsIn at hc0
    split at hc0
    · rename_i ho
      intro A' Q' E' s' k q
      unfold isType loadHead
      refine wpAny_bind (wpAny_loadPart (k _ _ (X _ _ ho)) ?_)
      exact wpAny_pure q
    · cases hc0
  ne := fun h tp dd its n sl X htp => by
    obtain ⟨cd0, hc0, _⟩ := PySem.W.any_some C.hd
    refine Bool.eq_false_iff.mpr fun q => ?_
    obtain rfl : D = tp := Value.ref.inj (beq_iff_eq.mp q)
    unfold PySem.W.clsIn at hc0
    split at hc0
    · rename_i ho
      cases (X _ _ ho).symm.trans htp
    · cases hc0
  ca := fun X I k => cls_of_exc C X I k
end
/-- isinstance(e, c), e the exception that a suite holds, of the class D, with fields at d or without -/
def rIsF (K : PySem.W.Frag) (D a : Addr) (d : Option Addr) : List V → Hp → VK → Prop := fun xs H Q => ∃ (c : V) (cv : Value) (b : Bool), xs = [.ref a, c] ∧ (∀ u, RelV c u → u = cv) ∧ (d = none ∨ ∃ dd vfs, d = some dd ∧ H dd = some (.xd vfs)) ∧ PySem.W.kitOne K (.ref D) cv = some b ∧ Q (.bl b) H
theorem call_isF {X : Cx} {a D : Addr} {oe : Obj} {pn : List (Addr × Obj)} {d : Option Addr} (C : ExcC X.K D) (hz : Zc (.ref D) d oe) (hf : ∃ vs, oe.data = .fields vs) : CallR (X.suite a ((a, oe) :: pn)) (.builtin "isinstance") (rIsF X.K D a d) := by
  intro pins s σ H xs us Q I r h
  obtain ⟨c, cv, b, rfl, hcv, hd, e, q⟩ := h
  match us, r with
  | [_, _], .cons rx (.cons rt .nil) =>
    cases rx
    obtain rfl := hcv _ rt
    obtain ⟨hget, _⟩ := I.pin (a, oe) (List.mem_append_left _ List.mem_cons_self)
    obtain ⟨vs, hv⟩ := hf
    have J : ∃ od, PySem.W.InstAt s.heap a oe D od := by
      obtain ⟨h1, h2⟩ := hz
      rcases hd with rfl | ⟨dd, vfs, rfl, hH⟩
      · exact ⟨none, hget, h1, by unfold PySem.W.notCls; rw [hv] <;> rfl, by rw [h2]; trivial⟩
      · have hx : ObjOk X.prog X.w H s.heap dd (.xd vfs) := I.hok dd _ hH
        obtain ⟨mA, hns, hr⟩ := hx
        obtain ⟨od, ho, hl⟩ := lookIn_ns hns
        exact ⟨some od, hget, h1, by unfold PySem.W.notCls; rw [hv] <;> rfl, by rw [h2]; exact ho⟩
    obtain ⟨od, J⟩ := J
    refine PySem.W.kia_one (kit_of_exc C) I.kIn J e (fun z => nomatch z) fun tk => ?_
    exact ⟨.bl b, H, I.kept (t' := tk) fun _ _ z => z, rfl, q⟩
end Eng
/-! E22: except suites of one line; the try statement. -/
namespace Eng
open PySem PySem.Spec PyProof.Rows L2
/-- what stands while a suite runs: the exception at a of the class x with the fields fs -/
structure Su (p : Prg) (X : Cx) (a : Addr) (cls : Value) (d : Option Addr) (i : Option Nat) (x : String) (fs : Fs) (m : List Addr) (st : Store) (σ : L2.St) (H : Hp) : Prop where
  xd : ∃ xd, p.exs.lookup x = some xd
  cl : cls = .ref (He.ga X.K (Str.ofString x))
  at_ : ∀ j, i = some j → σ[j]? = some (some (.ref a))
  sto : StoR X.K X.w m st H
  fld : FldX X.K m H fs d
section
variable {p : Prg} {X : Cx} {a : Addr} {oe : Obj} {cls : Value} {d : Option Addr} {pn : List (Addr × Obj)} {i : Option Nat}
def tHe (p : Prg) (X : Cx) (a : Addr) (cls : Value) (d : Option Addr) (i : Option Nat) (e : He) : TE := fun σ H Q => ∃ x fs m st dd, Su p X a cls d i x fs m st σ H ∧ evHe fs e = some dd ∧ ∀ v, Rep X.K m H dd v → Q v H
def tHes (p : Prg) (X : Cx) (a : Addr) (cls : Value) (d : Option Addr) (i : Option Nat) (es : List He) : TA := fun σ H Q => ∃ x fs m st ds, Su p X a cls d i x fs m st σ H ∧ optM (evHe fs) es = some ds ∧ ∀ vs, Reps X.K m H ds vs → Q vs H
def tHx (p : Prg) (X : Cx) (a : Addr) (cls : Value) (d : Option Addr) (i : Option Nat) (h : Hx) : TE := fun σ H Q => ∃ x fs m st, Su p X a cls d i x fs m st σ H ∧ Out X σ m H (evH p x fs h st) (KQ X Q m H)
theorem jh_cst {dd : D} {v : V} {e : Expr} (h : PE (X.suite a ((a, oe) :: pn)) e (tC v)) (r : ∀ m H, Rep X.K m H dd v) : PE (X.suite a ((a, oe) :: pn)) e (tHe p X a cls d i (.cst dd)) :=
  h.imp fun σ H Q ⟨x, fs, m, st, d', S, e1, k⟩ => by
    cases e1
    exact k v (r m H)
/-- e.f, e the clause's name -/
theorem jh_fld {j : Nat} {n : Str} {f : String} {e : Expr} {pos p1 : Pos} (hz : Zc cls d oe) (hf : ∃ vs, oe.data = .fields vs) (hN : X.N[j]? = some n) (hv : Vis X.env.scope n) (hd : (n == ("__debug__" : Str)) = false) (hcd : (n == ("__classdict__" : Str)) = false)
    (hx : ∀ x xd, p.exs.lookup x = some xd → XfC X.K (He.ga X.K (Str.ofString x)) ∧ PySem.W.findIn X.K (.ref (He.ga X.K (Str.ofString x))) (Str.ofString f) = some none) :
    PE (X.suite a ((a, oe) :: pn)) (.Attribute (.Name n p1) (Str.ofString f) pos) (tHe p X a cls d (some j) (.fld f)) := by
  refine ⟨fun pins s σ H Q I h => ?_⟩
  obtain ⟨x, fs, m, st, dd, S, e1, k⟩ := h
  obtain ⟨xd, hxd⟩ := S.xd
  obtain ⟨T, hno⟩ := hx x xd hxd
  refine (pe_xf T hno hz hf (pe_var (X := X.suite a ((a, oe) :: pn)) (i := j) hN hv hd hcd) (base_plain (e := .Name n p1) (env := X.env) rfl)).run pins s σ H Q I ⟨.ref a, S.at_ j rfl, rfl, S.cl, ?_⟩
  rcases S.fld with ⟨rfl, _⟩ | ⟨ddd, vfs, _, rfl, hH, hl⟩
  · cases e1
  · obtain ⟨v, hv1, rv⟩ := hl f dd e1
    exact ⟨ddd, vfs, v, rfl, hH, hv1, k v rv⟩
theorem jhs_nil : PA (X.suite a ((a, oe) :: pn)) [] (tHes p X a cls d i []) := pa_nil.imp fun σ H Q ⟨x, fs, m, st, ds, S, e1, k⟩ => by
  cases e1
  exact k [] rfl
theorem jhs_cons {e : Expr} {es : List Expr} {h : He} {hs : List He} (h1 : PE (X.suite a ((a, oe) :: pn)) e (tHe p X a cls d i h)) (h2 : PA (X.suite a ((a, oe) :: pn)) es (tHes p X a cls d i hs)) (hst : noStar e = true) : PA (X.suite a ((a, oe) :: pn)) (e :: es) (tHes p X a cls d i (h :: hs)) :=
  (pa_cons h1 h2 (star_plain hst)).imp fun σ H Q ⟨x, fs, m, st, ds, S, e1, k⟩ => by
    obtain ⟨y, zs, e2, e3, rfl⟩ := optM_cons e1
    exact ⟨x, fs, m, st, y, S, e2, fun v rv => ⟨x, fs, m, st, zs, S, e3, fun vs rvs => k _ ⟨v, vs, rfl, rv, rvs⟩⟩⟩
theorem jh_he {e : Expr} {h : He} (h1 : PE (X.suite a ((a, oe) :: pn)) e (tHe p X a cls d i h)) : PE (X.suite a ((a, oe) :: pn)) e (tHx p X a cls d i (.he h)) :=
  h1.imp fun σ H Q ⟨x, fs, m, st, S, o⟩ => by
    unfold evH at o
    cases hq : evHe fs h with
    | none => rw [hq] at o; exact o.elim
    | some dd =>
      rw [hq] at o
      exact ⟨x, fs, m, st, dd, S, hq, fun v rv => KQ.val S.sto o rv⟩
theorem optM_len {α β : Type} {f : α → Option β} : ∀ {l : List α} {r : List β}, optM f l = some r → r.length = l.length
  | [], _, h => by cases h; rfl
  | x :: xs, r, h => by
    obtain ⟨y, zs, _, e, rfl⟩ := optM_cons h
    simp [optM_len e]
theorem jh_lst {es : List Expr} {hs : List He} {pos : Pos} (h1 : PA (X.suite a ((a, oe) :: pn)) es (tHes p X a cls d i hs)) (hl : hs.length ≤ 1000) : PE (X.suite a ((a, oe) :: pn)) (.List es pos) (tHx p X a cls d i (.lst hs)) :=
  (pe_lst h1).imp fun σ H Q ⟨x, fs, m, st, S, o⟩ => by
    unfold evH at o
    cases hq : optM (evHe fs) hs with
    | none => rw [hq] at o; exact o.elim
    | some ds =>
      rw [hq] at o
      exact ⟨x, fs, m, st, ds, S, hq, fun vs r => ⟨by rw [r.length, optM_len hq, sizeLine_eq]; omega, fun q hp => KQ.lst S.sto o r hp⟩⟩
/-- A if isinstance(e, c) else B, e the clause's name -/
theorem jh_ifis {j : Nat} {n : Str} {c : String} {ea eb : Expr} {ha hb : Hx} {pos p1 p2 p3 p4 : Pos} (hz : Zc cls d oe) (hf : ∃ vs, oe.data = .fields vs) (hN : X.N[j]? = some n) (hv : Vis X.env.scope n) (hd : (n == ("__debug__" : Str)) = false) (hcd : (n == ("__classdict__" : Str)) = false)
    (hg : Gl X "isinstance") (hm : X.mg "isinstance" = none) (hgc : Gl X (Str.ofString c)) (hmc : X.mg (Str.ofString c) = some (.ref (He.ga X.K (Str.ofString c)))) (hdc : (Str.ofString c == ("__debug__" : Str)) = false)
    (hx : ∀ x xd, p.exs.lookup x = some xd → ExcC X.K (He.ga X.K (Str.ofString x)) ∧ PySem.W.kitOne X.K (.ref (He.ga X.K (Str.ofString x))) (.ref (He.ga X.K (Str.ofString c))) = some (xd.sup.contains c))
    (h1 : PE (X.suite a ((a, oe) :: pn)) ea (tHx p X a cls d (some j) ha)) (h2 : PE (X.suite a ((a, oe) :: pn)) eb (tHx p X a cls d (some j) hb)) :
    PE (X.suite a ((a, oe) :: pn)) (.IfExp (.Call (.Name "isinstance" p1) [.Name n p2, .Name (Str.ofString c) p3] [] p4) ea eb pos) (tHx p X a cls d (some j) (.ifis c ha hb)) := by
  refine ⟨fun pins s σ H Q I h => ?_⟩
  obtain ⟨x, fs, m, st, S, o⟩ := h
  obtain ⟨xd, hxd⟩ := S.xd
  obtain ⟨T, hk⟩ := hx x xd hxd
  unfold evH at o
  rw [hxd] at o
  dsimp only at o
  have hz' : Zc (.ref (He.ga X.K (Str.ofString x))) d oe := by rw [← S.cl]; exact hz
  have hdd : d = none ∨ ∃ dd vfs, d = some dd ∧ H dd = some (.xd vfs) := by
    rcases S.fld with ⟨_, h⟩ | ⟨dd, vfs, _, h, h2, _⟩
    · exact .inl h
    · exact .inr ⟨dd, vfs, h, h2⟩
  have hc1 : PE (X.suite a ((a, oe) :: pn)) (.Call (.Name "isinstance" p1) [.Name n p2, .Name (Str.ofString c) p3] [] p4) (tCB (rIsF X.K (He.ga X.K (Str.ofString x)) a d) (tCons (tVar j) (tCons (tC (.ref (He.ga X.K (Str.ofString c)))) tNil))) :=
    pe_callB (call_isF T hz' hf) hg hm (by rfl) (pa_cons (pe_var (X := X.suite a ((a, oe) :: pn)) (i := j) hN hv hd hcd) (pa_cons (pe_glob (X := X.suite a ((a, oe) :: pn)) hgc hmc rfl hdc) pa_nil rfl) rfl) (by decide) (by decide) rfl rfl
  refine (pe_ifExp (pt_val hc1 (test_plain rfl)) h1 h2).run pins s σ H Q I ?_
  refine ⟨.ref a, S.at_ j rfl, ?_⟩
  refine ⟨_, _, _, rfl, fun u r => r, hdd, hk, _, rfl, ?_⟩
  cases hb1 : xd.sup.contains c with
  | true =>
    rw [hb1] at o
    exact ⟨x, fs, m, st, S, o⟩
  | false =>
    rw [hb1] at o
    exact ⟨x, fs, m, st, S, o⟩
end
end Eng
/-! E23: the try statement. -/
namespace Eng
open PySem PySem.Spec PyProof.Rows L2
section
variable {p : Prg} {X : Cx}
theorem out_asD {σ : L2.St} {m : List Addr} {H : Hp} {Q : VK} {r : R Sq} (o : Out X σ m H (asD r) (KD X Q m H)) : Out X σ m H r (KQ X Q m H) := by
  unfold asD at o
  cases r with
  | no => exact o
  | ex x fs st' => exact o
  | ok q st' =>
    intro v m' H' n r fr
    cases q with
    | val d => exact o v m' H' n r
    | fresh xs =>
      obtain ⟨a, vs, rfl, hl, hm, rs⟩ := r
      have hn : H a = none := fr a rfl
      obtain ⟨l, rfl, hl0⟩ := n.ext
      refine o (.ref a) (m ++ l ++ [a]) H' ⟨⟨l ++ [a], by simp, fun b hb => ?_⟩, sto_push' n.sto hm ⟨vs, hl, rs⟩, n.fr, n.fz⟩ ⟨a, rfl, get_push n.sto⟩
      rcases List.mem_append.mp hb with hb | hb
      · exact hl0 b hb
      · simp at hb; subst hb; exact hn
theorem evH_noex {x : String} {fs : Fs} : ∀ {h : Hx} {st : Store} {y : String} {gs : Fs} {st' : Store}, evH p x fs h st ≠ .ex y gs st'
  | .he e, st, y, gs, st', z => by
    unfold evH at z
    split at z <;> cases z
  | .lst es, st, y, gs, st', z => by
    unfold evH at z
    split at z <;> cases z
  | .ifis c a b, st, y, gs, st', z => by
    unfold evH at z
    split at z
    · split at z
      · exact evH_noex z
      · exact evH_noex z
    · cases z
  | .kinds f, st, y, gs, st', z => by
    unfold evH at z
    split at z <;> cases z
/-- a clause's reading -/
def clau (p : Prg) (X : Cx) : Hd → Clau
  | .hd c i to h => (.ref (He.ga X.K (Str.ofString c)), i, fun a cls d => tAsg (tHx p X a cls d i h) (gName to))
/-- a clause of ours and of the text -/
inductive Hnds (p : Prg) (X : Cx) : List ExceptHandler → List Hd → Prop
  | nil : Hnds p X [] []
  | cons {c : String} {i : Option Nat} {nopt : Option Str} {to : Nat} {h : Hx} {y : Str} {E : Expr} {np py pos2 pos' : Pos} {hds : List ExceptHandler} {l : List Hd} (hN : X.N.Nodup) (hn : (nopt = none ∧ i = none) ∨ ∃ n j, nopt = some n ∧ i = some j ∧ X.N[j]? = some n ∧ X.env.kindOf n = some .local)
      (hto : X.N[to]? = some y) (hy : Loc X.env.scope y) (hfy : X.fn y = true ∨ X.env.scope.names.lookup y = some .local) (hc : Names X (Str.ofString c) (.ref (He.ga X.K (Str.ofString c)))) (hsw : swapsWith E (some (.Name y py)) pos2.line X.env = pure false)
      (hx : ∀ x xd, p.exs.lookup x = some xd → PySem.W.exmOne X.K (.ref (He.ga X.K (Str.ofString x))) (.ref (He.ga X.K (Str.ofString c))) = some (xd.sup.contains c))
      (hE : ∀ (a : Addr) (oe : Obj) (cls : Value) (d : Option Addr) (pn : List (Addr × Obj)), Zc cls d oe → (∃ vs, oe.data = .fields vs) → PE (X.suite a ((a, oe) :: pn)) E (tHx p X a cls d i h)) (r : Hnds p X hds l) :
      Hnds p X (.ExceptHandler (some (.Name (Str.ofString c) np)) nopt [.Assign [.Name y py] E pos2] pos' :: hds) (.hd c i to h :: l)
theorem Hnds.mix {hds : List ExceptHandler} {l : List Hd} (h : Hnds p X hds l) : Mix X hds (l.map (clau p X)) := by
  induction h with
  | nil => exact .nil
  | @cons c i nopt to h y E np py pos2 pos' hds l hN hn hto hy hfy hc hsw hx hE r ih =>
    have su : ∀ (a : Addr) (oe : Obj) (cls : Value) (d : Option Addr) (pn : List (Addr × Obj)), Zc cls d oe → (∃ vs, oe.data = .fields vs) → PSs (X.suite a ((a, oe) :: pn)) [.Assign [.Name y py] E pos2] (tAsg (tHx p X a cls d i h) (gName to)) := fun a oe cls d pn hz hf =>
      pss_one (ps_set (X := X.suite a ((a, oe) :: pn)) hN hto hy (hE a oe cls d pn hz hf) hsw hfy)
    rcases hn with ⟨rfl, rfl⟩ | ⟨n, j, rfl, rfl, hj, hl⟩
    · exact .cons hc su ih
    · exact .named hN hj hl hc su ih
theorem held_env {m : List Addr} {H : Hp} {σ : L2.St} {env : Env} {i : Option Nat} {a : Addr} {to : Nat} {v : V} {dd : D} (E : EnvR X.K m H σ env) (r : Rep X.K m H dd v) (hi : i ≠ some to) :
    ∀ Z : Ends, (∀ σ', EnvR X.K m H σ' ((match i with
        | some j => env.set j none
        | none => env).set to (some dd)) → Z.nx σ' H) → (gone i Z).nx ((held i σ a).set to (some v)) H := by
  intro Z k
  cases i with
  | none => exact k _ (E.set r)
  | some j =>
    have hj : j ≠ to := fun e => hi (by rw [e])
    refine k _ ⟨by simp [held, E.len], fun q x hq => ?_⟩
    dsimp only at hq
    simp only [held]
    by_cases hqt : to = q
    · subst hqt
      have hl : to < env.length := by
        have := (List.getElem?_eq_some_iff.mp hq).1
        simpa using this
      rw [List.getElem?_set_self (by simpa using hl)] at hq
      cases hq
      refine ⟨v, ?_, r⟩
      rw [List.getElem?_set_ne hj, List.getElem?_set_self (by simp [E.len]; exact hl)]
    · rw [List.getElem?_set_ne hqt] at hq
      by_cases hqj : j = q
      · subst hqj
        by_cases hl : j < env.length
        · rw [List.getElem?_set_self hl] at hq
          cases hq
        · rw [List.getElem?_eq_none (by simpa using hl)] at hq
          cases hq
      · rw [List.getElem?_set_ne hqj] at hq
        obtain ⟨u, h1, h2⟩ := E.at_ q x hq
        exact ⟨u, by rw [List.getElem?_set_ne hqj, List.getElem?_set_ne hqt, List.getElem?_set_ne hqj]; exact h1, h2⟩
theorem hands_mix {Z : Ends} {x : String} {fs : Fs} {env' : Env} {st' : Store} {m : List Addr} {H : Hp} {hds : List ExceptHandler} {l : List Hd} (h : Hnds p X hds l) : OutS X m H Z (hands p x fs env' l st') →
    ∃ Wout, Takes X Wout ∧ ∀ c d σ1 H1 m1, c = .ref (He.ga X.K (Str.ofString x)) → Nx X.K X.w m H m1 H1 st' → FldX X.K m1 H1 fs d → EnvR X.K m1 H1 σ1 env' → wMix X.K Wout Z (l.map (clau p X)) c d σ1 H1 := by
  induction h with
  | nil =>
    intro o
    exact ⟨_, o, fun c d σ1 H1 m1 e n f E => ⟨m1, e, n, f, E⟩⟩
  | @cons c i nopt to h y E np py pos2 pos' hds l hN hn hto hy hfy hc hsw hx hE r ih =>
    intro o
    unfold hands at o
    cases hxd : p.exs.lookup x with
    | none => rw [hxd] at o; exact o.elim
    | some xd =>
      rw [hxd] at o
      dsimp only at o
      have ex := hx x xd hxd
      cases hb : xd.sup.contains c with
      | false =>
        rw [hb] at o
        obtain ⟨Wout, tk, k⟩ := ih o
        exact ⟨Wout, tk, fun c' d σ1 H1 m1 e n f E => ⟨false, by rw [e, ex, hb], fun z => (nomatch z), fun _ => k c' d σ1 H1 m1 e n f E⟩⟩
      | true =>
        rw [hb] at o
        rw [if_pos rfl] at o
        split at o
        case isTrue => exact o.elim
        next hbad =>
        have hi : i ≠ some to := fun z => by
          subst z
          simp [badName] at hbad
        refine ⟨_, takes_none5, fun c' d σ1 H1 m1 e n f E1 => ⟨true, by rw [e, ex, hb], fun _ a na => ?_, fun z => (nomatch z)⟩⟩
        subst e
        have o1 := OutS.later n o
        have o2 := o1.thn E1 n.sto
        have o3 : Out X σ1 m1 H1 (asD (evH p x fs h st')) (KD X (fun v H2 => (gone i Z).nx ((held i σ1 a).set to (some v)) H2) m1 H1) := o2.imp fun dd st1 q v m2 H2 n2 rv => by
          obtain ⟨E2, o4⟩ := q m2 H2 n2
          exact held_env E2 rv hi Z fun σ' E' => o4 σ' m2 H2 (.refl n2.sto) E'
        have o5 := out_asD o3
        refine ⟨x, fs, m1, st', ⟨⟨xd, hxd⟩, rfl, fun j hj => ?_, n.sto, f⟩, ?_⟩
        · subst hj
          rcases hn with ⟨_, z⟩ | ⟨n0, j0, _, z, hNj, _⟩
          · cases z
          · cases z
            have hl : j < σ1.length := by
              rw [E1.len]
              simp [badName] at hbad
              omega
            show (σ1.set j _)[j]? = _
            rw [List.getElem?_set_self hl]
        · cases hq : evH p x fs h st' with
          | no => rw [hq] at o5; exact o5
          | ex y gs s => exact absurd hq evH_noex
          | ok q s => rw [hq] at o5; exact o5

/-- what a try's body comes to -/
def OutW (X : Cx) (W : WX) (m : List Addr) (H : Hp) (Z : Ends) (r : RS) : Prop := match r with
  | .ex x fs env' st' => ∀ c d σ1 H1 m1, c = .ref (He.ga X.K (Str.ofString x)) → Nx X.K X.w m H m1 H1 st' → FldX X.K m1 H1 fs d → EnvR X.K m1 H1 σ1 env' → W c d σ1 H1
  | r => OutS X m H Z r
def tTr (X : Cx) (fb : Env → Store → RS) (W : WX) : TS := fun Z σ H => ∃ env m st, EnvR X.K m H σ env ∧ StoR X.K X.w m st H ∧ OutW X W m H Z (fb env st)
theorem js_try {body : List Stmt} {h₀ : ExceptHandler} {hds : List ExceptHandler} {l : List Hd} {pos : Pos} {fb f : Env → Store → RS} (hf : f = fun env st => match fb env st with
    | .ex x fs env' st' => hands p x fs env' l st'
    | r => r) (hs : X.stack = X.env :: X.outer) (hfr : X.env.frame = some X.env.locals)
    (hb : ∀ (pn : List (Addr × Obj)) (xe : Value → Shared → Prop), PassesOwn (model X.prog X.w) X.A X.env xe → PSs (X.tr pn xe) body (tS (X.tr pn xe) fb)) (hh : Hnds p X (h₀ :: hds) l) : PS X (.Try body (h₀ :: hds) [] [] pos) (tS X f) := by
  subst hf
  refine (ps_try_mix (tb := tTr X fb) hs hfr (fun W pn xe tk hp => (hb pn xe hp).imp fun Z σ H h => ?_) hh.mix).imp fun Z σ H h => ?_
  · obtain ⟨env, m, st, E, S, o⟩ := h
    refine ⟨env, m, st, E, S, ?_⟩
    cases hq : fb env st with
    | nx env' st' => rw [hq] at o; exact o
    | rt d st' => rw [hq] at o; exact o
    | no => rw [hq] at o; exact o
    | ex x fs env' st' =>
      rw [hq] at o
      exact Takes.imp tk fun c d σ1 H1 ⟨m1, e, n, f, E1⟩ => o c d σ1 H1 m1 e n f E1
  · obtain ⟨env, m, st, E, S, o⟩ := h
    dsimp only at o
    cases hq : fb env st with
    | nx env' st' =>
      rw [hq] at o
      exact ⟨_, takes_none5, env, m, st, E, S, by rw [hq]; exact o⟩
    | rt d st' =>
      rw [hq] at o
      exact ⟨_, takes_none5, env, m, st, E, S, by rw [hq]; exact o⟩
    | no => rw [hq] at o; exact o.elim
    | ex x fs env' st' =>
      rw [hq] at o
      obtain ⟨Wout, tk, k⟩ := hands_mix hh o
      exact ⟨Wout, tk, env, m, st, E, S, by rw [hq]; exact k⟩
end
end Eng
/-! E24: == and != of data. -/
namespace Eng
open PySem PySem.Spec PyProof.Rows L2
section
variable {X : Cx} {p : Prg} {call : String → List D → Store → R D}
/-- no class of ours says == itself -/
def NoEq (p : Prg) : Prop := ∀ c cd, p.cls.lookup c = some cd → cd.eqm = none
theorem eqV_ok (hp : NoEq p) {neg : Bool} {a b q : Sq} {st st' : Store} (e : eqV p call neg a b st = .ok q st') : ∃ y z, sqPy st a = some y ∧ sqPy st b = some z ∧ q = .val (.bl (PyData.eqv y z != neg)) ∧ st' = st := by
  have plain : ∀ {a b : Sq}, ((opt (eqSq st a b) st).bind fun k st => val (.bl (k != neg)) st) = .ok q st' → ∃ y z, sqPy st a = some y ∧ sqPy st b = some z ∧ q = .val (.bl (PyData.eqv y z != neg)) ∧ st' = st := by
    intro a b e
    unfold eqSq at e
    split at e
    · next y z h1 h2 =>
      obtain ⟨rfl, rfl⟩ := val_ok e
      exact ⟨y, z, h1, h2, rfl, rfl⟩
    · cases e
  unfold eqV at e
  split at e
  · split at e
    · split at e
      · next c fs hq1 cd hcd =>
        rw [hp _ _ hcd] at e
        cases e
      · cases e
    · exact plain e
  · exact plain e
theorem noex_cmp (hp : NoEq p) (o : Cop) : NoEx2 (cmpV p call o) := by
  intro x y st e fs st' h
  have plain : ∀ {neg : Bool} {a b : Sq}, eqV p call neg a b st ≠ .ex e fs st' := by
    intro neg a b h
    unfold eqV at h
    split at h
    · split at h
      · split at h
        · next c fs hq1 cd hcd =>
          rw [hp _ _ hcd] at h
          cases h
        · cases h
      · revert h
        exact opt_noex fun _ => val_noex
    · revert h
      exact opt_noex fun _ => val_noex
  have inn : ∀ {neg : Bool} {a b : Sq}, inV neg a b st ≠ .ex e fs st' := by
    intro neg a b h
    unfold inV at h
    split at h
    · split at h
      · split at h <;> cases h
      · split at h
        · split at h <;> cases h
        · cases h
    · cases h
  unfold cmpV at h
  split at h <;> first
    | exact plain h
    | exact inn h
    | cases h
theorem op_eqG (hp : NoEq p) (hu : X.A.units + 64 < cLine) : OpR X (compareOp .Eq) (rG X (cmpV p call .eq)) := by
  rintro pins s σ H v u vv uu Q I rv ru ⟨m, st, x, y, q, st', S, rx, ry, e, k⟩
  obtain ⟨z1, z2, e1, e2, rfl, rfl⟩ := eqV_ok (p := p) (call := call) (neg := false) hp (show eqV p call false x y st = .ok q st' from by cases x <;> exact e)
  exact dat_eq hu I S rv ru rx ry e1 e2 (KQ.val S k (by show V.bl _ = _; simp))
theorem op_neG (hp : NoEq p) (hu : X.A.units + 64 < cLine) : OpR X (compareOp .NotEq) (rG X (cmpV p call .ne)) := by
  rintro pins s σ H v u vv uu Q I rv ru ⟨m, st, x, y, q, st', S, rx, ry, e, k⟩
  obtain ⟨z1, z2, e1, e2, rfl, rfl⟩ := eqV_ok (p := p) (call := call) (neg := true) hp (show eqV p call true x y st = .ok q st' from by cases x <;> exact e)
  exact dat_ne hu I S rv ru rx ry e1 e2 (KQ.val S k (by show V.bl _ = _; simp))
/-- the text's sign of an operator -/
def copOf : Cop → CmpOp
  | .eq => .Eq | .ne => .NotEq | .lt => .Lt | .le => .LtE | .gt => .Gt | .ge => .GtE | .isN => .Is | .notN => .IsNot | .isin => .In | .notin => .NotIn
def bopOf : Bop → Operator
  | .add => .Add | .sub => .Sub | .mul => .Mult | .fdiv => .FloorDiv | .mod => .Mod | .pow => .Pow
theorem op_cop (hp : NoEq p) (hu : X.A.units + 64 < cLine) (o : Cop) : OpR X (compareOp (copOf o)) (rG X (cmpV p call o)) := by
  cases o with
  | eq => exact op_eqG hp hu
  | ne => exact op_neG hp hu
  | lt => exact op_ltG
  | le => exact op_leG
  | gt => exact op_gtG
  | ge => exact op_geG
  | isN => exact op_isNG
  | notN => exact op_notNG
  | isin => exact op_inG hu
  | notin => exact op_notInG hu
theorem op_bop (o : Bop) : OpR X (binaryOp (bopOf o)) (rG X (binop o)) := by
  cases o with
  | add => exact op_addG
  | sub => exact op_subG
  | mul => exact op_mulG
  | fdiv => exact op_fdivG
  | mod => exact op_modG
  | pow => exact op_powG
end
end Eng
/-! R1: methods and properties of own classes; nothing at all. -/
namespace Eng
open PySem PySem.Spec PyProof.Rows L2
section
variable {X : Cx} {σ : L2.St} {H : Hp} {Q : VK} {p : Prg} {lvl : Nat}
/-- what is never reached -/
theorem je_stuck {e : Expr} : PE X e (tX X fun _ _ => .no) := ⟨fun pins s σ H Q I h => by
  obtain ⟨env, m, st, E, S, o⟩ := h
  exact o.elim⟩
theorem jt_stuck {e : Expr} : PT X e (tBo X fun _ _ => .no) := ⟨fun pins s σ H Q I h => by
  obtain ⟨env, m, st, E, S, o⟩ := h
  exact o.elim⟩
theorem js_stuck {s : Stmt} : PS X s (tS X fun _ _ => .no) := ⟨fun pins s σ H D I h => by
  obtain ⟨env, m, st, E, S, o⟩ := h
  exact o.elim⟩
/-- arguments, then an action; d0 is still what it was -/
theorem tX_argsR {fa : Env → Store → R (List D)} {act : List D → Store → R Sq} {env : Env} {m : List Addr} {st : Store} {d0 : D} {v0 : V} (E : EnvR X.K m H σ env) (S : StoR X.K X.w m st H) (r0 : Rep X.K m H d0 v0) (o : Out X σ m H ((fa env st).bind act) (KQ X Q m H)) :
    tDs X fa σ H fun vs H1 => ∃ m ds st, StoR X.K X.w m st H1 ∧ Rep X.K m H1 d0 v0 ∧ Reps X.K m H1 ds vs ∧ Out X σ m H1 (act ds st) (KQ X Q m H1) :=
  ⟨env, m, st, E, S, (o.bind S mnQ).imp fun ds st1 k vs m1 H1 n r => ⟨m1, ds, st1, n.sto, r0.mono S n.ext n.fr, r, k m1 H1 n⟩⟩
def actMeth (p : Prg) (call : String → List D → Store → R D) (m : String) (fa : Env → Store → R (List D)) : D → Env → Store → R Sq := fun x env st => match x with
    | .obj i => match st[i]? with
      | some (.ins c fs) => match p.cls.lookup c, fs.lookup m with
        | some cd, none => match cd.mets.lookup m with
          | some g => (fa env st).bind fun ds st => (call g (.obj i :: ds) st).bind fun d st => val d st
          | none => .no
        | _, _ => .no
      | _ => .no
    | _ => .no
theorem FsR.none {K : PySem.W.Frag} {m : List Addr} {f : String} : ∀ {fs : Fs} {vfs : List (Str × V)}, FsR K m H fs vfs → fs.lookup f = none → vfs.lookup (Str.ofString f) = none
  | [], [], _, _ => rfl
  | (g, x) :: fs, (gs, v) :: vfs, .cons a b, h => by
    obtain ⟨a1, a2⟩ := a
    dsimp only at a1 a2
    subst a1
    by_cases e : f = g
    · subst e
      simp [List.lookup] at h
    · have e' : (f == g) = false := by simpa using e
      simp only [List.lookup, e'] at h
      have e2 : (Str.ofString f == Str.ofString g) = false := by
        have : Str.ofString f ≠ Str.ofString g := fun z => e (ofStr_inj z)
        simpa using this
      simp only [List.lookup, e2]
      exact FsR.none b h
/-- what is known of the methods -/
def MetF (X : Cx) (p : Prg) (call : String → List D → Store → R D) (lvl : Nat) (m : String) (np : Nat) : Prop := ∀ c cd g, p.cls.lookup c = some cd → cd.mets.lookup m = some g → ∃ a, Meth X.K (He.ga X.K (Str.ofString c)) (Str.ofString m) a ∧ FnH X.prog X.w X.K X.mg X.base lvl a (np + 1) (call g)
theorem je_meth {call : String → List D → Store → R D} {m : String} {o : Expr} {es : List Expr} {apos pos : Pos} {fo : Env → Store → R D} {fa : Env → Store → R (List D)} {f : Env → Store → R Sq} (hf : f = fun env st => (fo env st).bind fun x st => actMeth p call m fa x env st)
    (C : ClsF X.K p) (HM : MetF X p call lvl m es.length) (hr : Room lvl X.A) (hlen : ∀ env st ds st', fa env st = .ok ds st' → ds.length = es.length) (h0 : es = [] → ∀ env st, fa env st = .ok [] st) (hst : es.all noStar = true) (hn : es.length < 30) (hb : noCallH o = true) (hl : (apos.endLine == pos.line) = true)
    (ho : PE X o (tD X fo)) (ha : PA X es (tDs X fa)) : PE X (.Call (.Attribute o (Str.ofString m) apos) es [] pos) (tX X f) := by
  subst hf
  refine ⟨fun pins s σ H Q I h => ?_⟩
  have ht := mcall (o := o) (name := Str.ofString m) (env := X.env) hl hst hn
  rw [base_plain hb] at ht
  have h1 : tD X fo σ H fun v H1 => ∃ (a : Addr) (c : String) (dx : Addr) (vfs : List (Str × V)) (ad : Addr) (g : String), v = .ref a ∧ H1 a = some (.ins (He.ga X.K (Str.ofString c)) dx vfs) ∧ Cls X.K (He.ga X.K (Str.ofString c)) ∧ Meth X.K (He.ga X.K (Str.ofString c)) (Str.ofString m) ad ∧ vfs.lookup (Str.ofString m) = none ∧ FnH X.prog X.w X.K X.mg X.base lvl ad (es.length + 1) (call g) ∧
      tDs X fa σ H1 fun vs H2 => vs.length = es.length ∧ rA X σ (fun ds st => (call g ds st).bind fun d st => val d st) (.ref a :: vs) H2 Q := by
    obtain ⟨env, mm, st, E, S, o⟩ := h
    refine ⟨env, mm, st, E, S, (o.bind S mnQ).imp fun d st1 k v m1 H1 n r => ?_⟩
    have k := k m1 H1 n
    unfold actMeth at k
    cases d with
    | obj i => ?_
    | _ => exact k.elim
    dsimp only at k
    cases hi : st1[i]? with
    | none => rw [hi] at k; exact k.elim
    | some oo => ?_
    rw [hi] at k
    cases oo with
    | ins c fs => ?_
    | _ => exact k.elim
    dsimp only at k
    cases hc : p.cls.lookup c with
    | none => rw [hc] at k; exact k.elim
    | some cd => ?_
    cases hfs : fs.lookup m with
    | some z => rw [hc, hfs] at k; exact k.elim
    | none => ?_
    rw [hc, hfs] at k
    dsimp only at k
    cases hg : cd.mets.lookup m with
    | none => rw [hg] at k; exact k.elim
    | some g => ?_
    rw [hg] at k
    dsimp only at k
    obtain ⟨a, rfl, hm⟩ := r
    obtain ⟨dx, vfs, hH, hF⟩ := n.sto.at_ i a _ hm hi
    obtain ⟨ad, M, F⟩ := HM c cd g hc hg
    refine ⟨a, c, dx, vfs, ad, g, rfl, hH, C.cl c cd hc, M, FsR.none hF hfs, F, ?_⟩
    have t := tX_argsR (fa := fa) (act := fun ds st => (call g (.obj i :: ds) st).bind fun d st => val d st) (E.mono S n.ext n.fr) n.sto (show Rep X.K m1 H1 (.obj i) (.ref a) from ⟨a, rfl, hm⟩) k
    have t2 := len_args hlen t
    exact tDs_mono t2 fun vs H2 ⟨hl, m2, ds, st2, S2, r0, rs, o2⟩ => ⟨hl, m2, .obj i :: ds, st2, S2, ⟨_, _, rfl, r0, rs⟩, o2⟩
  refine PySem.W.methodCall_KW (thn (ho.run pins s σ H _ I h1) fun u s1 ⟨x, H1, I1, rx, a, c, dx, vfs, ad, g, ex, ea, hcl, M, l, F, q⟩ => ?_) ht
  subst ex
  obtain rfl : u = Value.ref a := rx
  refine getmeth_ok I1 ea hcl M l ?_
  have fin : ∀ (s2 : Shared) (us : List Value) (vs : List V) (H2 : Hp), L2.Inv X pins σ H2 s2 → Vals vs us → vs.length = es.length → rA X σ (fun ds st => (call g ds st).bind fun d st => val d st) (.ref a :: vs) H2 Q → wpAny (model X.prog X.w) X.A (PySem.call (.ref ad) (.ref a :: us)) (EP X pins σ Q) X.xe s2 := fun s2 us vs H2 I2 rv hl q => by
    obtain ⟨W, tk, sp⟩ := spC_of (np := es.length + 1) rfl (by simp [hl]) q
    exact run_call F hr I2 (.cons (show L2.RelV (V.ref a) (Value.ref a) from rfl) rv) tk sp
  cases es with
  | nil =>
    obtain ⟨hl, q⟩ := tDs_nil (h0 rfl) q
    exact PySem.W.callWith_K0 (first := [.ref a]) I1.kIn M.kp (fin s1 [] [] H1 I1 .nil hl q)
  | cons e es =>
    simp only [List.all_cons, Bool.and_eq_true] at hst
    refine PySem.W.callWith_K (first := [.ref a]) (h₀ := X.base) I1.ok.mod.kin M.kp (thn (ha.run pos pins s1 σ H1 _ I1 q) fun us s2 ⟨vs, H2, I2, r, hl, q2⟩ => ⟨I2.kIn, ?_⟩) (star_plain hst.1) (back_plain hst.2)
    exact fin s2 us vs H2 I2 r hl q2
end
end Eng
/-! R2: attributes and properties of own classes. -/
namespace Eng
open PySem PySem.Spec PyProof.Rows L2
section
variable {X : Cx} {σ : L2.St} {H : Hp} {Q : VK} {p : Prg} {lvl : Nat}
/-- what is known of the properties -/
def PrpF (X : Cx) (p : Prg) (call : String → List D → Store → R D) (lvl : Nat) (f : String) : Prop := ∀ c cd g, p.cls.lookup c = some cd → cd.prps.lookup f = some g → ∃ q a, PropOf X.K (He.ga X.K (Str.ofString c)) (Str.ofString f) q a ∧ FnH X.prog X.w X.K X.mg X.base lvl a 1 (call g)
def actAttr (p : Prg) (call : String → List D → Store → R D) (f : String) : D → Store → R Sq := fun x st => match x with
    | .obj i => match st[i]? with
      | some (.ins c fs) => fld p call c fs i f st
      | _ => .no
    | _ => .no
/-- either way -/
inductive AttW (X : Cx) (call : String → List D → Store → R D) (lvl : Nat) (f : Str) (a C dx : Addr) (vfs : List (Str × V)) (Q : VK) (H : Hp) : Prop where
  | raw (v : V) (n : NoAttr X.K C f) (l : vfs.lookup f = some v) (q : Q v H)
  | prp (q g : Addr) (k : String) (P : PropOf X.K C f q g) (F : FnH X.prog X.w X.K X.mg X.base lvl g 1 (call k)) (s : spC X.K X.w 1 (call k) [.ref a] H Q fun _ _ _ => False)
theorem je_fldp {call : String → List D → Store → R D} {f : String} {o : Expr} {pos : Pos} {fo : Env → Store → R D} {g : Env → Store → R Sq} (hf : g = fun env st => (fo env st).bind fun x st => actAttr p call f x st)
    (C : ClsF X.K p) (HP : PrpF X p call lvl f) (hr : Room (lvl + 1) X.A) (ho : PE X o (tD X fo)) (hb : noCallH o = true) : PE X (.Attribute o (Str.ofString f) pos) (tX X g) := by
  subst hf
  refine ⟨fun pins s σ H Q I h => ?_⟩
  have h1 : tD X fo σ H fun v H1 => ∃ (a C dx : Addr) (vfs : List (Str × V)), v = .ref a ∧ H1 a = some (.ins C dx vfs) ∧ Cls X.K C ∧ AttW X call lvl (Str.ofString f) a C dx vfs Q H1 := by
    obtain ⟨env, mm, st, E, S, o⟩ := h
    refine ⟨env, mm, st, E, S, (o.bind S mnQ).imp fun d st1 k v m1 H1 n r => ?_⟩
    have k := k m1 H1 n
    unfold actAttr at k
    cases d with
    | obj i => ?_
    | _ => exact k.elim
    dsimp only at k
    cases hi : st1[i]? with
    | none => rw [hi] at k; exact k.elim
    | some oo => ?_
    rw [hi] at k
    cases oo with
    | ins c fs => ?_
    | _ => exact k.elim
    dsimp only at k
    unfold fld at k
    cases hc : p.cls.lookup c with
    | none => rw [hc] at k; exact k.elim
    | some cd => ?_
    rw [hc] at k
    dsimp only at k
    obtain ⟨a, rfl, hm⟩ := r
    obtain ⟨dx, vfs, hH, hF⟩ := n.sto.at_ i a _ hm hi
    refine ⟨a, _, dx, vfs, rfl, hH, C.cl c cd hc, ?_⟩
    cases hp : cd.prps.lookup f with
    | some g =>
      rw [hp] at k
      dsimp only at k
      obtain ⟨q, ga, P, F⟩ := HP c cd g hc hp
      refine .prp q ga g P F ⟨rfl, m1, [.obj i], st1, n.sto, ⟨_, _, rfl, ⟨a, rfl, hm⟩, rfl⟩, ?_⟩
      cases hq : call g [.obj i] st1 with
      | no => rw [hq] at k; exact k.elim
      | ex x fs st' => rw [hq] at k; exact k.elim
      | ok d st' =>
        rw [hq] at k
        exact fun v m' H' n' rv => k v m' H' n' rv trivial
    | none =>
      rw [hp] at k
      dsimp only at k
      by_cases hr : rawA p c f = true
      · rw [if_pos hr] at k
        cases hl : fs.lookup f with
        | none => rw [hl] at k; exact k.elim
        | some d =>
        rw [hl] at k
        obtain ⟨v, hv, rv⟩ := FsR.look hF hl
        exact .raw v (C.no c f hr) hv (KQ.val n.sto k rv)
      · rw [if_neg hr] at k; exact k.elim
  refine attr_of (base_plain hb) (thn (ho.run pins s σ H _ I h1) fun u s1 ⟨x, H1, I1, rx, a, C, dx, vfs, ex, ea, c, w⟩ => ?_)
  subst ex
  obtain rfl : u = Value.ref a := rx
  cases w with
  | raw v n l q => exact getattr_ok I1 ea c n l fun u' s2 I2 ru => ⟨v, H1, I2, ru, q⟩
  | prp q g k P F sp =>
    obtain ⟨fd, ps, F, hb⟩ := F.ex
    refine getprop_ok (E := fun _ _ _ => False) I1 ea c P F hr hb (dvs := []) .nil ?_ sp
    rintro pins σ H s e s' _ ⟨a, B, H', cls, d, _, _, _, _, _, _, _, z⟩
    exact z
end
end Eng
/-! R3: isinstance by a class of ours. -/
namespace Eng
open PySem PySem.Spec PyProof.Rows L2
section
variable {X : Cx} {σ : L2.St} {H : Hp} {Q : VK} {p : Prg} {lvl : Nat}
def btys : List String := ["NoneType", "bool", "int", "str", "tuple", "list", "dict"]
/-- what is known of a class that isinstance is asked by -/
structure IsC (K : PySem.W.Frag) (p : Prg) (C : String) : Prop where
  bt : ∀ a ∈ btys, PySem.W.kitOne K (.type a) (.ref (He.ga K (Str.ofString C))) = some false
  own : ∀ c cd, p.cls.lookup c = some cd → PySem.W.kitOne K (.ref (He.ga K (Str.ofString c))) (.ref (He.ga K (Str.ofString C))) = some (c == C) ∧
    PySem.W.findIn K (.ref (He.ga K (Str.ofString c))) "__class__" = some (some (.builtin "object.__class__")) ∧ PySem.W.mroIn K (He.ga K (Str.ofString c)) (.type "object") = some true
  nt : PySem.W.specialIn K (.builtin "object.__class__") "__get__" = some (some (.builtin "getset_descriptor.__get__"))
  tk : PySem.W.takesIn K (.builtin "object.__class__") = some true
theorem isc_run {pins : List (Addr × Obj)} {s : Shared} {m : List Addr} {st : Store} {d : D0} {v : V} {u : Value} {C : String} {b : Bool} {Q : Value → Shared → Prop} (F : ClsF X.K p) (IC : IsC X.K p C) (S : StoR X.K X.w m st H) (r : Rep X.K m H d v) (ru : L2.RelV v u) (I : L2.Inv X pins σ H s)
    (ck : clsOk p st d = true) (e : tyIs st (.cls C) d = some b) (h : ∀ tk, Q (.bool b) { s with toks := tk }) : wpAny (model X.prog X.w) X.A (call (.builtin "isinstance") [u, .ref (He.ga X.K (Str.ofString C))]) Q X.xe s := by
  have go : ∀ {P : Heap → Prop} {a : String}, a ∈ btys → PySem.W.KitX X.K u (.type a) P → P s.heap → u ≠ .builtin "__main__.__loader__#opaque" → b = false → wpAny (model X.prog X.w) X.A (call (.builtin "isinstance") [u, .ref (He.ga X.K (Str.ofString C))]) Q X.xe s :=
    fun ha Z p hx hr => PySem.W.kia_one Z I.kIn p (by rw [IC.bt _ ha, hr]) hx h
  cases d with
  | non =>
    obtain rfl : v = V.non := r
    obtain rfl : u = Value.none := ru
    exact go (by simp [btys]) PySem.W.kitx_none True.intro (fun z => nomatch z) (by simpa [tyIs] using e.symm)
  | bl y =>
    obtain rfl : v = V.bl y := r
    obtain rfl : u = Value.bool y := ru
    exact go (by simp [btys]) PySem.W.kitx_bool True.intro (fun z => nomatch z) (by simpa [tyIs] using e.symm)
  | int i =>
    obtain rfl : v = V.int i := r
    obtain ⟨tk, rfl⟩ := ru
    exact go (by simp [btys]) PySem.W.kitx_int True.intro (fun z => nomatch z) (by simpa [tyIs] using e.symm)
  | str x =>
    obtain rfl : v = V.str x := r
    obtain ⟨tk, rfl⟩ := ru
    exact go (by simp [btys]) PySem.W.kitx_str True.intro (fun z => nomatch z) (by simpa [tyIs] using e.symm)
  | tup xs =>
    obtain ⟨a, vs, rfl, ha, _⟩ := r
    obtain rfl : u = Value.ref a := ru
    obtain ⟨its, _, ⟨o, h1, h2, _⟩, _⟩ := I.tuple ha
    exact go (by simp [btys]) PySem.W.kitx_tuple ⟨o, h1, h2⟩ (fun z => nomatch z) (by simpa [tyIs] using e.symm)
  | rol xs =>
    obtain ⟨a, vs, rfl, ha, _⟩ := r
    obtain rfl : u = Value.ref a := ru
    obtain ⟨its, _, pl, _⟩ := I.list ha.seq
    obtain ⟨o, h1, h2, _⟩ := pl.isList
    exact go (by simp [btys]) PySem.W.kitx_list ⟨o, h1, h2⟩ (fun z => nomatch z) (by simpa [tyIs] using e.symm)
  | obj i =>
    obtain ⟨a, rfl, hm⟩ := r
    obtain rfl : u = Value.ref a := ru
    cases hq : st[i]? with
    | none => simp [tyIs, hq] at e
    | some o =>
      have ob := S.at_ i a o hm hq
      cases o with
      | lst xs =>
        obtain ⟨vs, ha, _⟩ := ob
        obtain ⟨its, _, pl, _⟩ := I.list (.of ha)
        obtain ⟨o, h1, h2, _⟩ := pl.isList
        exact go (by simp [btys]) PySem.W.kitx_list ⟨o, h1, h2⟩ (fun z => nomatch z) (by simpa [tyIs, hq] using e.symm)
      | dic kvs =>
        obtain ⟨es, ha, _⟩ := ob
        obtain ⟨_, _, o, _, _, h1, h2, _⟩ := dicP_of I (.inl ha)
        exact go (by simp [btys]) PySem.W.kitx_dict ⟨o, h1, h2.1⟩ (fun z => nomatch z) (by simpa [tyIs, hq] using e.symm)
      | dicL kvs =>
        obtain ⟨ob, es, ha, _⟩ := ob
        obtain ⟨_, _, o, _, _, h1, h2, _⟩ := dicP_of I (.inr ⟨_, ha⟩)
        exact go (by simp [btys]) PySem.W.kitx_dict ⟨o, h1, h2.1⟩ (fun z => nomatch z) (by simpa [tyIs, hq] using e.symm)
      | ins c fs =>
        simp only [clsOk, hq] at ck
        obtain ⟨cd, hcd⟩ := Option.isSome_iff_exists.mp ck
        obtain ⟨k1, k2, k3⟩ := IC.own c cd hcd
        obtain ⟨dx, vfs, ha, _⟩ := ob
        have eb : (c == C) = b := by simpa [tyIs, hq] using e
        obtain ⟨P, Z, pp, hx⟩ := kit_of (x := .ref a) (u := .ref a) I rfl (.base (.ins ha (F.cl c cd hcd) k2 IC.nt IC.tk k3))
        exact PySem.W.kia_one Z I.kIn pp (by rw [k1, eb]) hx h
theorem je_isc {C : String} {x : Str} {e : Expr} {p1 p2 pos : Pos} {fa f : Env → Store → R Sq} (hf : f = fun env st => (asD (fa env st)).bind fun d st => if clsOk p st d then (opt (tyIs st (.cls C) d) st).bind fun b st => val (.bl b) st else .no) (hx : x = Str.ofString C)
    (F : ClsF X.K p) (IC : IsC X.K p C)
    (hg : Gl X "isinstance") (hm : X.mg "isinstance" = none) (hg2 : Gl X x) (hm2 : X.mg x = some (.ref (He.ga X.K (Str.ofString C)))) (hd2 : (x == ("__debug__" : Str)) = false) (hs : noStar e = true) (he : PE X e (tX X fa)) : PE X (.Call (.Name "isinstance" p1) [e, .Name x p2] [] pos) (tX X f) := by
  subst hf
  have r : CallR X (.builtin "isinstance") (fun vs H Q => ∃ v m st d b, vs = [v, .ref (He.ga X.K (Str.ofString C))] ∧ StoR X.K X.w m st H ∧ Rep X.K m H d v ∧ clsOk p st d = true ∧ tyIs st (.cls C) d = some b ∧ Q (.bl b) H) := by
    rintro pins s σ H vs us Q I rs ⟨v, m, st, d, b, rfl, S, rd, ck, eb, q⟩
    obtain ⟨u1, u2, rfl, r1, r2⟩ := vals2 rs
    obtain rfl : u2 = Value.ref (He.ga X.K (Str.ofString C)) := r2
    exact isc_run F IC S rd r1 I ck eb fun tk => ⟨.bl b, H, I.tok tk, rfl, q⟩
  have h2 : PE X (.Name x p2) (tC (.ref (He.ga X.K (Str.ofString C)))) := pe_glob hg2 hm2 rfl hd2
  refine (pe_callB r hg hm (by rfl) (pa_cons (pe_asD he) (pa_cons h2 pa_nil rfl) (star_plain hs)) (by decide) (by decide) (star_plain hs) rfl).imp fun σ H Q h => ?_
  obtain ⟨env, m, st, E, S, o⟩ := h
  refine ⟨env, m, st, E, S, (o.bind S mnQ).imp fun d st1 k v m1 H1 n r => ?_⟩
  have k := k m1 H1 n
  split at k
  case isFalse => exact k.elim
  next ck =>
  cases hb : tyIs st1 (.cls C) d with
  | none => rw [hb] at k; exact k.elim
  | some b =>
    rw [hb] at k
    exact ⟨v, m1, st1, d, b, rfl, n.sto, r, ck, hb, KQ.val n.sto k rfl⟩
end
end Eng
/-! R4: == and != by a class's own __eq__. -/
namespace Eng
open PySem PySem.Spec PyProof.Rows L2
section
variable {X : Cx} {σ : L2.St} {H : Hp} {p : Prg} {lvl : Nat}
/-- a value's type, as isinstance by the class at C reads it -/
theorem kit_all {pins : List (Addr × Obj)} {s : Shared} {m : List Addr} {st : Store} {d : D0} {v : V} {u : Value} {C : String} (F : ClsF X.K p) (IC : IsC X.K p C) (S : StoR X.K X.w m st H) (r : Rep X.K m H d v) (ru : L2.RelV v u) (I : L2.Inv X pins σ H s)
    (ck : clsOk p st d = true) : ∃ (t : Value) (P : Heap → Prop), PySem.W.KitX X.K u t P ∧ P s.heap ∧ PySem.W.notFirst X.K (He.ga X.K (Str.ofString C)) t = true := by
  have nf : ∀ {t : Value} {b : Bool}, PySem.W.kitOne X.K t (.ref (He.ga X.K (Str.ofString C))) = some b → (b = true → t = .ref (He.ga X.K (Str.ofString C))) → PySem.W.notFirst X.K (He.ga X.K (Str.ofString C)) t = true := by
    intro t b h e
    unfold PySem.W.notFirst
    cases b with
    | true => rw [e rfl]; simp
    | false =>
      unfold PySem.W.kitOne at h
      split at h
      · cases h
      · unfold PySem.W.kitCls at h
        dsimp only at h
        split at h
        · rw [h]; simp
        · cases h
  have go : ∀ {P : Heap → Prop} {a : String}, a ∈ btys → PySem.W.KitX X.K u (.type a) P → P s.heap → ∃ (t : Value) (P : Heap → Prop), PySem.W.KitX X.K u t P ∧ P s.heap ∧ PySem.W.notFirst X.K (He.ga X.K (Str.ofString C)) t = true :=
    fun ha Z p => ⟨_, _, Z, p, nf (IC.bt _ ha) fun z => nomatch z⟩
  cases d with
  | non =>
    obtain rfl : v = V.non := r
    obtain rfl : u = Value.none := ru
    exact go (by simp [btys]) PySem.W.kitx_none True.intro
  | bl y =>
    obtain rfl : v = V.bl y := r
    obtain rfl : u = Value.bool y := ru
    exact go (by simp [btys]) PySem.W.kitx_bool True.intro
  | int i =>
    obtain rfl : v = V.int i := r
    obtain ⟨tk, rfl⟩ := ru
    exact go (by simp [btys]) PySem.W.kitx_int True.intro
  | str x =>
    obtain rfl : v = V.str x := r
    obtain ⟨tk, rfl⟩ := ru
    exact go (by simp [btys]) PySem.W.kitx_str True.intro
  | tup xs =>
    obtain ⟨a, vs, rfl, ha, _⟩ := r
    obtain rfl : u = Value.ref a := ru
    obtain ⟨its, _, ⟨o, h1, h2, _⟩, _⟩ := I.tuple ha
    exact go (by simp [btys]) PySem.W.kitx_tuple ⟨o, h1, h2⟩
  | rol xs =>
    obtain ⟨a, vs, rfl, ha, _⟩ := r
    obtain rfl : u = Value.ref a := ru
    obtain ⟨its, _, pl, _⟩ := I.list ha.seq
    obtain ⟨o, h1, h2, _⟩ := pl.isList
    exact go (by simp [btys]) PySem.W.kitx_list ⟨o, h1, h2⟩
  | obj i =>
    obtain ⟨a, rfl, hm⟩ := r
    obtain rfl : u = Value.ref a := ru
    obtain ⟨o, hq, ob⟩ := S.is hm
    cases o with
    | lst xs =>
      obtain ⟨vs, ha, _⟩ := ob
      obtain ⟨its, _, pl, _⟩ := I.list (.of ha)
      obtain ⟨o, h1, h2, _⟩ := pl.isList
      exact go (by simp [btys]) PySem.W.kitx_list ⟨o, h1, h2⟩
    | dic kvs =>
      obtain ⟨es, ha, _⟩ := ob
      obtain ⟨_, _, o, _, _, h1, h2, _⟩ := dicP_of I (.inl ha)
      exact go (by simp [btys]) PySem.W.kitx_dict ⟨o, h1, h2.1⟩
    | dicL kvs =>
      obtain ⟨ob, es, ha, _⟩ := ob
      obtain ⟨_, _, o, _, _, h1, h2, _⟩ := dicP_of I (.inr ⟨_, ha⟩)
      exact go (by simp [btys]) PySem.W.kitx_dict ⟨o, h1, h2.1⟩
    | ins c fs =>
      simp only [clsOk, hq] at ck
      obtain ⟨cd, hcd⟩ := Option.isSome_iff_exists.mp ck
      obtain ⟨k1, k2, k3⟩ := IC.own c cd hcd
      obtain ⟨dx, vfs, ha, _⟩ := ob
      obtain ⟨P, Z, pp, hx⟩ := kit_of (x := .ref a) (u := .ref a) I rfl (.base (.ins ha (F.cl c cd hcd) k2 IC.nt IC.tk k3))
      exact ⟨_, P, Z, pp, nf k1 fun e => by rw [beq_iff_eq.mp e]⟩
/-- what is known of an own == -/
structure EqF (X : Cx) (p : Prg) (lvl : Nat) (C : String) (g : List D → Store → R D) : Prop where
  ic : IsC X.K p C
  ex : ∃ f, PySem.W.findIn X.K (.ref (He.ga X.K (Str.ofString C))) "__eq__" = some (some (.ref f)) ∧ PySem.W.isFn X.K (.ref f) = true ∧ FnH X.prog X.w X.K X.mg X.base lvl f 2 g
  ne : PySem.W.findIn X.K (.ref (He.ga X.K (Str.ofString C))) "__ne__" = some (some (.builtin "object.__ne__"))
  ob : PySem.W.mroIn X.K (He.ga X.K (Str.ofString C)) (.type "object") = some true
/-- the callee runs at some depth below; it raises nothing -/
theorem run_deep {A : Around} {a : Addr} {np : Nat} {f : List D → Store → R D} {pins : List (Addr × Obj)} {s : Shared} {us : List Value} {vs : List V} {Q : VK} (sb : Sub X lvl A) (F : FnH X.prog X.w X.K X.mg X.base lvl a np f) (I : L2.Inv X pins σ H s) (r : Vals vs us)
    (h : spC X.K X.w np f vs H Q fun _ _ _ => False) : wpAny (model X.prog X.w) A (call (.ref a) us) (EP X pins σ Q) X.xe s := by
  obtain ⟨fd, ps, F, hb⟩ := F.ex
  have e0 : Env0 X.prog X.w X.K X.mg X.base A X.stack s H := by
    have e := I.env0
    exact ⟨by rw [sb.fr]; exact e.frames, e.mod, e.bs, e.bsz, e.funs, e.frf, e.hok, e.bare⟩
  have hl := F.len _ _ _ _ h
  refine wpAny_call (codeAny_mono (F.run A X.stack s H ⟨us, []⟩ us vs _ _ sb.room e0 (by
    have := hb s us I.kIn (by simpa [← r.length] using hl)
    simpa using this) r h) fun r s' hq => ?_)
  cases r with
  | error e =>
    obtain ⟨a, B, H', cls, d, _, _, _, _, _, _, _, z⟩ := hq
    exact z.elim
  | ok fl =>
    cases fl with
    | ret w =>
      obtain ⟨z, H', I', rz, q⟩ := I.after hq
      exact ⟨z, H', I', rz, q⟩
    | next => exact False.elim hq
    | brk => exact False.elim hq
    | cont => exact False.elim hq
end
end Eng
/-! R5: == and != : own, dicts, data. -/
namespace Eng
open PySem PySem.Spec PyProof.Rows L2
section
variable {prog : Program} {w : World} {A : Around} {E : Value → Shared → Prop} {s : Shared} {K : PySem.W.Frag} {x C f : Addr} {ox : Obj} {od : Option Obj} {h₀ : Heap} {L : Addr} {m : Str → Option Value} {tb b : Value}
theorem ifb_ne {M : Model} {args : List Value} {Q : Option Value → Shared → Prop} (X : K.In s.heap) (I : PySem.W.InstAt s.heap x ox C od) (hs : PySem.W.findIn K (.ref C) "__ne__" = some (some (.builtin "object.__ne__")))
    (h : wpAny M A (call (.builtin "object.__ne__") (.ref x :: args)) (fun v => Q (some v)) E s) : wpAny M A (callSpecialIfBound? (.ref x) "__ne__" args) Q E s := by
  have fin : wpAny M A (call (.builtin "object.__ne__") ([.ref x] ++ args) >>= fun v => pure (some v)) Q E s := wpAny_bind (wpAny_mono h (fun v s' h' => wpAny_pure h') fun _ _ h' => h')
  simp only [callSpecialIfBound?, bindSpecialIfBound?]
  refine wpAny_holding (wpAny_bind (wpAny_bind (wpAny_bind (I.type.here ((PySem.W.looks_findIn X hs).here ?_)))))
  refine wpAny_bind (wpAny_askSetting (wpAny_ite ?_))
  split
  · exact wpAny_bind (wpAny_of_eq (F.cmp_object.ne.bind _) (wpAny_pure (by exact fin)))
  · exact wpAny_tryCatch (wpAny_bind (wpAny_of_eq (F.cmp_object.ne.bind _) (wpAny_pure (by exact fin))))
theorem ne_entry {Q : Fin → Shared → Prop} (hu : A.units < cLine) (X : K.In s.heap) (I : PySem.W.InstAt s.heap x ox C od) (hs : PySem.W.findIn K (.ref C) "__eq__" = some (some (.ref f))) (hf : PySem.W.isFn K (.ref f) = true)
    (h : wpAny (model prog w) A (call (.ref f) [.ref x, b]) (fun v s' => ∃ k, v = .bool k ∧ Q (.done (.ret (.bool (!k)))) s') E s) : wpAny (model prog w) A (Builtin.«object.__ne__» ⟨[.ref x, b], []⟩) Q E s := by
  unfold Builtin.«object.__ne__»
  repeat (first
    | with_reducible refine wpAny_cRoomFor hu ?_
    | (refine wpAny_bind (m := callSpecialIfBound? (.ref x) (Str.ofString "__eq__") [b])
        (PySem.W.ifBound_K X I hs hf (wpAny_mono h (fun r s' hr => by
          obtain ⟨k, rfl, hq⟩ := hr
          repeat (first | exact hq | exact wpAny_pure hq | exact wpAny_truthy_bool hq | (refine wpAny_bind (m := truthy (.bool _)) (wpAny_truthy_bool ?_)) | wp_step)) fun _ _ e => e)))
    | wp_step)
theorem cmp_neK {Q : Value → Shared → Prop} (hu : A.units + 1 < cLine) (Fr0 : PyProof.Rows.Fr h₀ L s.heap m) (X₀ : K.In h₀) (I : PySem.W.InstAt s.heap x ox C od) (hb : PySem.W.Looks (model prog w) s.heap (typeOf b) tb) (hn : PySem.W.notFirst K C tb = true)
    (hne : PySem.W.findIn K (.ref C) "__ne__" = some (some (.builtin "object.__ne__"))) (hm : PySem.W.mroIn K C (.type "object") = some true) (hs : PySem.W.findIn K (.ref C) "__eq__" = some (some (.ref f))) (hf : PySem.W.isFn K (.ref f) = true)
    (h : wpAny (model prog w) A.in1 (call (.ref f) [.ref x, b]) (fun v s' => ∃ k, v = .bool k ∧ Q (.bool (!k)) s') E s) : wpAny (model prog w) A (richCompare .NotEq (.ref x) b) Q E s := by
  have X := X₀.keeps Fr0.keep
  have one : wpAny (model prog w) A (tryCompare (.ref x) "__ne__" b) (fun r s' => ∃ v, r = some v ∧ Q v s') E s := by
    unfold tryCompare
    refine wpAny_bind (ifb_ne X I hne (wpAny_call (codeAny_call_builtin F.cmp_object.ne.plain F.cmpEntry_ne (PySem.W.check_slot F.cmpKind_ne F.cmpSplit_ne (I.type.andThen (PySem.W.looks_mroIn X hm)) (F.cmpArgs_ne _ _)
      (ne_entry (A := A.in1) (by simpa using hu) X I hs hf (wpAny_mono h (fun v s' hv => ?_) fun _ _ e => e))))))
    obtain ⟨k, rfl, hq⟩ := hv
    exact ⟨k, rfl, wpAny_pure ⟨_, rfl, hq⟩⟩
  simp only [richCompare, cmpInfo_NotEq, oneThing_ref]
  refine wpAny_holding (wpAny_bind (wpAny_cRoomFor (Nat.lt_of_succ_lt hu) ?_))
  refine wpAny_bind (I.type.here (wpAny_bind (hb.here ?_)))
  split
  · rename_i q
    have e : PySem.W.subIn K tb (.ref C) = some false := by
      rcases Bool.or_eq_true_iff.mp hn with e | e
      · rw [beq_iff_eq.mp e] at q; simp at q
      · exact beq_iff_eq.mp e
    refine wpAny_bind ((PySem.W.looks_subIn X e).here ?_)
    simp only [Bool.false_eq_true, if_false]
    refine wpAny_bind (m := tryCompare (.ref x) _ b) (wpAny_mono one (fun r s' z => ?_) fun _ _ e => e)
    obtain ⟨v, rfl, hq⟩ := z
    exact wpAny_pure hq
  · refine wpAny_bind (wpAny_pure ?_)
    simp only [Bool.false_eq_true, if_false]
    refine wpAny_bind (m := tryCompare (.ref x) _ b) (wpAny_mono one (fun r s' z => ?_) fun _ _ e => e)
    obtain ⟨v, rfl, hq⟩ := z
    exact wpAny_pure hq
end
section
variable {X : Cx} {σ : L2.St} {H : Hp} {p : Prg} {lvl : Nat}
/-- both own signs -/
theorem op_own {call : String → List D → Store → R D} {C g : String} {pins : List (Addr × Obj)} {s : Shared} {a dx : Addr} {vfs : List (Str × V)} {v : V} {u : Value} {m : List Addr} {st st' : Store} {i : Nat} {d : D} {k : Bool} {Q : VK} (neg : Bool) (F : EqF X p lvl C (call g)) (CF : ClsF X.K p) (hr : Room (lvl + 1) X.A) (I : L2.Inv X pins σ H s)
    (S : StoR X.K X.w m st H) (hm : m[i]? = some a) (ha : H a = some (.ins (He.ga X.K (Str.ofString C)) dx vfs)) (rd : Rep X.K m H d v) (rv : L2.RelV v u) (ck : clsOk p st d = true) (e : call g [.obj i, d] st = .ok (.bl k) st')
    (q : ∀ m' H', Nx X.K X.w m H m' H' st' → Q (.bl (k != neg)) H') : wpAny (model X.prog X.w) X.A (compareOp (if neg then .NotEq else .Eq) (.ref a) u) (EP X pins σ Q) X.xe s := by
  obtain ⟨f, f1, f2, f3⟩ := F.ex
  obtain ⟨t, P, Z, pp, nf⟩ := kit_all (C := C) CF F.ic S rd rv I ck
  obtain ⟨mA, J, _⟩ := ins_get I.hok ha
  obtain ⟨od, J, _⟩ := J.look
  obtain ⟨mm, hF⟩ := I.fr
  have sp : spC X.K X.w 2 (call g) [.ref a, v] H (fun z H' => z = .bl k ∧ Q (.bl (k != neg)) H') fun _ _ _ => False := by
    refine ⟨rfl, m, [.obj i, d], st, S, ⟨_, _, rfl, ⟨a, rfl, hm⟩, _, _, rfl, rd, rfl⟩, ?_⟩
    rw [e]
    intro z m' H' n r
    exact ⟨r, q m' H' n⟩
  have r2 : Vals [V.ref a, v] [Value.ref a, u] := .cons rfl (.cons rv .nil)
  cases neg with
  | false =>
    refine PySem.W.cmp_K (op := .Eq) (tb := t) hr.units0 hF I.ok.mod.kin J (Z.ty _ _ I.kIn pp) nf f1 f2 (wpAny_mono (run_deep (A := X.A) ⟨hr.mono (Nat.le_succ _), rfl⟩ f3 I r2 sp) (fun z s' hz => ?_) fun _ _ x => x)
    obtain ⟨zz, H', I', rz, rfl, hq⟩ := hz
    obtain rfl : z = Value.bool k := rz
    have hq : Q (.bl k) H' := by simpa using hq
    exact ⟨.bl k, H', I', rfl, hq⟩
  | true =>
    refine cmp_neK (tb := t) (hr.in1.units0) hF I.ok.mod.kin J (Z.ty _ _ I.kIn pp) nf F.ne F.ob f1 f2 (wpAny_mono (run_deep (A := X.A.in1) ⟨hr.in1, rfl⟩ f3 I r2 sp) (fun z s' hz => ?_) fun _ _ x => x)
    obtain ⟨zz, H', I', rz, rfl, hq⟩ := hz
    obtain rfl : z = Value.bool k := rz
    have hq : Q (.bl (!k)) H' := by simpa using hq
    exact ⟨k, rfl, .bl (!k), H', I', rfl, hq⟩
end
end Eng
/-! R6: == of dicts; the sign == as a whole. -/
namespace Eng
open PySem PySem.Spec PyProof.Rows L2
section
variable {X : Cx} {σ : L2.St} {m : List Addr} {H : Hp} {st : Store}
theorem look_of {K : PySem.W.Frag} : ∀ {kvs : List (D × D)} {ks : List (Key × V)} {vs : List (Key × Value)} {k : Key}, Paired (fun (p : D × D) (e : NestedKey × V × V) => p.1.nk = some e.1 ∧ e.1.depth ≤ 8 ∧ Rep K m H p.1 e.2.1 ∧ Rep K m H p.2 e.2.2) kvs (toE ks) → KV ks vs →
    (dLook kvs (nkK k) = none ∧ valueAt vs k = none) ∨ ∃ d v u, dLook kvs (nkK k) = some d ∧ valueAt vs k = some u ∧ L2.RelV v u ∧ Rep K m H d v
  | [], [], [], k, _, _ => .inl ⟨rfl, rfl⟩
  | p :: kvs, q :: ks, z :: vs, k, .cons h b, .cons r t => by
    obtain ⟨h1, _, _, h4⟩ := h
    obtain ⟨r1, r2⟩ := r
    by_cases e : q.1 = k
    · refine .inr ⟨p.2, q.2, z.2, ?_, ?_, r2, h4⟩
      · unfold dLook
        rw [List.find?_cons_of_pos (by rw [h1]; simp [e])]
        rfl
      · unfold valueAt
        rw [List.find?_cons_of_pos (by simp [← r1, e])]
        rfl
    · have e1 : ¬ p.1.nk = some (nkK k) := by
        rw [h1]
        intro z
        injection z with z
        exact e (nkK_inj z)
      have e2 : ¬ z.1 = k := by rw [← r1]; exact e
      have i1 : dLook (p :: kvs) (nkK k) = dLook kvs (nkK k) := by
        unfold dLook
        rw [List.find?_cons_of_neg (by simpa using e1)]
      have i2 : valueAt (z :: vs) k = valueAt vs k := by
        unfold valueAt
        rw [List.find?_cons_of_neg (by simpa using e2)]
      rw [i1, i2]
      exact look_of b t
  | p :: kvs, [], _, _, h, _ => nomatch h
  | [], q :: ks, _, _, h, _ => nomatch h
  | _, [], _ :: _, _, _, h => nomatch h
  | _, _ :: _, [], _, _, h => nomatch h
theorem at_res {pins : List (Addr × Obj)} {s : Shared} {d d2 : D} {v v2 : V} {u u2 : Value} {y z : PyData} {A : Around} (hu : A.units + 64 < cLine) (I : L2.Inv X pins σ H s) (S : StoR X.K X.w m st H) (r : Rep X.K m H d v) (r2 : Rep X.K m H d2 v2) (rv : L2.RelV v u) (rv2 : L2.RelV v2 u2) (e : res st 8 d = some y) (e2 : res st 8 d2 = some z) :
    SeqAt.EqAt A s u u2 (PyData.eqv y z) := by
  obtain ⟨d1, p1, n1⟩ := sqPy_dp (q := .val d) S e r
  obtain ⟨d2, p2, n2⟩ := sqPy_dp (q := .val d2) S e2 r2
  obtain ⟨as, a1⟩ := Dp.reads I y v u d1 rv
  obtain ⟨bs, a2⟩ := Dp.reads I z v2 u2 d2 rv2
  exact SeqAt.eqAt_plain _ _ _ _ _ _ _ _ a1 a2 p1 p2 (by omega)
theorem hits_of {pins : List (Addr × Obj)} {s : Shared} {A : Around} (hu : A.units + 64 < cLine) (I : L2.Inv X pins σ H s) (S : StoR X.K X.w m st H) {kb : List (D × D)} {ksb : List (Key × V)} {vb : List (Key × Value)} (hb : Paired (fun (p : D × D) (e : NestedKey × V × V) => p.1.nk = some e.1 ∧ e.1.depth ≤ 8 ∧ Rep X.K m H p.1 e.2.1 ∧ Rep X.K m H p.2 e.2.2) kb (toE ksb)) (rb : KV ksb vb) :
    ∀ {ka : List (D × D)} {ks : List (Key × V)} {va : List (Key × Value)} {r : Bool}, Paired (fun (p : D × D) (e : NestedKey × V × V) => p.1.nk = some e.1 ∧ e.1.depth ≤ 8 ∧ Rep X.K m H p.1 e.2.1 ∧ Rep X.K m H p.2 e.2.2) ka (toE ks) → KV ks va → dEqB st kb ka = some r → PySem.W.KeqHits A s vb va r
  | [], [], [], r, _, _, e => by
    obtain rfl : true = r := by simpa [dEqB] using e
    exact .nil
  | p :: ka, q :: ks, z :: va, r, .cons h b, .cons rr t, e => by
    obtain ⟨h1, _, _, h4⟩ := h
    obtain ⟨r1, r2⟩ := rr
    unfold dEqB at e
    rw [h1] at e
    dsimp only at e
    obtain ⟨k, v⟩ := q
    obtain ⟨k', u⟩ := z
    obtain rfl : k = k' := r1
    rcases look_of (k := k) hb rb with ⟨l1, l2⟩ | ⟨d, v2, u2, l1, l2, l3, l4⟩
    · rw [l1] at e
      obtain rfl : false = r := by simpa using e
      exact .miss l2
    · rw [l1] at e
      dsimp only at e
      split at e
      · next x y r' e1 e2 e3 =>
        obtain rfl : (PyData.eqv x y && r') = r := by simpa using e
        exact .hit l2 (at_res hu I S h4 l4 r2 l3 e1 e2) (hits_of hu I S hb rb b t e3)
      · cases e
  | p :: ka, [], _, _, h, _, _ => nomatch h
  | [], q :: ks, _, _, h, _, _ => nomatch h
  | _, [], _ :: _, _, _, h, _ => nomatch h
  | _, _ :: _, [], _, _, h, _ => nomatch h
theorem op_dic {pins : List (Addr × Obj)} {s : Shared} {a b : Addr} {xs ys : List (D × D)} {k : Bool} {Q : VK} (neg : Bool) (hu : X.A.units + 70 < cLine) (I : L2.Inv X pins σ H s) (S : StoR X.K X.w m st H) (h1 : ObjR X.K X.w m H a (.dic xs)) (h2 : ObjR X.K X.w m H b (.dic ys)) (e : dEqO st xs ys = some k) (q : Q (.bl (k != neg)) H) :
    wpAny (model X.prog X.w) X.A (compareOp (if neg then .NotEq else .Eq) (.ref a) (.ref b)) (EP X pins σ Q) X.xe s := by
  unfold dEqO at e
  split at e
  case isFalse => cases e
  next hk =>
  simp only [Bool.and_eq_true] at hk
  obtain ⟨es, ea, ra⟩ := h1
  obtain ⟨es2, eb, rb⟩ := h2
  obtain ⟨ks, rfl⟩ := keyed ra.pr hk.1
  obtain ⟨ks2, rfl⟩ := keyed rb.pr hk.2
  have oa := I.hok a _ ea
  have ob := I.hok b _ eb
  obtain ⟨z1, y1, va, rel1, D1⟩ : ks.length ≤ sizeLine ∧ (a == sysModules) = false ∧ ∃ vs, KV ks vs ∧ s.heap.DictOf (mixKind X.prog X.w) a vs := ext_dk (P := X.prog) (H := H) (dicO_at oa) ra.nd
  obtain ⟨z2, y2, vb, rel2, D2⟩ : ks2.length ≤ sizeLine ∧ (b == sysModules) = false ∧ ∃ vs, KV ks2 vs ∧ s.heap.DictOf (mixKind X.prog X.w) b vs := ext_dk (P := X.prog) (H := H) (dicO_at ob) rb.nd
  have l1 : xs.length = va.length := by rw [paired_len ra.pr, ← paired_len rel1]; simp [toE]
  have l2 : ys.length = vb.length := by rw [paired_len rb.pr, ← paired_len rel2]; simp [toE]
  have key : ∃ r, (va.length == vb.length && r) = k ∧ (va.length = vb.length → PySem.W.KeqHits X.A.in1 s vb va r) := by
    rw [l1, l2] at e
    by_cases hl : va.length = vb.length
    · rw [if_pos hl] at e
      exact ⟨k, by rw [hl]; simp, fun _ => hits_of (by simp; omega) I S rb.pr rel2 ra.pr rel1 e⟩
    · rw [if_neg hl] at e
      exact ⟨false, by simpa using e, fun z => absurd z hl⟩
  obtain ⟨r, e1, e2⟩ := key
  cases neg with
  | false => exact PySem.W.keq_eq y1 y2 D1 D2 (by omega) e2 ⟨.bl k, H, I, by rw [e1]; rfl, by simpa using q⟩
  | true => exact PySem.W.keq_ne y1 y2 D1 D2 (by omega) e2 ⟨.bl (!k), H, I, by rw [e1]; rfl, by simpa using q⟩
end
end Eng
/-! R7: the sign == of any values that the law has. -/
namespace Eng
open PySem PySem.Spec PyProof.Rows L2
section
variable {X : Cx} {p : Prg} {lvl : Nat} {eqs : List (String × String)} {call : String → List D → Store → R D}
theorem calm_noex {α β : Type} {r : R α} {f : α → Store → R β} (h : ∀ a st e fs st', f a st ≠ .ex e fs st') : ∀ e fs st', calm r f ≠ .ex e fs st' := by
  intro e fs st' z
  unfold calm at z
  split at z
  · exact h _ _ _ _ _ z
  · cases z
theorem calm_ok {α β : Type} {r : R α} {f : α → Store → R β} {b : β} {st' : Store} (h : calm r f = .ok b st') : ∃ a st1, r = .ok a st1 ∧ f a st1 = .ok b st' := by
  unfold calm at h
  split at h
  · next a st1 => exact ⟨a, st1, rfl, h⟩
  · cases h
theorem eqd_noex {neg : Bool} {a b : Sq} {st : Store} : ∀ e fs st', eqdV neg a b st ≠ .ex e fs st' := fun e fs st' => opt_noex (fun _ => val_noex)
theorem noex_eqo (neg : Bool) : NoEx2 (eqoV p eqs call neg) := by
  intro x y st e fs st' h
  unfold eqoV at h
  split at h
  · unfold eqiV at h
    split at h
    · split at h
      · split at h
        · exact calm_noex (fun a st e fs st' => opt_noex fun _ => val_noex) _ _ _ h
        · cases h
      · cases h
    · split at h
      · split at h
        · revert h
          exact opt_noex fun _ => val_noex
        · cases h
      · cases h
    · exact eqd_noex _ _ _ h
  · exact eqd_noex _ _ _ h
theorem op_eqd {neg : Bool} {pins : List (Addr × Obj)} {s : Shared} {σ : L2.St} {H : Hp} {v u : V} {vv uu : Value} {Q : VK} {x y q : Sq} {m : List Addr} {st st' : Store} (hu : X.A.units + 64 < cLine) (I : L2.Inv X pins σ H s) (S : StoR X.K X.w m st H) (rv : L2.RelV v vv) (ru : L2.RelV u uu) (rx : RepQ X.K m H x v) (ry : RepQ X.K m H y u)
    (e : eqdV neg x y st = .ok q st') (k : KQ X Q m H q st') : wpAny (model X.prog X.w) X.A (compareOp (if neg then .NotEq else .Eq) vv uu) (EP X pins σ Q) X.xe s := by
  unfold eqdV at e
  obtain ⟨b, e1, e⟩ := opt_ok e
  obtain ⟨rfl, rfl⟩ := val_ok e
  unfold eqSq at e1
  split at e1
  · next z1 z2 h1 h2 =>
    obtain rfl : PyData.eqv z1 z2 = b := by simpa using e1
    cases neg with
    | false => exact dat_eq hu I S rv ru rx ry h1 h2 (KQ.val S k (by show V.bl _ = _; simp))
    | true => exact dat_ne hu I S rv ru rx ry h1 h2 (KQ.val S k (by show V.bl _ = _; simp))
  · cases e1
theorem op_eqo (neg : Bool) (CF : ClsF X.K p) (hr : Room (lvl + 1) X.A) (HE : ∀ c g, eqs.lookup c = some g → EqF X p lvl c (call g)) : OpR X (compareOp (if neg then .NotEq else .Eq)) (rG X (eqoV p eqs call neg)) := by
  rintro pins s σ H v u vv uu Q I rv ru ⟨m, st, x, y, q, st', S, rx, ry, e, k⟩
  unfold eqoV at e
  split at e
  · next i d =>
    obtain ⟨a, rfl, hm⟩ := rx
    obtain rfl : vv = Value.ref a := rv
    unfold eqiV at e
    split at e
    · next c fs hi =>
      split at e
      · next g hg =>
        split at e
        · next ck =>
          obtain ⟨r, st1, e1, e⟩ := calm_ok e
          obtain ⟨b, e2, e⟩ := opt_ok e
          obtain ⟨rfl, rfl⟩ := val_ok e
          have e2 : r = .bl b := by
            unfold truth at e2
            split at e2
            · cases e2; rfl
            · cases e2
          subst e2
          obtain ⟨dx, vfs, hH, _⟩ := S.at_ i a _ hm hi
          exact op_own neg (HE c g hg) CF hr I S hm hH ry ru ck e1 fun m' H' n => k _ m' H' n rfl trivial
        · cases e
      · cases e
    · next xs hi =>
      split at e
      · next j =>
        split at e
        · next ys hj =>
          obtain ⟨b, e2, e⟩ := opt_ok e
          obtain ⟨rfl, rfl⟩ := val_ok e
          obtain ⟨a2, rfl, hm2⟩ := ry
          obtain rfl : uu = Value.ref a2 := ru
          exact op_dic neg (by have := hr.un; omega) I S (S.at_ i a _ hm hi) (S.at_ j a2 _ hm2 hj) e2 (KQ.val S k rfl)
        · cases e
      · cases e
    · exact op_eqd (x := .val (.obj i)) (v := .ref a) (vv := .ref a) hr.units I S rfl ru ⟨a, rfl, hm⟩ ry e k
  · exact op_eqd hr.units I S rv ru rx ry e k
end
end Eng
/-! R8: methods of lists, dicts, texts; xs[::-1]; list(d.items()). -/
namespace Eng
open PySem PySem.Spec PyProof.Rows L2
section
variable {X : Cx}
theorem Reps.snoc {K : PySem.W.Frag} {m : List Addr} {H : Hp} {xs : List D} {vs : List V} {d : D} {v : V} (r : Reps K m H xs vs) (rd : Rep K m H d v) : Reps K m H (xs ++ [d]) (vs ++ [v]) := r.append ⟨v, [], rfl, rd, rfl⟩
theorem small_lt {n : Nat} (h : small (n + 1) = true) : n < sizeLine := Nat.lt_of_succ_le (of_decide_eq_true h)
theorem nofz_lst {H : Hp} {a : Addr} {vs : List V} (h : H a = some (.lst vs)) : NoFz H a := fun o u e => by rw [h] at e; cases e
/-- the list that is written is there from the receiver's reading on; what the argument does to it is seen -/
theorem je_append {o e : Expr} {apos cpos : Pos} {fo fa f : Env → Store → R Sq} (hf : f = fun env st => (fo env st).bind fun x st => (match x with
      | .val (.obj i) => match st[i]? with
        | some (.lst _) => (asD (fa env st)).bind fun d st => appV (.val (.obj i)) d st
        | _ => .no
      | _ => .no)) (ho : PE X o (tX X fo)) (he : PE X e (tX X fa)) (hb : noCallH o = true) (hs : noStar e = true) (hl : (apos.endLine == cpos.line) = true) : PE X (.Call (.Attribute o "append" apos) [e] [] cpos) (tX X f) := by
  subst hf
  refine (pe_bm PySem.F.plainAttrs_list PySem.F.slot_list_append PySem.F.type_list_append mt_append ho (pa_cons (pe_asD he) pa_nil (star_plain hs)) (base_plain hb) (by
    rw [star_plain hs]; rfl) hl (star_plain hs) rfl).imp fun σ H Q h => ?_
  obtain ⟨env, m, st, E, S, o⟩ := h
  refine ⟨env, m, st, E, S, (o.bind S mnQ).imp fun x st1 k v m1 H1 n r fr => ?_⟩
  have k := k m1 H1 n
  cases x with
  | fresh => exact k.elim
  | val d =>
  cases d with
  | obj i => ?_
  | _ => exact k.elim
  dsimp only at k
  cases hi : st1[i]? with
  | none => rw [hi] at k; exact k.elim
  | some oo =>
  rw [hi] at k
  cases oo with
  | lst xs => ?_
  | _ => exact k.elim
  dsimp only at k
  obtain ⟨a, rfl, hm⟩ := r
  obtain ⟨vs, ha, rs⟩ := n.sto.at_ i a _ hm hi
  refine ⟨.inl ⟨rfl, vs, .of ha⟩, env, m1, st1, E.mono S n.ext n.fr, n.sto, (k.bind n.sto mnQ).imp fun dd st2 k2 u m2 H2 n2 r2 => ?_⟩
  have k2 := k2 m2 H2 n2
  unfold appV at k2
  dsimp only at k2
  cases hi2 : st2[i]? with
  | none => rw [hi2] at k2; exact k2.elim
  | some o2 =>
  rw [hi2] at k2
  cases o2 with
  | lst ys => ?_
  | _ => exact k2.elim
  dsimp only at k2
  split at k2
  case isFalse => exact k2.elim
  next hz =>
  have hm2 := n2.ext.get hm
  obtain ⟨us, hb2, rs2⟩ := n2.sto.at_ i a _ hm2 hi2
  have hz' : us.length < sizeLine := by rw [rs2.length]; exact small_lt hz
  exact ⟨a, us, u, rfl, rfl, hb2, hz', KQ.put n2.sto k2 hm2 (nofz_lst hb2) ⟨_, upd_same, (rs2.snoc r2).mono n2.sto .refl (fr_set (List.mem_of_getElem? hm2))⟩ rfl⟩
/-- xs[::-1] -/
theorem je_revL {e : Expr} {k : Nat} {p1 p2 p3 pos : Pos} {fa f : Env → Store → R Sq} (hf : f = fun env st => (fa env st).bind fun x st => match lstOf st x with
      | some xs => .ok (.fresh xs.reverse) st
      | none => .no) (he : PE X e (tX X fa)) : PE X (.Subscript e (.Slice none none (some (.UnaryOp .USub (.Constant (.int 1) k p1) p2)) p3) pos) (tX X f) := by
  subst hf
  refine (pe_revL he).imp fun σ H Q h => ?_
  obtain ⟨env, m, st, E, S, o⟩ := h
  refine ⟨env, m, st, E, S, (o.bind S mnQ).imp fun x st1 k v m1 H1 n r fr => ?_⟩
  have k := k m1 H1 n
  cases hx : lstOf st1 x with
  | none => rw [hx] at k; exact k.elim
  | some xs =>
    rw [hx] at k
    obtain ⟨a, vs, rfl, ha, rs⟩ := lstOf_at n.sto r hx
    exact ⟨a, vs, rfl, ha, fun p hp => KQ.lst n.sto k rs.reverse hp⟩
theorem je_dclear {o : Expr} {apos cpos : Pos} {fo f : Env → Store → R Sq} (hf : f = fun env st => (fo env st).bind fun x st => dclV x st) (ho : PE X o (tX X fo)) (hb : noCallH o = true) (hl : (apos.endLine == cpos.line) = true) : PE X (.Call (.Attribute o "clear" apos) [] [] cpos) (tX X f) := by
  subst hf
  refine (pe_re (pe_bm0 PySem.F.plainAttrs_dict PySem.F.slot_dict_clear PySem.F.type_dict_clear mtd_clear (pe_re ho) (base_plain hb) hl)).imp fun σ H Q h => ?_
  obtain ⟨env, m, st, E, S, o⟩ := h
  refine ⟨env, m, st, E, S, (o.bind S mnQ).imp fun x st1 k v m1 H1 n r fr => ?_⟩
  have k := k m1 H1 n
  unfold dclV at k
  cases x with
  | fresh => exact k.elim
  | val d =>
  cases d with
  | obj i => ?_
  | _ => exact k.elim
  dsimp only at k
  cases hi : st1[i]? with
  | none => rw [hi] at k; exact k.elim
  | some oo =>
  rw [hi] at k
  cases oo with
  | dic kvs => ?_
  | _ => exact k.elim
  dsimp only at k
  split at k
  case isFalse => exact k.elim
  next hk =>
  obtain ⟨a, rfl, hm⟩ := r
  obtain ⟨es, ha, rs⟩ := n.sto.at_ i a _ hm hi
  obtain ⟨ks, rfl⟩ := keyed rs.pr hk
  refine ⟨upd H1 a (.dK ks), re_ext ha rs.nd, .inr (.inr (.inl ⟨rfl, .inl ⟨_, upd_same⟩⟩)), a, ks, rfl, rfl, upd_same, ?_⟩
  rw [upd_upd]
  have e : upd (upd H1 a (.dK [])) a (DicO X.w a (toE [])) = upd H1 a (DicO X.w a []) := upd_upd ..
  refine ⟨upd H1 a (DicO X.w a []), ?_, ?_⟩
  · rw [← e]
    exact re_dk upd_same
  · have nf : NoFz H1 a := fun o u e => by rw [ha] at e; cases e
    exact KQ.put n.sto k hm nf ⟨[], upd_same, ⟨.nil, by simp⟩⟩ rfl
/-- what was tracked is still tracked -/
theorem Nx.more {K : PySem.W.Frag} {w : World} {m : List Addr} {st : Store} {H H' : Hp} (S : StoR K w m st H) (h : ∀ b o, H b = some o → H' b = some o) : Nx K w m H m H' st :=
  ⟨.refl, ⟨S.len, S.nd, fun i b u hb hu => by
    have r := S.at_ i b u hb hu
    obtain ⟨o, ho, _⟩ := S.form (List.mem_of_getElem? hb)
    exact r.at S .refl (fun a o e _ => h a o e) (by rw [h b o ho, ho])⟩, fun a o e _ => h a o e, fun a o u e => h a _ e⟩
theorem reps_items {K : PySem.W.Frag} {m : List Addr} {H H' : Hp} (hr : ∀ d v, Rep K m H d v → Rep K m H' d v) : ∀ {kvs : List (D × D)} {ks : List (Key × V)} {ts : List Addr}, Paired (fun (p : D × D) (e : NestedKey × V × V) => p.1.nk = some e.1 ∧ e.1.depth ≤ 8 ∧ Rep K m H p.1 e.2.1 ∧ Rep K m H p.2 e.2.2) kvs (toE ks) →
    Paired (fun (t : Addr) (q : Key × V) => H' t = some (.tup [kV q.1, q.2])) ts ks → Reps K m H' (kvs.map fun q => .tup [q.1, q.2]) (ts.map V.ref)
  | [], [], [], _, _ => rfl
  | p :: kvs, q :: ks, t :: ts, .cons h b, .cons r c => by
    obtain ⟨_, _, h3, h4⟩ := h
    exact ⟨.ref t, ts.map V.ref, rfl, ⟨t, _, rfl, .of r, _, _, rfl, hr _ _ h3, _, _, rfl, hr _ _ h4, rfl⟩, reps_items hr b c⟩
  | _ :: _, [], _, h, _ => nomatch h
  | [], _ :: _, _, h, _ => nomatch h
  | _, [], _ :: _, _, h => nomatch h
  | _, _ :: _, [], _, h => nomatch h
theorem je_items {e : Expr} {p apos cpos pos : Pos} {fa f : Env → Store → R Sq} (hf : f = fun env st => (fa env st).bind fun x st => itmV x st) (hc : X.calm = true) (he : PE X e (tX X fa)) (hg : Gl X "list") (hm : X.mg "list" = none) (hb : noCallH e = true) (hl : (apos.endLine == cpos.line) = true) :
    PE X (.Call (.Name "list" p) [.Call (.Attribute e "items" apos) [] [] cpos] [] pos) (tX X f) := by
  subst hf
  refine (pe_re (LiI.pe_listItems hc (pe_re he) hg hm (by rfl) (base_plain hb) hl rfl)).imp fun σ H Q h => ?_
  obtain ⟨env, m, st, E, S, o⟩ := h
  refine ⟨env, m, st, E, S, (o.bind S mnQ).imp fun x st1 k v m1 H1 n r fr => ?_⟩
  have k := k m1 H1 n
  unfold itmV at k
  cases x with
  | fresh => exact k.elim
  | val d =>
  cases d with
  | obj i => ?_
  | _ => exact k.elim
  dsimp only at k
  cases hi : st1[i]? with
  | none => rw [hi] at k; exact k.elim
  | some oo =>
  rw [hi] at k
  cases oo with
  | dic kvs => ?_
  | _ => exact k.elim
  dsimp only at k
  split at k
  case isFalse => exact k.elim
  next hk =>
  obtain ⟨a, rfl, hm⟩ := r
  obtain ⟨es, ha, rs⟩ := n.sto.at_ i a _ hm hi
  obtain ⟨ks, rfl⟩ := keyed rs.pr hk
  refine ⟨upd H1 a (.dK ks), re_ext ha rs.nd, a, ks, rfl, upd_same, fun H' p ts g hp hts hpt hpl hpr => ?_⟩
  have ga : H' a = some (.dK ks) := g a _ upd_same
  have hpa : p ≠ a := fun e => by rw [e, upd_same] at hp; cases hp
  have hta : a ∉ ts := fun e => by have := hts a e; rw [upd_same] at this; cases this
  refine ⟨upd H' a (DicO X.w a (toE ks)), re_dk ga, ?_⟩
  have gr : ∀ b o, H1 b = some o → (upd H' a (DicO X.w a (toE ks))) b = some o := fun b o e => by
    by_cases hba : b = a
    · subst hba; rw [upd_same, ← ha, e]
    · rw [upd_ne hba]
      exact g b o (by rw [upd_ne hba]; exact e)
  have hpn : H1 p = none := by rwa [upd_ne hpa] at hp
  have N := Nx.more n.sto gr
  refine k _ m1 _ N ⟨p, _, rfl, by rw [upd_ne hpa]; exact hpl, n.sto.fresh hpn, reps_items (fun d v r => r.mono n.sto N.ext N.fr) rs.pr (Paired.mapP hpr fun t q z => by rw [upd_ne (fun e => by rw [e, ga] at z; cases z)]; exact z)⟩ fun b e => by cases e; exact hpn
end
end Eng
/-! R9: methods of texts; xs.extend(ys); str(n), int(text). -/
namespace Eng
open PySem PySem.Spec PyProof.Rows L2
section
variable {X : Cx}
theorem je_txt1 {g : Sq → Sq → Store → R Sq} {name : Str} {id : String} {r : V → List V → Hp → VK → Prop} {o e : Expr} {apos cpos : Pos} {fo fa f : Env → Store → R Sq} (hf : f = fun env st => (fo env st).bind fun x st => match x with
      | .val (.str z) => (fa env st).bind fun y st => g (.val (.str z)) y st
      | _ => .no)
    (slot : Slot "str" name id) (hty : typeOf (.builtin id) = pure (.type "method_descriptor")) (hm : MtR X id r) (hr : ∀ m st (z : Str) y q st' H v Q, StoR X.K X.w m st H → RepQ X.K m H y v → g (.val (.str z)) y st = .ok q st' → KQ X Q m H q st' → r (.str z) [v] H Q) (hne : NoEx2 g)
    (ho : PE X o (tX X fo)) (he : PE X e (tX X fa)) (hb : noCallH o = true) (hs : noStar e = true) (hl : (apos.endLine == cpos.line) = true) : PE X (.Call (.Attribute o name apos) [e] [] cpos) (tX X f) := by
  subst hf
  refine (pe_bm PySem.F.plainAttrs_str slot hty hm ho (pa_cons he pa_nil (star_plain hs)) (base_plain hb) (by
    rw [star_plain hs]; rfl) hl (star_plain hs) rfl).imp fun σ H Q h => ?_
  obtain ⟨env, m, st, E, S, o⟩ := h
  refine ⟨env, m, st, E, S, (o.bind S mnQ).imp fun x st1 k v m1 H1 n rr fr => ?_⟩
  have k := k m1 H1 n
  cases x with
  | fresh => exact k.elim
  | val d =>
  cases d with
  | str z => ?_
  | _ => exact k.elim
  obtain rfl : v = V.str z := rr
  refine ⟨rfl, env, m1, st1, E.mono S n.ext n.fr, n.sto, (Out.bind n.sto mnQ k).imp fun y st2 k2 u m2 H2 n2 r2 fr2 => ?_⟩
  have k2 := k2 m2 H2 n2
  cases hq : g (.val (.str z)) y st2 with
  | no => rw [hq] at k2; exact k2.elim
  | ex a b c => exact absurd hq (hne _ _ _ _ _ _)
  | ok q st' =>
    rw [hq] at k2
    exact hr m2 st2 z y q st' H2 u Q n2.sto r2 hq k2
theorem reps_strsO {K : PySem.W.Frag} {m : List Addr} {H : Hp} : ∀ {xs : List D} {ws : List Str} {vs : List V}, strsOf xs = some ws → Reps K m H xs vs → vs = ws.map V.str
  | [], ws, vs, h, r => by
    cases h
    exact r
  | .str s :: xs, ws, vs, h, r => by
    simp only [strsOf, Option.map_eq_some_iff] at h
    obtain ⟨ws', h, rfl⟩ := h
    obtain ⟨v, us, rfl, r1, r2⟩ := r
    obtain rfl : v = V.str s := r1
    rw [reps_strsO h r2]
    rfl
  | .non :: _, _, _, h, _ => by cases h
  | .bl _ :: _, _, _, h, _ => by cases h
  | .int _ :: _, _, _, h, _ => by cases h
  | .tup _ :: _, _, _, h, _ => by cases h
  | .rol _ :: _, _, _, h, _ => by cases h
  | .obj _ :: _, _, _, h, _ => by cases h
theorem noex_join : NoEx2 joinV := by
  intro x y st e fs st' h
  unfold joinV at h
  split at h
  · split at h
    · split at h <;> cases h
    · cases h
  · cases h
theorem join_hr : ∀ m st (z : Str) y q st' H v Q, StoR X.K X.w m st H → RepQ X.K m H y v → joinV (.val (.str z)) y st = .ok q st' → KQ X Q m H q st' → ∃ a p, ∃ ys : List Str, V.str z = .str a ∧ [v] = [.ref p] ∧ (SqL X.K H p (ys.map V.str) ∨ SqT X.K H p (ys.map V.str)) ∧
    (ys.map (·.length)).sum + ys.length * a.length ≤ 16777216 ∧ Q (.str (Txt.join a ys)) H := by
  intro m st z y q st' H v Q S r e k
  unfold joinV at e
  dsimp only at e
  split at e
  · next ws hw =>
    obtain ⟨xs, h1, h2⟩ := Option.bind_eq_some_iff.mp hw
    obtain ⟨hz, e⟩ := ite_ok e
    obtain ⟨rfl, rfl⟩ := val_ok e
    obtain ⟨a, vs, rfl, ha, rs⟩ := seqOf_at S r h1
    have := reps_strsO h2 rs
    subst this
    exact ⟨z, a, ws, rfl, rfl, ha, of_decide_eq_true hz, KQ.val S k rfl⟩
  · cases e
theorem noex_split : NoEx2 splitV := by
  intro x y st e fs st' h
  unfold splitV at h
  split at h
  · split at h <;> cases h
  · cases h
theorem split_hr : ∀ m st (z : Str) y q st' H v Q, StoR X.K X.w m st H → RepQ X.K m H y v → splitV (.val (.str z)) y st = .ok q st' → KQ X Q m H q st' → ∃ a b, V.str z = .str a ∧ [v] = [.str b] ∧ (b.length == 0) = false ∧ a.length + 2 ≤ sizeLine ∧ rNewStrs (Txt.split a b) H Q := by
  intro m st z y q st' H v Q S r e k
  unfold splitV at e
  split at e
  · next s sep he =>
    cases he
    obtain ⟨hz, e⟩ := ite_ok e
    obtain ⟨rfl, rfl⟩ := ok_ok e
    simp only [Bool.and_eq_true, decide_eq_true_eq] at hz
    obtain rfl : v = V.str sep := r
    exact ⟨_, sep, rfl, rfl, by simpa using hz.1, of_decide_eq_true hz.2, fun p hp => KQ.lst S k (strs_reps _) hp⟩
  · cases e
theorem noex_strip : NoEx2 stripV := by
  intro x y st e fs st' h
  unfold stripV at h
  split at h
  · split at h <;> cases h
  · cases h
theorem strip_hr : ∀ m st (z : Str) y q st' H v Q, StoR X.K X.w m st H → RepQ X.K m H y v → stripV (.val (.str z)) y st = .ok q st' → KQ X Q m H q st' → ∃ a b, V.str z = .str a ∧ [v] = [.str b] ∧ a.length ≤ sizeLine ∧ Q (.str (Txt.stripChars a b)) H := by
  intro m st z y q st' H v Q S r e k
  unfold stripV at e
  split at e
  · next s sep he =>
    cases he
    obtain ⟨hz, e⟩ := ite_ok e
    obtain ⟨rfl, rfl⟩ := val_ok e
    obtain rfl : v = V.str sep := r
    exact ⟨_, sep, rfl, rfl, small_le hz, KQ.val S k rfl⟩
  · cases e
theorem je_join {o e : Expr} {apos cpos : Pos} {fo fa f : Env → Store → R Sq} (hf : f = fun env st => (fo env st).bind fun x st => match x with
      | .val (.str z) => (fa env st).bind fun y st => joinV (.val (.str z)) y st
      | _ => .no) (ho : PE X o (tX X fo)) (he : PE X e (tX X fa)) (hb : noCallH o = true) (hs : noStar e = true) (hl : (apos.endLine == cpos.line) = true) : PE X (.Call (.Attribute o "join" apos) [e] [] cpos) (tX X f) :=
  je_txt1 hf PySem.F.slot_str_join PySem.F.type_str_join mt_join join_hr noex_join ho he hb hs hl
theorem je_split {o e : Expr} {apos cpos : Pos} {fo fa f : Env → Store → R Sq} (hf : f = fun env st => (fo env st).bind fun x st => match x with
      | .val (.str z) => (fa env st).bind fun y st => splitV (.val (.str z)) y st
      | _ => .no) (ho : PE X o (tX X fo)) (he : PE X e (tX X fa)) (hb : noCallH o = true) (hs : noStar e = true) (hl : (apos.endLine == cpos.line) = true) : PE X (.Call (.Attribute o "split" apos) [e] [] cpos) (tX X f) :=
  je_txt1 hf PySem.F.slot_str_split PySem.F.type_str_split mt_split split_hr noex_split ho he hb hs hl
theorem je_strip {o e : Expr} {apos cpos : Pos} {fo fa f : Env → Store → R Sq} (hf : f = fun env st => (fo env st).bind fun x st => match x with
      | .val (.str z) => (fa env st).bind fun y st => stripV (.val (.str z)) y st
      | _ => .no) (ho : PE X o (tX X fo)) (he : PE X e (tX X fa)) (hb : noCallH o = true) (hs : noStar e = true) (hl : (apos.endLine == cpos.line) = true) : PE X (.Call (.Attribute o "strip" apos) [e] [] cpos) (tX X f) :=
  je_txt1 hf PySem.F.slot_str_strip PySem.F.type_str_strip mt_stripChars strip_hr noex_strip ho he hb hs hl
end
end Eng
/-! R10: sorted(xs) of tuples. -/
namespace Eng
open PySem PySem.Spec PyProof.Rows L2
theorem insP_perm (x : DP) : ∀ l : List DP, (insP x l).Perm (x :: l)
  | [] => .refl _
  | y :: ys => by
    unfold insP
    split
    · exact ((insP_perm x ys).cons y).trans (.swap ..)
    · exact .refl _
theorem sortP_perm : ∀ l : List DP, (sortP l).Perm l
  | [] => .refl _
  | x :: xs => (insP_perm x _).trans ((sortP_perm xs).cons x)
theorem strictP_pw : ∀ {l : List DP}, strictP l = true → l.Pairwise fun a b => PySem.W.dataLt a.2 b.2 = true
  | [], _ => .nil
  | a :: l, h => by
    unfold strictP at h
    rw [Bool.and_eq_true] at h
    exact .cons (fun b hb => List.all_eq_true.mp h.1 b hb) (strictP_pw h.2)
theorem perm_uniq {α : Type} {le : α → α → Bool} : ∀ {m r : List α}, m.Perm r → m.Pairwise (fun a b => le a b = true) → r.Pairwise (fun a b => le b a = false) → m = r
  | [], r, p, _, _ => p.nil_eq
  | b :: m, [], p, _, _ => absurd p.length_eq (by simp)
  | b :: m, a :: r, p, hm, hr => by
    have e : b = a := by
      have hb : b ∈ a :: r := p.subset (List.mem_cons_self ..)
      have ha : a ∈ b :: m := p.symm.subset (List.mem_cons_self ..)
      rcases List.mem_cons.mp hb with h | h
      · exact h
      · rcases List.mem_cons.mp ha with k | k
        · exact k.symm
        · have h1 := (List.pairwise_cons.mp hm).1 a k
          have h2 := (List.pairwise_cons.mp hr).1 b h
          rw [h1] at h2
          cases h2
    subst e
    rw [perm_uniq (p.cons_inv) (List.pairwise_cons.mp hm).2 (List.pairwise_cons.mp hr).2]
theorem sortV_noex : NoEx1 sortV := by
  intro x st e fs st' h
  unfold sortV at h
  split at h
  · split at h
    · split at h <;> cases h
    · cases h
  · cases h
/-- one item: its reading, datum, value -/
abbrev Tri := D × PyData × V
theorem each_zip {K : PySem.W.Frag} {m : List Addr} {H : Hp} : ∀ {xs : List D} {ds : List PyData} {vs : List V} {us : List Value}, xs.length = ds.length → Reps K m H xs vs → Vals vs us → PySem.W.EachIs (fun (u : Value) (b : Tri) => L2.RelV b.2.2 u ∧ Rep K m H b.1 b.2.2) us ((xs.zip (ds.zip vs)).map fun q => (q.1, q.2.1, q.2.2))
  | [], [], _, _, _, h, r => by
    obtain rfl := h
    cases r
    exact .nil
  | x :: xs, d :: ds, _, _, hl, ⟨v, ws, e, h1, h2⟩, r => by
    subst e
    cases r with
    | cons r1 r2 => exact .cons ⟨r1, h1⟩ (each_zip (by simpa using hl) h2 r2)
  | [], _ :: _, _, _, h, _, _ => by cases h
  | _ :: _, [], _, _, h, _, _ => by cases h
theorem each_read {X : Cx} {pins : List (Addr × Obj)} {σ : L2.St} {s : Shared} {m : List Addr} {st : Store} {H : Hp} (I : L2.Inv X pins σ H s) (S : StoR X.K X.w m st H) : ∀ {xs : List D} {ds : List PyData} {vs : List V} {us : List Value}, optM (res st 8) xs = some ds → Reps X.K m H xs vs → Vals vs us →
    PySem.W.EachIs (fun (u : Value) (b : Tri) => ∃ as, Reads s.heap u b.2.1 as) us ((xs.zip (ds.zip vs)).map fun q => (q.1, q.2.1, q.2.2))
  | [], ds, _, _, e, h, r => by
    cases e
    obtain rfl := h
    cases r
    exact .nil
  | x :: xs, ds, _, _, e, ⟨v, ws, e1, h1, h2⟩, r => by
    subst e1
    unfold optM at e
    split at e
    · next y ys e1 e2 =>
      cases e
      cases r with
      | cons r1 r2 =>
        obtain ⟨d1, _, _⟩ := sqPy_dp (q := .val x) S e1 h1
        exact .cons (Dp.reads I y v _ d1 r1) (each_read I S e2 h2 r2)
    · cases e
theorem each_out {K : PySem.W.Frag} {m : List Addr} {H : Hp} : ∀ {us : List Value} {bs : List Tri}, PySem.W.EachIs (fun (u : Value) (b : Tri) => L2.RelV b.2.2 u ∧ Rep K m H b.1 b.2.2) us bs → Vals (bs.map (·.2.2)) us ∧ Reps K m H (bs.map (·.1)) (bs.map (·.2.2))
  | _, _, .nil => ⟨.nil, rfl⟩
  | _, _, .cons h t => by
    obtain ⟨a, b⟩ := each_out t
    exact ⟨.cons h.1 a, _, _, rfl, h.2, b⟩
section
variable {X : Cx}
theorem tri_zip : ∀ {xs : List D} {ds : List PyData} {vs : List V}, ds.length = vs.length → ((xs.zip (ds.zip vs)).map fun q => ((q.1, q.2.1, q.2.2) : Tri)).map (fun b => (b.1, b.2.1)) = xs.zip ds
  | [], _, _, _ => rfl
  | _ :: _, [], [], _ => rfl
  | _ :: xs, _ :: ds, _ :: vs, h => by
    have := tri_zip (xs := xs) (ds := ds) (vs := vs) (by simpa using h)
    simpa using this
  | _ :: _, [], _ :: _, h => by cases h
  | _ :: _, _ :: _, [], h => by cases h
theorem res_depth {st : Store} : ∀ {xs : List D} {ds : List PyData}, optM (res st 8) xs = some ds → ∀ d ∈ ds, d.depth ≤ 8
  | [], _, e, d, hd => by cases e; cases hd
  | x :: xs, ds, e, d, hd => by
    unfold optM at e
    split at e
    · next y zs e1 e2 =>
      cases e
      rcases List.mem_cons.mp hd with rfl | hd
      · exact (res_plain 8 _ _ e1).2
      · exact res_depth e2 d hd
    · cases e
theorem bf_sortT (hu : X.A.units + 64 < cLine) : CallR X (.builtin "sorted") (rC1 X sortV) := by
  rintro pins s σ H vs us Q I r ⟨v, rfl, m, st, x, q, st', S, rx, e, k⟩
  unfold sortV at e
  split at e
  case h_2 => cases e
  next xs hx =>
  split at e
  case h_2 => cases e
  next ds hds =>
  obtain ⟨hc, e⟩ := ite_ok e
  obtain ⟨rfl, rfl⟩ := ok_ok e
  simp only [Bool.and_eq_true] at hc
  obtain ⟨⟨⟨c1, c2⟩, c3⟩, c4⟩ := hc
  obtain ⟨a, vs, rfl, ha, rs⟩ := lstOf_at S rx hx
  obtain ⟨its, rv, pl, hz⟩ := I.list ha
  rw [Vals.ref1 r]
  have hl := (optM_len hds).symm
  have hlv : ds.length = vs.length := by rw [← hl, rs.length]
  have hlen : ((xs.zip (ds.zip vs)).map fun q => ((q.1, q.2.1, q.2.2) : Tri)).length = xs.length := by simp [hl, hlv]
  have hd2 : ((xs.zip (ds.zip vs)).map fun q => ((q.1, q.2.1, q.2.2) : Tri)).map (fun b => b.2.1) = ds := by
    have := congrArg (List.map Prod.snd) (tri_zip (xs := xs) hlv)
    rw [List.map_map, List.map_snd_zip (by omega)] at this
    exact this
  refine PySem.W.sorted_data (β := Tri) (enc := fun b => b.2.1) (R := fun u b => L2.RelV b.2.2 u ∧ Rep X.K m H b.1 b.2.2) pl.isList (each_zip hl rs rv) (each_read I S hds rs rv) ?_ ?_ ?_ ?_ fun out ho eo => ?_
  · show PySem.W.AllAlike (((xs.zip (ds.zip vs)).map fun q => ((q.1, q.2.1, q.2.2) : Tri)).map (fun b => b.2.1))
    rw [hd2]
    intro d hd d' hd'
    exact List.all_eq_true.mp (List.all_eq_true.mp c2 d hd) d' hd'
  · show PySem.W.Sortable (((xs.zip (ds.zip vs)).map fun q => ((q.1, q.2.1, q.2.2) : Tri)).map (fun b => b.2.1))
    rw [hd2]
    refine .inl fun d hd => ?_
    have := List.all_eq_true.mp c1 d hd
    unfold isTupP at this
    split at this
    · exact ⟨_, _, rfl⟩
    · cases this
  · rw [hlen]
    exact small_le c3
  · intro b hb
    have : b.2.1 ∈ ds := by
      rw [← hd2]
      exact List.mem_map.mpr ⟨b, hb, rfl⟩
    have := res_depth hds _ this
    omega
  · obtain ⟨o1, o2⟩ := each_out eo
    have key : (((xs.zip (ds.zip vs)).map fun q => ((q.1, q.2.1, q.2.2) : Tri)).mergeSort (PySem.W.dataLe false fun b => b.2.1)).map (fun b => (b.1, b.2.1)) = sortP (xs.zip ds) := by
      have mm := List.map_mergeSort (r := PySem.W.dataLe false fun b : Tri => b.2.1) (s := PySem.W.dataLe false fun (b : DP) => b.2) (f := fun b : Tri => ((b.1, b.2.1) : DP)) (l := (xs.zip (ds.zip vs)).map fun q => ((q.1, q.2.1, q.2.2) : Tri)) (fun a _ b _ => rfl)
      rw [tri_zip hlv] at mm
      refine Eq.trans mm ?_
      refine perm_uniq (le := PySem.W.dataLe false fun (b : DP) => b.2) ((List.mergeSort_perm _ _).trans (sortP_perm _).symm) ?_ ((strictP_pw c4).imp fun {a b} h => ?_)
      · exact List.pairwise_mergeSort (fun a b c h1 h2 => (PySem.W.sortLe_total _ false _).trans a b c h1 h2) (fun a b => Bool.or_eq_true_iff.mpr ((PySem.W.sortLe_total _ false _).total a b)) _
      · show (!PySem.W.dataLt a.2 b.2) = false
        rw [h]
        rfl
    have e1 : (((xs.zip (ds.zip vs)).map fun q => ((q.1, q.2.1, q.2.2) : Tri)).mergeSort (PySem.W.dataLe false fun b => b.2.1)).map (·.1) = (sortP (xs.zip ds)).map (·.1) := by
      rw [← key, List.map_map]
      rfl
    rw [e1] at o2
    obtain ⟨ep, he'⟩ := PyProof.Rows.sortedAll_at s.heap its out.toArray
    have hp : H (s.heap.objs.size + 1) = none := I.hok.fresh (Nat.le_succ _)
    have hle : ((((xs.zip (ds.zip vs)).map fun q => ((q.1, q.2.1, q.2.2) : Tri)).mergeSort (PySem.W.dataLe false fun b => b.2.1)).map (·.2.2)).length ≤ sizeLine := by
      rw [List.length_map, List.length_mergeSort, hlen]
      exact small_le c3
    exact ⟨.ref _, _, I.laid (t' := s.toks) (o := .lst _) (fun _ _ => PyProof.Rows.sortedAll_old) (Nat.le_succ _) ⟨hle, out, ep, o1, he'⟩, rfl, KQ.lst S k o2 hp⟩
end
end Eng
/-! R11: dict(xs) of a list of pairs. -/
namespace Eng
open PySem PySem.Spec PyProof.Rows L2
theorem dpV_noex : NoEx1 dpV := by
  intro x st e fs st' h
  unfold dpV at h
  split at h
  · split at h
    · split at h
      · revert h
        exact opt_noex fun _ => (fun z => nomatch z)
      · cases h
    · cases h
  · cases h
section
variable {X : Cx} {m : List Addr} {H : Hp}
theorem pairs_at {K : PySem.W.Frag} : ∀ {xs : List D} {ps : List (D × D)} {vs : List V}, optM pairOf xs = some ps → Reps K m H xs vs → ∃ (as : List Addr) (ws : List (V × V)), vs = as.map V.ref ∧ RepPs K m H ps ws ∧ Paired (fun a (q : V × V) => SqT K H a [q.1, q.2]) as ws
  | [], ps, vs, e, r => by
    cases e
    obtain rfl := r
    exact ⟨[], [], rfl, .nil, .nil⟩
  | x :: xs, ps, vs, e, ⟨v, us, e1, h1, h2⟩ => by
    subst e1
    unfold optM at e
    split at e
    · next y ys e2 e3 =>
      cases e
      obtain ⟨as, ws, rfl, r1, r2⟩ := pairs_at e3 h2
      unfold pairOf at e2
      split at e2
      · next k w =>
        cases e2
        obtain ⟨a, zs, rfl, ha, z, zs', rfl, hz, z2, zs2, rfl, hz2, h3⟩ := h1
        obtain rfl : zs2 = [] := h3
        exact ⟨a :: as, (z, z2) :: ws, rfl, .cons ⟨hz, hz2⟩ r1, .cons ha r2⟩
      · cases e2
    · cases e
theorem je_dictP {e : Expr} {p pos : Pos} {fa f : Env → Store → R Sq} (hf : f = fun env st => (fa env st).bind fun x st => dpV x st) (hc : X.calm = true) (hg : Gl X "dict") (hm : X.mg "dict" = none) (hs : noStar e = true) (he : PE X e (tX X fa)) : PE X (.Call (.Name "dict" p) [e] [] pos) (tX X f) := by
  subst hf
  refine (pe_re (pe_callTy (call_dictP hc) hg hm (by rfl) (pa_cons he pa_nil (star_plain hs)) (by decide) (by decide) (star_plain hs) rfl)).imp fun σ H Q h => ?_
  refine tX_mono (tX_un dpV_noex h) fun v H1 h1 => ?_
  obtain ⟨m, st, x, q, st', S, rx, e, k⟩ := h1
  unfold dpV at e
  split at e
  case h_2 => cases e
  next xs hx =>
  split at e
  case h_2 => cases e
  next ps hps =>
  obtain ⟨hcd, e⟩ := ite_ok e
  simp only [Bool.and_eq_true] at hcd
  obtain ⟨l, hl, e⟩ := opt_ok e
  obtain ⟨rfl, rfl⟩ := ok_ok e
  obtain ⟨a, vs, rfl, ha, rs⟩ := lstOf_at S rx hx
  obtain ⟨as, ws, rfl, r1, r2⟩ := pairs_at hps rs
  obtain ⟨kvs, e3, r3⟩ := merge_ext (accK := []) r1 hcd.1 ⟨.nil, .nil⟩ hl
  subst e3
  have pr : ∀ {as : List Addr} {kvs : List (Key × V)}, Paired (fun a (q : V × V) => SqT X.K H1 a [q.1, q.2]) as (kvs.map fun kv => (kV kv.1, kv.2)) → Paired (fun p (kv : Key × V) => SqT X.K H1 p [kV kv.1, kv.2]) as kvs := by
    intro as kvs
    induction kvs generalizing as with
    | nil => intro h; cases h; exact .nil
    | cons kv kvs ih => intro h; cases h with
      | cons a b => exact .cons a (ih b)
  refine ⟨a, as, kvs, rfl, ha, pr r2, fun p hp => ?_⟩
  have n := Nx.new (o := HO.dK []) S hp
  have := disp_end (kvs := mergeK [] kvs) hp S (.refl n.sto) upd_same (Paired.mapP r3.pr (fun p q z => ⟨z.1, z.2.1, z.2.2.1.mono S n.ext n.fr, z.2.2.2.mono S n.ext n.fr⟩) |> fun z => ⟨z, r3.nd⟩) k
  rwa [upd_upd] at this
end
end Eng
/-! M1: {**d, k: v}, over the heap. -/
namespace Eng
open PySem PySem.Spec PyProof.Rows
section
variable {prog : Program} {w : World} {K : Type} [DecidableEq K] {knd : PySem.KeyKind prog w K} {A : Around} {E : Value → Shared → Prop} {s : Shared} {d a : Addr}
/-- one entry is put -/
theorem put_ent {kvs : List (K × Value)} {k : K} {key v : Value} {Q : Unit → Shared → Prop} (sz : kvs.length ≤ sizeLine) (isk : knd.is k key = true) (D : s.heap.DictOf knd d kvs)
    (q : ∀ g, g.DictOf knd d (stored kvs k v) → Heap.SameBut d s.heap g → Q () { s with heap := g }) : wpAny (model prog w) A (dictPut d (knd.hash k) key v) Q E s := by
  rcases D with ⟨ob, ents, ep, at_, ex, dat, keys, prs, nodup⟩
  have small : ents.size ≤ sizeLine := by
    have l1 := prs.length
    simp only [Array.length_toList] at l1
    omega
  have look : (ents.findIdx? fun e => knd.is k e.key) = kvs.findIdx? fun q => decide (q.1 = k) := by
    have l2 := prs.findIdx k
    rcases ents with ⟨es⟩
    simpa using l2
  unfold dictPut
  refine wpAny_bind (wpAny_dictFind_of isk at_ dat keys ?_)
  rcases found : ents.findIdx? (fun e => knd.is k e.key) with _ | j
  · simp only [found]
    have fresh : k ∉ kvs.map (·.1) := not_mem_of_findIdx_none (look ▸ found)
    have none_ : kvs.any (fun q => decide (q.1 = k)) = false := by
      rw [List.any_eq_false]
      intro q hq z
      exact fresh (List.mem_map.mpr ⟨q, hq, of_decide_eq_true z⟩)
    have eq_ : stored kvs k v = kvs ++ [(k, v)] := by
      unfold stored
      rw [none_]
      rfl
    refine wpAny_updateDictKeys (f := fun x => x.push ⟨knd.hash k, key, v⟩) (hz := small) (hf := by simp) at_ dat (q _ ⟨ob.mapDictKeys fun x => x.push ⟨knd.hash k, key, v⟩, ents.push ⟨knd.hash k, key, v⟩, ep + 1, ?_, ex.mapDictKeys _, Obj.data_mapDictKeys dat _, keys.push isk _, ?_, ?_⟩ (Heap.SameBut.update ..))
    · exact Heap.get?_update_self _ at_ (Obj.isFreed_of_dict (Obj.data_mapDictKeys dat _))
    · rw [eq_, Array.toList_push]
      exact prs.append isk (knd.hash k) v
    · rw [eq_, List.map_append]
      refine List.nodup_append.mpr ⟨nodup, by simp, fun x hx y hy z => ?_⟩
      have : y = k := by simpa using hy
      exact fresh (by rw [← this, ← z]; exact hx)
  · simp only [found]
    have some_ : kvs.any (fun q => decide (q.1 = k)) = true := any_of_findIdx_some (look ▸ found)
    have eq_ : stored kvs k v = kvs.map (fun kv => if kv.1 = k then (kv.1, v) else kv) := by
      unfold stored
      rw [some_]
      rfl
    have l3 : ents.toList.findIdx? (fun e => knd.is k e.key) = some j := by
      rw [← found]
      rcases ents with ⟨es⟩
      simp
    refine wpAny_updateDict (f := fun x => x.modify j fun e => { e with val := v }) (hz := by simp) at_ dat (q _ ⟨ob.mapDict fun x => x.modify j fun e => { e with val := v }, ents.modify j fun e => { e with val := v }, ep, ?_, ex.mapDict _, Obj.data_mapDict dat _, keys.modify _ _, ?_, ?_⟩ (Heap.SameBut.update ..))
    · exact Heap.get?_update_self _ at_ (Obj.isFreed_of_dict (Obj.data_mapDict dat _))
    · rw [eq_]
      have := prs.modify nodup l3 v
      rcases ents with ⟨es⟩
      simpa using this
    · rw [eq_, keys_map_store]
      exact nodup
theorem pairs_get : ∀ {es : List DictEntry} {kvs : List (K × Value)} {i : Nat} {e : DictEntry}, Pairs knd es kvs → es[i]? = some e → ∃ k v, kvs[i]? = some (k, v) ∧ knd.is k e.key = true ∧ e.val = v
  | _ :: _, (k, v) :: _, 0, e, .cons h1 h2 h3, h => by
    simp at h
    subst h
    exact ⟨k, v, rfl, h1, by first | exact h2 | exact h2.symm⟩
  | _ :: _, _ :: _, i + 1, e, .cons h1 h2 h3, h => by
    simp at h
    obtain ⟨k, v, a, b⟩ := pairs_get h3 h
    exact ⟨k, v, by simpa using a, b⟩
  | [], _, i, e, _, h => by simp at h
/-- a plain dict is merged into another -/
theorem merge_map {kvs more : List (K × Value)} {Q : Unit → Shared → Prop} (noref : ∀ k v, knd.is k v = true → ∀ b, v ≠ .ref b) (ne : d ≠ a) (ns : (a == sysModules) = false) (sz : kvs.length + more.length ≤ sizeLine) (D : s.heap.DictOf knd d kvs) (M : s.heap.DictOf knd a more)
    (q : ∀ g, g.DictOf knd d (merged kvs more) → Heap.SameBut d s.heap g → Q () { s with heap := g }) : wpAny (model prog w) A (mergeMapping d (.ref a) false) Q E s := by
  have ty : s.TypeIs (.ref a) "dict" := M.typeIs
  obtain ⟨o1, e1, p1, g1, x1, t1, k1, r1, n1⟩ := id D
  obtain ⟨o2, e2, p2, g2, x2, t2, k2, r2, n2⟩ := id M
  have len : more.length = e2.size := by
    have := r2.length
    simpa using this.symm
  have back : ∀ g : Heap, Heap.SameBut d s.heap g → g.get? a = some o2 := fun g sb => (sb.2 a (Ne.symm ne)).trans g2
  unfold mergeMapping
  refine wpAny_bind (wpAny_isInstance (T := "dict") ty PySem.F.sub_dict_dict ?_)
  rw [if_pos rfl]
  refine wpAny_bind (wpAny_specialOf ty PySem.F.slot_dict_iter.lookup ?_)
  dsimp only
  simp only [beq_self_eq_true, Bool.false_eq_true, if_false]
  refine wpAny_bind (wpAny_pure ?_)
  dsimp only
  rw [if_neg (show ¬ (a == sysModules) = true from by rw [ns]; decide)]
  refine wpAny_bind (wpAny_dictEntries g1 t1 ?_)
  have pre : ∀ (f : DictEntry → PUnit → Sem (ForInStep PUnit)) (P : PUnit → Shared → Prop), (∀ e ∈ e2.toList, ∀ r, f e r = pure (ForInStep.yield PUnit.unit)) → P PUnit.unit s → wpAny (model prog w) A (forIn e2 PUnit.unit f) P E s := by
    intro f P hf hP
    rw [← Array.forIn_toList]
    refine wpAny_forIn_list _ (fun rest r s' => s' = s ∧ ∀ e ∈ rest, e ∈ e2.toList) _ ?_ ?_ _ _ ⟨rfl, fun e h => h⟩
    · rintro e rest r s' ⟨rfl, h⟩
      rw [hf e (h e (List.mem_cons_self ..))]
      exact wpAny_pure ⟨rfl, fun x hx => h x (List.mem_cons_of_mem _ hx)⟩
    · rintro r s' ⟨rfl, _⟩
      exact hP
  have main : ∀ (f : Nat → PUnit → Sem (ForInStep PUnit)) (P : PUnit → Shared → Prop), (∀ (i : Nat) (r : PUnit) (s' : Shared) (e : DictEntry) (R : ForInStep PUnit → Shared → Prop), e2[i]? = some e → s'.heap.get? a = some o2 →
      wpAny (model prog w) A (dictPut d e.hash e.key e.val) (fun _ s2 => s2.heap.get? a = some o2 ∧ R (ForInStep.yield PUnit.unit) s2) E s' → wpAny (model prog w) A (f i r) R E s') → (∀ s', Q () s' → P PUnit.unit s') → wpAny (model prog w) A (forIn (List.range e2.size) PUnit.unit f) P E s := by
    intro f P hf hP
    rw [List.range_eq_range']
    refine wpAny_forIn_list _ (fun rest r s' => ∃ i, rest = List.range' i (e2.size - i) ∧ i ≤ e2.size ∧ s'.heap.DictOf knd d (merged kvs (more.take i)) ∧ Heap.SameBut d s.heap s'.heap ∧ s' = { s with heap := s'.heap }) _ ?_ ?_ _ _ ⟨0, by simp, Nat.zero_le _, by simpa [merged] using D, .refl _ _, rfl⟩
    · rintro x rest r s' ⟨i, hr, hi, hd, sb, es⟩
      have lt : i < e2.size := by
        rcases Nat.lt_or_ge i e2.size with h | h
        · exact h
        · rw [Nat.sub_eq_zero_of_le h] at hr; simp at hr
      have ee : e2.size - i = (e2.size - (i + 1)) + 1 := by omega
      rw [ee, List.range'_succ] at hr
      injection hr with hx hrest
      subst hx
      have get : e2[x]? = some e2[x] := Array.getElem?_eq_getElem lt
      obtain ⟨k, v, hk, isk, ev⟩ := pairs_get r2 (show e2.toList[x]? = some e2[x] by simpa using get)
      obtain ⟨k', isk', hh⟩ := k2 e2[x] (Array.getElem_mem lt)
      have : k' = k := knd.inj _ _ _ isk' isk
      subst this
      refine hf x r s' _ _ get (back _ sb) ?_
      rw [hh]
      have l1 := merged_length_le kvs (more.take x)
      have l2 : (more.take x).length ≤ more.length := by rw [List.length_take]; omega
      refine put_ent (by omega) isk hd fun g hg sb2 => ⟨back _ (sb.trans sb2), x + 1, hrest, lt, ?_, sb.trans sb2, by rw [es]⟩
      rw [merged_take_succ _ _ _ _ hk, ← ev]
      exact hg
    · rintro r s' ⟨i, hr, hi, hd, sb, es⟩
      have : i = e2.size := by
        rcases Nat.lt_or_ge i e2.size with h | h
        · have ee : e2.size - i = (e2.size - (i + 1)) + 1 := by omega
          rw [ee, List.range'_succ] at hr; cases hr
        · omega
      subst this
      rw [← len, List.take_length] at hd
      refine hP _ ?_
      rw [es]
      exact q _ hd sb
  have body : ∀ (i : Nat) (s' : Shared) (e : DictEntry) (R : ForInStep PUnit → Shared → Prop), e2[i]? = some e → s'.heap.get? a = some o2 → wpAny (model prog w) A (dictPut d e.hash e.key e.val) (fun _ s2 => s2.heap.get? a = some o2 ∧ R (ForInStep.yield PUnit.unit) s2) E s' →
      wpAny (model prog w) A (do
        let l ← dictEntries a
        match l[i]? with
          | some e => do
            holding [e.key, e.val] (dictPut d e.hash e.key e.val)
            let ep ← dictEpoch a
            if (ep != p2) = true then do
                unsupported "dict.changed-during-merge"
                pure (ForInStep.yield PUnit.unit)
              else pure (ForInStep.yield PUnit.unit)
          | x => do
            unsupported "dict.changed-during-merge"
            pure (ForInStep.yield PUnit.unit)) R E s' := by
    intro i s' e R he ha h
    refine wpAny_bind (wpAny_dictEntries ha t2 ?_)
    simp only [he]
    refine wpAny_bind (wpAny_holding (wpAny_mono h (fun _ s2 ⟨h1, h2⟩ => ?_) fun _ _ x => x))
    refine wpAny_bind (wpAny_dictEpoch h1 t2 ?_)
    rw [if_neg (by simp)]
    exact wpAny_pure h2
  split
  · refine wpAny_bind (wpAny_dictEntries g2 t2 ?_)
    refine wpAny_bind (pre _ _ (fun e he r => ?_) ?_)
    · obtain ⟨k, isk, _⟩ := k2 e (by simpa using he)
      have := noref k e.key isk
      split
      · next b hb => exact absurd hb (this b)
      · rfl
    · refine wpAny_bind (wpAny_dictEntries g2 t2 ?_)
      refine wpAny_bind (wpAny_dictEpoch g2 t2 ?_)
      exact wpAny_bind (main _ _ (fun i r s' e R h1 h2 h3 => body i s' e R h1 h2 h3) fun s' h => wpAny_pure h)
  · refine wpAny_bind (wpAny_dictEntries g2 t2 ?_)
    refine wpAny_bind (wpAny_dictEpoch g2 t2 ?_)
    exact wpAny_bind (main _ _ (fun i r s' e R h1 h2 h3 => body i s' e R h1 h2 h3) fun s' h => wpAny_pure h)
end
end Eng
/-! M2: the display {**d, k: v}. -/
namespace Eng
open PySem PySem.Spec PyProof.Rows
section
variable {prog : Program} {w : World} {K : Type} [DecidableEq K] {knd : PySem.KeyKind prog w K} {A : Around} {E : Value → Shared → Prop} {s : Shared} {env : PySem.Env}
theorem star_shape (k d v : Expr) (env : PySem.Env) (pos : Pos) : (evalEachOpt [none, some k] env).zip ((evalEach [d, v] env).map fun v => do let x ← v; standAt pos; pure x) = [(none, do let x ← eval d env; standAt pos; pure x), (some (eval k env), do let x ← eval v env; standAt pos; pure x)] := rfl
theorem star_walk {k d v : Expr} {pos : Pos} {Q : Value → Shared → Prop} (noref : ∀ k v, knd.is k v = true → ∀ b, v ≠ .ref b)
    (h : wpAny (model prog w) A (eval d env) (fun m s1 => ∃ (a : Addr) (more : List (K × Value)), m = .ref a ∧ s.heap.objs.size ≠ a ∧ (a == sysModules) = false ∧ more.length + 1 ≤ sizeLine ∧ s1.heap.DictOf knd s.heap.objs.size [] ∧ s1.heap.DictOf knd a more ∧
      ∀ g, g.DictOf knd s.heap.objs.size (merged [] more) → Heap.SameBut s.heap.objs.size s1.heap g →
        wpAny (model prog w) A (eval k env) (fun kv s3 => wpAny (model prog w) A (eval v env) (fun vv s4 => ∃ kk acc, knd.is kk kv = true ∧ acc.length + 1 ≤ sizeLine ∧ s4.heap.DictOf knd s.heap.objs.size acc ∧ s.heap.objs.size ≠ g.objs.size ∧ (g.objs.size == sysModules) = false ∧ s4.heap.DictOf knd g.objs.size [] ∧
          ∀ g2, g2.DictOf knd g.objs.size (merged [] [(kk, vv)]) → Heap.SameBut g.objs.size s4.heap g2 → ∀ g3 tk, g3.DictOf knd s.heap.objs.size (merged acc [(kk, vv)]) → Heap.SameBut s.heap.objs.size g2 g3 → Q (.ref s.heap.objs.size) { s4 with heap := g3, toks := tk }) E s3) E { s1 with heap := g.push { cls := .type "dict", data := .dict #[] } }) E { s with heap := s.heap.push { cls := .type "dict", data := .dict #[] } }) :
    wpAny (model prog w) A (eval (.Dict [none, some k] [d, v] pos) env) Q E s := by
  rw [arm_eval_Dict, star_shape]
  refine wpAny_bind (wpAny_standAt ?_)
  unfold dictDisplay
  simp only [List.forIn_cons, List.forIn_nil, List.isEmpty_nil, if_true, pure_bind]
  refine wpAny_bind (wpAny_bind (wpAny_bind (wpAny_alloc ?_)))
  refine wpAny_bind (wpAny_holding (wpAny_bind (wpAny_mono h (fun m s1 h1 => ?_) fun _ _ x => x)))
  obtain ⟨a, more, rfl, ne, ns, sz, D1, M1, h1⟩ := h1
  refine wpAny_bind (wpAny_standAt (wpAny_pure ?_))
  refine wpAny_bind (wpAny_onRaise (wpAny_tryCatch (wpAny_onRaise (wpAny_holding (merge_map noref ne ns (by simp; omega) D1 M1 fun g hg sb => ?_)))))
  refine wpAny_pure ?_
  dsimp only [List.nil_append, List.length_cons, List.length_nil]
  rw [if_neg (by decide)]
  refine wpAny_bind (wpAny_pure (wpAny_pure ?_))
  dsimp only [List.isEmpty_cons]
  rw [if_neg (by decide)]
  refine wpAny_bind (wpAny_bind (wpAny_holding (wpAny_subDict (knd := knd) (by simp) (evalPairs_cons (wpAny_mono (h1 g hg sb) (fun kv s3 h3 => wpAny_bind (wpAny_mono h3 (fun vv s4 h4 => ?_) fun _ _ x => x)) fun _ _ x => x)))))
  obtain ⟨kk, acc, isk, sz4, D4, ne4, ns4, E4, h4⟩ := h4
  refine wpAny_bind (wpAny_standAt (wpAny_pure (evalPairs_nil ⟨[(kk, vv)], ⟨isk, rfl, True.intro⟩, E4, fun g2 hg2 sb2 => ?_⟩)))
  have e1 : merged ([] : List (K × Value)) [(kk, vv)] = [(kk, vv)] := by simp [merged, stored]
  have D5 : g2.DictOf knd s.heap.objs.size acc := by
    obtain ⟨ob, e, p, x1, x2⟩ := D4
    exact ⟨ob, e, p, (sb2.2 _ ne4).trans x1, x2⟩
  have H2 := hg2
  rw [e1] at H2
  refine wpAny_bind (wpAny_onRaise (wpAny_holding (merge_map noref ne4 ns4 (by simpa using sz4) D5 H2 fun g3 hg3 sb3 => wpAny_pure (wpAny_pure ?_))))
  exact h4 g2 hg2 sb2 g3 _ hg3 sb3
end
end Eng
/-! R12: {**d, k: v}. -/
namespace Eng
open PySem PySem.Spec PyProof.Rows L2
section
variable {K : PySem.W.Frag} {w : World} {m m1 : List Addr} {st st1 : Store} {H H1 : Hp} {p : Addr} {o : HO}
theorem Reps.owned' (own : Own H p) : ∀ {ds : List D} {vs : List V}, Reps K m H ds vs → Reps K m (upd H p o) ds vs
  | [], _, h => h
  | d :: ds, _, ⟨v, ws, e, r1, r2⟩ => ⟨v, ws, e, r1.owned own, Reps.owned' own r2⟩
theorem StoR.own (S : StoR K w m st H) (own : Own H p) (hm : p ∉ m) : StoR K w m st (upd H p o) := by
  refine ⟨S.len, S.nd, fun i b u hb hu => ?_⟩
  have ne : b ≠ p := fun e => hm (by rw [← e]; exact List.mem_of_getElem? hb)
  have r := S.at_ i b u hb hu
  cases u with
  | lst xs => obtain ⟨vs, h, r⟩ := r; exact ⟨vs, (upd_ne ne).trans h, r.owned' own⟩
  | dic kvs => obtain ⟨es, h, r⟩ := r; exact ⟨es, (upd_ne ne).trans h, Paired.mapP r.pr (fun p q z => ⟨z.1, z.2.1, z.2.2.1.owned own, z.2.2.2.owned own⟩), r.nd⟩
  | dicL kvs => obtain ⟨o, es, h, r⟩ := r; exact ⟨o, es, (upd_ne ne).trans h, Paired.mapP r.pr (fun p q z => ⟨z.1, z.2.1, z.2.2.1.owned own, z.2.2.2.owned own⟩), r.nd⟩
  | ins c fs => obtain ⟨dx, vfs, h, r⟩ := r; exact ⟨dx, vfs, (upd_ne ne).trans h, Paired.mapP r fun p q z => ⟨z.1, z.2.owned own⟩⟩
theorem own_dk {kvs : List (Key × V)} (h : H p = some (.dK kvs)) : Own H p := fun o e => by rw [h] at e; cases e; exact ⟨(fun _ z => nomatch z), (fun _ _ z => nomatch z)⟩
/-- the same object laid at both ends -/
theorem Nx.both (n : Nx K w m H m1 H1 st1) (h0 : ∀ x u, o ≠ .frz x u) (own : Own H1 p) (hm : p ∉ m1) : Nx K w m (upd H p o) m1 (upd H1 p o) st1 := by
  obtain ⟨l, e, hl⟩ := n.ext
  refine ⟨⟨l, e, fun b hb => ?_⟩, n.sto.own own hm, fun a u h ha => ?_, fun a u v h => ?_⟩
  · have : b ≠ p := fun z => hm (by rw [e, ← z]; exact List.mem_append_right _ hb)
    rw [upd_ne this]
    exact hl b hb
  · by_cases z : a = p
    · subst z; rw [upd_same] at h ⊢; exact h
    · rw [upd_ne z] at h ⊢; exact n.fr a u h ha
  · by_cases z : a = p
    · subst z; rw [upd_same] at h; cases h; exact absurd rfl (h0 _ _)
    · rw [upd_ne z] at h ⊢; exact n.fz a u v h
/-- what was not there may change -/
theorem Nx.late (n : Nx K w m H m1 H1 st1) (h0 : H p = none) (own : Own H1 p) (hm : p ∉ m1) : Nx K w m H m1 (upd H1 p o) st1 :=
  ⟨n.ext, n.sto.own own hm, fun a u h ha => by rw [upd_ne (ne_of_none h h0)]; exact n.fr a u h ha, fun a u v h => by rw [upd_ne (ne_of_none h h0)]; exact n.fz a u v h⟩
end
theorem EnvR.own {K : PySem.W.Frag} {m : List Addr} {H : Hp} {p : Addr} {o : HO} {σ : L2.St} {env : Env} (E : EnvR K m H σ env) (own : Own H p) : EnvR K m (upd H p o) σ env := ⟨E.len, fun i d h => by
  obtain ⟨v, h1, h2⟩ := E.at_ i d h
  exact ⟨v, h1, h2.owned own⟩⟩
/-- objects that were not there at first may be written between -/
theorem Nx.skip {K : PySem.W.Frag} {w : World} {m m1 m5 : List Addr} {st1 st5 : Store} {H H1 H3 H5 : Hp} {P : Addr → Prop} (n : Nx K w m H m1 H1 st1) (n3 : Nx K w m1 H3 m5 H5 st5) (same : ∀ b, ¬ P b → H3 b = H1 b) (new : ∀ b, P b → H b = none ∧ H3 b ≠ none) : Nx K w m H m5 H5 st5 := by
  have off : ∀ {b : Addr} {o : HO}, H b = some o → ¬ P b := fun {b o} h z => by rw [(new b z).1] at h; cases h
  obtain ⟨l1, e1, h1⟩ := n.ext
  obtain ⟨l5, e5, h5⟩ := n3.ext
  refine ⟨⟨l1 ++ l5, by rw [e5, e1, List.append_assoc], fun b hb => ?_⟩, n3.sto, fun a o h ha => ?_, fun a o u h => ?_⟩
  · rcases List.mem_append.mp hb with hb | hb
    · exact h1 b hb
    · have z := h5 b hb
      have np : ¬ P b := fun q => (new b q).2 z
      rw [same b np] at z
      cases q : H b with
      | none => rfl
      | some o =>
        by_cases hm : b ∈ m
        · exact absurd (n.ext.sub hm) (n.sto.fresh z)
        · have := n.fr b o q hm
          rw [z] at this
          cases this
  · exact n3.fr a o (by rw [same a (off h)]; exact n.fr a o h ha) (n.ext.out h ha)
  · exact n3.fz a o u (by rw [same a (off h)]; exact n.fz a o u h)
theorem mergeK_app : ∀ (ks acc : List (Key × V)), ((acc ++ ks).map (·.1)).Nodup → mergeK acc ks = acc ++ ks
  | [], acc, _ => by simp [mergeK]
  | q :: ks, acc, h => by
    have e : putK acc q.1 q.2 = acc ++ [q] := by
      unfold putK
      rw [if_neg]
      intro z
      obtain ⟨x, hx, e⟩ := List.any_eq_true.mp z
      have e := of_decide_eq_true e
      rw [List.map_append, List.nodup_append] at h
      exact h.2.2 x.1 (List.mem_map.mpr ⟨x, hx, rfl⟩) q.1 (by simp) e
    show mergeK (putK acc q.1 q.2) ks = _
    rw [e, mergeK_app ks (acc ++ [q]) (by simpa using h)]
    simp
theorem upd_comm {H : Hp} {a b : Addr} {o u : HO} (h : a ≠ b) : upd (upd H a o) b u = upd (upd H b u) a o := by
  funext c
  by_cases h1 : c = b
  · subst h1; rw [upd_same, upd_ne (Ne.symm h), upd_same]
  · by_cases h2 : c = a
    · subst h2; rw [upd_ne h1, upd_same, upd_same]
    · rw [upd_ne h1, upd_ne h2, upd_ne h2, upd_ne h1]
def starV (fd fk fv : Env → Store → R Sq) : Env → Store → R Sq := fun env st => (fd env st).bind fun x st => match x with
  | .val (.obj i) => match st[i]? with
    | some (.dic more) => if (more.all (fun p => isKeyD p.1) && small (more.length + 1)) = true then (asD (fk env st)).bind fun kd st => (asD (fv env st)).bind fun vd st => if isKeyD kd = true then (opt (putAll more [(kd, vd)]) st).bind fun l st => .ok (.val (.obj st.length)) (st ++ [.dic l]) else .no else .no
    | _ => .no
  | _ => .no
section
variable {X : Cx}
theorem noref_mix {P : Program} {w : World} : ∀ k v, (mixKind P w).is k v = true → ∀ b, v ≠ Value.ref b := fun k v h b e => by
  rcases keyIs_shape (show keyIs k v = true from h) with ⟨i, t, _, z⟩ | ⟨x, t, _, z⟩ <;> rw [e] at z <;> cases z
theorem je_star {d k v : Expr} {pos : Pos} {fd fk fv f : Env → Store → R Sq} (hf : f = starV fd fk fv) (hd : PE X d (tX X fd)) (hk : PE X k (tX X fk)) (hv : PE X v (tX X fv)) : PE X (.Dict [none, some k] [d, v] pos) (tX X f) := by
  subst hf
  refine ⟨fun pins s σ H Q I h => ?_⟩
  obtain ⟨env, m, st, E, S, o⟩ := h
  have hn := I.hok.fresh (Nat.le_refl s.heap.objs.size)
  generalize hD : s.heap.objs.size = D at hn
  have I1 := I.laid (a := s.heap.objs.size) (o := .dK []) (h' := s.heap.push { cls := .type "dict", data := .dict #[] }) (t' := s.toks) (fun _ _ q => Heap.get?_push_of_some _ q) (Nat.le_refl _) (dk_empty s.heap I.big)
  rw [hD] at I1
  have n0 : Nx X.K X.w m H m (upd H D (.dK [])) st := .new S hn
  refine star_walk (knd := mixKind X.prog X.w) noref_mix ?_
  rw [hD]
  have hDm : D ∉ m := S.fresh hn
  have red : tX X fd σ (upd H D (.dK [])) fun x H1 => ∃ (a : Addr) (i : Nat) (m1 : List Addr) (st1 : Store) (more : List (D0 × D0)), x = .ref a ∧ m1[i]? = some a ∧ st1[i]? = some (.dic more) ∧ Nx X.K X.w m (upd H D (.dK [])) m1 H1 st1 ∧ EnvR X.K m1 H1 σ env ∧ (more.all (fun p => isKeyD p.1) && small (more.length + 1)) = true ∧
      Out X σ m H ((asD (fk env st1)).bind fun kd st => (asD (fv env st)).bind fun vd st => if isKeyD kd = true then (opt (putAll more [(kd, vd)]) st).bind fun l st => .ok (.val (.obj st.length)) (st ++ [.dic l]) else .no) (KQ X Q m H) := by
    refine ⟨env, m, st, E.mono S n0.ext n0.fr, n0.sto, ?_⟩
    unfold starV at o
    revert o
    generalize fd env st = r
    intro o
    cases r with
    | no => exact o
    | ex x fs st' => exact Tk.imp o fun c d H' z => z.back n0
    | ok q st1 =>
      intro x m1 H1 n r fr
      have o : Out X σ m H (match q with
        | .val (.obj i) => match st1[i]? with
          | some (.dic more) => if (more.all (fun p => isKeyD p.1) && small (more.length + 1)) = true then (asD (fk env st1)).bind fun kd st => (asD (fv env st)).bind fun vd st => if isKeyD kd = true then (opt (putAll more [(kd, vd)]) st).bind fun l st => .ok (.val (.obj st.length)) (st ++ [.dic l]) else .no else .no
          | _ => .no
        | _ => .no) (KQ X Q m H) := o
      clear hD
      rename_i oo
      clear oo
      split at o
      · next j =>
        split at o
        · next more hi =>
          split at o
          · next hc =>
            obtain ⟨a, rfl, hm⟩ := r
            exact ⟨a, j, m1, st1, more, rfl, hm, hi, n, (E.mono S n0.ext n0.fr).mono n0.sto n.ext n.fr, hc, o⟩
          · exact o.elim
        · exact o.elim
      · exact o.elim
  refine thn (hd.run pins _ σ _ _ I1 red) fun u s1 ⟨x, H1, J1, rx, a, i, m1, st1, more, ex, hm, hi, n1, E1, hc, o⟩ => ?_
  subst ex
  obtain rfl : u = Value.ref a := rx
  simp only [Bool.and_eq_true] at hc
  obtain ⟨es, ha, ra⟩ := n1.sto.at_ i a _ hm hi
  obtain ⟨ks, rfl⟩ := keyed ra.pr hc.1
  have hD1 : H1 D = some (.dK []) := n1.fr D _ upd_same hDm
  have hDm1 : D ∉ m1 := n1.ext.out upd_same hDm
  have hDa : D ≠ a := fun e => hDm1 (by rw [e]; exact List.mem_of_getElem? hm)
  have J2 := re_ext ha ra.nd pins σ s1 J1
  obtain ⟨z1, y1, va, rel1, D1⟩ := dk_of J2.hok (show upd H1 a (.dK ks) a = some (.dK ks) from upd_same)
  obtain ⟨_, yD, vD, relD, DD⟩ := dk_of J2.hok (show upd H1 a (.dK ks) D = some (.dK []) by rw [upd_ne hDa]; exact hD1)
  cases relD
  have lka : more.length = va.length := by rw [paired_len ra.pr, ← paired_len rel1]; simp [toE]
  have sz : va.length + 1 ≤ sizeLine := by rw [← lka]; exact of_decide_eq_true hc.2
  refine ⟨a, va, rfl, hDa, y1, sz, DD, D1, fun g hg sb => ?_⟩
  -- the first merge
  have zM : (mergeK [] ks).length ≤ sizeLine := by
    have h1 := length_mergeK ks []
    have h2 := paired_len rel1
    simp at h1
    omega
  have J3 : L2.Inv X pins σ (upd (upd H1 a (.dK ks)) D (.dK (mergeK [] ks))) { s1 with heap := g } :=
    d_write J2 (by rw [upd_ne hDa, hD1]; trivial) sb (by obtain ⟨q, _, _, hq, _⟩ := hg; exact ⟨q, hq⟩) (dk_new zM yD (KV.merge rel1 .nil) hg)
  generalize hD2 : g.objs.size = D2
  have hn3 := J3.hok.fresh (Nat.le_refl g.objs.size)
  rw [hD2] at hn3
  have ne2D : D2 ≠ D := fun e => by rw [e, upd_same] at hn3; cases hn3
  have ne2a : D2 ≠ a := fun e => by rw [e, upd_ne (Ne.symm hDa), upd_same] at hn3; cases hn3
  have hn1 : H1 D2 = none := by rwa [upd_ne ne2D, upd_ne ne2a] at hn3
  have J4 := J3.laid (a := g.objs.size) (o := .dK []) (h' := g.push { cls := .type "dict", data := .dict #[] }) (t' := s1.toks) (fun _ _ q => Heap.get?_push_of_some _ q) (Nat.le_refl _) (dk_empty g J3.big)
  rw [hD2] at J4
  have e4 : upd (upd (upd (upd H1 a (.dK ks)) D (.dK (mergeK [] ks))) D2 (.dK [])) a (DicO X.w a (toE ks)) = upd (upd H1 D (.dK (mergeK [] ks))) D2 (.dK []) := by
    funext b
    by_cases b1 : b = a
    · subst b1; rw [upd_same, upd_ne (Ne.symm ne2a), upd_ne (Ne.symm hDa), ha]
    · rw [upd_ne b1]
      by_cases b2 : b = D2
      · subst b2; rw [upd_same, upd_same]
      · rw [upd_ne b2, upd_ne b2]
        by_cases b3 : b = D
        · subst b3; rw [upd_same, upd_same]
        · rw [upd_ne b3, upd_ne b3, upd_ne b1]
  have J5 := re_dk (X := X) (H := upd (upd (upd H1 a (.dK ks)) D (.dK (mergeK [] ks))) D2 (.dK [])) (a := a) (kvs := ks) (by rw [upd_ne (Ne.symm ne2a), upd_ne (Ne.symm hDa), upd_same]) pins σ _ J4
  rw [e4] at J5
  have N1 : Nx X.K X.w m H m1 H1 st1 := n0.trans n1
  have ownD : Own H1 D := own_dk hD1
  have S3 : StoR X.K X.w m1 st1 (upd (upd H1 D (.dK (mergeK [] ks))) D2 (.dK [])) := (n1.sto.own ownD hDm1).new (by rw [upd_ne ne2D]; exact hn1)
  have E3 : EnvR X.K m1 (upd (upd H1 D (.dK (mergeK [] ks))) D2 (.dK [])) σ env := (E1.own ownD).own fun o e => by rw [upd_ne ne2D, hn1] at e; cases e
  generalize hH3 : upd (upd H1 D (.dK (mergeK [] ks))) D2 (.dK []) = H3 at J5 S3 E3
  have same : ∀ b, ¬ (b = D ∨ b = D2) → H3 b = H1 b := fun b hb => by rw [← hH3, upd_ne (fun e => hb (.inr e)), upd_ne (fun e => hb (.inl e))]
  have h3D : H3 D = some (.dK (mergeK [] ks)) := by rw [← hH3, upd_ne (Ne.symm ne2D), upd_same]
  have h3D2 : H3 D2 = some (.dK []) := by rw [← hH3, upd_same]
  have hD2n : H D2 = none := by
    cases q : H D2 with
    | none => rfl
    | some o =>
      by_cases hm2 : D2 ∈ m
      · exact absurd (N1.ext.sub hm2) (N1.sto.fresh hn1)
      · have := N1.fr D2 o q hm2
        rw [hn1] at this
        cases this
  have new : ∀ b, (b = D ∨ b = D2) → H b = none ∧ H3 b ≠ none := fun b hb => by
    rcases hb with rfl | rfl
    · exact ⟨hn, by rw [h3D]; exact fun z => nomatch z⟩
    · exact ⟨hD2n, by rw [h3D2]; exact fun z => nomatch z⟩
  -- key
  have redK : tD X (fun env st => asD (fk env st)) σ H3 fun x H4 => ∃ (m3 : List Addr) (st2 : Store) (kd : D0), Nx X.K X.w m1 H3 m3 H4 st2 ∧ Rep X.K m3 H4 kd x ∧ EnvR X.K m3 H4 σ env ∧
      Out X σ m H ((asD (fv env st2)).bind fun vd st => if isKeyD kd = true then (opt (putAll more [(kd, vd)]) st).bind fun l st => .ok (.val (.obj st.length)) (st ++ [.dic l]) else .no) (KQ X Q m H) := by
    refine ⟨env, m1, st1, E3, S3, ?_⟩
    revert o
    dsimp only
    generalize asD (fk env st1) = r
    intro o
    cases r with
    | no => exact o
    | ex x fs st' => exact Tk.imp o fun c d H' ⟨z1, m', z2, z3⟩ => ⟨z1, m', N1.skip z2 same new, z3⟩
    | ok kd st2 => exact fun x m3 H4 n3 r3 => ⟨m3, st2, kd, n3, r3, E3.mono S3 n3.ext n3.fr, o⟩
  refine thn ((pe_asD hk).run pins _ σ H3 _ J5 redK) fun kv s3 ⟨x, H4, J6, rk, m3, st2, kd, n3, rkd, E4, o⟩ => ?_
  have redV : tD X (fun env st => asD (fv env st)) σ H4 fun y H5 => ∃ (m5 : List Addr) (st5 : Store) (vd : D0), Nx X.K X.w m3 H4 m5 H5 st5 ∧ Rep X.K m5 H5 vd y ∧
      Out X σ m H (if isKeyD kd = true then (opt (putAll more [(kd, vd)]) st5).bind fun l st => .ok (.val (.obj st.length)) (st ++ [.dic l]) else .no) (KQ X Q m H) := by
    refine ⟨env, m3, st2, E4, n3.sto, ?_⟩
    revert o
    dsimp only
    generalize asD (fv env st2) = r
    intro o
    cases r with
    | no => exact o
    | ex x fs st' => exact Tk.imp o fun c d H' ⟨z1, m', z2, z3⟩ => ⟨z1, m', N1.skip (n3.trans z2) same new, z3⟩
    | ok vd st5 => exact fun y m5 H5 n5 r5 => ⟨m5, st5, vd, n5, r5, o⟩
  refine thn ((pe_asD hv).run pins s3 σ H4 _ J6 redV) fun vv s4 ⟨y, H5, J7, rv, m5, st5, vd, n5, rvd, o⟩ => ?_
  have n35 := n3.trans n5
  have N5 := N1.skip n35 same new
  have notD : ∀ b, (b = D ∨ b = D2) → b ∉ m1 := fun b hb => by
    rcases hb with rfl | rfl
    · exact hDm1
    · exact n1.sto.fresh hn1
  have h5D : H5 D = some (.dK (mergeK [] ks)) := n35.fr D _ h3D (notD _ (.inl rfl))
  have h5D2 : H5 D2 = some (.dK []) := n35.fr D2 _ h3D2 (notD _ (.inr rfl))
  have out5D : D ∉ m5 := n35.ext.out h3D (notD _ (.inl rfl))
  have out5D2 : D2 ∉ m5 := n35.ext.out h3D2 (notD _ (.inr rfl))
  split at o
  case isFalse => exact o.elim
  next hkd =>
  cases hl : putAll more [(kd, vd)] with
  | none => rw [hl] at o; exact o.elim
  | some l =>
  rw [hl] at o
  have o : KQ X Q m H (.val (.obj st5.length)) (st5 ++ [.dic l]) := o
  obtain ⟨kk, l1, hkey, _, _⟩ := putAll_cons (q := (kd, vd)) (zs := []) hl
  have rkd5 : Rep X.K m5 H5 kd x := rkd.mono n3.sto n5.ext n5.fr
  have ra5 : KvR X.K m5 H5 more (toE ks) := by
    have ra3 : KvR X.K m1 H3 more (toE ks) := by
      rw [← hH3]
      exact ⟨Paired.mapP ra.pr (fun p q z => ⟨z.1, z.2.1, (z.2.2.1.owned ownD).owned fun o e => (by rw [upd_ne ne2D, hn1] at e; cases e), (z.2.2.2.owned ownD).owned fun o e => (by rw [upd_ne ne2D, hn1] at e; cases e)⟩), ra.nd⟩
    exact ra3.mono S3 n35.ext n35.fr
  obtain ⟨kvs, ek, rl⟩ := merge_ext (ps := [(kd, vd)]) (vs := [(x, y)]) (accK := ks) (.cons ⟨rkd5, rvd⟩ .nil) (by simpa using hkd) ra5 hl
  obtain ⟨ky, rfl, hx⟩ : ∃ ky, kvs = [(ky, y)] ∧ x = kV ky := by
    match kvs, ek with
    | [q], ek =>
      simp at ek
      exact ⟨q.1, by rw [ek.2], ek.1⟩
    | [], ek => simp at ek
    | _ :: _ :: _, ek => simp at ek
  subst hx
  obtain ⟨z5, _, v5, rel5, D5⟩ := dk_of J7.hok h5D
  obtain ⟨_, y5, v6, rel6, D6⟩ := dk_of J7.hok h5D2
  cases rel6
  have nodk : (ks.map (·.1)).Nodup := nodup_key ra.nd
  have eM : mergeK [] ks = ks := by simpa using mergeK_app ks [] (by simpa using nodk)
  have z5' : v5.length + 1 ≤ sizeLine := by
    have h1 := paired_len rel5
    rw [eM] at h1
    have h2 := paired_len rel1
    omega
  have relO : KV [(ky, y)] [(ky, vv)] := .cons ⟨rfl, rv⟩ .nil
  refine ⟨ky, v5, kV_is rk, z5', D5, Ne.symm ne2D, y5, D6, fun g2 hg2 sb2 g3 tk hg3 sb3 => ?_⟩
  have J8 : L2.Inv X pins σ (upd H5 D2 (.dK (mergeK [] [(ky, y)]))) { s4 with heap := g2 } :=
    d_write J7 (by rw [h5D2]; trivial) sb2 (by obtain ⟨q, _, _, hq, _⟩ := hg2; exact ⟨q, hq⟩) (dk_new (Nat.le_trans (length_mergeK _ _) (by simp; exact Nat.le_trans (Nat.le_add_left ..) z5')) y5 (KV.merge relO .nil) hg2)
  have zK : (mergeK ks [(ky, y)]).length ≤ sizeLine := by
    have h1 := length_mergeK [(ky, y)] ks
    have h2 := paired_len rel5
    rw [eM] at h2
    simp at h1
    omega
  rw [eM] at rel5
  have J9 : L2.Inv X pins σ (upd (upd H5 D2 (.dK (mergeK [] [(ky, y)]))) D (.dK (mergeK ks [(ky, y)]))) { s4 with heap := g3, toks := tk } :=
    d_write (s := { s4 with heap := g2 }) J8 (by rw [upd_ne (Ne.symm ne2D), h5D]; trivial) sb3 (by obtain ⟨q, _, _, hq, _⟩ := hg3; exact ⟨q, hq⟩) (dk_new zK yD (KV.merge relO rel5) hg3)
  have J10 := re_dk (X := X) (a := D) (kvs := mergeK ks [(ky, y)]) upd_same pins σ _ J9
  rw [upd_upd] at J10
  have own2 : Own H5 D2 := own_dk h5D2
  have N6 := N5.late (o := .dK (mergeK [] [(ky, y)])) hD2n own2 out5D2
  have ownD6 : Own (upd H5 D2 (.dK (mergeK [] [(ky, y)]))) D := own_dk (by rw [upd_ne (Ne.symm ne2D)]; exact h5D)
  have N7 := N6.late (o := DicO X.w D (toE (mergeK ks [(ky, y)]))) hn ownD6 out5D
  obtain ⟨lx, ex, hx⟩ := N7.ext
  refine ⟨.ref D, _, J10, rfl, o _ (m5 ++ [D]) _ ⟨⟨lx ++ [D], by rw [ex, List.append_assoc], fun b hb => ?_⟩, sto_push' N7.sto out5D ⟨_, upd_same, Paired.mapP rl.pr (fun p q z => ⟨z.1, z.2.1, (z.2.2.1.owned own2).owned ownD6, (z.2.2.2.owned own2).owned ownD6⟩), rl.nd⟩, N7.fr, N7.fz⟩ ⟨D, rfl, get_push N7.sto⟩ trivial⟩
  rcases List.mem_append.mp hb with hb | hb
  · exact hx b hb
  · simp at hb
    subst hb
    exact hn
end
end Eng
/-! S1: int(text), str(number), o.extend(a), o.f += n, range(a, b). -/
namespace Eng
open PySem PySem.Spec PyProof.Rows L2
section
variable {X : Cx}
theorem numV_noex : NoEx1 numV := by
  intro x st e fs st' h
  unfold numV at h
  split at h
  · split at h
    · split at h <;> cases h
    · cases h
  · cases h
theorem bf_num : CallR X (.type "int") (rC1 X numV) := by
  intro pins s σ H xs us Q I rs h
  refine call_int_str pins s σ H xs us Q I rs ?_
  obtain ⟨v, rfl, m, st, x, q, st', S, rx, e, k⟩ := h
  unfold numV at e
  split at e
  · next z =>
    split at e
    · next n hn =>
      obtain ⟨hz, e⟩ := ite_ok e
      obtain ⟨rfl, rfl⟩ := val_ok e
      obtain rfl : v = V.str z := rx
      exact ⟨z, n, rfl, hn, hz, KQ.val S k rfl⟩
    · cases e
  · cases e
theorem strV_noex : NoEx1 strV := by
  intro x st e fs st' h
  unfold strV at h
  split at h
  · split at h <;> cases h
  · cases h
theorem bf_txt : CallR X (.type "str") (rC1 X strV) := by
  intro pins s σ H xs us Q I rs h
  refine call_str_int pins s σ H xs us Q I rs ?_
  obtain ⟨v, rfl, m, st, x, q, st', S, rx, e, k⟩ := h
  unfold strV at e
  split at e
  · next i =>
    obtain ⟨hz, e⟩ := ite_ok e
    obtain ⟨rfl, rfl⟩ := val_ok e
    obtain rfl : v = V.int i := rx
    exact ⟨i, rfl, hz, KQ.val S k rfl⟩
  · cases e
/-- the list that grows is there from the receiver's reading on -/
theorem je_ext {o e : Expr} {apos cpos : Pos} {fo fa f : Env → Store → R Sq} (hf : f = fun env st => (fo env st).bind fun x st => match x with
      | .val (.obj i) => match st[i]? with
        | some (.lst _) => (fa env st).bind fun y st => extV i y st
        | _ => .no
      | _ => .no) (ho : PE X o (tX X fo)) (he : PE X e (tX X fa)) (hb : noCallH o = true) (hs : noStar e = true) (hl : (apos.endLine == cpos.line) = true) : PE X (.Call (.Attribute o "extend" apos) [e] [] cpos) (tX X f) := by
  subst hf
  refine (pe_bm PySem.F.plainAttrs_list PySem.F.slot_list_extend PySem.F.type_list_extend mt_extend ho (pa_cons he pa_nil (star_plain hs)) (base_plain hb) (by
    rw [star_plain hs]; rfl) hl (star_plain hs) rfl).imp fun σ H Q h => ?_
  obtain ⟨env, m, st, E, S, o⟩ := h
  refine ⟨env, m, st, E, S, (o.bind S mnQ).imp fun x st1 k v m1 H1 n r fr => ?_⟩
  have k := k m1 H1 n
  cases x with
  | fresh => exact k.elim
  | val d =>
  cases d with
  | obj i => ?_
  | _ => exact k.elim
  dsimp only at k
  cases hi : st1[i]? with
  | none => rw [hi] at k; exact k.elim
  | some oo =>
  rw [hi] at k
  cases oo with
  | lst xs => ?_
  | _ => exact k.elim
  dsimp only at k
  obtain ⟨a, rfl, hm⟩ := r
  obtain ⟨vs, ha, rs⟩ := n.sto.at_ i a _ hm hi
  refine ⟨.inl ⟨rfl, vs, .of ha⟩, env, m1, st1, E.mono S n.ext n.fr, n.sto, (k.bind n.sto mnQ).imp fun y st2 k2 u m2 H2 n2 r2 fr2 => ?_⟩
  have k2 := k2 m2 H2 n2
  unfold extV at k2
  cases hi2 : st2[i]? with
  | none => rw [hi2] at k2; exact k2.elim
  | some o2 =>
  rw [hi2] at k2
  cases o2 with
  | lst ys => ?_
  | _ => exact k2.elim
  cases hy : mlst st2 y with
  | none => rw [hy] at k2; exact k2.elim
  | some zs =>
  rw [hy] at k2
  dsimp only at k2
  split at k2
  case isFalse => exact k2.elim
  next hz =>
  have hm2 := n2.ext.get hm
  obtain ⟨us, hb2, rs2⟩ := n2.sto.at_ i a _ hm2 hi2
  obtain ⟨b, ws, rfl, hb3, rs3⟩ := mlst_at n2.sto r2 hy
  have hz' : us.length + ws.length ≤ sizeLine := by rw [rs2.length, rs3.length]; exact small_le hz
  refine ⟨a, b, us, ws, rfl, rfl, hb2, hb3, hz', KQ.put n2.sto k2 hm2 (nofz_lst hb2) ⟨_, upd_same, (rs2.append rs3).mono n2.sto .refl (fr_set (List.mem_of_getElem? hm2))⟩ rfl⟩
theorem js_afl {p : Prg} {f : String} {o : Expr} {n : Int} {k : Nat} {pos pos' p2 : Pos} {fo : Env → Store → R D0} {g : Env → Store → RS} (hf : g = fun env st => (fo env st).thn env fun ov st => aflV p f n ov env st) (C : ClsF X.K p) (ho : PE X o (tD X fo)) : PS X (.AugAssign (.Attribute o (Str.ofString f) pos') .Add (.Constant (.int n) k p2) pos) (tS X g) := by
  subst hf
  refine (ps_fldaug ho pe_int in_add).imp fun Z σ H h => ?_
  obtain ⟨env, m, st, E, S, q⟩ := h
  refine ⟨env, m, st, E, S, (q.thn E S).imp fun ov st1 k v m1 H1 n1 r1 => ?_⟩
  obtain ⟨E1, o1⟩ := k m1 H1 n1
  unfold aflV at o1
  cases ov with
  | obj i => ?_
  | _ => exact o1.elim
  dsimp only at o1
  cases hi : st1[i]? with
  | none => rw [hi] at o1; exact o1.elim
  | some ob =>
  rw [hi] at o1
  cases ob with
  | ins c fs => ?_
  | _ => exact o1.elim
  dsimp only at o1
  by_cases hc : fs.length < 50 ∧ rawA p c f = true
  · rw [if_pos hc] at o1
    cases hx : fs.lookup f with
    | none => rw [hx] at o1; exact o1.elim
    | some dx0 =>
    rw [hx] at o1
    cases dx0 with
    | int x => ?_
    | _ => exact o1.elim
    dsimp only at o1
    obtain ⟨a, rfl, hm⟩ := r1
    obtain ⟨dx, vfs, ha, rf⟩ := n1.sto.at_ i a _ hm hi
    obtain ⟨cd, hcd⟩ := rawA_cls hc.2
    obtain ⟨v, hv, rv⟩ := FsR.look rf hx
    obtain rfl : v = V.int x := rv
    have ham := List.mem_of_getElem? hm
    have nf : NoFz H1 a := fun o u e => by rw [ha] at e; cases e
    refine ⟨a, _, dx, vfs, _, rfl, ha, C.cl c cd hcd, C.no c f hc.2, hv, x, n, rfl, rfl, dx, vfs, ha, by rw [← paired_len rf]; omega, ?_⟩
    have rd : Rep X.K m1 H1 (.int (x + n)) (V.int (x + n)) := rfl
    have n3 : Nx X.K X.w m1 H1 m1 _ (st1.set i (.ins c (putA f (.int (x + n)) fs))) := .put n1.sto hm nf (o := .ins (He.ga X.K (Str.ofString c)) dx (putF (Str.ofString f) (V.int (x + n)) vfs)) ⟨dx, _, upd_same, (FsR.put rd rf).mono n1.sto .refl (fr_set ham)⟩
    exact o1 σ m1 _ n3 (E1.mono n1.sto n3.ext n3.fr)
  · rw [if_neg hc] at o1; exact o1.elim
/-- x += n -/
theorem js_aug {i : Nat} {x : Str} {n : Int} {k : Nat} {pos pos' p2 : Pos} {g : Env → Store → RS} (hf : g = fun env st => match env[i]? with
    | some (some (.int y)) => .nx (env.set i (some (.int (y + n)))) st
    | _ => .no) (hN : X.N.Nodup) (hi : X.N[i]? = some x) (hx : Loc X.env.scope x) (hl : X.fn x = true ∨ X.env.scope.names.lookup x = some .local) : PS X (.AugAssign (.Name x pos') .Add (.Constant (.int n) k p2) pos) (tS X g) := by
  subst hf
  refine (ps_aug hN hi hx pe_int ip_add hl).imp fun Z σ H h => ?_
  obtain ⟨env, m, st, E, S, o⟩ := h
  dsimp only at o
  split at o
  · next y hy =>
    obtain ⟨v, hv, rv⟩ := E.at_ i _ hy
    obtain rfl : v = V.int y := rv
    refine ⟨_, hv, y, n, rfl, rfl, ?_⟩
    exact o _ m H (.refl S) (E.set (d := .int (y + n)) rfl)
  · exact o.elim
theorem jp_rng2 {tg a b : Expr} {p pos : Pos} {fa fb : Env → Store → R Sq} {f : Env → Store → R (List D × Dep)} (hf : f = fun env st => (fa env st).bind fun x st => (fb env st).bind fun y st => match x, y with
    | .val (.int lo), .val (.int hi) => if smallI lo && smallI hi then .ok (rangeD lo (hi - lo).toNat, .free) st else .no
    | _, _ => .no) (hg : Gl X "range") (hm : X.mg "range" = none) (hs : noStar a = true) (hs2 : noStar b = true) (ha : PE X a (tX X fa)) (hb : PE X b (tX X fb)) : PI X tg (.Call (.Name "range" p) [a, b] [] pos) (tI X f) := by
  subst hf
  refine ⟨fun pins s σ H R I h => ?_⟩
  refine (pi_range2 (tg := tg) hg hm (pa_cons ha (pa_cons hb pa_nil (star_plain hs2)) (star_plain hs)) (by rw [star_plain hs, star_plain hs2]; rfl) (star_plain hs2)).run pins s σ H R I ?_
  obtain ⟨env, m, st, E, S, o⟩ := h
  refine ⟨env, m, st, E, S, (o.bind S mnI).imp fun x st1 k v m1 H1 n r fr => ?_⟩
  have k := k m1 H1 n
  refine ⟨env, m1, st1, E.mono S n.ext n.fr, n.sto, (k.bind n.sto mnI).imp fun y st2 k2 u m2 H2 n2 r2 fr2 => ?_⟩
  have k2 := k2 m2 H2 n2
  cases x with
  | fresh => exact k2.elim
  | val d =>
  cases d with
  | int i => ?_
  | _ => exact k2.elim
  cases y with
  | fresh => exact k2.elim
  | val d =>
  cases d with
  | int j => ?_
  | _ => exact k2.elim
  dsimp only at k2
  by_cases hi : (smallI i && smallI j) = true
  · rw [if_pos hi] at k2
    simp only [Bool.and_eq_true] at hi
    obtain ⟨h1, h2⟩ := smallI_ok hi.1
    obtain ⟨h3, h4⟩ := smallI_ok hi.2
    refine ⟨i, j, by rw [show v = V.int i from r, show u = V.int j from r2], ⟨h1, h2, h3, h4⟩, ?_⟩
    exact k2 _ m2 H2 id (walk_rng n2.sto i (j - i).toNat)
  · rw [if_neg hi] at k2
    exact k2.elim
end
end Eng
/-! S2: d.items() walked, whatever the keys are. -/
namespace Eng
open PySem PySem.Spec PyProof.Rows L2
/-- the items of a dict that is locked -/
def Ity (w : World) (d : Addr) (o : Obj) (es : List (NestedKey × V × V)) : L2.It :=
  ⟨fun i H => H d = some (.frz o (DicO w d es)) ∧ i < es.length, fun i H x H' => ∃ e q, es[i]? = some e ∧ x = .ref q ∧ H q = none ∧ H' = upd H q (.tup [e.2.1, e.2.2]), fun i H => H d = some (.frz o (DicO w d es)) ∧ es.length ≤ i⟩
section
variable {X : Cx} {m : List Addr} {H : Hp} {st : Store}
theorem turn_ity {P : Program} {w : World} {K : PySem.W.Frag} {elts : List Expr} {kk : Nat} {tpos : Pos} {d : Addr} {o : Obj} {es : List (NestedKey × V × V)} {ents : Array DictEntry} {ep : Nat} (it : Addr) (hod : o.data = .dict ents ep) :
    Turn P w K (.Tuple elts kk tpos) (Ity w d o es) [it] it (fun i h => ∃ a b, IsItemIter h it d i es.length ep a b) where
  mem := List.mem_singleton.mpr rfl
  obj := fun i h ⟨x, y, e⟩ b hb => by
    obtain rfl : b = it := List.mem_singleton.mp hb
    exact ⟨_, e, fun v z => nomatch z⟩
  keep := fun i h h' ⟨x, y, e⟩ k => ⟨x, y, k it (List.mem_singleton.mpr rfl) _ e⟩
  item := by
    intro X hP hw hK hc i pins s σ H E I hf st hg
    subst hP hw hK
    obtain ⟨a, b, hit⟩ := st
    have fit := hf it (List.mem_singleton.mpr rfl)
    have hlt : it < s.heap.objs.size := Heap.lt_size hit
    obtain ⟨hgd, hs, hx, ents', ep', hdt, pr, hsz⟩ := frz_ext I hg.1
    obtain ⟨rfl, rfl⟩ := dict_ep hod hdt
    obtain ⟨e, he⟩ : ∃ e, es[i]? = some e := ⟨es[i]'hg.2, List.getElem?_eq_getElem hg.2⟩
    obtain ⟨en, hen, z1, z2, z3⟩ := Paired.getL pr he
    have hie : i < ents'.size := by have := hg.2; omega
    have hee : ents'[i] = en := by
      have := hen
      rw [Array.getElem?_toList, Array.getElem?_eq_getElem hie] at this
      exact Option.some.inj this
    rw [← hsz] at hit
    refine wpAny_pyNext_items_item_raw hit ⟨o, hgd, hx, hod⟩ hie fun h' ho hT hz hk => ?_
    rw [hee] at ho hT
    refine ⟨_, rfl, wpAny_letOwnedTupleGo_items (s := { s with heap := h' }) ho fun h2 hi2 sb => ?_⟩
    have hT2 : h2.get? s.heap.objs.size = some { cls := .type "tuple", data := .seq #[en.key, en.val] } := by
      rw [sb.2 _ (Nat.ne_of_gt hlt)]
      exact hT
    have new : ObjOk X.prog X.w (upd H s.heap.objs.size (.tup [e.2.1, e.2.2])) h2 s.heap.objs.size (.tup [e.2.1, e.2.2]) := by
      refine ⟨by show 2 ≤ sizeLine; decide, [en.key, en.val], .cons z2 (.cons z3 .nil), ?_⟩
      exact ⟨_, hT2, rfl, _, rfl⟩
    have kept : ∀ b ob, b ∉ [it] → s.heap.get? b = some ob → h2.get? b = some ob := fun b ob hb e => by
      have hb : b ≠ it := fun z => hb (List.mem_singleton.mpr z)
      rw [sb.2 b hb]
      exact hk b ob hb e
    have I1 := I.turnedNew (t' := s.toks) (ch := [it]) kept hf (Nat.le_refl _) new
    refine ⟨.ref s.heap.objs.size, _, I1, rfl, ⟨e, _, he, rfl, I.hok.fresh (Nat.le_refl _), rfl⟩, ⟨en.key, en.val, ?_⟩, fun b hb => ?_⟩
    · rw [← hsz]
      exact hi2
    · obtain rfl : b = it := List.mem_singleton.mp hb
      rw [upd_ne (Nat.ne_of_lt hlt)]
      exact fit.1
  done := by
    intro X hP hw hK hc i pins s σ H E I hf st hg
    subst hP hw hK
    obtain ⟨a, b, hit⟩ := st
    obtain ⟨f0, f1, f2, f3, f4, f5⟩ := hf it (List.mem_singleton.mpr rfl)
    obtain ⟨hgd, hs, hx, ents', ep', hdt, pr, hsz⟩ := frz_ext I hg.1
    obtain ⟨rfl, rfl⟩ := dict_ep hod hdt
    rw [← hsz] at hit
    refine wpAny_pyNext_items_end_raw (I.ok.hd hc) hit ⟨o, hgd, hx, hod⟩ (by have := hg.2; omega) fun h' eb => ?_
    exact ⟨rfl, I.turned (t' := s.toks) (fun b ob hb e => eb b ob hb e) f0 f1 f3 f4 f5⟩
  self := fun A i s Q E ⟨_, _, e⟩ h => PySem.W.kcp_self e h
def itmD (q : D × D) : D := .tup [q.1, q.2]
/-- the turns of a locked dict's items -/
theorem walk_ity {kvs : List (D × D)} {es : List (NestedKey × V × V)} {d : Addr} {o : Obj} (h : H d = some (.frz o (DicO X.w d es))) (r : KvR X.K m H kvs es) (S : StoR X.K X.w m st H) :
    (∀ (i : Nat) m2 H2 st2, Nx X.K X.w m H m2 H2 st2 → i < (kvs.map itmD).length → (Ity X.w d o es).go i H2 ∧ ∀ x H3, (Ity X.w d o es).yld i H2 x H3 → ∃ d, (kvs.map itmD)[i]? = some d ∧ Nx X.K X.w m2 H2 m2 H3 st2 ∧ Rep X.K m2 H3 d x) ∧
    ∀ (i : Nat) m2 H2 st2, Nx X.K X.w m H m2 H2 st2 → (kvs.map itmD).length ≤ i → (Ity X.w d o es).stop i H2 := by
  refine ⟨fun i m2 H2 st2 n hi => ?_, fun i m2 H2 st2 n hi => ?_⟩
  · have hi' : i < kvs.length := by simpa using hi
    refine ⟨⟨n.fz _ _ _ h, by rw [← kv_get2 r]; exact hi'⟩, fun x H3 y => ?_⟩
    obtain ⟨e, q, he, rfl, hq, rfl⟩ := y
    obtain ⟨p, hp, z1, z2, z3, z4⟩ := Paired.getR r.pr he
    have n2 : Nx X.K X.w m2 H2 m2 (upd H2 q (.tup [e.2.1, e.2.2])) st2 := .new n.sto hq
    refine ⟨itmD p, by rw [List.getElem?_map, hp]; rfl, n2, ⟨q, _, rfl, .of upd_same, _, _, rfl, ?_, _, _, rfl, ?_, rfl⟩⟩
    · exact (z3.mono S n.ext n.fr).mono n.sto n2.ext n2.fr
    · exact (z4.mono S n.ext n.fr).mono n.sto n2.ext n2.fr
  · exact ⟨n.fz _ _ _ h, by rw [← kv_get2 r]; simpa using hi⟩
/-- a dict that is not locked yet -/
theorem walk_dity {pins : List (Addr × Obj)} {σ : L2.St} {s : Shared} {kvs : List (D × D)} {es : List (NestedKey × V × V)} {d : Addr} {i : Nat} (I : L2.Inv X pins σ H s) (S : StoR X.K X.w m st H) (hm : m[i]? = some d) (hi : st[i]? = some (.dic kvs)) (h : H d = some (DicO X.w d es)) (r : KvR X.K m H kvs es) :
    ∃ od, L2.Inv X pins σ (upd H d (.frz od (DicO X.w d es))) s ∧ Walked X m H (Ity X.w d od es) (kvs.map itmD) (.dic i) st m (upd H d (.frz od (DicO X.w d es))) (fun H2 => upd H2 d (DicO X.w d es)) := by
  obtain ⟨od, I1, wx⟩ := walk_dic I S hm hi h r
  have hd := List.mem_of_getElem? hm
  have nf : NoFz H d := fun o u e => by rw [h] at e; cases e
  have hlk : Dep.lock st (.dic i) = st.set i (.dicL kvs) := by simp [Dep.lock, hi]
  have n1 : Nx X.K X.w m H m (upd H d (.frz od (DicO X.w d es))) (st.set i (.dicL kvs)) := .put S hm nf ⟨od, es, upd_same, r.mono S .refl (fr_set hd)⟩
  have w := walk_ity upd_same (r.mono S .refl (fr_set hd)) n1.sto
  exact ⟨od, I1, wx.nx, wx.ok, fun j m2 H2 st2 n _ hj => w.1 j m2 H2 st2 n hj, fun j m2 H2 st2 n _ hj => w.2 j m2 H2 st2 n hj, wx.un⟩
/-- the walk over a dict of these entries, from the view on -/
theorem items_run {pins : List (Addr × Obj)} {σ : L2.St} {s : Shared} {H : Hp} {R : L2.It → Hp → Prop} {d : Addr} {od : Obj} {es : List (NestedKey × V × V)} {elts : List Expr} {kk : Nat} {tpos : Pos} (I : L2.Inv X pins σ H s) (h : H d = some (.frz od (DicO X.w d es))) (q : R (Ity X.w d od es) H) :
    wpAny (model X.prog X.w) X.A (pyIter (.ref s.heap.objs.size)) (PIE X pins σ (.Tuple elts kk tpos) R) X.xe { s with heap := s.heap.push { cls := .type "dict_items", data := .fields #[.ref d] } } := by
  obtain ⟨hgd, hs, hx, ents, ep, hdt, pr, hsz⟩ := frz_ext I h
  have I2 : L2.Inv X pins σ H { s with heap := s.heap.push { cls := .type "dict_items", data := .fields #[.ref d] } } := I.kept (t' := s.toks) fun b ob q => Heap.get?_push_of_some _ q
  refine wpAny_pyIter_items_raw (d := d) (es := ents) (ep := ep) ⟨_, Heap.get?_push_size _ rfl, rfl, rfl⟩ ⟨od, Heap.get?_push_of_some _ hgd, hx, hdt⟩ ?_
  refine pi_one (tk := s.toks) I2 _ (turn_ity _ hdt) ⟨.none, .none, ?_⟩ q
  rw [← hsz]
  exact Heap.get?_push_size _ rfl
theorem jp_items {elts : List Expr} {kk : Nat} {tpos apos cpos : Pos} {e : Expr} {fe : Env → Store → R Sq} {f : Env → Store → R (List D × Dep)} (hf : f = fun env st => (fe env st).bind fun x st => match x with
    | .val (.obj i) => match st[i]? with
      | some (.dic kvs) => .ok (kvs.map fun q => .tup [q.1, q.2], .dic i) st
      | some (.dicL kvs) => .ok (kvs.map fun q => .tup [q.1, q.2], .free) st
      | _ => .no
    | _ => .no) (he : PE X e (tX X fe)) (hb : noCallH e = true) (hl : (apos.endLine == cpos.line) = true) : PI X (.Tuple elts kk tpos) (.Call (.Attribute e "items" apos) [] [] cpos) (tI X f) := by
  subst hf
  refine ⟨fun pins s σ H R I h => ?_⟩
  obtain ⟨env, m, st, E, S, o⟩ := h
  have base : ∀ {Q : VK}, (Out X σ m H (fe env st) (KQ X Q m H)) → tX X fe σ H Q := fun q => ⟨env, m, st, E, S, q⟩
  have nodict : ∀ {s1 : Shared} {d : Addr} {o : Obj}, s1.heap.get? d = some o → o.ExactDict → ∀ a, Value.ref d = .ref a → ∃ ob, s1.heap.get? a = some ob ∧ ob.dict = none := fun h1 h2 a e => by
    cases e
    exact ⟨_, h1, h2.2.1⟩
  refine wpAny_Call_method (T := "dict") (id := "dict.items") (base_plain hb) rfl hl PySem.F.plainAttrs_dict PySem.F.slot_dict_items PySem.F.type_dict_items ?_
  dsimp only at o
  cases hq : fe env st with
  | no => rw [hq] at o; exact o.elim
  | ex x fs st' =>
    rw [hq] at o
    exact thn (he.run pins s σ H (fun _ _ => False) I (base (by rw [hq]; exact o))) fun u s1 ⟨v, H1, I1, rv, z⟩ => z.elim
  | ok x st1 =>
  rw [hq] at o
  simp only [Eng.R.bind] at o
  cases x with
  | fresh => exact o.elim
  | val dd =>
  cases dd with
  | obj i => ?_
  | _ => exact o.elim
  dsimp only at o
  refine thn (he.run pins s σ H (fun v H1 => ∃ m1, Nx X.K X.w m H m1 H1 st1 ∧ Rep X.K m1 H1 (.obj i) v) I (base (by rw [hq]; exact fun v m1 H1 n r fr => ⟨m1, n, r⟩))) fun u s1 ⟨v, H1, I1, rv, m1, n, a, ev, hm⟩ => ?_
  subst ev
  obtain rfl : u = Value.ref a := rv
  cases hi : st1[i]? with
  | none => rw [hi] at o; exact o.elim
  | some oo =>
  rw [hi] at o
  cases oo with
  | dic kvs =>
    have o : KI X R m H (kvs.map itmD, .dic i) st1 := o
    obtain ⟨es, ha, kv⟩ := n.sto.at_ i a _ hm hi
    obtain ⟨od, I2, w⟩ := walk_dity I1 n.sto hm hi ha kv
    obtain ⟨hgd, hs, hx, ents, ep, hdt, pr, hsz⟩ := frz_ext I2 upd_same
    refine ⟨⟨od, hgd, hx.1⟩, nodict hgd hx, ?_⟩
    refine method_meetsIn PySem.F.slot_dict_items PySem.F.entry_dict_items rfl (PySem.evalArgs_none ⟨rfl, ⟨od, hgd, hx.1⟩, PySem.F.args_dict_items_1 _, _, meets_dict_items_raw a hs, ⟨ents, ep, od, hgd, hx, hdt⟩, ?_⟩)
    exact items_run I2 upd_same (o _ m1 _ _ ⟨n.trans w.nx, w.ok, w.go, w.stop, fun m2 H2 st2 st3 n2 e => ⟨n.trans (w.un m2 H2 st2 st3 n2 e).1, (w.un m2 H2 st2 st3 n2 e).2⟩⟩)
  | dicL kvs =>
    have o : KI X R m H (kvs.map itmD, .free) st1 := o
    obtain ⟨od, es, ha, kv⟩ := n.sto.at_ i a _ hm hi
    obtain ⟨hgd, hs, hx, ents, ep, hdt, pr, hsz⟩ := frz_ext I1 ha
    have wf := walk_ity ha kv n.sto
    have w := Dep.free_un (xs := kvs.map itmD) (J := Ity X.w a od es) (.refl n.sto) wf.1 wf.2
    refine ⟨⟨od, hgd, hx.1⟩, nodict hgd hx, ?_⟩
    refine method_meetsIn PySem.F.slot_dict_items PySem.F.entry_dict_items rfl (PySem.evalArgs_none ⟨rfl, ⟨od, hgd, hx.1⟩, PySem.F.args_dict_items_1 _, _, meets_dict_items_raw a hs, ⟨ents, ep, od, hgd, hx, hdt⟩, ?_⟩)
    exact items_run I1 ha (o _ m1 _ _ ⟨n.trans w.nx, w.ok, w.go, w.stop, fun m2 H2 st2 st3 n2 e => ⟨n.trans (w.un m2 H2 st2 st3 n2 e).1, (w.un m2 H2 st2 st3 n2 e).2⟩⟩)
  | _ => exact o.elim
end
end Eng
/-! T1: enumerate of a tuple or a list, zip of two tuples. -/
namespace Eng
open PySem PySem.Spec PyProof.Rows L2 RZ
set_option maxHeartbeats 1000000 in
theorem meets_enumerate_new1 {v : Value} {o : Obj} {Hh : Heap → Prop} (B : Begins v o Hh) :
    Meets (Builtin.«enumerate.__new__» ⟨[.type "enumerate", v], []⟩) (fun _ R s => Hh s.heap ∧
      R (.ok (.ret (.ref (s.heap.push o).objs.size))) { s with heap := (s.heap.push o).push { cls := .type "enumerate", data := .fields #[.none, .bool false, .ref s.heap.objs.size, rawInt 0, .none, .none] } }) :=
  .of_wp fun prog w A R s h => by
    obtain ⟨hp, g, d, tk, os⟩ := s; obtain ⟨h1, h⟩ := h
    have hsub := sub_enumerate
    have q1 : ∀ {A' : Around} {E : Value → Shared → Prop} {Q : Value → Shared → Prop}, Q (.ref hp.objs.size) ⟨hp.push o, g, d, tk, os⟩ → wpAny (model prog w) A' (pyIter v) Q E ⟨hp, g, d, tk, os⟩ :=
      fun q => B.iter prog w _ _ ⟨hp, g, d, tk, os⟩ _ h1 q
    wp_walk using q1
    refine wpAny_stack_any fun st => wpAny_pure ?_
    split
    · rename_i c _ _ _ _ _
      cases (c == Value.type "enumerate")
      · wp_walk using q1
        exact ⟨_, rfl, h⟩
      · wp_walk using q1
        exact ⟨_, rfl, h⟩
    · wp_walk using q1
      exact ⟨_, rfl, h⟩
section
variable {prog : Program} {w : World} {A : Around} {E : Value → Shared → Prop} {s : Shared}
theorem enum_begins1 {v : Value} {o : Obj} {Hh : Heap → Prop} {Q : Value → Shared → Prop} (B : Begins v o Hh) (h1 : Hh s.heap)
    (h : ∀ h', IsEnum h' (s.heap.objs.size + 1) s.heap.objs.size 0 .none → h'.get? s.heap.objs.size = some o → h'.objs.size = s.heap.objs.size + 2 →
      (∀ b o, s.heap.get? b = some o → h'.get? b = some o) → Q (.ref (s.heap.objs.size + 1)) { s with heap := h' }) :
    wpAny (model prog w) A (call (.type "enumerate") [v]) Q E s := by
  refine callType_new F.called_enumerate (by decide) (F.typeCall_enumerate_1 _) (F.newCall_enumerate_1 _) (fun obj => F.args_object_init_2 obj _) F.entry_enumerate_new
    (meets_enumerate_new1 B) ⟨h1, ?_⟩
  have hz : (s.heap.push o).objs.size = s.heap.objs.size + 1 := Heap.size_push ..
  show _ ∧ _
  rw [hz]
  have he : IsEnum ((s.heap.push o).push { cls := .type "enumerate", data := .fields #[.none, .bool false, .ref s.heap.objs.size, rawInt 0, .none, .none] }) (s.heap.objs.size + 1) s.heap.objs.size 0 .none := by
    have := Heap.get?_push_size (s.heap.push o) (o := { cls := .type "enumerate", data := .fields #[.none, .bool false, .ref s.heap.objs.size, rawInt 0, .none, .none] }) rfl
    rw [hz] at this; exact this
  refine ⟨⟨_, he, rfl⟩, h _ he (Heap.get?_push_of_some _ (Heap.get?_push_size _ B.free)) (by rw [Heap.size_push, hz]) fun b o x => Heap.get?_push_of_some _ (Heap.get?_push_of_some _ x)⟩
end
/-- the tuple at a, each item in a new pair -/
def IteT (K : PySem.W.Frag) (a : Addr) (n : Nat) : L2.It :=
  ⟨fun i H => ∃ (xs : List V) (x : V), SqT K H a xs ∧ xs[i]? = some x ∧ xs.length = n, fun i H v H' => ∃ T x, v = .ref T ∧ H T = none ∧ H' = upd H T (.tup [.int (i : Nat), x]) ∧ ∀ xs, SqT K H a xs → xs[i]? = some x, fun i H => ∃ xs : List V, SqT K H a xs ∧ xs.length = n ∧ n ≤ i⟩
theorem turn_enumT {P : Program} {w : World} {K : PySem.W.Frag} {elts : List Expr} {kk : Nat} {tpos : Pos} (a e it : Addr) (n : Nat) :
    Turn P w K (.Tuple elts kk tpos) (IteT K a n) [e, it] e (fun i h => (∃ old, IsEnum h e it ((i : Nat) : Int) old) ∧ h.IsTupleIter it a i ∧ e ≠ it ∧ a ≠ it ∧ a ≠ e ∧ i ≤ n) where
  mem := by simp
  obj := fun i h st b hb => by
    obtain ⟨⟨old, he⟩, ⟨o, ho, hc, hd⟩, _⟩ := st
    have e' : b = e ∨ b = it := by simpa using hb
    rcases e' with z | z
    · rw [z]; exact ⟨_, he, fun v q => nomatch q⟩
    · rw [z]; exact ⟨o, ho, fun v q => by rw [hd] at q; cases q⟩
  keep := fun i h h' st k => let ⟨⟨old, he⟩, hi, hne⟩ := st; ⟨⟨old, k e (by simp) _ he⟩, hi.at fun o q => k it (by simp) o q, hne⟩
  item := by
    intro X hP hw hK hc i pins s σ H E I hf st hg
    subst hP hw hK
    obtain ⟨⟨old, he⟩, hit, hne, hai, hae, hin0⟩ := st
    obtain ⟨xs, x, hq, hx, hxn⟩ := hg
    obtain ⟨its, rv, p, hz⟩ := I.tuple hq
    obtain ⟨u, hu, ru⟩ := rv.get hx
    have hel : e < s.heap.objs.size := Heap.lt_size he
    have hil : it < s.heap.objs.size := by obtain ⟨_, q, _⟩ := hit; exact Heap.lt_size q
    have hin : i < its.toArray.size := by
      have := (List.getElem?_eq_some_iff.mp hu).1
      simpa using this
    refine wpAny_pyNext_enum_itemC (c := (i : Int)) (Draws.tuple (A := X.A.in1) (I.ok.hd hc) it a hai its.toArray) he ⟨hit, p⟩ hin hne (by simp [hne, Ne.symm hae]) fun u2 h' tk hu2 ho hit' hT hsz hk => ?_
    obtain rfl : u2 = u := by
      have : its.toArray[i]? = some u := by simpa using hu
      rw [this] at hu2
      exact (Option.some.inj hu2).symm
    refine ⟨_, rfl, wpAny_letOwnedTupleGo_enum (s := { s with heap := h', toks := tk + 1 }) ho fun h'' he' sb => ?_⟩
    have hT2 : h''.get? s.heap.objs.size = some { cls := .type "tuple", data := .seq #[.int i tk, u2] } := (sb.2 _ (Nat.ne_of_gt hel)).trans hT
    have new : ObjOk X.prog X.w (upd H s.heap.objs.size (.tup [.int (i : Nat), x])) h'' s.heap.objs.size (.tup [.int (i : Nat), x]) :=
      ⟨by show 2 ≤ sizeLine; decide, [.int i tk, u2], .cons ⟨_, rfl⟩ (.cons ru .nil), ⟨_, hT2, rfl, _, rfl⟩⟩
    have I1 : L2.Inv X pins σ (upd H s.heap.objs.size (.tup [.int (i : Nat), x])) { s with heap := h'', toks := tk + 1 } :=
      I.turnedNew (ch := [e, it]) (fun b ob hb q => (sb.2 b (fun z => hb (by simp [z]))).trans (hk b ob (fun z => hb (by simp [z])) (fun z => hb (by simp [z])) q)) hf (Nat.le_refl _) new
    refine ⟨.ref s.heap.objs.size, _, I1, rfl, ⟨_, x, rfl, I.hok.fresh (Nat.le_refl _), rfl, fun ys hy => by rw [I.tuple_inj hy hq]; exact hx⟩, ⟨⟨u2, ?_⟩, hit'.1.at fun o q => (sb.2 it (Ne.symm hne)).trans q, hne, hai, hae, by have := (List.getElem?_eq_some_iff.mp hx).1; omega⟩, fun b hb => ?_⟩
    · have e1 : ((i + 1 : Nat) : Int) = (i : Int) + 1 := by omega
      rw [e1]; exact he'
    · have hb' : b < s.heap.objs.size := by
        have e' : b = e ∨ b = it := by simpa using hb
        rcases e' with z | z
        · rw [z]; exact hel
        · rw [z]; exact hil
      rw [upd_ne (Nat.ne_of_lt hb')]
      exact (hf b hb).1
  done := by
    intro X hP hw hK hc i pins s σ H E I hf st hg
    subst hP hw hK
    obtain ⟨⟨old, he⟩, hit, hne, hai, hae, hin0⟩ := st
    obtain ⟨xs, hq, hx, hxi⟩ := hg
    obtain ⟨its, rv, p, hz⟩ := I.tuple hq
    obtain ⟨f0, f1, f2, f3, f4, f5⟩ := hf it (by simp)
    have hl := rv.length
    obtain rfl : i = its.toArray.size := by simp; omega
    exact wpAny_pyNext_enum_endD (Draws.tuple (A := X.A.in1) (I.ok.hd hc) it a hai its.toArray) he ⟨hit, p⟩ fun h' eb => ⟨rfl, I.turned (t' := s.toks) (fun b o hb q => eb b o hb q) f0 f1 f3 f4 f5⟩
  self := fun A i s Q E st h => let ⟨⟨_, he⟩, _⟩ := st; wpAny_pyIter_enum he h
section
variable {X : Cx} {m : List Addr} {H : Hp} {st : Store}
theorem pi_enumA {e : Expr} {ta : TA} {p pos tpos : Pos} {elts : List Expr} {kk : Nat} (hg : Gl X "enumerate") (hm : X.mg "enumerate" = none) (ha : PA X [e] ta) (hs : starEach [e] X.env = [(false, eval e X.env)]) :
    PI X (.Tuple elts kk tpos) (.Call (.Name "enumerate" p) [e] [] pos) (fun σ H R => ta σ H fun vs H1 => ∃ a, vs = [.ref a] ∧ ((∃ xs, SqL X.K H1 a xs ∧ R (Ite X.K a) H1) ∨ ∃ xs, SqT X.K H1 a xs ∧ R (IteT X.K a xs.length) H1)) := by
  refine ⟨fun pins s σ H R I h => ?_⟩
  refine Call_ (ld_blt I hg hm boot_enumerate (PyProof.Rows.callWith_type1 (thn (ha.run pos pins s σ H _ I h) fun us s1 ⟨vs, H1, I1, r1, q1⟩ => ?_) hs rfl))
  obtain ⟨a, ex, q1⟩ := q1
  subst ex
  cases r1 with
  | cons r rr =>
    cases rr
    cases r
    have fr : ∀ b, b ∈ [s1.heap.objs.size + 1, s1.heap.objs.size] → FpOk X pins H1 b := fun b hb => by
      have e' : b = s1.heap.objs.size + 1 ∨ b = s1.heap.objs.size := by simpa using hb
      have hle : s1.heap.objs.size ≤ b := by
        rcases e' with z | z
        · rw [z]; exact Nat.le_add_right _ _
        · rw [z]; exact Nat.le_refl _
      exact I1.fpOk hle (I1.hok.fresh hle)
    rcases q1 with ⟨xs, hq, q⟩ | ⟨xs, hq, q⟩
    · obtain ⟨its, rv, p', hz⟩ := I1.list hq
      refine call_enumerate_list p'.isList fun h' he hit hsz hk => wpAny_pyIter_enum he ?_
      have I2 : L2.Inv X pins σ H1 { s1 with heap := h' } := I1.kept (t' := s1.toks) hk
      exact ⟨s1.heap.objs.size + 1, [s1.heap.objs.size + 1, s1.heap.objs.size], _, _, H1, rfl, I2, turn_enum a (s1.heap.objs.size + 1) s1.heap.objs.size, ⟨⟨.none, he⟩, hit, Nat.succ_ne_self _⟩, fr, q⟩
    · obtain ⟨its, rv, p', hz⟩ := I1.tuple hq
      have hlt : a < s1.heap.objs.size := by obtain ⟨_, q, _⟩ := p'; exact Heap.lt_size q
      refine enum_begins1 (begins_tuple a its.toArray) p' fun h' he hit hsz hk => wpAny_pyIter_enum he ?_
      have I2 : L2.Inv X pins σ H1 { s1 with heap := h' } := I1.kept (t' := s1.toks) hk
      exact ⟨s1.heap.objs.size + 1, [s1.heap.objs.size + 1, s1.heap.objs.size], _, _, H1, rfl, I2, turn_enumT a (s1.heap.objs.size + 1) s1.heap.objs.size xs.length, ⟨⟨.none, he⟩, ⟨_, hit, rfl, rfl⟩, Nat.succ_ne_self _, Nat.ne_of_lt hlt, Nat.ne_of_lt (Nat.lt_succ_of_lt hlt), Nat.zero_le _⟩, fr, q⟩
theorem enumD_len : ∀ (xs : List D) (n : Int), (enumD n xs).length = xs.length
  | [], _ => rfl
  | x :: xs, n => by rw [enumD, List.length_cons, List.length_cons, enumD_len xs]
theorem enumD_get : ∀ (xs : List D) (n : Int) (i : Nat) (d : D), xs[i]? = some d → (enumD n xs)[i]? = some (.tup [.int (n + i), d])
  | [], _, _, _, h => by simp at h
  | x :: xs, n, 0, d, h => by
    simp at h
    subst h
    simp [enumD]
  | x :: xs, n, i + 1, d, h => by
    rw [List.getElem?_cons_succ] at h
    rw [enumD, List.getElem?_cons_succ, enumD_get xs (n + 1) i d h]
    congr 4
    omega
/-- a new pair of these -/
theorem pair_new {m2 : List Addr} {H2 : Hp} {st2 : Store} {T : Addr} {d e : D} {x y : V} (S2 : StoR X.K X.w m2 st2 H2) (hT : H2 T = none) (rx : Rep X.K m2 H2 d x) (ry : Rep X.K m2 H2 e y) :
    Nx X.K X.w m2 H2 m2 (upd H2 T (.tup [x, y])) st2 ∧ Rep X.K m2 (upd H2 T (.tup [x, y])) (.tup [d, e]) (.ref T) := by
  have n2 : Nx X.K X.w m2 H2 m2 (upd H2 T (.tup [x, y])) st2 := .new S2 hT
  exact ⟨n2, T, _, rfl, .of upd_same, _, _, rfl, rx.mono S2 n2.ext n2.fr, _, _, rfl, ry.mono S2 n2.ext n2.fr, rfl⟩
theorem walk_en {dep : Dep} {xs : List D} {a : Addr} (hl : dep.lock st = st) (hok : dep.ok st = true) (hu : ∀ s : Store, dep.unlock s = some s) (S : StoR X.K X.w m st H)
    (stay : ∀ m2 H2 st2, Nx X.K X.w m H m2 H2 st2 → dep.ok st2 = true → ∃ vs, SqL X.K H2 a vs ∧ Reps X.K m2 H2 xs vs) : Walked X m H (Ite X.K a) (enumD 0 xs) dep st m H id := by
  refine ⟨by rw [hl]; exact .refl S, by rw [hl]; exact hok, fun j m2 H2 st2 n ok hj => ?_, fun j m2 H2 st2 n ok hj => ?_, fun m2 H2 st2 st3 n e => ?_⟩
  · rw [enumD_len] at hj
    obtain ⟨vs, hq, rs⟩ := stay m2 H2 st2 n ok
    obtain ⟨v, hv, rv⟩ := rs.get (List.getElem?_eq_getElem hj)
    refine ⟨⟨vs, v, hq, hv⟩, fun x H3 y => ?_⟩
    obtain ⟨T, y, rfl, hT, rfl, hy⟩ := y
    have := hy vs hq
    rw [hv] at this
    cases this
    obtain ⟨n2, r2⟩ := pair_new (d := .int (0 + (j : Int))) (x := .int (j : Nat)) n.sto hT (by show V.int _ = V.int _; congr 1; omega) rv
    exact ⟨_, enumD_get xs 0 j _ (List.getElem?_eq_getElem hj), n2, r2⟩
  · rw [enumD_len] at hj
    obtain ⟨vs, hq, rs⟩ := stay m2 H2 st2 n ok
    exact ⟨vs, hq, by rw [rs.length]; exact hj⟩
  · rw [hu] at e
    cases e
    exact ⟨n, Re.refl, fun d v r => r, fun a o _ h => h⟩
theorem walk_enT {xs : List D} {a : Addr} (S : StoR X.K X.w m st H) (stay : ∀ m2 H2 st2, Nx X.K X.w m H m2 H2 st2 → ∃ vs, SqT X.K H2 a vs ∧ Reps X.K m2 H2 xs vs) : Walked X m H (IteT X.K a xs.length) (enumD 0 xs) .free st m H id := by
  refine Dep.free_un (.refl S) (fun j m2 H2 st2 n hj => ?_) fun j m2 H2 st2 n hj => ?_
  · rw [enumD_len] at hj
    obtain ⟨vs, hq, rs⟩ := stay m2 H2 st2 n
    obtain ⟨v, hv, rv⟩ := rs.get (List.getElem?_eq_getElem hj)
    refine ⟨⟨vs, v, hq, hv, rs.length⟩, fun x H3 y => ?_⟩
    obtain ⟨T, y, rfl, hT, rfl, hy⟩ := y
    have := hy vs hq
    rw [hv] at this
    cases this
    obtain ⟨n2, r2⟩ := pair_new (d := .int (0 + (j : Int))) (x := .int (j : Nat)) n.sto hT (by show V.int _ = V.int _; congr 1; omega) rv
    exact ⟨_, enumD_get xs 0 j _ (List.getElem?_eq_getElem hj), n2, r2⟩
  · rw [enumD_len] at hj
    obtain ⟨vs, hq, rs⟩ := stay m2 H2 st2 n
    exact ⟨vs, hq, rs.length, hj⟩
/-- enumerate(e) -/
theorem jp_enum {elts : List Expr} {kk : Nat} {tpos p pos : Pos} {e : Expr} {fe : Env → Store → R Sq} {f : Env → Store → R (List D × Dep)} (hf : f = fun env st => (fe env st).bind fun x st => enumV x st) (hg : Gl X "enumerate") (hm : X.mg "enumerate" = none) (hs : noStar e = true) (he : PE X e (tX X fe)) :
    PI X (.Tuple elts kk tpos) (.Call (.Name "enumerate" p) [e] [] pos) (tI X f) := by
  subst hf
  refine ⟨fun pins s σ H R I h => ?_⟩
  refine (pi_enumA (elts := elts) (kk := kk) (tpos := tpos) hg hm (pa_cons he pa_nil (star_plain hs)) (star_plain hs)).run pins s σ H R I ?_
  obtain ⟨env, m, st, E, S, o⟩ := h
  refine ⟨env, m, st, E, S, (o.bind S mnI).imp fun x st1 k v m1 H1 n r fr => ?_⟩
  have k := k m1 H1 n
  cases x with
  | fresh xs =>
    obtain ⟨a, vs, rfl, ha, hm, rs⟩ := r
    have w := walk_en (X := X) (dep := .free) (xs := xs) (a := a) rfl rfl (fun _ => rfl) n.sto fun m2 H2 st2 n2 _ => ⟨vs, .of (n2.fr a _ ha hm), rs.mono n.sto n2.ext n2.fr⟩
    exact ⟨a, rfl, .inl ⟨vs, .of ha, k _ m1 H1 id w⟩⟩
  | val d =>
  cases d with
  | tup xs =>
    obtain ⟨a, vs, rfl, ha, rs⟩ := r
    have w := walk_enT (X := X) (xs := xs) (a := a) n.sto fun m2 H2 st2 n2 => ⟨vs, SqT.fr n.sto n2.fr ha, rs.mono n.sto n2.ext n2.fr⟩
    exact ⟨a, rfl, .inr ⟨vs, ha, by rw [rs.length]; exact k _ m1 H1 id w⟩⟩
  | rol xs =>
    obtain ⟨a, vs, rfl, ha, rs⟩ := r
    have w := walk_en (X := X) (dep := .free) (xs := xs) (a := a) rfl rfl (fun _ => rfl) n.sto fun m2 H2 st2 n2 _ => ⟨vs, (RolAt.fr n.sto n2.fr ha).seq, rs.mono n.sto n2.ext n2.fr⟩
    exact ⟨a, rfl, .inl ⟨vs, ha.seq, k _ m1 H1 id w⟩⟩
  | obj i =>
    unfold enumV at k
    dsimp only at k
    cases hi : st1[i]? with
    | none => rw [hi] at k; exact k.elim
    | some oo =>
    rw [hi] at k
    cases oo with
    | lst xs =>
      obtain ⟨a, rfl, hm⟩ := r
      obtain ⟨vs, ha, rs⟩ := n.sto.at_ i a _ hm hi
      have w := walk_en (X := X) (dep := .lst i xs) (xs := xs) (a := a) (st := st1) rfl (by simp [Dep.ok, hi]) (fun _ => rfl) n.sto fun m2 H2 st2 n2 ok => by
        simp only [Dep.ok] at ok
        split at ok
        · next ys hy =>
          have := of_decide_eq_true ok
          subst this
          obtain ⟨vs, h1, h2⟩ := n2.sto.at_ i a _ (n2.ext.get hm) hy
          exact ⟨vs, .of h1, h2⟩
        · cases ok
      exact ⟨a, rfl, .inl ⟨vs, .of ha, k _ m1 H1 id w⟩⟩
    | _ => exact k.elim
  | _ => exact k.elim
/-! zip of two tuples -/
theorem zipD_get : ∀ (xs ys : List D) (i : Nat) (d e : D), xs[i]? = some d → ys[i]? = some e → (zipD xs ys)[i]? = some (.tup [d, e])
  | [], _, _, _, _, h, _ => by simp at h
  | _ :: _, [], _, _, _, _, h => by simp at h
  | x :: xs, y :: ys, 0, d, e, h, h2 => by
    simp at h h2
    subst h h2
    simp [zipD]
  | x :: xs, y :: ys, i + 1, d, e, h, h2 => by
    rw [List.getElem?_cons_succ] at h h2
    rw [zipD, List.getElem?_cons_succ, zipD_get xs ys i d e h h2]
theorem zipD_len : ∀ (xs ys : List D), (zipD xs ys).length = min xs.length ys.length
  | [], _ => by simp [zipD]
  | _ :: _, [] => by simp [zipD]
  | x :: xs, y :: ys => by
    rw [zipD, List.length_cons, zipD_len xs ys, List.length_cons, List.length_cons]
    omega
theorem jp_zip {elts : List Expr} {kk : Nat} {tpos p pos : Pos} {ea eb : Expr} {fa fb : Env → Store → R Sq} {f : Env → Store → R (List D × Dep)} (hf : f = fun env st => (fa env st).bind fun x st => (fb env st).bind fun y st => zipV x y st) (hg : Gl X "zip") (hm : X.mg "zip" = none) (hs : noStar ea = true) (hs2 : noStar eb = true) (ha : PE X ea (tX X fa)) (hb : PE X eb (tX X fb)) :
    PI X (.Tuple elts kk tpos) (.Call (.Name "zip" p) [ea, eb] [] pos) (tI X f) := by
  subst hf
  refine ⟨fun pins s σ H R I h => ?_⟩
  refine (pi_zipA (elts := elts) (kk := kk) (tpos := tpos) hg hm (pa_cons ha (pa_cons hb pa_nil (star_plain hs2)) (star_plain hs)) (star_plain hs) (by rw [star_plain hs2]; rfl)).run pins s σ H R I ?_
  obtain ⟨env, m, st, E, S, o⟩ := h
  refine ⟨env, m, st, E, S, (o.bind S mnI).imp fun x st1 k v m1 H1 n r fr => ?_⟩
  have k := k m1 H1 n
  refine ⟨env, m1, st1, E.mono S n.ext n.fr, n.sto, (k.bind n.sto mnI).imp fun y st2 k2 u m2 H2 n2 r2 fr2 => ?_⟩
  have k2 := k2 m2 H2 n2
  cases x with
  | fresh => exact k2.elim
  | val d =>
  cases d with
  | tup xs => ?_
  | _ => exact k2.elim
  cases y with
  | fresh => exact k2.elim
  | val d =>
  cases d with
  | tup ys => ?_
  | _ => exact k2.elim
  obtain ⟨a, vs, rfl, ha, rs⟩ := r
  obtain ⟨b, us, rfl, hb, rs2⟩ := r2
  have ha2 := SqT.fr n.sto n2.fr ha
  have rs' := rs.mono n.sto n2.ext n2.fr
  refine ⟨a, b, vs, us, rfl, .inr ⟨ha2, hb, k2 _ m2 H2 id ?_⟩⟩
  refine Dep.free_un (.refl n2.sto) (fun j m3 H3 st3 n3 hj => ?_) fun j m3 H3 st3 n3 hj => ?_
  · have hj' : j < min xs.length ys.length := by rw [← zipD_len]; exact hj
    have hx : j < xs.length := by omega
    have hy : j < ys.length := by omega
    obtain ⟨v1, hv1, rv1⟩ := (rs'.mono n2.sto n3.ext n3.fr).get (List.getElem?_eq_getElem hx)
    obtain ⟨v2, hv2, rv2⟩ := (rs2.mono n2.sto n3.ext n3.fr).get (List.getElem?_eq_getElem hy)
    have qa := SqT.fr n2.sto n3.fr ha2
    have qb := SqT.fr n2.sto n3.fr hb
    refine ⟨⟨vs, us, v1, v2, qa, qb, hv1, hv2⟩, fun x H4 y => ?_⟩
    obtain ⟨T, z1, z2, rfl, hT, rfl, h1, h2⟩ := y
    have e1 := h1 vs qa
    have e2 := h2 us qb
    rw [hv1] at e1
    rw [hv2] at e2
    cases e1
    cases e2
    obtain ⟨n4, r4⟩ := pair_new n3.sto hT rv1 rv2
    exact ⟨_, zipD_get xs ys j _ _ (List.getElem?_eq_getElem hx) (List.getElem?_eq_getElem hy), n4, r4⟩
  · have hj' : min xs.length ys.length ≤ j := by rw [← zipD_len]; exact hj
    refine ⟨vs, us, SqT.fr n2.sto n3.fr ha2, SqT.fr n2.sto n3.fr hb, ?_⟩
    rw [rs.length, rs2.length]
    omega
end
end Eng
/-! T2: dict(zip(s, t)) of two tuples. -/
namespace Eng
open PySem PySem.Spec PyProof.Rows L2 RZ
section
variable {prog : Program} {w : World} {A : Around} {E : Value → Shared → Prop} {s : Shared}
theorem zt_item_held {z TI TO T i1 i2 l1 l2 : Addr} {f : Bool} {oT : Obj} {k1 k2 : Nat} {xs ys : Array Value} {x y : Value} {Q : Value → Shared → Prop} (D : ZipApart z TI TO i1 i2 l1 l2)
    (hz : IsZipHeld s.heap z TI TO T f) (hT : s.heap.get? T = some oT) (hTI : IsPair s.heap TI (.ref i1) (.ref i2))
    (h1 : s.heap.IsTupleIter i1 l1 k1) (h2 : s.heap.IsTupleIter i2 l2 k2) (hl1 : s.heap.IsTuple l1 xs) (hl2 : s.heap.IsTuple l2 ys) (hx : xs[k1]? = some x) (hy : ys[k2]? = some y)
    (hQ : ∀ h', IsZipHeld h' z TI TO T true → h'.IsTupleIter i1 l1 (k1 + 1) → h'.IsTupleIter i2 l2 (k2 + 1) → IsPair h' s.heap.objs.size x y → h'.objs.size = s.heap.objs.size + 1 →
      (∀ c o, c ≠ z → c ≠ i1 → c ≠ i2 → s.heap.get? c = some o → h'.get? c = some o) → Q (.ref s.heap.objs.size) { s with heap := h' }) :
    wpAny (model prog w) A (Builtin.«zip.__next__» ⟨[.ref z], []⟩) (fun fin s' => ∃ v, fin = .done (.ret v) ∧ Q v s') E s := by
  show wpAny _ _ (field (.ref z) 2 >>= _) _ _ _
  refine wpAny_bind (wpAny_field hz rfl (x := .bool false) rfl ?_)
  show wpAny _ _ (field (.ref z) 3 >>= _) _ _ _
  refine wpAny_bind (wpAny_field hz rfl (x := .ref TI) rfl ?_)
  refine wpAny_bind (wpAny_seqItems hTI rfl ?_)
  show wpAny _ _ (Builtin.SmallTypes.ownedTupleIsFree (.ref z) >>= _) _ _ _
  refine wpAny_bind (wpAny_tupleHeld_zip hz hT fun h₁ hz₁ hs₁ => ?_)
  simp only [Bool.false_eq_true, if_false]
  refine wpAny_bind ?_
  rw [← Array.forIn_toList]
  simp only [List.forIn_cons, List.forIn_nil]
  refine wpAny_bind (wpAny_bind (wpAny_holding ?_))
  show wpAny _ _ (Builtin.SmallTypes.nextOf (.ref i1) >>= _) _ _ _
  refine wpAny_bind (wpAny_nextOf_tuple_item (s := { s with heap := h₁ }) (h1.extBut hs₁.extBut D.i1z) (hl1.extBut hs₁.extBut D.l1z) hx fun h₂ h1₂ hs₂ => wpAny_pure ?_)
  refine wpAny_pure ?_
  refine wpAny_bind (wpAny_bind (wpAny_holding ?_))
  show wpAny _ _ (Builtin.SmallTypes.nextOf (.ref i2) >>= _) _ _ _
  refine wpAny_bind (wpAny_nextOf_tuple_item (s := { s with heap := h₂ }) ((h2.extBut hs₁.extBut D.i2z).extBut hs₂.extBut D.i12.symm) ((hl2.extBut hs₁.extBut D.l2z).extBut hs₂.extBut D.l2i1) hy fun h₃ h2₃ hs₃ => wpAny_pure ?_)
  refine wpAny_pure (wpAny_pure ?_)
  show wpAny _ _ (newTuple [x, y] >>= _) _ _ _
  refine wpAny_bind (wpAny_newTuple ?_)
  have hsz : h₃.objs.size = s.heap.objs.size := by rw [hs₃.1, hs₂.1, hs₁.1]
  have hz₃ : IsZipHeld h₃ z TI TO T true := hs₃.extBut _ _ D.i2z.symm (hs₂.extBut _ _ D.i1z.symm hz₁)
  have hk : ∀ c o, c ≠ z → c ≠ i1 → c ≠ i2 → s.heap.get? c = some o → h₃.get? c = some o := fun c o c1 c2 c3 e => hs₃.extBut _ _ c3 (hs₂.extBut _ _ c2 (hs₁.extBut _ _ c1 e))
  have h1₃ : h₃.IsTupleIter i1 l1 (k1 + 1) := h1₂.extBut hs₃.extBut D.i12
  refine wpAny_pure ⟨_, rfl, ?_⟩
  show Q (.ref h₃.objs.size) _
  have hp : IsPair (h₃.push { cls := .type "tuple", data := .seq #[x, y] }) h₃.objs.size x y := Heap.get?_push_size _ rfl
  have hz4 : (h₃.push { cls := .type "tuple", data := .seq #[x, y] }).objs.size = h₃.objs.size + 1 := Heap.size_push ..
  rw [hsz] at hp hz4 ⊢
  exact hQ _ (Heap.get?_push_of_some _ hz₃) (h1₃.at fun o e => Heap.get?_push_of_some _ e) (h2₃.at fun o e => Heap.get?_push_of_some _ e) hp hz4 fun c o c1 c2 c3 e => Heap.get?_push_of_some _ (hk c o c1 c2 c3 e)

theorem zt_end_held {z TI TO T i1 i2 l1 l2 : Addr} {f : Bool} {oT : Obj} {k1 k2 : Nat} {xs ys : Array Value} {Q : Fin → Shared → Prop} (hh : A.handled = none) (D : ZipApart z TI TO i1 i2 l1 l2)
    (hz : IsZipHeld s.heap z TI TO T f) (hT : s.heap.get? T = some oT) (hTI : IsPair s.heap TI (.ref i1) (.ref i2))
    (h1 : s.heap.IsTupleIter i1 l1 k1) (h2 : s.heap.IsTupleIter i2 l2 k2) (hl1 : s.heap.IsTuple l1 xs) (hl2 : s.heap.IsTuple l2 ys) (hend : xs[k1]? = none ∨ ys[k2]? = none)
    (hE : ∀ h' e, (∀ c o, c ≠ z → c ≠ i1 → c ≠ i2 → s.heap.get? c = some o → h'.get? c = some o) → (∃ o, h'.get? e = some o ∧ o.cls = .type "StopIteration") → E (.ref e) { s with heap := h' }) :
    wpAny (model prog w) A (Builtin.«zip.__next__» ⟨[.ref z], []⟩) Q E s := by
  show wpAny _ _ (field (.ref z) 2 >>= _) _ _ _
  refine wpAny_bind (wpAny_field hz rfl (x := .bool false) rfl ?_)
  show wpAny _ _ (field (.ref z) 3 >>= _) _ _ _
  refine wpAny_bind (wpAny_field hz rfl (x := .ref TI) rfl ?_)
  refine wpAny_bind (wpAny_seqItems hTI rfl ?_)
  show wpAny _ _ (Builtin.SmallTypes.ownedTupleIsFree (.ref z) >>= _) _ _ _
  refine wpAny_bind (wpAny_tupleHeld_zip hz hT fun h₁ hz₁ hs₁ => ?_)
  simp only [Bool.false_eq_true, if_false]
  refine wpAny_bind ?_
  rw [← Array.forIn_toList]
  simp only [List.forIn_cons, List.forIn_nil]
  refine wpAny_bind (wpAny_bind (wpAny_holding ?_))
  show wpAny _ _ (Builtin.SmallTypes.nextOf (.ref i1) >>= _) _ _ _
  cases hx : xs[k1]? with
  | none =>
    refine wpAny_bind (wpAny_nextOf_tuple_end (s := { s with heap := h₁ }) hh (h1.extBut hs₁.extBut D.i1z) (hl1.extBut hs₁.extBut D.l1z) hx fun h₂ e hs₂ he => ?_)
    exact hE h₂ e (fun c o c1 c2 _ x => hs₂ _ _ c2 (hs₁.extBut _ _ c1 x)) he
  | some x =>
    have hy : ys[k2]? = none := by rcases hend with h | h; rw [hx] at h; cases h; exact h
    refine wpAny_bind (wpAny_nextOf_tuple_item (s := { s with heap := h₁ }) (h1.extBut hs₁.extBut D.i1z) (hl1.extBut hs₁.extBut D.l1z) hx fun h₂ h1₂ hs₂ => wpAny_pure ?_)
    refine wpAny_pure ?_
    refine wpAny_bind (wpAny_bind (wpAny_holding ?_))
    show wpAny _ _ (Builtin.SmallTypes.nextOf (.ref i2) >>= _) _ _ _
    refine wpAny_bind (wpAny_nextOf_tuple_end (s := { s with heap := h₂ }) hh ((h2.extBut hs₁.extBut D.i2z).extBut hs₂.extBut D.i12.symm) ((hl2.extBut hs₁.extBut D.l2z).extBut hs₂.extBut D.l2i1) hy fun h₃ e hs₃ he => ?_)
    exact hE h₃ e (fun c o c1 c2 c3 x => hs₃ _ _ c3 (hs₂.extBut _ _ c2 (hs₁.extBut _ _ c1 x))) he

theorem nx_zt_item_held {z TI TO T i1 i2 l1 l2 : Addr} {f : Bool} {oT : Obj} {k1 k2 : Nat} {xs ys : Array Value} {x y : Value} {Q : Option Value → Shared → Prop} (D : ZipApart z TI TO i1 i2 l1 l2)
    (hz : IsZipHeld s.heap z TI TO T f) (hT : s.heap.get? T = some oT) (hTI : IsPair s.heap TI (.ref i1) (.ref i2))
    (h1 : s.heap.IsTupleIter i1 l1 k1) (h2 : s.heap.IsTupleIter i2 l2 k2) (hl1 : s.heap.IsTuple l1 xs) (hl2 : s.heap.IsTuple l2 ys) (hx : xs[k1]? = some x) (hy : ys[k2]? = some y)
    (hQ : ∀ h', IsZipHeld h' z TI TO T true → h'.IsTupleIter i1 l1 (k1 + 1) → h'.IsTupleIter i2 l2 (k2 + 1) → IsPair h' s.heap.objs.size x y → h'.objs.size = s.heap.objs.size + 1 →
      (∀ c o, c ≠ z → c ≠ i1 → c ≠ i2 → s.heap.get? c = some o → h'.get? c = some o) → Q (some (.ref s.heap.objs.size)) { s with heap := h' }) :
    wpAny (model prog w) A (pyNext (.ref z)) Q E s := by
  have hTy : s.TypeIs (.ref z) "zip" := ⟨_, hz, rfl⟩
  unfold pyNext
  exact wpAny_bind (wpAny_attempt (wpAny_callSpecial?_slot (name := Str.ofString "__next__") hTy F.slot_zip_next
    (wpAny_call_entry F.slot_zip_next hTy F.entry_zip_next
      (zt_item_held D hz hT hTI h1 h2 hl1 hl2 hx hy fun h' a1 a3 a4 a5 a6 a7 => wpAny_pure (hQ h' a1 a3 a4 a5 a6 a7)) (F.args_zip_next_1 _))))
theorem nx_zt_end_held {z TI TO T i1 i2 l1 l2 : Addr} {f : Bool} {oT : Obj} {k1 k2 : Nat} {xs ys : Array Value} {Q : Option Value → Shared → Prop} (hh : A.handled = none) (D : ZipApart z TI TO i1 i2 l1 l2)
    (hz : IsZipHeld s.heap z TI TO T f) (hT : s.heap.get? T = some oT) (hTI : IsPair s.heap TI (.ref i1) (.ref i2))
    (h1 : s.heap.IsTupleIter i1 l1 k1) (h2 : s.heap.IsTupleIter i2 l2 k2) (hl1 : s.heap.IsTuple l1 xs) (hl2 : s.heap.IsTuple l2 ys) (hend : xs[k1]? = none ∨ ys[k2]? = none)
    (hQ : ∀ h', (∀ c o, c ≠ z → c ≠ i1 → c ≠ i2 → s.heap.get? c = some o → h'.get? c = some o) → Q none { s with heap := h' }) : wpAny (model prog w) A (pyNext (.ref z)) Q E s := by
  have hTy : s.TypeIs (.ref z) "zip" := ⟨_, hz, rfl⟩
  unfold pyNext
  refine wpAny_bind (wpAny_attempt (wpAny_callSpecial?_slot (name := Str.ofString "__next__") hTy F.slot_zip_next
    (wpAny_call_entry F.slot_zip_next hTy F.entry_zip_next (zt_end_held hh D hz hT hTI h1 h2 hl1 hl2 hend fun h' e hk he => ?_) (F.args_zip_next_1 _))))
  obtain ⟨o, ho, hc⟩ := he
  refine wpAny_bind (wpAny_isInstance (T := "StopIteration") (b := true) ⟨o, ho, hc⟩ isSubtype_stop ?_)
  exact wpAny_pure (hQ _ hk)

end
section
variable {prog : Program} {w : World}
theorem pair_zipT (z TI TO i1 i2 l1 l2 : Addr) (D : ZipApart z TI TO i1 i2 l1 l2) (xs ys : Array Value) :
    PairArg prog w "zip" z [z, TI, TO, i1, i2, l1, l2] [z, TO, i1, i2] (min xs.size ys.size) (fun i k v => xs[i]? = some k ∧ ys[i]? = some v)
      (fun h => IsZip h z TI TO .none ∧ IsPair h TI (.ref i1) (.ref i2) ∧ (∃ a b, IsPair h TO a b) ∧ h.IsTupleIter i1 l1 0 ∧ h.IsTupleIter i2 l2 0 ∧ h.IsTuple l1 xs ∧ h.IsTuple l2 ys) where
  type := fun s ok => ⟨_, ok.1, rfl⟩
  notDict := by decide
  keep := fun h h' ok hk => by
    obtain ⟨hz, hTI, ⟨a, b, hTO⟩, h1, h2, hl1, hl2⟩ := ok
    exact ⟨hk _ _ hz, hk _ _ hTI, ⟨a, b, hk _ _ hTO⟩, h1.at fun o e => hk _ o e, h2.at fun o e => hk _ o e, hl1.at fun o e => hk _ o e, hl2.at fun o e => hk _ o e⟩
  there := fun h ok b hb => by
    obtain ⟨hz, hTI, ⟨a, c, hTO⟩, ⟨o1, h1, _⟩, ⟨o2, h2, _⟩, ⟨o3, hl1, _⟩, ⟨o4, hl2, _⟩⟩ := ok
    simp only [List.mem_cons, List.not_mem_nil, or_false] at hb
    rcases hb with rfl | rfl | rfl | rfl | rfl | rfl | rfl
    all_goals first | exact ⟨_, hz⟩ | exact ⟨_, hTI⟩ | exact ⟨_, hTO⟩ | exact ⟨_, h1⟩ | exact ⟨_, h2⟩ | exact ⟨_, hl1⟩ | exact ⟨_, hl2⟩
  sub := fun b hb => by simp at hb ⊢; rcases hb with rfl | rfl | rfl | rfl <;> simp
  noKeys := fun A s Q E hA ok h => getAttrOr_miss_zip ok.1 rfl rfl rfl zip_no_keys (by decide +kernel) hA h
  iter := fun A s d Q E hA ok hd hdf h => by
    obtain ⟨hz, hTI, ⟨a, b, hTO⟩, h1, h2, hl1, hl2⟩ := ok
    simp only [List.mem_cons, List.not_mem_nil, or_false, not_or] at hdf
    obtain ⟨dz, dTI, dTO, di1, di2, dl1, dl2⟩ := hdf
    refine wpAny_pyIter_zip hz (h z [z, TO, i1, i2] (fun i h => IsPair h TI (.ref i1) (.ref i2) ∧ h.IsTupleIter i1 l1 i ∧ h.IsTupleIter i2 l2 i ∧ h.IsTuple l1 xs ∧ h.IsTuple l2 ys ∧
      ((IsZip h z TI TO .none ∧ ∃ a b, IsPair h TO a b) ∨ ∃ T f oT, IsZipHeld h z TI TO T f ∧ h.get? T = some oT ∧ T ≠ z ∧ T ≠ i1 ∧ T ≠ i2 ∧ T ≠ d)) s.heap s.toks ?_
      ⟨hTI, h1, h2, hl1, hl2, .inl ⟨hz, a, b, hTO⟩⟩ (fun _ _ e => e) fun b hb => .inl hb)
    exact {
      off := fun hm => by
        simp only [List.mem_cons, List.not_mem_nil, or_false] at hm
        rcases hm with e | e | e | e
        · exact dz e
        · exact dTO e
        · exact di1 e
        · exact di2 e
      frame := fun i h₁ h₂ st hk => by
        obtain ⟨hTI, h1, h2, hl1, hl2, hz⟩ := st
        refine ⟨hk _ _ (Ne.symm dTI) hTI, h1.at fun o e => hk _ o (Ne.symm di1) e, h2.at fun o e => hk _ o (Ne.symm di2) e, hl1.at fun o e => hk _ o (Ne.symm dl1) e, hl2.at fun o e => hk _ o (Ne.symm dl2) e, ?_⟩
        rcases hz with ⟨hz, a, b, hTO⟩ | ⟨T, f, oT, hz, hT, r1, r2, r3, r4⟩
        · exact .inl ⟨hk _ _ (Ne.symm dz) hz, a, b, hk _ _ (Ne.symm dTO) hTO⟩
        · exact .inr ⟨T, f, oT, hk _ _ (Ne.symm dz) hz, hk _ _ r4 hT, r1, r2, r3, r4⟩
      item := fun i s₁ Q₁ E₁ hi st hds hQ => by
        obtain ⟨hTI, h1, h2, hl1, hl2, hz⟩ := st
        have hix : i < xs.size := Nat.lt_of_lt_of_le hi (Nat.min_le_left ..)
        have hiy : i < ys.size := Nat.lt_of_lt_of_le hi (Nat.min_le_right ..)
        have ex := Array.getElem?_eq_getElem hix
        have ey := Array.getElem?_eq_getElem hiy
        have lt : ∀ {c o}, s₁.heap.get? c = some o → s₁.heap.objs.size ≠ c := fun e => Nat.ne_of_gt (Heap.lt_size e)
        have n1 : s₁.heap.objs.size ≠ i1 := let ⟨_, e, _⟩ := h1; lt e
        have n2 : s₁.heap.objs.size ≠ i2 := let ⟨_, e, _⟩ := h2; lt e
        rcases hz with ⟨hz, a, b, hTO⟩ | ⟨T, f, oT, hz, hT, r1, r2, r3, r4⟩
        · refine pyNext_zipT_item D hz hTI hTO h1 h2 hl1 hl2 ex ey fun h' a1 a2 a3 a4 a5 a6 hk => ?_
          exact hQ s₁.heap.objs.size _ _ h' s₁.toks ⟨ex, ey⟩ (.inl ⟨_, a5, rfl, _, rfl⟩)
            ⟨hk _ _ D.TIz D.TITO D.TIi1 D.TIi2 hTI, a3, a4, hl1.at fun o e => hk _ o D.l1z D.l1TO D.l1i1 D.l1i2 e, hl2.at fun o e => hk _ o D.l2z D.l2TO D.l2i1 D.l2i2 e,
              .inr ⟨s₁.heap.objs.size, false, _, a1, a5, lt hz, n1, n2, Nat.ne_of_gt hds⟩⟩
            fun c o hc e => hk c o (fun x => hc (by simp [x])) (fun x => hc (by simp [x])) (fun x => hc (by simp [x])) (fun x => hc (by simp [x])) e
        · refine nx_zt_item_held D hz hT hTI h1 h2 hl1 hl2 ex ey fun h' a1 a3 a4 a5 a6 hk => ?_
          exact hQ s₁.heap.objs.size _ _ h' s₁.toks ⟨ex, ey⟩ (.inl ⟨_, a5, rfl, _, rfl⟩)
            ⟨hk _ _ D.TIz D.TIi1 D.TIi2 hTI, a3, a4, hl1.at fun o e => hk _ o D.l1z D.l1i1 D.l1i2 e, hl2.at fun o e => hk _ o D.l2z D.l2i1 D.l2i2 e,
              .inr ⟨T, true, oT, a1, hk _ _ r1 r2 r3 hT, r1, r2, r3, r4⟩⟩
            fun c o hc e => hk c o (fun x => hc (by simp [x])) (fun x => hc (by simp [x])) (fun x => hc (by simp [x])) e
      done := fun s₁ Q₁ E₁ st hQ => by
        obtain ⟨hTI, h1, h2, hl1, hl2, hz⟩ := st
        have hend : xs[min xs.size ys.size]? = none ∨ ys[min xs.size ys.size]? = none := by
          rcases Nat.le_total xs.size ys.size with h | h
          · exact .inl (Array.getElem?_eq_none (by rw [Nat.min_eq_left h]; exact Nat.le_refl _))
          · exact .inr (Array.getElem?_eq_none (by rw [Nat.min_eq_right h]; exact Nat.le_refl _))
        rcases hz with ⟨hz, a, b, hTO⟩ | ⟨T, f, oT, hz, hT, r1, r2, r3, r4⟩
        · exact pyNext_zipT_end hA D hz hTI hTO h1 h2 hl1 hl2 hend fun h' hk => hQ h' s₁.toks fun c o hc e => hk c o (fun x => hc (by simp [x])) (fun x => hc (by simp [x])) (fun x => hc (by simp [x])) (fun x => hc (by simp [x])) e
        · exact nx_zt_end_held hA D hz hT hTI h1 h2 hl1 hl2 hend fun h' hk => hQ h' s₁.toks fun c o hc e => hk c o (fun x => hc (by simp [x])) (fun x => hc (by simp [x])) (fun x => hc (by simp [x])) e }

end
end Eng
/-! T3: dict(zip(s, t)) of two tuples, as an expression. -/
namespace Eng
open PySem PySem.Spec PyProof.Rows L2 RZ
theorem zip_pairs (P : Program) (w : World) : ∀ {xs ys : List V} {ks : List (Key × V)} {is js : List Value}, xs.zip ys = ks.map (fun kv => (kV kv.1, kv.2)) → Vals xs is → Vals ys js →
    ∃ prs : List (Key × Value), KV ks prs ∧ prs.length = min is.length js.length ∧ ∀ (i : Nat) (k v : Value), is[i]? = some k → js[i]? = some v → ∃ key, prs[i]? = some (key, v) ∧ keyIs key k = true
  | [], ys, ks, is, js, e, r, r2 => by
    cases r
    cases ks with
    | nil => exact ⟨[], .nil, by simp, fun i k v h => by simp at h⟩
    | cons => simp at e
  | x :: xs, [], ks, is, js, e, r, r2 => by
    cases r2
    cases ks with
    | nil => exact ⟨[], .nil, by simp, fun i k v _ h => by simp at h⟩
    | cons => simp at e
  | x :: xs, y :: ys, [], is, js, e, r, r2 => by simp at e
  | x :: xs, y :: ys, kv :: ks, is, js, e, r, r2 => by
    cases r with
    | cons h t =>
    cases r2 with
    | cons h2 t2 =>
    rw [List.zip_cons_cons, List.map_cons] at e
    injection e with e1 e2
    obtain ⟨prs, r3, hl, hp⟩ := zip_pairs P w e2 t t2
    injection e1 with e3 e4
    subst e3 e4
    refine ⟨(kv.1, _) :: prs, .cons ⟨rfl, h2⟩ r3, by simp only [List.length_cons, hl]; omega, fun i k v hk hv => ?_⟩
    cases i with
    | zero =>
      simp at hk hv
      subst hk hv
      exact ⟨kv.1, rfl, kV_is (P := P) (w := w) h⟩
    | succ i =>
      rw [List.getElem?_cons_succ] at hk hv
      rw [List.getElem?_cons_succ]
      exact hp i k v hk hv
section
variable {X : Cx} {m : List Addr} {H : Hp} {st : Store}
def tZipd (X : Cx) (ta : TA) : TE := fun σ H Q => ta σ H fun vs H1 => ∃ a b xs ys, ∃ ks : List (Key × V), vs = [.ref a, .ref b] ∧ SqT X.K H1 a xs ∧ SqT X.K H1 b ys ∧ xs.zip ys = ks.map (fun kv => (kV kv.1, kv.2)) ∧ ∀ p, H1 p = none → Q (.ref p) (upd H1 p (.dK (mergeK [] ks)))
theorem pe_zipd {ea eb : Expr} {ta : TA} {p p2 pos pos2 : Pos} (hcalm : X.calm = true) (hg : Gl X "dict") (hm : X.mg "dict" = none) (hg2 : Gl X "zip") (hm2 : X.mg "zip" = none) (ha : PA X [ea, eb] ta)
    (hs : starEach [ea, eb] X.env = (false, eval ea X.env) :: starEach [eb] X.env) (hpl : (backTo pos2 (starEach [eb] X.env)).any (·.1) = false) :
    PE X (.Call (.Name "dict" p) [.Call (.Name "zip" p2) [ea, eb] [] pos2] [] pos) (tZipd X ta) := by
  refine ⟨fun pins s σ H Q I h => ?_⟩
  refine wpAny_Call_Name_kw (ld_blt I hg hm boot_dict ?_ (by decide) (by decide))
  refine PyProof.Rows.callWith_type1 ?_ rfl rfl
  refine Calls.spliced_cons ?_
  refine wpAny_Call_Name_kw (ld_blt I hg2 hm2 boot_zip ?_ (by decide) (by decide))
  refine PyProof.Rows.callWith_type1 (thn (ha.run pos2 pins s σ H _ I h) fun us s1 ⟨vs, H1, I1, r1, q1⟩ => ?_) hs hpl
  obtain ⟨a, b, xs, ys, ks, ex, hqx, hqy, hz, q⟩ := q1
  subst ex
  cases r1 with
  | cons r rr =>
    cases rr with
    | cons r' rr =>
      cases rr
      cases r
      cases r'
      obtain ⟨its, rv, p1, hl1⟩ := I1.tuple hqx
      obtain ⟨its2, rv2, p2', hl2⟩ := I1.tuple hqy
      have fresh5 : ∀ c, c ∈ [s1.heap.objs.size + 4, s1.heap.objs.size + 3, s1.heap.objs.size, s1.heap.objs.size + 1] → FpOk X pins H1 c := fun c hcm => by
        have e' : c = s1.heap.objs.size + 4 ∨ c = s1.heap.objs.size + 3 ∨ c = s1.heap.objs.size ∨ c = s1.heap.objs.size + 1 := by simpa using hcm
        have hle : s1.heap.objs.size ≤ c := by
          rcases e' with z | z | z | z
          · rw [z]; exact Nat.le_add_right _ _
          · rw [z]; exact Nat.le_add_right _ _
          · rw [z]; exact Nat.le_refl _
          · rw [z]; exact Nat.le_add_right _ _
        exact I1.fpOk hle (I1.hok.fresh hle)
      obtain ⟨o1, ho1, _⟩ := id p1
      obtain ⟨o2, ho2, _⟩ := id p2'
      refine call_zipT (show s1.heap.IsTuple a its.toArray from p1) (show s1.heap.IsTuple b its2.toArray from p2') fun h' hzz hTI hTO h1 h2 hsz hk => ?_
      have I2 : L2.Inv X pins σ H1 { s1 with heap := h' } := I1.kept (t' := s1.toks) hk
      refine Calls.spliced_nil ?_
      obtain ⟨prs, rel, hlp, hpr⟩ := zip_pairs X.prog X.w hz rv rv2
      have D := PySem.W.ktu_apart s1.heap.objs.size a b (Heap.lt_size ho1) (Heap.lt_size ho2)
      have P := pair_zipT (prog := X.prog) (w := X.w) _ _ _ _ _ a b D its.toArray its2.toArray
      have hmin : prs.length ≤ sizeLine := by
        rw [hlp, ← rv.length]
        omega
      refine PySem.call_dict_pairs (knd := mixKind X.prog X.w) (kvs := prs) P (I.ok.hd hcalm) ⟨hzz, hTI, ⟨_, _, hTO⟩, h1, h2, (show s1.heap.IsTuple a its.toArray from p1).at fun o e => hk _ o e, (show s1.heap.IsTuple b its2.toArray from p2').at fun o e => hk _ o e⟩ ⟨by simp [hlp], fun i k v hi => by
        obtain ⟨e1, e2⟩ := hi
        obtain ⟨key, h1, h2⟩ := hpr i k v (by simpa using e1) (by simpa using e2)
        exact ⟨key, h1, h2⟩⟩ (by simp; omega) fun h'' tk hd' k => ?_
      have hm : (h'.objs.size == sysModules) = false := beq_eq_false_iff_ne.mpr (Nat.ne_of_gt I2.big)
      have hlen : (mergeK [] ks).length ≤ sizeLine := by
        refine Nat.le_trans (length_mergeK ks []) ?_
        rw [List.length_nil, Nat.zero_add, rel.length]
        exact hmin
      exact ⟨.ref h'.objs.size, upd H1 h'.objs.size (.dK (mergeK [] ks)), I2.turnedNew (t' := tk) (ch := [s1.heap.objs.size + 4, s1.heap.objs.size + 3, s1.heap.objs.size, s1.heap.objs.size + 1]) (fun c o hb e => k c o hb e) fresh5 (Nat.le_refl _)
        (show ObjOk X.prog X.w _ _ _ (.dK (mergeK [] ks)) from ⟨hlen, hm, merged [] prs, KV.merge rel .nil, hd'⟩), rfl, q _ (I2.hok.fresh (Nat.le_refl _))⟩
theorem repps_zip {K : PySem.W.Frag} : ∀ {xs ys : List D} {vs us : List V}, Reps K m H xs vs → Reps K m H ys us → RepPs K m H (xs.zip ys) (vs.zip us)
  | [], ys, vs, us, r, r2 => by
    obtain rfl := r
    simp only [List.zip_nil_left]
    exact .nil
  | x :: xs, [], vs, us, r, r2 => by
    obtain rfl := r2
    simp only [List.zip_nil_right]
    exact .nil
  | x :: xs, y :: ys, vs, us, ⟨v, vs', e, h1, h2⟩, ⟨u, us', e2, h3, h4⟩ => by
    subst e e2
    simp only [List.zip_cons_cons]
    exact .cons ⟨h1, h3⟩ (repps_zip h2 h4)
theorem je_zipd {ea eb : Expr} {p p2 pos pos2 : Pos} {fa fb f : Env → Store → R Sq} (hf : f = fun env st => (fa env st).bind fun x st => (fb env st).bind fun y st => zdV x y st) (hc : X.calm = true) (hg : Gl X "dict") (hm : X.mg "dict" = none) (hg2 : Gl X "zip") (hm2 : X.mg "zip" = none) (hs : noStar ea = true) (hs2 : noStar eb = true) (ha : PE X ea (tX X fa)) (hb : PE X eb (tX X fb)) :
    PE X (.Call (.Name "dict" p) [.Call (.Name "zip" p2) [ea, eb] [] pos2] [] pos) (tX X f) := by
  subst hf
  refine (pe_re (pe_zipd hc hg hm hg2 hm2 (pa_cons ha (pa_cons hb pa_nil (star_plain hs2)) (star_plain hs)) (star_plain hs) (by rw [star_plain hs2]; rfl))).imp fun σ H Q h => ?_
  obtain ⟨env, m, st, E, S, o⟩ := h
  refine ⟨env, m, st, E, S, (o.bind S mnQ).imp fun x st1 k v m1 H1 n r fr => ?_⟩
  have k := k m1 H1 n
  refine ⟨env, m1, st1, E.mono S n.ext n.fr, n.sto, (k.bind n.sto mnQ).imp fun y st2 k2 u m2 H2 n2 r2 fr2 => ?_⟩
  have k2 := k2 m2 H2 n2
  cases x with
  | fresh => exact k2.elim
  | val d =>
  cases d with
  | tup xs => ?_
  | _ => exact k2.elim
  cases y with
  | fresh => exact k2.elim
  | val d =>
  cases d with
  | tup ys => ?_
  | _ => exact k2.elim
  obtain ⟨a, vs, rfl, ha, rs⟩ := r
  obtain ⟨b, us, rfl, hb, rs2⟩ := r2
  have ha2 := SqT.fr n.sto n2.fr ha
  have rs' := rs.mono n.sto n2.ext n2.fr
  unfold zdV at k2
  dsimp only at k2
  split at k2
  · next hcd =>
    cases hl : putAll [] (xs.zip ys) with
    | none => rw [hl] at k2; exact k2.elim
    | some l =>
    rw [hl] at k2
    obtain ⟨kvs, e3, r3⟩ := merge_ext (accK := []) (repps_zip rs' rs2) hcd ⟨.nil, .nil⟩ hl
    refine ⟨a, b, vs, us, kvs, rfl, ha2, hb, e3, fun p hp => ?_⟩
    have n := Nx.new (o := HO.dK []) n2.sto hp
    have := disp_end (kvs := mergeK [] kvs) hp n2.sto (.refl n.sto) upd_same (Paired.mapP r3.pr (fun p q z => ⟨z.1, z.2.1, z.2.2.1.mono n2.sto n.ext n.fr, z.2.2.2.mono n2.sto n.ext n.fr⟩) |> fun z => ⟨z, r3.nd⟩) k2
    rwa [upd_upd] at this
  · exact k2.elim
end
end Eng
/-! T4: a dict display with any keys; d.get(k, None); T.index(x) of a tuple of the module. -/
namespace Eng
open PySem PySem.Spec PyProof.Rows L2
section
variable {X : Cx} {m : List Addr} {H : Hp} {st : Store}
theorem own_dic {w : World} {p : Addr} {es : List (NestedKey × V × V)} : Own (upd H p (DicO w p es)) p := fun o e => by
  rw [upd_same] at e
  cases e
  exact ⟨(fun _ z => nomatch z), (fun _ _ z => nomatch z)⟩
theorem dic_at0 {P : Program} {w : World} (h : Heap) (hb : sysModules < h.objs.size) : ObjOk P w (upd H h.objs.size (DicO w h.objs.size [])) (h.push { cls := .type "dict", data := .dict #[] }) h.objs.size (DicO w h.objs.size []) :=
  dicO_ok ⟨beq_eq_false_iff_ne.mpr (Nat.ne_of_gt hb), Nat.zero_le _, _, #[], 0, Heap.get?_push_size _ rfl, ⟨rfl, rfl, rfl⟩, rfl, .nil⟩
/-- the pairs of a display, stored one after another -/
theorem store_all {pins : List (Addr × Obj)} {σ : L2.St} {p : Addr} {A : Around} {E : Value → Shared → Prop} (hu : A.units + 8 < cLine) : ∀ {ps acc l : List (D0 × D0)} {vs : List (V × V)} {ws : List (Value × Value)} {es : List (NestedKey × V × V)} {s : Shared} {Q : PUnit → Shared → Prop},
    L2.Inv X pins σ (upd H p (DicO X.w p es)) s → KvR X.K m (upd H p (DicO X.w p es)) acc es → RepPs X.K m (upd H p (DicO X.w p es)) ps vs → VV vs ws → putAll acc ps = some l → acc.length + ps.length ≤ 1000 →
    (∀ es' s', L2.Inv X pins σ (upd H p (DicO X.w p es')) s' → KvR X.K m (upd H p (DicO X.w p es')) l es' → Q .unit s') → wpAny (model X.prog X.w) A (storeAll p ws) Q E s
  | [], acc, l, vs, ws, es, s, Q, I, r, rp, rv, hl, hn, h => by
    cases rp
    cases rv
    have : acc = l := by simpa [putAll, foldO] using hl
    subst this
    unfold storeAll
    rw [List.forIn_nil]
    exact wpAny_pure (h es s I r)
  | q :: ps, acc, l, vs, ws, es, s, Q, I, r, rp, rv, hl, hn, h => by
    cases rp with
    | cons a b =>
    cases rv with
    | cons a2 b2 =>
    obtain ⟨k, l1, hk, e1, hl⟩ := putAll_cons (q := q) (zs := ps) hl
    unfold storeAll
    rw [List.forIn_cons]
    refine wpAny_bind (wpAny_bind (dset_ok hu I upd_same r a.1 a2.1 hk a.2 a2.2 (by rw [sizeLine_eq]; simp only [List.length_cons] at hn; omega) (fun o y z hz => hz.owned own_dic) fun es' s' I' r' => ?_))
    rw [upd_upd] at I' r'
    refine wpAny_pure ?_
    have hlen : (dPut acc q.1 k q.2).length ≤ acc.length + 1 := by
      unfold dPut
      split <;> simp
    refine store_all hu I' r' (Paired.mapP b fun x y z => ⟨?_, ?_⟩) b2 hl (by simp only [List.length_cons] at hn; omega) h
    · have := z.1.owned (o := DicO X.w p es') own_dic
      rwa [upd_upd] at this
    · have := z.2.owned (o := DicO X.w p es') own_dic
      rwa [upd_upd] at this
theorem disp_end2 {m2 : List Addr} {H0 H2 : Hp} {st2 : Store} {p : Addr} {l : List (D0 × D0)} {es0 es : List (NestedKey × V × V)} {Q : VK} (hp : H0 p = none) (S : StoR X.K X.w m st H0) (n : Nx X.K X.w m (upd H0 p (DicO X.w p es0)) m2 H2 st2) (h2 : H2 p = some (DicO X.w p es0)) (r : KvR X.K m2 (upd H2 p (DicO X.w p es)) l es) (k : KQ X Q m H0 (.val (.obj st2.length)) (st2 ++ [.dic l])) :
    Q (.ref p) (upd H2 p (DicO X.w p es)) := by
  have own2 : Own H2 p := fun o e => by rw [h2] at e; cases e; exact ⟨(fun _ z => nomatch z), (fun _ _ z => nomatch z)⟩
  have hpm : p ∉ m2 := n.ext.out upd_same (S.fresh hp)
  have rr : ∀ {d : D0} {v : V}, Rep X.K m2 H2 d v → Rep X.K m2 (upd H2 p (DicO X.w p es)) d v := fun h => h.owned own2
  have S2 : StoR X.K X.w m2 st2 (upd H2 p (DicO X.w p es)) := by
    refine ⟨n.sto.len, n.sto.nd, fun i b u hb hu => ?_⟩
    have ne : b ≠ p := fun e => hpm (by rw [← e]; exact List.mem_of_getElem? hb)
    have r := n.sto.at_ i b u hb hu
    have rs : ∀ {ds : List D0} {vs : List V}, Reps X.K m2 H2 ds vs → Reps X.K m2 (upd H2 p (DicO X.w p es)) ds vs := fun {ds} => by
      induction ds with
      | nil => exact fun {vs} h => h
      | cons d ds ih => exact fun {vs} ⟨v, ws, e, r1, r2⟩ => ⟨v, ws, e, rr r1, ih r2⟩
    cases u with
    | lst xs => obtain ⟨vs, h, r⟩ := r; exact ⟨vs, by rw [upd_ne ne]; exact h, rs r⟩
    | dic kvs => obtain ⟨es, h, r⟩ := r; exact ⟨es, by rw [upd_ne ne]; exact h, Paired.mapP r.pr (fun p q z => ⟨z.1, z.2.1, rr z.2.2.1, rr z.2.2.2⟩), r.nd⟩
    | dicL kvs => obtain ⟨o, es, h, r⟩ := r; exact ⟨o, es, by rw [upd_ne ne]; exact h, Paired.mapP r.pr (fun p q z => ⟨z.1, z.2.1, rr z.2.2.1, rr z.2.2.2⟩), r.nd⟩
    | ins c fs => obtain ⟨dx, vfs, h, r⟩ := r; exact ⟨dx, vfs, by rw [upd_ne ne]; exact h, Paired.mapP r fun p q z => ⟨z.1, rr z.2⟩⟩
  obtain ⟨lx, ex, hx⟩ := n.ext
  have hfr : ∀ b o, H0 b = some o → b ∉ m → upd H2 p (DicO X.w p es) b = some o := fun b o h hb => by
    have ne : b ≠ p := ne_of_none h hp
    rw [upd_ne ne]
    exact n.fr b o (by rw [upd_ne ne]; exact h) hb
  have hfz : ∀ b o u, H0 b = some (.frz o u) → upd H2 p (DicO X.w p es) b = some (.frz o u) := fun b o u h => by
    have ne : b ≠ p := ne_of_none h hp
    rw [upd_ne ne]
    exact n.fz b o u (by rw [upd_ne ne]; exact h)
  refine k _ (m2 ++ [p]) _ ⟨⟨lx ++ [p], by rw [ex, List.append_assoc], fun b hb => ?_⟩, sto_push' S2 hpm ⟨_, upd_same, r⟩, hfr, hfz⟩ ⟨p, rfl, get_push S2⟩ trivial
  rcases List.mem_append.mp hb with hb | hb
  · have := hx b hb
    by_cases e : b = p
    · subst e; rw [upd_same] at this; cases this
    · rwa [upd_ne e] at this
  · simp at hb; subst hb; exact hp
def evDctA (fs : Env → Store → R (List (D0 × D0))) : Env → Store → R Sq := fun env st => (fs env st).bind fun ps st => if decide (ps.length ≤ 15) = true then (opt (putAll [] ps) st).bind fun l st => .ok (.val (.obj st.length)) (st ++ [.dic l]) else .no
theorem je_dctA {keys : List (Option Expr)} {values : List Expr} {pos : Pos} {fs : Env → Store → R (List (D0 × D0))} {f : Env → Store → R Sq} (hf : f = evDctA fs) (hu : X.A.units + 64 < cLine) (h : JPs X pos keys values fs) (hall : keys.all (·.isSome) = true) (hl : keys.length = values.length) (h0 : keys ≠ []) (h15 : keys.length ≤ 15) : PE X (.Dict keys values pos) (tX X f) := by
  subst hf
  obtain ⟨trs, h1, h2⟩ := h.ex
  refine ⟨fun pins s σ H Q I hq0 => ?_⟩
  obtain ⟨env, m, st, E, S, o⟩ := hq0
  have hn := I.hok.fresh (Nat.le_refl s.heap.objs.size)
  have I1 := I.laid (a := s.heap.objs.size) (o := DicO X.w s.heap.objs.size []) (h' := s.heap.push { cls := .type "dict", data := .dict #[] }) (t' := s.toks) (fun _ _ q => Heap.get?_push_of_some _ q) (Nat.le_refl _) (dic_at0 s.heap I.big)
  have n : Nx X.K X.w m H m (upd H s.heap.objs.size (DicO X.w s.heap.objs.size [])) st := .new S hn
  refine wpAny_Dict_any hall hl h0 h15 (thn (h1.run pins _ σ _ (fun ps H2 => ∃ l m2 st2 pds, Nx X.K X.w m (upd H s.heap.objs.size (DicO X.w s.heap.objs.size [])) m2 H2 st2 ∧ RepPs X.K m2 H2 pds ps ∧ pds.length ≤ 15 ∧ putAll [] pds = some l ∧ KQ X Q m H (.val (.obj st2.length)) (st2 ++ [.dic l])) I1 (h2 σ _ _ ⟨env, m, st, E.mono S n.ext n.fr, n.sto, ?_⟩)) fun ws s2 ⟨ps, H2, I2, rel, l, m2, st2, pds, n2, r2, hlen, hp2, k⟩ => ?_)
  · dsimp only [evDctA] at o
    cases hq : fs env st with
    | no => rw [hq] at o; exact o
    | ex x fs st' => rw [hq] at o; exact Tk.imp o fun c d H' z => z.back n
    | ok ps st1 =>
    rw [hq] at o
    intro vs m2 H2 n2 r2
    simp only [Eng.R.bind] at o
    by_cases hc : decide (ps.length ≤ 15) = true
    · rw [if_pos hc] at o
      cases hp2 : putAll [] ps with
      | none => rw [hp2] at o; exact o.elim
      | some l =>
      rw [hp2] at o
      exact ⟨l, m2, st1, ps, n2, r2, of_decide_eq_true hc, hp2, o⟩
    · rw [if_neg hc] at o; exact o.elim
  · have hD : H2 s.heap.objs.size = some (DicO X.w s.heap.objs.size []) := n2.fr _ _ upd_same (S.fresh hn)
    have e0 : upd H2 s.heap.objs.size (DicO X.w s.heap.objs.size []) = H2 := upd_self hD
    refine store_all (H := H2) (m := m2) (p := s.heap.objs.size) (es := []) (acc := []) (by omega) (by rw [e0]; exact I2) ⟨.nil, .nil⟩ (by rw [e0]; exact r2) rel hp2 (by simp; omega) fun es' s' I' r' => ?_
    exact ⟨.ref s.heap.objs.size, _, I', rfl, disp_end2 hn S n2 hD r' k⟩
end
end Eng
/-! T5: d.get(k, None); T.index(x) of a tuple of the module. -/
namespace Eng
open PySem PySem.Spec PyProof.Rows L2
section
variable {X : Cx} {m : List Addr} {H : Hp} {st : Store}
theorem get_none {pins : List (Addr × Obj)} {σ : L2.St} {s : Shared} {A : Around} {E : Value → Shared → Prop} {d : Addr} {kvs : List (D × D)} {es : List (NestedKey × V × V)} {kd : D} {k : NestedKey} {v : V} {u : Value} {Q : Value → Shared → Prop} (hu : A.units + 32 < cLine) (I : L2.Inv X pins σ H s) (rd : Rd H d (DicO X.w d es)) (r : KvR X.K m H kvs es) (rk : Rep X.K m H kd v) (rv : L2.RelV v u) (hk : kd.key = some k)
    (h : ∀ tk vv uu, Rep X.K m H ((dLook kvs k).getD .non) vv → L2.RelV vv uu → Q uu { s with toks := tk }) : wpAny (model X.prog X.w) A (call (.builtin "dict.get") [.ref d, u, .none]) Q E s := by
  have P := dicP_of I rd
  refine call_meetsIn PySem.F.slot_dict_get (dicP_type P) PySem.F.entry_dict_get (PySem.F.args_dict_get_3 _ _ _) (S := fun A' R s' => A' = A ∧ s' = s ∧ ∀ tk vv uu, Rep X.K m H ((dLook kvs k).getD .non) vv → L2.RelV vv uu → R (.ok (.ret uu)) { s with toks := tk }) (fun A' R s' hS => ?_) ⟨rfl, rfl, fun tk vv uu h1 h2 => h tk vv uu h1 h2⟩
  · obtain ⟨hA, rfl, hq⟩ := hS
    subst hA
    show wpAny _ _ (dictGet d u >>= _) _ _ _

    refine wpAny_bind (dget_ok (by simp only [Around.in1_units]; omega) I rd r rk rv hk (fun tk x vv uu hl h1 h2 => ?_) fun tk hl => ?_)
    · have := hq tk vv uu (by rw [hl]; exact h1) h2
      exact wpAny_pure this
    · have := hq tk .non .none (by rw [hl]; exact rfl) rfl
      show wpAny _ _ (Builtin.Dict.missed d u >>= _) _ _ _
      exact wpAny_bind (wpAny_missed_other P.1 (wpAny_pure this))
theorem je_getN {o e : Expr} {k : Nat} {p2 apos cpos : Pos} {fo fa f : Env → Store → R Sq} (hf : f = fun env st => (fo env st).bind fun x st => match x with
      | .val d => match dicAt st d with
        | some _ => (asD (fa env st)).bind fun k st => getV d k st
        | none => .no
      | _ => .no) (hu : X.A.units + 64 < cLine) (ho : PE X o (tX X fo)) (he : PE X e (tX X fa)) (hb : noCallH o = true) (hs : noStar e = true) (hl : (apos.endLine == cpos.line) = true) : PE X (.Call (.Attribute o "get" apos) [e, .Constant .none k p2] [] cpos) (tX X f) := by
  subst hf
  refine ⟨fun pins s σ H Q I h => ?_⟩
  obtain ⟨env, m, st, E, S, o⟩ := h
  have base : ∀ {Q : VK}, (Out X σ m H (fo env st) (KQ X Q m H)) → tX X fo σ H Q := fun q => ⟨env, m, st, E, S, q⟩
  have sp1 : starEach [e, .Constant .none k p2] X.env = (false, eval e X.env) :: starEach [.Constant .none k p2] X.env := star_plain hs
  refine wpAny_Call_method (T := "dict") (id := "dict.get") (base_plain hb) (by rw [sp1]; rfl) hl PySem.F.plainAttrs_dict PySem.F.slot_dict_get PySem.F.type_dict_get ?_
  dsimp only at o
  cases hq : fo env st with
  | no => rw [hq] at o; exact o.elim
  | ex x fs st' =>
    rw [hq] at o
    exact thn (ho.run pins s σ H (fun _ _ => False) I (base (by rw [hq]; exact o))) fun u s1 ⟨v, H1, I1, rv, z⟩ => z.elim
  | ok x st1 =>
  rw [hq] at o
  simp only [Eng.R.bind] at o
  cases x with
  | fresh => exact o.elim
  | val dd =>
  dsimp only at o
  cases hd : dicAt st1 dd with
  | none => rw [hd] at o; exact o.elim
  | some kvs0 =>
  rw [hd] at o
  dsimp only at o
  refine thn (ho.run pins s σ H (fun v H1 => ∃ m1, Nx X.K X.w m H m1 H1 st1 ∧ Rep X.K m1 H1 dd v) I (base (by rw [hq]; exact fun v m1 H1 n r fr => ⟨m1, n, r⟩))) fun u s1 ⟨v, H1, I1, rv, m1, n, rd⟩ => ?_
  obtain ⟨a, es, rfl, ham, hR, kv⟩ := dicAt_at n.sto rd hd
  obtain rfl : u = Value.ref a := rv
  have P := dicP_of I1 hR
  refine ⟨dicP_type P, fun b eb => ?_, ?_⟩
  · cases eb
    obtain ⟨_, _, ob, _, _, ho, hc, _⟩ := P
    exact ⟨ob, ho, hc.2.1⟩
  rw [sp1]
  have E1 := E.mono S n.ext n.fr
  have o1 := Out.later S n mnQ o
  refine Calls.callWith_builtin rfl (Calls.evalArgs_plain (Calls.spliced_cons (thn ((pe_asD he).run pins s1 σ H1 (fun v2 H2 => ∃ m2 st2 k2 q st3, StoR X.K X.w m2 st2 H2 ∧ Rep X.K m2 H2 dd (.ref a) ∧ Rep X.K m2 H2 k2 v2 ∧ getV dd k2 st2 = .ok q st3 ∧ KQ X Q m2 H2 q st3) I1 ?_) fun u2 s2 ⟨v2, H2, I2, rv2, m2, st2, k2, q, st3, S2, rd2, rk2, eq, kq⟩ => ?_)))
  · refine ⟨env, m1, st1, E1, n.sto, (o1.bind n.sto mnQ).imp fun k2 st2 kk v2 m2 H2 n2 r2 => ?_⟩
    have k3 := kk m2 H2 n2
    cases hg : getV dd k2 st2 with
    | no => rw [hg] at k3; exact k3.elim
    | ex x fs st' =>
      unfold getV at hg
      split at hg <;> cases hg
    | ok q st3 =>
      rw [hg] at k3
      exact ⟨m2, st2, k2, q, st3, n2.sto, rd.mono n.sto n2.ext n2.fr, r2, hg, k3⟩
  · refine Calls.spliced_cons ?_
    show wpAny _ _ (eval (.Constant .none k p2) X.env) _ _ _
    refine thn ((pe_non (X := X) (j := k) (pos := p2)).run pins s2 σ H2 (fun v H' => v = .non ∧ H' = H2) I2 ⟨rfl, rfl⟩) fun u3 s3 ⟨v3, H3, I3, rv3, e3, e4⟩ => ?_
    subst e3 e4
    obtain rfl : u3 = Value.none := rv3
    refine Calls.spliced_nil ?_
    unfold getV at eq
    split at eq
    · next kvs kk h1 h2 =>
      obtain ⟨rfl, rfl⟩ := val_ok eq
      obtain ⟨a', es', e, ham', hR', kv'⟩ := dicAt_at S2 rd2 h1
      cases e
      refine get_none (by omega) I3 hR' kv' rk2 rv2 h2 fun tk vv uu h3 h4 => ?_
      exact ⟨vv, H3, I3.tok _, h4, KQ.val S2 kq h3⟩
    · cases eq
end
/-! T.index(x), T a tuple of texts of the module -/
structure IxF (X : Cx) (x : String) (ws : List Str) : Prop where
  ex : ∃ a o, X.mg (Str.ofString x) = some (.ref a) ∧ X.K.lookup a = some o ∧ o.cls = .type "tuple" ∧ o.dict = none ∧ ∀ H, SqT X.K H a (ws.map V.str)
section
variable {X : Cx} {m : List Addr} {H : Hp} {st : Store}
theorem je_gix {x : String} {ws : List Str} {e : Expr} {p1 apos cpos : Pos} {fa f : Env → Store → R Sq} (hf : f = fun env st => (asD (fa env st)).bind fun k st => ixV ws k st) (F : IxF X x ws) (hg : Gl X (Str.ofString x)) (hd : (Str.ofString x == ("__debug__" : Str)) = false) (he : PE X e (tX X fa)) (hs : noStar e = true) (hl : (apos.endLine == cpos.line) = true) : PE X (.Call (.Attribute (.Name (Str.ofString x) p1) "index" apos) [e] [] cpos) (tX X f) := by
  subst hf
  obtain ⟨a, o, hm, hk, hc, hdn, hq⟩ := F.ex
  refine (pe_bm PySem.F.plainAttrs_tuple PySem.F.slot_tuple_index PySem.F.type_tuple_index mt_tup_index (pe_glob hg hm (v := .ref a) rfl hd) (pa_cons (pe_asD he) pa_nil (star_plain hs)) (base_plain rfl) (by
    rw [star_plain hs]; rfl) hl (star_plain hs) rfl).imp fun σ H Q h => ?_
  obtain ⟨env, m, st, E, S, o1⟩ := h
  refine ⟨.inr (.inl ⟨rfl, o, hk, hc, hdn⟩), env, m, st, E, S, (o1.bind S mnQ).imp fun d st1 k v m1 H1 n r => ?_⟩
  have k := k m1 H1 n
  unfold ixV at k
  cases d with
  | str z => ?_
  | _ => exact k.elim
  dsimp only at k
  split at k
  · next i hi =>
    obtain rfl : v = V.str z := r
    obtain ⟨h1, h2, h3⟩ := List.findIdx?_eq_some_iff_getElem.mp hi
    refine ⟨a, ws, z, i, rfl, rfl, hq _, by rw [List.getElem?_eq_getElem h1]; exact congrArg some (of_decide_eq_true h2), fun j hj e => ?_, KQ.val n.sto k rfl⟩
    have := h3 j hj
    have hjl : j < ws.length := by omega
    rw [List.getElem?_eq_getElem hjl] at e
    rw [Option.some.inj e] at this
    simp at this
  · exact k.elim
end
end Eng
/-! T6: match on a text. -/
namespace Eng
open PySem PySem.Spec PyProof.Rows L2
section
variable {X : Cx}
/-- the cases of a match on a text -/
structure JCs (X : Cx) (cs : List MatchCase) (f : Str → Env → Store → RS) : Prop where
  run : ∀ (z : Str) (t : Tok) (first : Bool) (pins : List (Addr × Obj)) (s : Shared) (σ : L2.St) (H : Hp) (Z : Ends), L2.Inv X pins σ H s → tS X (f z) Z σ H → wpAny (model X.prog X.w) X.A (matchCases cs X.env (.str z t) first) (SP X pins Z) X.xe s
theorem jcs_nil {f : Str → Env → Store → RS} (hf : f = fun _ env st => .nx env st) : JCs X [] f := by
  subst hf
  refine ⟨fun z t first pins s σ H Z I h => wpAny_matchCases_nil ?_⟩
  obtain ⟨env, m, st, E, S, o⟩ := h
  exact ⟨σ, H, I, o σ m H (.refl S) E⟩
theorem jcs_cons {x : Str} {k : Nat} {p pos : Pos} {body : List Stmt} {cs : List MatchCase} {fb : Env → Store → RS} {fr f : Str → Env → Store → RS} (hf : f = fun s env st => if x = s then fb env st else fr s env st) (hb : PSs X body (tS X fb)) (hr : JCs X cs fr) : JCs X (⟨.MatchValue (.Constant (.str x) k p) pos, none, body⟩ :: cs) f := by
  subst hf
  refine ⟨fun z t first pins s σ H Z I h => wpAny_matchCases_cons (wpAny_matchPattern_Value ?_)⟩
  refine thn ((pe_str (X := X) (j := k) (pos := p) (x := x)).run pins s σ H (fun v H' => v = .str x ∧ H' = H) I ⟨rfl, rfl⟩) fun u s1 ⟨v, H1, I1, rv, e1, e2⟩ => ?_
  subst e1 e2
  obtain ⟨t', rfl⟩ := rv
  refine PySem.P.eq_str ?_
  refine wpAny_truthy_bool ?_
  obtain ⟨env, m, st, E, S, o⟩ := h
  dsimp only at o
  by_cases e : x = z
  · subst e
    rw [beq_self_eq_true]
    rw [if_pos rfl] at o
    rw [if_pos rfl]
    show wpAny _ _ (pure ()) _ _ _
    exact wpAny_pure (hb.run pins s1 σ H1 Z I1 ⟨env, m, st, E, S, o⟩)
  · have : (z.cps.toList == x.cps.toList) = false := by
      rw [beq_eq_false_iff_ne]
      intro q
      apply e
      cases x
      cases z
      congr 1
      exact (Array.toList_inj.mp q).symm
    rw [this, if_neg Bool.false_ne_true]
    rw [if_neg e] at o
    exact hr.run z t false pins s1 σ H1 Z I1 ⟨env, m, st, E, S, o⟩
theorem js_match {e : Expr} {cs : List MatchCase} {pos : Pos} {fe : Env → Store → R D} {fc : Str → Env → Store → RS} {f : Env → Store → RS} (hf : f = fun env st => (fe env st).thn env fun d st => match d with
    | .str s => fc s env st
    | _ => .no) (he : PE X e (tD X fe)) (hc : JCs X cs fc) : PS X (.Match e cs pos) (tS X f) := by
  subst hf
  refine ⟨fun pins s σ H Z I h => wpAny_Match ?_⟩
  refine thn (he.run pins s σ H (fun v H1 => ∃ z, v = .str z ∧ tS X (fc z) Z σ H1) I ?_) fun u s1 ⟨v, H1, I1, rv, z, e1, q⟩ => ?_
  · obtain ⟨env, m, st, E, S, o⟩ := h
    refine ⟨env, m, st, E, S, (OutS.thn E S o).imp fun d st1 k v m1 H1 n r => ?_⟩
    obtain ⟨E1, o1⟩ := k m1 H1 n
    cases d with
    | str z => exact ⟨z, r, env, m1, st1, E1, n.sto, o1⟩
    | _ => exact o1.elim
  · subst e1
    obtain ⟨t, rfl⟩ := rv
    exact hc.run z t true pins s1 σ H1 Z I1 q
end
end Eng
/-! T7: a def that tells of an exception what classes it is of; its call in an except suite. -/
namespace Eng
open PySem PySem.Spec PyProof.Rows L2
/-- the dict of an exception, if there is one -/
def XdOk (H : Hp) (d : Option Addr) : Prop := d = none ∨ ∃ dd vfs, d = some dd ∧ H dd = some (.xd vfs)
/-- only new objects -/
inductive Gro (H : Hp) : Hp → Prop
  | refl : Gro H H
  | step {H' : Hp} {p : Addr} {o : HO} (g : Gro H H') (h : H' p = none) : Gro H (upd H' p o)
theorem Gro.old {H H' : Hp} (g : Gro H H') : ∀ b o, H b = some o → H' b = some o := by
  induction g with
  | refl => exact fun b o h => h
  | step g h ih => exact fun b o e => by rw [upd_ne (ne_of_none (ih b o e) h)]; exact ih b o e
theorem Gro.trans {H H1 H2 : Hp} (g : Gro H H1) (g2 : Gro H1 H2) : Gro H H2 := by
  induction g2 with
  | refl => exact g
  | step _ h ih => exact .step ih h
theorem Gro.xd {H H' : Hp} (g : Gro H H') {d : Option Addr} (h : XdOk H d) : XdOk H' d := by
  rcases h with h | ⟨dd, vfs, h1, h2⟩
  · exact .inl h
  · exact .inr ⟨dd, vfs, h1, g.old _ _ h2⟩
theorem Gro.nx {K : PySem.W.Frag} {w : World} {m : List Addr} {st : Store} {H H' : Hp} (S : StoR K w m st H) (g : Gro H H') : Nx K w m H m H' st := by
  induction g with
  | refl => exact .refl S
  | step g h ih => exact ih.trans (.new ih.sto h)
/-- isinstance of the exception that a def got, which stood at its entry -/
theorem call_isK {X : Cx} {a D : Addr} {oe : Obj} {d : Option Addr} (C : ExcC X.K D) (hz : Zc (.ref D) d oe) (hf : ∃ vs, oe.data = .fields vs) (h0 : X.s_0.heap.get? a = some oe) (hn : X.H_0 a = none) (hfs : a ∉ X.fs) (hex : X.ex = []) : CallR X (.builtin "isinstance") (rIsF X.K D a d) := by
  intro pins s σ H xs us Q I r h
  obtain ⟨c, cv, b, rfl, hcv, hd, e, q⟩ := h
  match us, r with
  | [_, _], .cons rx (.cons rt .nil) =>
    cases rx
    obtain rfl := hcv _ rt
    have hget : s.heap.get? a = some oe := I.base.keep a oe h0 hn hfs (by rw [hex]; exact fun z => nomatch z)
    obtain ⟨vs, hv⟩ := hf
    have J : ∃ od, PySem.W.InstAt s.heap a oe D od := by
      obtain ⟨h1, h2⟩ := hz
      rcases hd with rfl | ⟨dd, vfs, rfl, hH⟩
      · exact ⟨none, hget, h1, by unfold PySem.W.notCls; rw [hv] <;> rfl, by rw [h2]; trivial⟩
      · have hx : ObjOk X.prog X.w H s.heap dd (.xd vfs) := I.hok dd _ hH
        obtain ⟨mA, hns, hr⟩ := hx
        obtain ⟨od, ho, hl⟩ := lookIn_ns hns
        exact ⟨some od, hget, h1, by unfold PySem.W.notCls; rw [hv] <;> rfl, by rw [h2]; exact ho⟩
    obtain ⟨od, J⟩ := J
    refine PySem.W.kia_one (kit_of_exc C) I.kIn J e (fun z => nomatch z) fun tk => ?_
    exact ⟨.bl b, H, I.kept (t' := tk) fun _ _ z => z, rfl, q⟩
/-! ### the text -/
def isC (n : Str) (c : String) : Expr → Bool
  | .Call (.Name x _) [.Name y _, .Name z _] [] _ => decide (x = "isinstance") && decide (y = n) && decide (z = Str.ofString c)
  | _ => false
def isCs (n : Str) : List String → List Expr → Bool
  | [], [] => true
  | c :: cs, e :: es => isC n c e && isCs n cs es
  | _, _ => false
/-- [isinstance(n, c), ..] -/
def lstC (n : Str) (cs : List String) : Expr → Bool
  | .List es _ => isCs n cs es
  | _ => false
/-- t + [isinstance(n, c), ..] -/
def addC (n t : Str) (cs : List String) : Expr → Bool
  | .BinOp (.Name x _) .Add b _ => decide (x = t) && lstC n cs b
  | _ => false
def asgC (t : Str) (f : Expr → Bool) : Stmt → Bool
  | .Assign [.Name y _] e _ => decide (y = t) && f e
  | _ => false
def retC (f : Expr → Bool) : Stmt → Bool
  | .Return (some e) _ => f e
  | _ => false
def restC (n t : Str) : List (List String) → List Stmt → Bool
  | [cs], [s] => retC (addC n t cs) s
  | cs :: k :: ks, s :: s2 :: ss => asgC t (addC n t cs) s && restC n t (k :: ks) (s2 :: ss)
  | _, _ => false
def bodyC (n t : Str) : List (List String) → List Stmt → Bool
  | cs :: ks, s :: ss => asgC t (lstC n cs) s && restC n t ks ss
  | _, _ => false
section
variable {X : Cx} {a : Addr} {oe : Obj} {d : Option Addr} {x : String} {sup : String → Bool} {n t : Str}
/-- what such a def's context tells -/
structure KdX (X : Cx) (a : Addr) (d : Option Addr) (sup : String → Bool) (n t : Str) (cs : List String) : Prop where
  D : ∃ D, CallR X (.builtin "isinstance") (rIsF X.K D a d) ∧ ∀ c ∈ cs, ∃ v cv, (∀ p, PE X (.Name (Str.ofString c) p) (tC v)) ∧ (∀ u, L2.RelV v u → u = cv) ∧ PySem.W.kitOne X.K (.ref D) cv = some (sup c)
  nd : X.N.Nodup
  n0 : X.N[0]? = some n
  n1 : X.N[1]? = some t
  nv : X.env.scope.names.lookup n = some .local
  tv : X.env.scope.names.lookup t = some .local
  ndb : (n == ("__debug__" : Str)) = false ∧ (n == ("__classdict__" : Str)) = false
  tdb : (t == ("__debug__" : Str)) = false ∧ (t == ("__classdict__" : Str)) = false
  gi : Gl X "isinstance"
  mi : X.mg "isinstance" = none
theorem KdX.sub {cs ds : List String} (h : KdX X a d sup n t cs) (s : ∀ c ∈ ds, c ∈ cs) : KdX X a d sup n t ds :=
  ⟨let ⟨D, h1, h2⟩ := h.D; ⟨D, h1, fun c hc => h2 c (s c hc)⟩, h.nd, h.n0, h.n1, h.nv, h.tv, h.ndb, h.tdb, h.gi, h.mi⟩
def tIs (a : Addr) (d : Option Addr) (b : Bool) : TE := fun σ H Q => σ[0]? = some (some (.ref a)) ∧ XdOk H d ∧ Q (.bl b) H
theorem pe_isC {c : String} {e : Expr} (K : KdX X a d sup n t [c]) (h : isC n c e = true) : PE X e (tIs a d (sup c)) := by
  unfold isC at h
  split at h
  · next y p1 z p2 u p3 p4 =>
    simp only [Bool.and_eq_true, decide_eq_true_eq] at h
    obtain ⟨⟨rfl, rfl⟩, rfl⟩ := h
    obtain ⟨D, h1, h2⟩ := K.D
    obtain ⟨v, cv, g1, g2, g3⟩ := h2 c (List.mem_singleton.mpr rfl)
    refine (pe_callB h1 K.gi K.mi (by rfl) (pa_cons (pe_var (i := 0) K.n0 (.inl K.nv) K.ndb.1 K.ndb.2) (pa_cons (g1 _) pa_nil rfl) rfl) (by decide) (by decide) rfl rfl).imp fun σ H Q q => ?_
    obtain ⟨e1, e2, q⟩ := q
    exact ⟨.ref a, e1, _, cv, _, rfl, g2, e2, g3, q⟩
  · cases h
def tIss (a : Addr) (d : Option Addr) (bs : List Bool) : TA := fun σ H Q => σ[0]? = some (some (.ref a)) ∧ XdOk H d ∧ Q (bs.map V.bl) H
theorem isC_star {c : String} {e : Expr} (h : isC n c e = true) : noStar e = true := by
  cases e <;> first | rfl | cases h
theorem pa_isCs : ∀ {cs : List String} {es : List Expr}, KdX X a d sup n t cs → isCs n cs es = true → PA X es (tIss a d (cs.map sup))
  | [], [], K, h => pa_nil.imp fun σ H Q q => q.2.2
  | c :: cs, e :: es, K, h => by
    rw [isCs, Bool.and_eq_true] at h
    refine (pa_cons (pe_isC (K.sub fun x hx => by rw [List.mem_singleton.mp hx]; exact List.mem_cons_self ..) h.1) (pa_isCs (K.sub fun x hx => List.mem_cons_of_mem _ hx) h.2) (star_plain (isC_star h.1))).imp fun σ H Q q => ?_
    obtain ⟨q1, q2, q3⟩ := q
    exact ⟨q1, q2, q1, q2, q3⟩
  | [], _ :: _, K, h => by cases h
  | _ :: _, [], K, h => by cases h
/-- a new list of these -/
def tNewL (a : Addr) (d : Option Addr) (bs : List Bool) : TE := fun σ H Q => σ[0]? = some (some (.ref a)) ∧ XdOk H d ∧ ∀ q, H q = none → Q (.ref q) (upd H q (.lst (bs.map V.bl)))
theorem pe_lstC {cs : List String} {e : Expr} (K : KdX X a d sup n t cs) (hl : cs.length ≤ 100) (h : lstC n cs e = true) : PE X e (tNewL a d (cs.map sup)) := by
  unfold lstC at h
  split at h
  · refine (pe_lst (pa_isCs K h)).imp fun σ H Q q => ?_
    exact ⟨q.1, q.2.1, by rw [sizeLine_eq]; simp; omega, q.2.2⟩
  · cases h
/-- the list at slot 1 and these -/
def tAddL (a : Addr) (d : Option Addr) (cs : List Bool) : TE := fun σ H Q => ∃ l bs, σ[0]? = some (some (.ref a)) ∧ σ[1]? = some (some (.ref l)) ∧ H l = some (.lst (bs.map V.bl)) ∧ bs.length ≤ 10000 ∧ XdOk H d ∧ ∀ H' q, Gro H H' → H' q = none → Q (.ref q) (upd H' q (.lst ((bs ++ cs).map V.bl)))
theorem pe_addC {cs : List String} {e : Expr} (K : KdX X a d sup n t cs) (hl : cs.length ≤ 100) (h : addC n t cs e = true) : PE X e (tAddL a d (cs.map sup)) := by
  unfold addC at h
  split at h
  · next y p1 b p2 =>
    simp only [Bool.and_eq_true, decide_eq_true_eq] at h
    obtain ⟨rfl, h⟩ := h
    refine (pe_op op_cat (pe_var (i := 1) K.n1 (.inl K.tv) K.tdb.1 K.tdb.2) (pe_lstC K hl h)).imp fun σ H Q q => ?_
    obtain ⟨l, bs, q1, q2, q3, q4, q5, q⟩ := q
    refine ⟨.ref l, q2, q1, q5, fun r hr => ⟨l, r, bs.map V.bl, (cs.map sup).map V.bl, rfl, rfl, by rw [upd_ne (ne_of_none q3 hr)]; exact q3, upd_same, by rw [sizeLine_eq]; simp; omega, fun p hp => ?_⟩⟩
    rw [← List.map_append]
    exact q _ p (.step .refl hr) hp
  · cases h
/-- the def's way behind the first statement -/
def tRest (a : Addr) (d : Option Addr) (cs : List Bool) : TS := fun Z σ H => ∃ l bs, σ[0]? = some (some (.ref a)) ∧ 1 < σ.length ∧ σ[1]? = some (some (.ref l)) ∧ H l = some (.lst (bs.map V.bl)) ∧ bs.length + cs.length ≤ 10000 ∧ XdOk H d ∧ ∀ H' q, Gro H H' → H' q = none → Z.rt (.ref q) (upd H' q (.lst ((bs ++ cs).map V.bl)))
theorem pss_rest : ∀ {ks : List (List String)} {ss : List Stmt}, KdX X a d sup n t ks.flatten → (∀ k ∈ ks, k.length ≤ 100) → restC n t ks ss = true → PSs X ss (tRest a d (ks.flatten.map sup))
  | [], ss, K, hl, h => by
    simp [restC] at h
  | cs :: ks, [], K, hl, h => by
    simp [restC] at h
  | [cs], [s], K, hl, h => by
    rw [restC] at h
    unfold retC at h
    split at h
    · next e q =>
      have K' : KdX X a d sup n t cs := K.sub fun c hc => by simpa using hc
      refine (pss_one (ps_ret (pe_addC K' (hl cs (List.mem_cons_self ..)) h))).imp fun Z σ H z => ?_
      obtain ⟨l, bs, z1, z2, z3, z4, z5, z6, z⟩ := z
      refine ⟨l, bs, z1, z3, z4, by omega, z6, fun H' q g hq => ?_⟩
      have := z H' q g hq
      rwa [show [cs].flatten.map sup = cs.map sup by simp] at this
    · cases h
  | [cs], s :: s2 :: ss, K, hl, h => by
    simp [restC] at h
  | cs :: k :: ks, [s], K, hl, h => by
    simp [restC] at h
  | cs :: k :: ks, s :: s2 :: ss, K, hl, h => by
    rw [restC, Bool.and_eq_true] at h
    obtain ⟨h1, h2⟩ := h
    have ih := pss_rest (ks := k :: ks) (ss := s2 :: ss) (K.sub fun c hc => by rw [List.flatten_cons]; exact List.mem_append_right _ hc) (fun q hq => hl q (List.mem_cons_of_mem _ hq)) h2
    have K' : KdX X a d sup n t cs := K.sub fun c hc => by rw [List.flatten_cons]; exact List.mem_append_left _ hc
    unfold asgC at h1
    split at h1
    · next y p1 e p2 =>
      simp only [Bool.and_eq_true, decide_eq_true_eq] at h1
      obtain ⟨rfl, h1⟩ := h1
      have hsw : swapsWith e (some (.Name y p1)) p2.line X.env = pure false := by
        unfold addC at h1
        split at h1
        · rfl
        · cases h1
      refine (pss_cons (ps_set K.nd K.n1 (.inl K.tv) (pe_addC K' (hl cs (List.mem_cons_self ..)) h1) hsw (.inr K.tv)) ih).imp fun Z σ H z => ?_
      obtain ⟨l, bs, z1, z2, z3, z4, z5, z6, z⟩ := z
      simp only [List.flatten_cons, List.map_append, List.length_append] at z5
      refine ⟨l, bs, z1, z3, z4, by omega, z6, fun H' q g hq => ?_⟩
      refine ⟨q, bs ++ cs.map sup, ?_, ?_, ?_, upd_same, ?_, (Gro.step g hq).xd z6, fun H2 r g2 hr => ?_⟩
      · rw [List.getElem?_set_ne (by decide)]; exact z1
      · simpa using z2
      · rw [List.getElem?_set_self z2]
      · simp only [List.length_append, List.flatten_cons, List.map_append] at z5 ⊢
        omega
      · have := z H2 r ((Gro.step g hq).trans g2) hr
        rw [List.append_assoc, ← List.map_append, ← List.flatten_cons]
        exact this
    · cases h1
theorem pss_bodyC {ks : List (List String)} {ss : List Stmt} (K : KdX X a d sup n t ks.flatten) (hl : ∀ k ∈ ks, k.length ≤ 100) (h : bodyC n t ks ss = true) : PSs X ss (fun Z σ H => σ[0]? = some (some (.ref a)) ∧ 1 < σ.length ∧ XdOk H d ∧ ks.flatten.length ≤ 10000 ∧ ∀ H' q, Gro H H' → H' q = none → Z.rt (.ref q) (upd H' q (.lst ((ks.flatten.map sup).map V.bl)))) := by
  match ks, ss, h with
  | cs :: ks, s :: ss, h =>
    rw [bodyC, Bool.and_eq_true] at h
    obtain ⟨h1, h2⟩ := h
    have ih := pss_rest (ks := ks) (ss := ss) (K.sub fun c hc => by rw [List.flatten_cons]; exact List.mem_append_right _ hc) (fun q hq => hl q (List.mem_cons_of_mem _ hq)) h2
    have K' : KdX X a d sup n t cs := K.sub fun c hc => by rw [List.flatten_cons]; exact List.mem_append_left _ hc
    unfold asgC at h1
    split at h1
    · next y p1 e p2 =>
      simp only [Bool.and_eq_true, decide_eq_true_eq] at h1
      obtain ⟨rfl, h1⟩ := h1
      have hsw : swapsWith e (some (.Name y p1)) p2.line X.env = pure false := by
        unfold lstC at h1
        split at h1
        · rfl
        · cases h1
      refine (pss_cons (ps_set K.nd K.n1 (.inl K.tv) (pe_lstC K' (hl cs (List.mem_cons_self ..)) h1) hsw (.inr K.tv)) ih).imp fun Z σ H z => ?_
      obtain ⟨z1, z2, z3, z4, z⟩ := z
      simp only [List.flatten_cons, List.length_append] at z4
      refine ⟨z1, z3, fun q hq => ?_⟩
      refine ⟨q, cs.map sup, ?_, ?_, ?_, upd_same, ?_, (Gro.step .refl hq).xd z3, fun H2 r g2 hr => ?_⟩
      · rw [List.getElem?_set_ne (by decide)]; exact z1
      · simpa using z2
      · rw [List.getElem?_set_self z2]
      · simp only [List.length_map]
        omega
      · have := z H2 r ((Gro.step .refl hq).trans g2) hr
        rw [← List.map_append, ← List.flatten_cons]
        exact this
    · cases h1
end
end Eng
/-! T8: such a def runs, called within an except suite. -/
namespace Eng
open PySem PySem.Spec PyProof.Rows L2
/-- what such a def gives -/
structure KdF (P : Program) (w : World) (K : PySem.W.Frag) (mg : Str → Option Value) (base : Heap) (lvl : Nat) (p : Prg) (f : Addr) (cs : List String) : Prop where
  run : ∀ (A : Around) (outer : List PySem.Env) (s : Shared) (H : Hp) (a : Addr) (oe : Obj) (x : String) (xd : XDef) (d : Option Addr) (Q : VK) (E : XK), p.exs.lookup x = some xd → L2H.RoomH lvl A → Env0 P w K mg base A outer s H → L2H.PinOk outer H s (a, oe) → Zc (.ref (He.ga K (Str.ofString x))) d oe → (∃ vs, oe.data = .fields vs) → XdOk H d →
    (∀ H' q, Gro H H' → H' q = none → Q (.ref q) (upd H' q (.lst ((cs.map fun c => xd.sup.contains c).map V.bl)))) → codeAny (model P w) A (.call (.ref f) ⟨[.ref a], []⟩) (CR (L2.CX P w) outer P w H s Q E) s
/-- a class that is asked for -/
structure KdC (K : PySem.W.Frag) (mg : Str → Option Value) (p : Prg) (c : String) : Prop where
  ex : (mg (Str.ofString c) = some (.ref (He.ga K (Str.ofString c))) ∧ ∀ x xd, p.exs.lookup x = some xd → PySem.W.kitOne K (.ref (He.ga K (Str.ofString x))) (.ref (He.ga K (Str.ofString c))) = some (xd.sup.contains c)) ∨
    (c = "ValueError" ∧ mg (Str.ofString c) = none ∧ ∀ x xd, p.exs.lookup x = some xd → PySem.W.kitOne K (.ref (He.ga K (Str.ofString x))) (.type "ValueError") = some (xd.sup.contains c))
theorem no_cxA {P : Program} {w : World} {outer : List PySem.Env} {H : Hp} {s : Shared} {e : Value} {s' : Shared} : L2.CX P w outer H s (fun _ _ _ => False) e s' → False := by
  rintro ⟨a, B, H', cls, d, _, _, _, _, _, _, _, z⟩
  exact z
section
variable {p : Prg} {X : Cx} {a : Addr} {oe : Obj} {cls : Value} {d : Option Addr} {pn : List (Addr × Obj)}
/-- f(e), e the clause's name -/
theorem pe_kinds {j : Nat} {n fx : Str} {fa : Addr} {cs : List String} {pos p1 p2 : Pos} {lvl : Nat} (F : KdF X.prog X.w X.K X.mg X.base lvl p fa cs) (hr : Room lvl X.A) (hz : Zc cls d oe) (hf : ∃ vs, oe.data = .fields vs) (hN : X.N[j]? = some n) (hv : Vis X.env.scope n) (hd : (n == ("__debug__" : Str)) = false) (hcd : (n == ("__classdict__" : Str)) = false)
    (hg : Gl X fx) (hm : X.mg fx = some (.ref fa)) (hk : PySem.W.keepIn X.K (.ref fa) = true) (hdb : (fx == ("__debug__" : Str)) = false) :
    PE (X.suite a ((a, oe) :: pn)) (.Call (.Name fx p1) [.Name n p2] [] pos) (fun σ H Q => ∃ x xd, p.exs.lookup x = some xd ∧ cls = .ref (He.ga X.K (Str.ofString x)) ∧ σ[j]? = some (some (.ref a)) ∧ XdOk H d ∧ ∀ H' q, Gro H H' → H' q = none → Q (.ref q) (upd H' q (.lst ((cs.map fun c => xd.sup.contains c).map V.bl)))) := by
  refine ⟨fun pins s σ H Q I h => ?_⟩
  obtain ⟨x, xd, hxd, rfl, hj, hX, hq⟩ := h
  refine wpAny_Call_Name_kw (ld_glob (X := X.suite a ((a, oe) :: pn)) I hg hm ?_ hdb)
  have ha : PA (X.suite a ((a, oe) :: pn)) [.Name n p2] (tCons (tVar j) tNil) := pa_cons (pe_var (X := X.suite a ((a, oe) :: pn)) (i := j) hN hv hd hcd) pa_nil rfl
  refine PySem.W.callWith_K (h₀ := X.base) I.ok.mod.kin hk (thn (ha.run pos pins s σ H (fun vs H1 => vs = [.ref a] ∧ H1 = H) I ⟨.ref a, hj, rfl, rfl⟩) fun us s1 ⟨vs, H1, I1, r, e1, e2⟩ => ⟨I1.kIn, ?_⟩) rfl rfl
  subst e1 e2
  cases r with
  | cons r rr =>
  cases rr
  cases r
  have P1 := I1.pin (a, oe) (List.mem_append_left _ List.mem_cons_self)
  have hpin : L2H.PinOk X.stack H1 s1 (a, oe) := ⟨P1.1, P1.2.1, fun hm => (List.mem_cons.mp (I1.stkSub a hm)).elim P1.2.2.1 P1.2.2.2.1, P1.2.2.2.2⟩
  refine wpAny_call (codeAny_mono (F.run (X.A.mark (some (.ref a))) X.stack s1 H1 a oe x xd d Q (fun _ _ _ => False) hxd ⟨hr.dp, hr.un⟩ I1.env0 hpin hz hf hX hq) fun r s' hq => ?_)
  cases r with
  | error e => exact (no_cxA hq).elim
  | ok fl =>
    cases fl with
    | ret u => exact I1.after hq
    | next => exact False.elim hq
    | brk => exact False.elim hq
    | cont => exact False.elim hq
theorem reps_bls {m : List Addr} {H : Hp} : ∀ bs : List Bool, Reps X.K m H (bs.map D.bl) (bs.map V.bl)
  | [] => rfl
  | b :: bs => ⟨_, _, rfl, rfl, reps_bls bs⟩
theorem jh_kinds {j : Nat} {n : Str} {f : String} {ks : List (List String)} {fa : Addr} {pos p1 p2 : Pos} {lvl : Nat} (hks : p.kds.lookup f = some ks) (F : KdF X.prog X.w X.K X.mg X.base lvl p fa ks.flatten) (hr : Room lvl X.A) (hz : Zc cls d oe) (hf : ∃ vs, oe.data = .fields vs) (hN : X.N[j]? = some n) (hv : Vis X.env.scope n) (hd : (n == ("__debug__" : Str)) = false) (hcd : (n == ("__classdict__" : Str)) = false)
    (hg : Gl X (Str.ofString f)) (hm : X.mg (Str.ofString f) = some (.ref fa)) (hk : PySem.W.keepIn X.K (.ref fa) = true) (hdb : (Str.ofString f == ("__debug__" : Str)) = false) :
    PE (X.suite a ((a, oe) :: pn)) (.Call (.Name (Str.ofString f) p1) [.Name n p2] [] pos) (tHx p X a cls d (some j) (.kinds f)) :=
  (pe_kinds F hr hz hf hN hv hd hcd hg hm hk hdb).imp fun σ H Q ⟨x, fs, m, st, S, o⟩ => by
    obtain ⟨xd, hxd⟩ := S.xd
    unfold evH at o
    rw [hks, hxd] at o
    have o : KQ X Q m H (.fresh (ks.flatten.map fun c => .bl (xd.sup.contains c))) st := o
    refine ⟨x, xd, hxd, S.cl, S.at_ j rfl, ?_, fun H' q g hq => ?_⟩
    · rcases S.fld with ⟨_, h⟩ | ⟨dd, vfs, _, h, h2, _⟩
      · exact .inl h
      · exact .inr ⟨dd, vfs, h, h2⟩
    · have n := g.nx S.sto
      have r := reps_bls (X := X) (m := m) (H := H') (ks.flatten.map fun c => xd.sup.contains c)
      rw [List.map_map] at r
      exact KQ.lst n.sto (mnQ m H st m H' st _ _ S.sto n o) r hq
end
end Eng
/-! T10: name = {..} of a comprehension, stored from within. -/
namespace Eng
open PySem PySem.Spec PyProof.Rows L2
section
variable {X : Cx}
theorem ps_setDx {i : Nat} {y : Str} {py : Pos} {kx vx tg iter : Expr} {ifs : List Expr} {scope : Scope} {own : List (Str × Nat)} {pos spos : Pos} {wi : TI} {g : TG} {tt : TT} {tk tv : TE} (hu : X.A.units + 64 < cLine) (hc : X.calm = true) (hN : X.N.Nodup) (hy : X.N[i]? = some y) (hyl : X.env.scope.names.lookup y = some .local)
    (hsw : swapsWith (.DictComp kx vx [⟨tg, iter, ifs, 0⟩] scope pos) (some (.Name y py)) spos.line X.env = pure true) (hi : PI X tg iter wi) (ok : BlkOk X.N X.env.scope scope own)
    (hg : ∀ (s : Shared) (H : Hp) (C : Addr) (cl : List (Str × Addr)) (fp : List Addr), PG (X.blk s H scope (compEnvC scope cl C X.env) fp) tg g) (ht : ∀ (s : Shared) (H : Hp) (C : Addr) (cl : List (Str × Addr)) (fp : List Addr), PTs (X.blk s H scope (compEnvC scope cl C X.env) fp) ifs tt)
    (hk : ∀ (s : Shared) (H : Hp) (C : Addr) (cl : List (Str × Addr)) (fp : List Addr), PE (X.blk s H scope (compEnvC scope cl C X.env) fp) kx tk)
    (he : ∀ (s : Shared) (H : Hp) (C : Addr) (cl : List (Str × Addr)) (fp : List Addr), PE (X.blk s H scope (compEnvC scope cl C X.env) fp) vx tv) (hs : ∀ x, foldedSetIterable iter X.env x = pure x) :
    PS X (.Assign [.Name y py] (.DictComp kx vx [⟨tg, iter, ifs, 0⟩] scope pos) spos) (tAsg (tDx X.K X.w wi g tt tk tv (own.map (·.2))) (gName i)) := by
  refine ⟨fun pins s σ H D I h => ?_⟩
  rw [exec_Assign_Name_used _ _ _ _ hsw]
  refine wpAny_bind (wpAny_standAt (wpAny_bind ?_))
  show wpAny _ X.A (do let _ ← comprehension (.DictComp kx vx [⟨tg, iter, ifs, 0⟩] scope pos) scope X.env (firstIterPos [⟨tg, iter, ifs, 0⟩] pos) newDict false (eval iter X.env) (some (assign (.Name y py) X.env))) _ _ s
  have h : tDx X.K X.w wi g tt tk tv (own.map (·.2)) σ H (fun x H1 => gName i x σ H1 D.nx) := h
  refine wpAny_bind (thn (dx_core (Qf := fun _ s' => SP X pins D .next s') hu hc hN I hi ok hg ht hk he hs h fun L C s' m H' I' q hn f => ?_) fun _ s' hq => wpAny_pure (wpAny_pure hq))
  show wpAny _ _ (assign (.Name y py) X.env (.ref L)) _ _ _
  refine wpAny_assign_Name (store_ok2 (v := V.ref L) I' hN hy (.inl hyl) rfl (fun s2 I2 ⟨a, sb, ha⟩ => ?_) (.inr hyl))
  obtain ⟨f0, f1, f2, f3, f4, f5⟩ := f
  have haC : C ≠ a := by
    rcases ha with z | z
    · rw [z]; exact f1
    · exact fun e => f4 y a z e.symm
  refine ⟨m, hn.sameBut sb haC, fun h3 sb3 => ?_⟩
  exact ⟨_, H', I2.turned (t' := s2.toks) (fun b o hb e => (sb3.2 b hb).trans e) f0 f1 f3 f4 f5, q⟩
theorem js_setDc {i : Nat} {y : Str} {py : Pos} {t : Tp} {fi : Env → Store → R (List D × Dep)} {fk fv : Env → Store → R D} {own : List (Str × Nat)} {kx vx tg iter : Expr} {scope : Scope} {pos spos : Pos} {f : Env → Store → RS}
    (hf : f = fun env st => (asD (evDc t fi fk fv (own.map (·.2)) env st)).thn env fun d st => match bindP (.nm i) d env with
      | some env' => .nx env' st
      | none => .no)
    (hy : X.N[i]? = some y) (hyl : X.env.scope.names.lookup y = some .local) (hsw : swapsWith (.DictComp kx vx [⟨tg, iter, [], 0⟩] scope pos) (some (.Name y py)) spos.line X.env = pure true)
    (hu : X.A.units + 64 < cLine) (hsub : ∀ i ∈ tpNames t, i ∈ own.map (·.2)) (hc : X.calm = true) (hN : X.N.Nodup) (hi : PI X tg iter (tI X fi)) (ok : BlkOk X.N X.env.scope scope own)
    (hg : ∀ (s : Shared) (H : Hp) (C : Addr) (cl : List (Str × Addr)) (fp : List Addr), PG (X.blk s H scope (compEnvC scope cl C X.env) fp) tg (tTp X t))
    (hk : ∀ (s : Shared) (H : Hp) (C : Addr) (cl : List (Str × Addr)) (fp : List Addr), PE (X.blk s H scope (compEnvC scope cl C X.env) fp) kx (tD0 X fk))
    (he : ∀ (s : Shared) (H : Hp) (C : Addr) (cl : List (Str × Addr)) (fp : List Addr), PE (X.blk s H scope (compEnvC scope cl C X.env) fp) vx (tD0 X fv)) (hs : ∀ x, foldedSetIterable iter X.env x = pure x) :
    PS X (.Assign [.Name y py] (.DictComp kx vx [⟨tg, iter, [], 0⟩] scope pos) spos) (tS X f) := by
  subst hf
  refine (ps_re (ps_setDx hu hc hN hy hyl hsw hi ok hg (fun _ _ _ _ _ => pts_nil) hk he hs)).imp fun Z σ H h => ?_
  have h1 := tX_asD (tS_thnD (fe := fun env st => asD (evDc t fi fk fv (own.map (·.2)) env st)) (k := fun d env st => match bindP (.nm i) d env with
      | some env' => RS.nx env' st
      | none => .no) h)
  have h2 := dc_read hsub h1
  have key : ∀ v H1, (∃ H', Re X H1 H' ∧ ∃ env m st d, EnvR X.K m H' σ env ∧ StoR X.K X.w m st H' ∧ Rep X.K m H' d v ∧ OutS X m H' Z (match bindP (.nm i) d env with
      | some env' => RS.nx env' st
      | none => .no)) → gName i v σ H1 (reE X Z).nx := fun v H1 ⟨H', re, env, m, st, d, E, S, r, o⟩ => by
    simp only [bindP] at o
    exact ⟨H', re, o _ m H' (.refl S) (E.set r)⟩
  obtain ⟨env, m, st, E, S, o⟩ := h2
  refine ⟨env, m, st, E, S, o.imp fun w st1 k J m1 H1 un W => ?_⟩
  have k2 := k J m1 H1 un W
  intro D hD
  obtain ⟨W1, w0, step⟩ := k2 D hD
  refine ⟨W1, w0, fun i2 m2 H2 w2 => ?_⟩
  rcases step i2 m2 H2 w2 with ⟨a, b⟩ | h
  · exact .inl ⟨a, key _ _ b⟩
  · exact .inr h
end
end Eng
/-! E25: what stands in the text: the parts of an expression, by its form. -/
namespace Eng
open PySem PySem.Spec PyProof.Rows L2
def dName : Expr → Option Str
  | .Name x _ => some x
  | _ => none
theorem dName_ok {e : Expr} {x : Str} (h : dName e = some x) : ∃ p, e = .Name x p := by
  unfold dName at h; split at h <;> cases h; exact ⟨_, rfl⟩
def dTup : Expr → Option (List Expr)
  | .Tuple es _ _ => some es
  | _ => none
theorem dTup_ok {e : Expr} {x : List Expr} (h : dTup e = some x) : ∃ k p, e = .Tuple x k p := by
  unfold dTup at h; split at h <;> cases h; exact ⟨_, _, rfl⟩
def dLst : Expr → Option (List Expr)
  | .List es _ => some es
  | _ => none
theorem dLst_ok {e : Expr} {x : List Expr} (h : dLst e = some x) : ∃ p, e = .List x p := by
  unfold dLst at h; split at h <;> cases h; exact ⟨_, rfl⟩
def dBin : Expr → Option (Expr × Operator × Expr)
  | .BinOp a o b _ => some (a, o, b)
  | _ => none
theorem dBin_ok {e a b : Expr} {o : Operator} (h : dBin e = some (a, o, b)) : ∃ p, e = .BinOp a o b p := by
  unfold dBin at h; split at h <;> cases h; exact ⟨_, rfl⟩
def dUn : Expr → Option (UnaryOp × Expr)
  | .UnaryOp o a _ => some (o, a)
  | _ => none
theorem dUn_ok {e a : Expr} {o : UnaryOp} (h : dUn e = some (o, a)) : ∃ p, e = .UnaryOp o a p := by
  unfold dUn at h; split at h <;> cases h; exact ⟨_, rfl⟩
/-- a and (the rest) -/
def dBool : Expr → Option (PySem.BoolOp × Expr × Expr)
  | .BoolOp o [a, b] _ => some (o, a, b)
  | .BoolOp o (a :: b :: c :: r) p => some (o, a, .BoolOp o (b :: c :: r) p)
  | _ => none
theorem dBool_ok {e a b : Expr} {o : PySem.BoolOp} (h : dBool e = some (o, a, b)) : (∃ p, e = .BoolOp o [a, b] p) ∨ ∃ y z r p, e = .BoolOp o (a :: y :: z :: r) p ∧ b = .BoolOp o (y :: z :: r) p := by
  unfold dBool at h; split at h <;> cases h
  · exact .inl ⟨_, rfl⟩
  · exact .inr ⟨_, _, _, _, rfl, rfl⟩
def dCmp : Expr → Option (Expr × CmpOp × Expr)
  | .Compare a [o] [b] _ => some (a, o, b)
  | _ => none
theorem dCmp_ok {e a b : Expr} {o : CmpOp} (h : dCmp e = some (a, o, b)) : ∃ p, e = .Compare a [o] [b] p := by
  unfold dCmp at h; split at h <;> cases h; exact ⟨_, rfl⟩
def dChain : Expr → Option (Expr × CmpOp × Expr × CmpOp × Expr)
  | .Compare a [o, q] [b, c] _ => some (a, o, b, q, c)
  | _ => none
theorem dChain_ok {e a b c : Expr} {o q : CmpOp} (h : dChain e = some (a, o, b, q, c)) : ∃ p, e = .Compare a [o, q] [b, c] p := by
  unfold dChain at h; split at h <;> cases h; exact ⟨_, rfl⟩
def dIf : Expr → Option (Expr × Expr × Expr)
  | .IfExp c a b _ => some (c, a, b)
  | _ => none
theorem dIf_ok {e a b c : Expr} (h : dIf e = some (c, a, b)) : ∃ p, e = .IfExp c a b p := by
  unfold dIf at h; split at h <;> cases h; exact ⟨_, rfl⟩
def dCall : Expr → Option (Str × List Expr)
  | .Call (.Name x _) es [] _ => some (x, es)
  | _ => none
theorem dCall_ok {e : Expr} {x : Str} {es : List Expr} (h : dCall e = some (x, es)) : ∃ p q, e = .Call (.Name x p) es [] q := by
  unfold dCall at h; split at h <;> cases h; exact ⟨_, _, rfl⟩
/-- o.m(..) on one line -/
def dMeth : Expr → Option (Expr × Str × List Expr)
  | .Call (.Attribute o m a) es [] c => if a.endLine == c.line then some (o, m, es) else none
  | _ => none
theorem dMeth_ok {e o : Expr} {m : Str} {es : List Expr} (h : dMeth e = some (o, m, es)) : ∃ a c, e = .Call (.Attribute o m a) es [] c ∧ (a.endLine == c.line) = true := by
  unfold dMeth at h; split at h
  · split at h <;> cases h
    exact ⟨_, _, rfl, by assumption⟩
  · cases h
def dAttr : Expr → Option (Expr × Str)
  | .Attribute o f _ => some (o, f)
  | _ => none
theorem dAttr_ok {e o : Expr} {f : Str} (h : dAttr e = some (o, f)) : ∃ p, e = .Attribute o f p := by
  unfold dAttr at h; split at h <;> cases h; exact ⟨_, rfl⟩
def dSub : Expr → Option (Expr × Expr)
  | .Subscript o i _ => some (o, i)
  | _ => none
theorem dSub_ok {e o i : Expr} (h : dSub e = some (o, i)) : ∃ p, e = .Subscript o i p := by
  unfold dSub at h; split at h <;> cases h; exact ⟨_, rfl⟩
def dSlc : Expr → Option (Expr × Option Expr × Option Expr)
  | .Subscript o (.Slice l h none _) _ => some (o, l, h)
  | _ => none
theorem dSlc_ok {e o : Expr} {l h' : Option Expr} (h : dSlc e = some (o, l, h')) : ∃ p q, e = .Subscript o (.Slice l h' none p) q := by
  unfold dSlc at h; split at h <;> cases h; exact ⟨_, _, rfl⟩
def dDict : Expr → Option (List (Option Expr) × List Expr)
  | .Dict ks vs _ => some (ks, vs)
  | _ => none
theorem dDict_ok {e : Expr} {ks : List (Option Expr)} {vs : List Expr} (h : dDict e = some (ks, vs)) : ∃ p, e = .Dict ks vs p := by
  unfold dDict at h; split at h <;> cases h; exact ⟨_, rfl⟩
def dLc : Expr → Option (Expr × Expr × Expr × List Expr × Scope)
  | .ListComp e [⟨t, i, c, a⟩] s _ => if a = 0 then some (e, t, i, c, s) else none
  | _ => none
theorem dLc_ok {e x t i : Expr} {c : List Expr} {s : Scope} (h : dLc e = some (x, t, i, c, s)) : ∃ p, e = .ListComp x [⟨t, i, c, 0⟩] s p := by
  unfold dLc at h; split at h
  · split at h <;> cases h
    next ha => subst ha; exact ⟨_, rfl⟩
  · cases h
def dDc : Expr → Option (Expr × Expr × Expr × Expr × Scope)
  | .DictComp k v [⟨t, i, [], a⟩] s _ => if a = 0 then some (k, v, t, i, s) else none
  | _ => none
theorem dDc_ok {e k v t i : Expr} {s : Scope} (h : dDc e = some (k, v, t, i, s)) : ∃ p, e = .DictComp k v [⟨t, i, [], 0⟩] s p := by
  unfold dDc at h; split at h
  · split at h <;> cases h
    next ha => subst ha; exact ⟨_, rfl⟩
  · cases h
/-- list(o.items()), on one line -/
def dItems : Expr → Option Expr
  | .Call (.Name x _) [.Call (.Attribute o m a) [] [] c] [] _ => if (x == ("list" : Str)) && (m == ("items" : Str)) && (a.endLine == c.line) then some o else none
  | _ => none
theorem dItems_ok {e o : Expr} (h : dItems e = some o) : ∃ p a c q, e = .Call (.Name "list" p) [.Call (.Attribute o "items" a) [] [] c] [] q ∧ (a.endLine == c.line) = true := by
  unfold dItems at h; split at h
  · next x p o2 m a c q =>
    split at h
    · next hc =>
      cases h
      simp only [Bool.and_eq_true, beq_iff_eq] at hc
      obtain ⟨⟨rfl, rfl⟩, h3⟩ := hc
      exact ⟨_, _, _, _, rfl, by simpa using h3⟩
    · cases h
  · cases h
/-- o[::-1] -/
def dRev : Expr → Option Expr
  | .Subscript o (.Slice none none (some (.UnaryOp .USub (.Constant (.int 1) _ _) _)) _) _ => some o
  | _ => none
theorem dRev_ok {e o : Expr} (h : dRev e = some o) : ∃ k p1 p2 p3 q, e = .Subscript o (.Slice none none (some (.UnaryOp .USub (.Constant (.int 1) k p1) p2)) p3) q := by
  unfold dRev at h; split at h <;> cases h; exact ⟨_, _, _, _, _, rfl⟩
/-- {**d, k: v} -/
def dStar : Expr → Option (Expr × Expr × Expr)
  | .Dict [none, some k] [d, v] _ => some (d, k, v)
  | _ => none
theorem dStar_ok {e d k v : Expr} (h : dStar e = some (d, k, v)) : ∃ p, e = .Dict [none, some k] [d, v] p := by
  unfold dStar at h; split at h <;> cases h; exact ⟨_, rfl⟩
/-- a constant of ours and of the text -/
def dCst : D → Expr → Bool
  | .non, .Constant .none _ _ => true
  | .bl a, .Constant (.bool b) _ _ => a == b
  | .int i, .Constant (.int j) _ _ => decide (i = j)
  | .str s, .Constant (.str t) _ _ => decide (s = t)
  | _, _ => false
theorem dCst_ok {X : Cx} {d : D} {e : Expr} {f : Env → Store → R Sq} (hf : f = fun _ st => val d st) (h : dCst d e = true) : PE X e (tX X f) := by
  unfold dCst at h
  split at h
  · exact je_cst hf pe_non fun _ _ => rfl
  · next a b => cases eq_of_beq h; exact je_cst hf pe_bl fun _ _ => rfl
  · cases of_decide_eq_true h; exact je_cst hf pe_int fun _ _ => rfl
  · cases of_decide_eq_true h; exact je_cst hf pe_str fun _ _ => rfl
  · cases h
def dNone : Expr → Bool
  | .Constant .none _ _ => true
  | _ => false
theorem dNone_ok {e : Expr} (h : dNone e = true) : ∃ k q, e = .Constant .none k q := by
  unfold dNone at h; split at h <;> first | exact ⟨_, _, rfl⟩ | cases h
end Eng
/-! E26: our expression says what the text's says: the check. -/
namespace Eng
open PySem PySem.Spec PyProof.Rows L2
/-- a block: the slots' names, its scope, the names whose cells are its own -/
structure Inf where
  N : List Str
  sc : Scope
  fn : Str → Bool
/-- what a program's text may name -/
structure Tab where
  fns : List (String × Nat)
  cls : List (String × Nat)
  gls : List String
  gds : List String
  blts : List String
  rai : List String
  cat : List String
  xfl : List String
  mets : List (String × Nat) := []
  prps : List String := []
  isc : List String := []
  ixs : List String := []
  kds : List String := []
def Inf.vis (I : Inf) (x : Str) : Bool := decide (I.sc.names.lookup x = some .local) || decide (I.sc.names.lookup x = some .cell) || decide (I.sc.names.lookup x = some .free)
def Inf.loc (I : Inf) (x : Str) : Bool := (decide (I.sc.names.lookup x = some .local) || decide (I.sc.names.lookup x = some .cell)) && (I.fn x || decide (I.sc.names.lookup x = some .local))
def Inf.glb (I : Inf) (x : Str) : Bool := decide (I.sc.names.lookup x = some .globalImplicit) && !(x == ("__debug__" : Str))
def okN (x : Str) : Bool := !(x == ("__debug__" : Str)) && !(x == ("__classdict__" : Str))
def Inf.blk (I : Inf) (s : Scope) : Inf := ⟨I.N, relS s I.sc, fun x => s.names.lookup x == some .cell⟩
def ownOf (I : Inf) (own : List Nat) : List (Str × Nat) := own.map fun i => (I.N.getD i ⟨#[]⟩, i)
def blkB (N : List Str) (sc s : Scope) (own : List (Str × Nat)) : Bool := decide (s.kind = .function) && s.names.all (fun y => decide (s.names.lookup y.1 = some y.2)) && own.all (fun q => decide (N[q.2]? = some q.1)) &&
  s.names.all (fun y => !decide (y.2 = .free) || decide (sc.names.lookup y.1 = some .cell) || decide (sc.names.lookup y.1 = some .free)) && s.names.all (fun y => !(decide (y.2 = .local) || decide (y.2 = .cell)) || (own.map (·.1)).contains y.1 || !N.contains y.1)
theorem blkB_ok {N : List Str} {sc s : Scope} {own : List (Str × Nat)} (h : blkB N sc s own = true) : BlkOk N sc s own := by
  unfold blkB at h
  simp only [Bool.and_eq_true, List.all_eq_true, decide_eq_true_eq, Bool.or_eq_true, Bool.not_eq_true', decide_eq_false_iff_not, Bool.or_eq_false_iff] at h
  obtain ⟨⟨⟨⟨h1, h2⟩, h3⟩, h4⟩, h5⟩ := h
  refine ⟨h1, h2, h3, fun y hy e => ?_, fun y hy e => ?_⟩
  · rcases h4 y hy with (z | z) | z
    · exact absurd e z
    · exact .inl z
    · exact .inr z
  · rcases h5 y hy with (z | z) | z
    · rcases e with e | e
      · exact absurd e z.1
      · exact absurd e z.2
    · exact .inl (by simpa using z)
    · exact .inr (by simpa using z)
mutual
def ckP (I : Inf) : Tp → Expr → Bool
  | .nm i, e => match dName e with
    | some x => decide (I.N[i]? = some x) && I.loc x
    | none => false
  | .tp ts, e => match dTup e with
    | some es => es.all noStar && decide (es.length = ts.length) && ckPs I ts es
    | none => false
def ckPs (I : Inf) : List Tp → List Expr → Bool
  | [], [] => true
  | t :: ts, e :: es => ckP I t e && ckPs I ts es
  | _, _ => false
end
def bfName : Bf → String
  | .len => "len" | .list => "list" | .tuple => "tuple" | .all => "all" | .any => "any" | .sorted => "sorted" | .int => "int" | .str => "str" | .dict => "dict"
def isStrF : Bf → Bool
  | .str => true
  | _ => false
def tmName : Tm → String
  | .join => "join" | .split => "split" | .strip => "strip"
def neqOf (neg : Bool) : CmpOp := if neg then .NotEq else .Eq
/-- no class of ours has a property of that name -/
def noPrp (p : Prg) (f : String) : Bool := p.cls.all fun q => (q.2.prps.lookup f).isNone
section
variable (T : Tab) (p : Prg)
mutual
def ck (tst : Bool) (I : Inf) : Ex → Expr → Bool
  | .not a, e => match dUn e with
    | some (o, a') => decide (o = .Not) && ck tst I a a'
    | none => false
  | .and a b, e => match dBool e with
    | some (o, a', b') => decide (o = .And) && ck tst I a a' && ck tst I b b'
    | none => false
  | .or a b, e => match dBool e with
    | some (o, a', b') => decide (o = .Or) && ck tst I a a' && ck tst I b b'
    | none => false
  | .cmp o a b, e => match dCmp e with
    | some (a', o', b') => decide (o' = copOf o) && noMark b' && ck false I a a' && ck false I b b'
    | none => false
  | .chain o q a b c, e => match dChain e with
    | some (a', o', b', q', c') => decide (o' = ltle o) && decide (q' = ltle q) && noMark b' && noMark c' && ck false I a a' && ck false I b b' && ck false I c c'
    | none => false
  | .ite c a b, e => match dIf e with
    | some (c', a', b') => !tst && ck true I c c' && ck false I a a' && ck false I b b'
    | none => false
  | .var i, e => (!tst || plainT e) && match dName e with
    | some x => decide (I.N[i]? = some x) && I.vis x && okN x
    | none => false
  | .cst d, e => (!tst || plainT e) && dCst d e
  | .glb x, e => (!tst || plainT e) && match dName e with
    | some y => decide (y = Str.ofString x) && I.glb y && T.gls.contains x
    | none => false
  | .tup es, e => (!tst || plainT e) && match dTup e with
    | some es' => decide (es'.length ≤ 1000) && es'.all noStar && cks I es es'
    | none => false
  | .lst es, e => (!tst || plainT e) && match dLst e with
    | some es' => decide (es'.length ≤ 1000) && es'.all noStar && cks I es es'
    | none => false
  | .tupS es, e => (!tst || plainT e) && match dTup e with
    | some es' => ckSx I es es'
    | none => false
  | .lstS es, e => (!tst || plainT e) && match dLst e with
    | some es' => ckSx I es es'
    | none => false
  | .bin o a b, e => (!tst || plainT e) && match dBin e with
    | some (a', o', b') => decide (o' = bopOf o) && ck false I a a' && ck false I b b'
    | none => false
  | .neg a, e => (!tst || plainT e) && match dUn e with
    | some (o, a') => decide (o = .USub) && ck false I a a'
    | none => false
  | .call f args, e => (!tst || plainT e) && match dCall e with
    | some (x, es) => decide (x = Str.ofString f) && I.glb x && T.fns.contains (f, es.length) && es.all noStar && cks I args es
    | none => false
  | .make c args, e => (!tst || plainT e) && match dCall e with
    | some (x, es) => decide (x = Str.ofString c) && I.glb x && T.cls.contains (c, es.length) && es.all noStar && cks I args es
    | none => false
  | .attr f o, e => (!tst || plainT e) && match dAttr e with
    | some (o', f') => decide (f' = Str.ofString f) && noCallH o' && (noPrp p f || T.prps.contains f) && ck false I o o'
    | none => false
  | .bm .reverse o [], e => (!tst || plainT e) && match dMeth e with
    | some (o', m, es) => decide (m = "reverse") && es.isEmpty && noCallH o' && ck false I o o'
    | none => false
  | .bf f a, e => (!tst || plainT e) && match dCall e with
    | some (x, [a']) => decide (x = Str.ofString (bfName f)) && !isStrF f && I.glb x && T.blts.contains (bfName f) && noStar a' && ck false I a a'
    | _ => false
  | .isi a t, e => (!tst || plainT e) && match dCall e with
    | some (x, [a', b']) => decide (x = "isinstance") && I.glb x && T.blts.contains "isinstance" && noStar a' && (match dName b', tyName t with
      | some y, some tn => decide (y = Str.ofString tn) && I.glb y && T.blts.contains tn
      | _, _ => false) && ck false I a a'
    | _ => false
  | .idx a i, e => (!tst || plainT e) && match dSub e with
    | some (a', i') => noSlice i' && ck false I a a' && ck false I i i'
    | none => false
  | .gidx x i, e => (!tst || plainT e) && match dSub e with
    | some (a', i') => (match dName a' with
      | some y => decide (y = Str.ofString x) && I.glb y && T.gds.contains x
      | none => false) && noSlice i' && ck false I i i'
    | none => false
  | .slc a lo hi, e => (!tst || plainT e) && match dSlc e with
    | some (a', lo', hi') => ck false I a a' && ckO I lo lo' && ckO I hi hi'
    | none => false
  | .dct none kvs, e => (!tst || plainT e) && match dDict e with
    | some (ks, vs) => ks.all (·.isSome) && decide (ks.length = vs.length) && decide (ks.length ≤ 15) && ckKx I kvs ks vs
    | none => false
  | .lc elt tg it cond own, e => (!tst || plainT e) && match dLc e with
    | some (elt', tg', it', ifs, s) => blkB I.N I.sc s (ownOf I own) && (tpNames tg).all own.contains && noMark it' && ckP (I.blk s) tg tg' && ckI I it it' tg' && ck false (I.blk s) elt elt' && ckC (I.blk s) cond ifs
    | none => false
  | .dc k v tg it own, e => (!tst || plainT e) && match dDc e with
    | some (k', v', tg', it', s) => blkB I.N I.sc s (ownOf I own) && (tpNames tg).all own.contains && noMark it' && ckP (I.blk s) tg tg' && ckI I it it' tg' && ck false (I.blk s) k k' && ck false (I.blk s) v v'
    | none => false
  | .stuck, _ => true
  | .isc a C, e => (!tst || plainT e) && match dCall e with
    | some (x, [a', b']) => decide (x = "isinstance") && I.glb x && T.blts.contains "isinstance" && noStar a' && (match dName b' with
      | some y => decide (y = Str.ofString C) && I.glb y && T.isc.contains C
      | none => false) && ck false I a a'
    | _ => false
  | .eqo neg a b, e => match dCmp e with
    | some (a', o', b') => decide (o' = neqOf neg) && noMark b' && ck false I a a' && ck false I b b'
    | none => false
  | .sortT a, e => (!tst || plainT e) && match dCall e with
    | some (x, [a']) => decide (x = "sorted") && I.glb x && T.blts.contains "sorted" && noStar a' && ck false I a a'
    | _ => false
  | .dictP a, e => (!tst || plainT e) && match dCall e with
    | some (x, [a']) => decide (x = "dict") && I.glb x && T.blts.contains "dict" && noStar a' && ck false I a a'
    | _ => false
  | .itemsL o, e => (!tst || plainT e) && match dItems e with
    | some o' => I.glb "list" && T.blts.contains "list" && noCallH o' && ck false I o o'
    | none => false
  | .rev a, e => (!tst || plainT e) && match dRev e with
    | some a' => ck false I a a'
    | none => false
  | .app o a, e => (!tst || plainT e) && match dMeth e with
    | some (o', m, [a']) => decide (m = "append") && noCallH o' && noStar a' && ck false I o o' && ck false I a a'
    | _ => false
  | .clr o, e => (!tst || plainT e) && match dMeth e with
    | some (o', m, []) => decide (m = "clear") && noCallH o' && ck false I o o'
    | _ => false
  | .tx t o a, e => (!tst || plainT e) && match dMeth e with
    | some (o', m, [a']) => decide (m = Str.ofString (tmName t)) && noCallH o' && noStar a' && ck false I o o' && ck false I a a'
    | _ => false
  | .num a, e => (!tst || plainT e) && match dCall e with
    | some (x, [a']) => decide (x = "int") && I.glb x && T.blts.contains "int" && noStar a' && ck false I a a'
    | _ => false
  | .txt a, e => (!tst || plainT e) && match dCall e with
    | some (x, [a']) => decide (x = "str") && I.glb x && T.blts.contains "str" && noStar a' && ck false I a a'
    | _ => false
  | .ext o a, e => (!tst || plainT e) && match dMeth e with
    | some (o', m, [a']) => decide (m = "extend") && noCallH o' && noStar a' && ck false I o o' && ck false I a a'
    | _ => false
  | .star d k v, e => (!tst || plainT e) && match dStar e with
    | some (d', k', v') => ck false I d d' && ck false I k k' && ck false I v v'
    | none => false
  | .meth m o args, e => (!tst || plainT e) && match dMeth e with
    | some (o', m', es) => decide (m' = Str.ofString m) && noCallH o' && T.mets.contains (m, es.length) && es.all noStar && decide (es.length < 30) && ck false I o o' && cks I args es
    | none => false
  | .zipd a b, e => (!tst || plainT e) && match dCall e with
    | some (x, [z]) => decide (x = "dict") && I.glb x && T.blts.contains "dict" && (match dCall z with
      | some (y, [a', b']) => decide (y = "zip") && I.glb y && T.blts.contains "zip" && noStar a' && noStar b' && ck false I a a' && ck false I b b'
      | _ => false)
    | _ => false
  | .getN o k, e => (!tst || plainT e) && match dMeth e with
    | some (o', m, [k', n']) => decide (m = "get") && noCallH o' && noStar k' && dNone n' && ck false I o o' && ck false I k k'
    | _ => false
  | .gix x a, e => (!tst || plainT e) && match dMeth e with
    | some (o', m, [a']) => (match dName o' with
      | some y => decide (y = Str.ofString x) && I.glb y && T.ixs.contains x
      | none => false) && decide (m = "index") && noStar a' && ck false I a a'
    | _ => false
  | .dctA kvs, e => (!tst || plainT e) && match dDict e with
    | some (ks, vs) => ks.all (·.isSome) && decide (ks.length = vs.length) && decide (ks.length ≤ 15) && !ks.isEmpty && ckKx I kvs ks vs
    | none => false
  | _, _ => false
def cks (I : Inf) : List Ex → List Expr → Bool
  | [], [] => true
  | e :: es, e' :: es' => ck false I e e' && cks I es es'
  | _, _ => false
def ckSx (I : Inf) : List Sx → List Expr → Bool
  | [], [] => true
  | .one e :: es, e' :: es' => noStar e' && ck false I e e' && ckSx I es es'
  | .star e :: es, .Starred e' _ :: es' => ck false I e e' && ckSx I es es'
  | _, _ => false
def ckKx (I : Inf) : List Kx → List (Option Expr) → List Expr → Bool
  | [], [], [] => true
  | .kv k v :: r, some k' :: ks, v' :: vs => ck false I k k' && ck false I v v' && ckKx I r ks vs
  | _, _, _ => false
def ckO (I : Inf) : Option Ex → Option Expr → Bool
  | none, none => true
  | some e, some e' => ck false I e e'
  | _, _ => false
def ckC (I : Inf) : Option Ex → List Expr → Bool
  | none, [] => true
  | some e, [e'] => ck true I e e'
  | _, _ => false
def ckI (I : Inf) : It → Expr → Expr → Bool
  | .seq e, e', _ => ck false I e e'
  | .rng1 a, e', _ => match dCall e' with
    | some (x, [a']) => decide (x = "range") && I.glb x && T.blts.contains "range" && noStar a' && ck false I a a'
    | _ => false
  | .rng2 a b, e', _ => match dCall e' with
    | some (x, [a', b']) => decide (x = "range") && I.glb x && T.blts.contains "range" && noStar a' && noStar b' && ck false I a a' && ck false I b b'
    | _ => false
  | .items e, e', tg => match dMeth e' with
    | some (o', m, []) => (dTup tg).isSome && decide (m = "items") && noCallH o' && ck false I e o'
    | _ => false
  | .enum e, e', tg => match dCall e' with
    | some (x, [a']) => (dTup tg).isSome && decide (x = "enumerate") && I.glb x && T.blts.contains "enumerate" && noStar a' && ck false I e a'
    | _ => false
  | .zip a b, e', tg => match dCall e' with
    | some (x, [a', b']) => (dTup tg).isSome && decide (x = "zip") && I.glb x && T.blts.contains "zip" && noStar a' && noStar b' && ck false I a a' && ck false I b b'
    | _ => false
end
end
end Eng
/-! E27: the check of expressions is sound. -/
namespace Eng
open PySem PySem.Spec PyProof.Rows L2
structure CtE (p : Prg) (call : String → List D → Store → R D) (T : Tab) (lvl : Nat) (X : Cx) (I : Inf) : Prop where
  sc : X.env.scope = I.sc
  N : X.N = I.N
  nd : X.N.Nodup
  fn : X.fn = I.fn
  calm : X.calm = true
  room : Room (lvl + 1) X.A
  hq : NoEq p
  cf : ClsF X.K p
  hf : ∀ f np, (f, np) ∈ T.fns → FnH X.prog X.w X.K X.mg X.base lvl (He.ga X.K (Str.ofString f)) np (call f) ∧ X.mg (Str.ofString f) = some (.ref (He.ga X.K (Str.ofString f))) ∧ PySem.W.keepIn X.K (.ref (He.ga X.K (Str.ofString f))) = true
  hc : ∀ c np, (c, np) ∈ T.cls → ∃ cd a, p.cls.lookup c = some cd ∧ Mk X.K (He.ga X.K (Str.ofString c)) a ∧ FnH X.prog X.w X.K X.mg X.base lvl a (np + 1) (call cd.init) ∧ X.mg (Str.ofString c) = some (.ref (He.ga X.K (Str.ofString c)))
  hg : ∀ x ∈ T.gls, ∃ d v u, p.gls.lookup x = some d ∧ X.mg (Str.ofString x) = some u ∧ L2.RelV v u ∧ ∀ m H, Rep X.K m H d v
  hd : ∀ x ∈ T.gds, ∃ kvs a, p.gds.lookup x = some kvs ∧ X.mg (Str.ofString x) = some (.ref a) ∧ KDic X.K X.w a kvs
  hb : ∀ x ∈ T.blts, X.mg (Str.ofString x) = none
  hm : ∀ m np, (m, np) ∈ T.mets → MetF X p call lvl m np
  hp : ∀ f ∈ T.prps, PrpF X p call lvl f
  hi : ∀ C ∈ T.isc, IsC X.K p C ∧ X.mg (Str.ofString C) = some (.ref (He.ga X.K (Str.ofString C)))
  he : ∀ c g, p.eqs.lookup c = some g → EqF X p lvl c (call g)
  hx : ∀ x ∈ T.ixs, ∃ d ws, p.gls.lookup x = some d ∧ tupStrs d = some ws ∧ IxF X x ws
def Jd (tst : Bool) (X : Cx) (e : Expr) (f : Env → Store → R Sq) : Prop := match tst with
  | true => PT X e (tBo X fun env st => asB (f env st))
  | false => PE X e (tX X f)
section
variable {p : Prg} {call : String → List D → Store → R D} {T : Tab} {lvl : Nat} {X : Cx} {I : Inf}
theorem jd_of {tst : Bool} {e : Expr} {f : Env → Store → R Sq} (h : PE X e (tX X f)) (hp : (!tst || plainT e) = true) : Jd tst X e f := by
  cases tst with
  | false => exact h
  | true => exact jt_val h hp
theorem CtE.vis (c : CtE p call T lvl X I) {x : Str} (h : I.vis x = true) : Vis X.env.scope x := by
  unfold Inf.vis at h
  simp only [Bool.or_eq_true, decide_eq_true_eq] at h
  rw [← c.sc] at h
  rcases h with (h | h) | h
  · exact .inl h
  · exact .inr (.inl h)
  · exact .inr (.inr h)
theorem CtE.loc (c : CtE p call T lvl X I) {x : Str} (h : I.loc x = true) : Loc X.env.scope x ∧ (X.fn x = true ∨ X.env.scope.names.lookup x = some .local) := by
  unfold Inf.loc at h
  simp only [Bool.and_eq_true, Bool.or_eq_true, decide_eq_true_eq] at h
  rw [← c.sc, ← c.fn] at h
  exact h
theorem CtE.gl (c : CtE p call T lvl X I) {x : Str} (h : I.glb x = true) : Gl X x ∧ (x == ("__debug__" : Str)) = false := by
  unfold Inf.glb at h
  simp only [Bool.and_eq_true, decide_eq_true_eq, Bool.not_eq_true'] at h
  rw [← c.sc] at h
  exact h
theorem okN_ok {x : Str} (h : okN x = true) : (x == ("__debug__" : Str)) = false ∧ (x == ("__classdict__" : Str)) = false := by
  unfold okN at h
  simpa using h
theorem CtE.hu (c : CtE p call T lvl X I) : X.A.units + 64 < cLine := c.room.units
theorem CtE.blk (c : CtE p call T lvl X I) (s : Shared) (H : Hp) (scope : Scope) (cl : List (Str × Addr)) (C : Addr) (fp : List Addr) : CtE p call T lvl (X.blk s H scope (compEnvC scope cl C X.env) fp) (I.blk scope) where
  sc := by show relS scope X.env.scope = relS scope I.sc; rw [c.sc]
  N := c.N
  nd := c.nd
  fn := rfl
  calm := c.calm
  room := c.room
  hq := c.hq
  cf := c.cf
  hf := c.hf
  hc := c.hc
  hg := c.hg
  hd := c.hd
  hb := c.hb
  hm := c.hm
  hp := c.hp
  hi := c.hi
  he := fun k g h => ⟨(c.he k g h).ic, (c.he k g h).ex, (c.he k g h).ne, (c.he k g h).ob⟩
  hx := fun x h => let ⟨d, ws, h1, h2, h3⟩ := c.hx x h; ⟨d, ws, h1, h2, ⟨h3.ex⟩⟩
theorem set_plain' {e : Expr} {env : PySem.Env} (h : noMark e = true) : ∀ x, foldedSetIterable e env x = pure x := by
  intro x
  cases e <;> first | rfl | cases h
mutual
theorem ckP_ok (c : CtE p call T lvl X I) : ∀ (t : Tp) (e : Expr), ckP I t e = true → PG X e (tTp X t)
  | .nm i, e, h => by
    rw [ckP] at h
    split at h
    · next x hx =>
      obtain ⟨q, rfl⟩ := dName_ok hx
      simp only [Bool.and_eq_true, decide_eq_true_eq] at h
      have l := c.loc h.2
      exact jg_name c.nd (by rw [c.N]; exact h.1) l.1 l.2
    · cases h
  | .tp ts, e, h => by
    rw [ckP] at h
    split at h
    · next es hx =>
      obtain ⟨k, q, rfl⟩ := dTup_ok hx
      simp only [Bool.and_eq_true, decide_eq_true_eq] at h
      exact jg_tup c.calm (ckPs_ok c ts es h.2 h.1.1) h.1.1 h.1.2
    · cases h
theorem ckPs_ok (c : CtE p call T lvl X I) : ∀ (ts : List Tp) (es : List Expr), ckPs I ts es = true → es.all noStar = true → PGs X es (tTps X ts)
  | [], [], _, _ => jgs_nil
  | t :: ts, e :: es, h, hs => by
    rw [ckPs] at h
    simp only [Bool.and_eq_true] at h
    simp only [List.all_cons, Bool.and_eq_true] at hs
    exact jgs_cons (ckP_ok c t e h.1) (ckPs_ok c ts es h.2 hs.2) hs.1
  | [], _ :: _, h, _ => by rw [ckPs] at h <;> first | cases h | simp
  | _ :: _, [], h, _ => by rw [ckPs] at h <;> first | cases h | simp
end
theorem PT.pw {o : PySem.BoolOp} {vs : List Expr} {pos : Pos} {t : TT} (h : PT X (.BoolOp o vs pos) t) : PW X (.BoolOp o vs pos) t := ⟨fun wh pins s σ H Q I q => h.run pins s σ H Q I q⟩
theorem jd_not {tst : Bool} {a : Expr} {pos : Pos} {f : Env → Store → R Sq} (h : Jd tst X a f) : Jd tst X (.UnaryOp .Not a pos) (fun env st => (asB (f env st)).bind fun b st => val (.bl (!b)) st) := by
  cases tst with
  | false => exact je_not rfl h
  | true =>
    refine jt_not ?_ h
    funext env st
    show asB ((asB (f env st)).bind fun b st => val (.bl (!b)) st) = _
    cases asB (f env st) <;> rfl
theorem jd_and {tst : Bool} {e a b : Expr} {fa fb : Env → Store → R Sq} (he : dBool e = some (.And, a, b)) (ha : Jd tst X a fa) (hb : Jd tst X b fb) : Jd tst X e (fun env st => (asB (fa env st)).bind fun x st => if x then fb env st else val (.bl false) st) := by
  have h2 : (fun env st => asB ((asB (fa env st)).bind fun x st => if x then fb env st else val (.bl false) st)) = fun env st => (asB (fa env st)).bind fun x st => if x then asB (fb env st) else .ok false st := by
    funext env st
    cases asB (fa env st) with
    | ok b st' => cases b <;> rfl
    | _ => rfl
  rcases dBool_ok he with ⟨q, rfl⟩ | ⟨y, z, r, q, rfl, rfl⟩
  · cases tst with
    | false => exact je_and rfl ha (pe_one hb)
    | true =>
      show PT X _ (tBo X fun env st => asB _)
      rw [h2]
      exact (jw_and (fb := fun env st => asB (fb env st)) rfl ha (pw_and1 hb)).pt
  · cases tst with
    | false => exact je_and rfl ha hb
    | true =>
      show PT X _ (tBo X fun env st => asB _)
      rw [h2]
      exact (jw_and (fb := fun env st => asB (fb env st)) rfl ha (PT.pw hb)).pt
theorem jd_or {tst : Bool} {e a b : Expr} {fa fb : Env → Store → R Sq} (he : dBool e = some (.Or, a, b)) (ha : Jd tst X a fa) (hb : Jd tst X b fb) : Jd tst X e (fun env st => (asB (fa env st)).bind fun x st => if x then val (.bl true) st else fb env st) := by
  have h2 : (fun env st => asB ((asB (fa env st)).bind fun x st => if x then val (.bl true) st else fb env st)) = fun env st => (asB (fa env st)).bind fun x st => if x then .ok true st else asB (fb env st) := by
    funext env st
    cases asB (fa env st) with
    | ok b st' => cases b <;> rfl
    | _ => rfl
  rcases dBool_ok he with ⟨q, rfl⟩ | ⟨y, z, r, q, rfl, rfl⟩
  · cases tst with
    | false => exact je_or rfl ha (pe_one hb)
    | true =>
      show PT X _ (tBo X fun env st => asB _)
      rw [h2]
      exact (jw_or (fb := fun env st => asB (fb env st)) rfl ha (pw_or1 hb)).pt
  · cases tst with
    | false => exact je_or rfl ha hb
    | true =>
      show PT X _ (tBo X fun env st => asB _)
      rw [h2]
      exact (jw_or (fb := fun env st => asB (fb env st)) rfl ha (PT.pw hb)).pt
theorem jd_cmp (c : CtE p call T lvl X I) {tst : Bool} {o : Cop} {a b : Expr} {pos : Pos} {fa fb : Env → Store → R Sq} (ha : PE X a (tX X fa)) (hb : PE X b (tX X fb)) (hm : noMark b = true) : Jd tst X (.Compare a [copOf o] [b] pos) (fun env st => (fa env st).bind fun x st => (fb env st).bind fun y st => cmpV p call o x y st) := by
  cases tst with
  | false => exact je_cmp rfl (noex_cmp c.hq o) (op_cop c.hq c.hu o) ha hb hm
  | true => exact jt_cmp rfl (noex_cmp c.hq o) (op_cop c.hq c.hu o) ha hb hm
theorem jd_eqo (c : CtE p call T lvl X I) {tst neg : Bool} {a b : Expr} {pos : Pos} {fa fb : Env → Store → R Sq} (ha : PE X a (tX X fa)) (hb : PE X b (tX X fb)) (hm : noMark b = true) : Jd tst X (.Compare a [neqOf neg] [b] pos) (fun env st => (fa env st).bind fun x st => (fb env st).bind fun y st => eqoV p p.eqs call neg x y st) := by
  have o := op_eqo (X := X) (p := p) (eqs := p.eqs) (call := call) neg c.cf c.room c.he
  cases tst with
  | false => exact je_cmp rfl (noex_eqo neg) o ha hb hm
  | true => exact jt_cmp rfl (noex_eqo neg) o ha hb hm
theorem lastMarks_plain {o q : CmpOp} {b c : Expr} (h1 : noMark b = true) (h2 : noMark c = true) : lastMarks [o, q] [b, c] = false := mark_plain (op := q) h2
theorem len_evEs : ∀ {es : List Ex} {env : Env} {st : Store} {ds : List D} {st' : Store}, evEs p call es env st = .ok ds st' → ds.length = es.length
  | [], env, st, ds, st', h => by
    rw [evEs] at h
    cases h
    rfl
  | e :: es, env, st, ds, st', h => by
    rw [evEs] at h
    cases h1 : asD (evX p call e env st) with
    | no => rw [h1] at h; cases h
    | ex x fs s => rw [h1] at h; cases h
    | ok d s1 =>
      rw [h1] at h
      cases h2 : evEs p call es env s1 with
      | no => simp only [R.bind, h2] at h; cases h
      | ex x fs s => simp only [R.bind, h2] at h; cases h
      | ok ds2 s2 =>
        simp only [R.bind, h2] at h
        cases h
        simp [len_evEs h2]
theorem ckEs_len : ∀ {es : List Ex} {es' : List Expr}, cks T p I es es' = true → es.length = es'.length
  | [], [], _ => rfl
  | _ :: _, _ :: _, h => by
    rw [cks] at h
    simp only [Bool.and_eq_true] at h
    simp [ckEs_len h.2]
  | [], _ :: _, h => by rw [cks] at h <;> first | cases h | simp
  | _ :: _, [], h => by rw [cks] at h <;> first | cases h | simp
end
end Eng
/-! E28: the check of expressions is sound. -/
namespace Eng
open PySem PySem.Spec PyProof.Rows L2
section
variable {p : Prg} {call : String → List D → Store → R D} {T : Tab} {lvl : Nat}
theorem jd_chain {X : Cx} {tst : Bool} {o q : Cop} {a b c : Expr} {pos : Pos} {fa fb fc : Env → Store → R Sq} (ha : PE X a (tX X fa)) (hb : PE X b (tX X fb)) (hc : PE X c (tX X fc)) (h1 : noMark b = true) (h2 : noMark c = true) :
    Jd tst X (.Compare a [ltle o, ltle q] [b, c] pos) (fun env st => (fa env st).bind fun x st => (fb env st).bind fun y st => match x, y with
    | .val (.int i), .val (.int j) => match intCmp o i j with
      | some true => (fc env st).bind fun z st => match z with
        | .val (.int k) => (opt (intCmp q j k) st).bind fun r st => val (.bl r) st
        | _ => .no
      | some false => val (.bl false) st
      | none => .no
    | _, _ => .no) := by
  cases tst with
  | false => exact (pe_chain (op_ltle o) (op_ltle q) ha hb hc (lastMarks_plain h1 h2)).imp fun σ H Q h => chain_read h
  | true => exact (pt_chain (op_ltle o) (op_ltle q) ha hb hc (lastMarks_plain h1 h2)).imp fun σ H Q h => chain_read (tX_asB h)
theorem lookup_mem {α : Type} {k : String} {v : α} : ∀ {l : List (String × α)}, l.lookup k = some v → (k, v) ∈ l
  | [], h => by cases h
  | (g, x) :: l, h => by
    by_cases e : k = g
    · subst e
      simp only [List.lookup, beq_self_eq_true, Option.some.injEq] at h
      subst h
      exact List.mem_cons_self ..
    · have e' : (k == g) = false := by simpa using e
      simp only [List.lookup, e'] at h
      exact List.mem_cons_of_mem _ (lookup_mem h)
theorem attr_raw {f : String} {o : Ex} (h : noPrp p f = true) : evX p call (.attr f o) = evAttr p f (fun env st => asD (evX p call o env st)) := by
  funext env st
  show ((asD (evX p call o env st)).bind fun x st => match x with
    | .obj i => match st[i]? with
      | some (.ins c fs) => fld p call c fs i f st
      | _ => .no
    | _ => .no) = _
  unfold evAttr
  have key : ∀ (x : D) (st : Store), (match x with
    | .obj i => match st[i]? with
      | some (.ins c fs) => fld p call c fs i f st
      | _ => .no
    | _ => .no : R Sq) = (match x with
    | .obj i => match st[i]? with
      | some (.ins c fs) => if rawA p c f then (opt (fs.lookup f) st).bind fun d st => val d st else .no
      | _ => .no
    | _ => .no) := by
    intro x st
    cases x with
    | obj i =>
      dsimp only
      cases hi : st[i]? with
      | none => rfl
      | some o =>
        cases o with
        | ins c fs =>
          dsimp only
          unfold fld
          cases hc : p.cls.lookup c with
          | none => simp [rawA, hc]
          | some cd =>
            have : cd.prps.lookup f = none := by
              unfold noPrp at h
              rw [List.all_eq_true] at h
              have := h _ (lookup_mem hc)
              simpa using this
            dsimp only
            rw [this]
        | _ => rfl
    | _ => rfl
  congr 1
  funext x st
  exact key x st
theorem lc_is {elt : Ex} {tg : Tp} {it : It} {cond : Option Ex} {own : List Nat} : evX p call (.lc elt tg it cond own) = evLc tg (evI p call it) (cond.map fun c env st => asB (evX p call c env st)) (fun env st => asD (evX p call elt env st)) own := by
  funext env st
  rw [evX]
  unfold evLc
  congr 1
  funext w st
  split
  · rfl
  · congr 2
    funext x st
    unfold lcTurn
    cases bindP tg x (wipeE env own) with
    | none => rfl
    | some env' => cases cond <;> rfl
theorem own_map {I : Inf} {own : List Nat} : (ownOf I own).map (·.2) = own := by
  induction own with
  | nil => rfl
  | cons a l ih =>
    show a :: (ownOf I l).map (·.2) = a :: l
    rw [ih]
theorem own_sub {I : Inf} {own : List Nat} {t : Tp} (h : (tpNames t).all own.contains = true) : ∀ i ∈ tpNames t, i ∈ (ownOf I own).map (·.2) := fun i hi => by
  rw [own_map]
  have := List.all_eq_true.mp h i hi
  simpa using this
theorem evO_part {lo : Option Ex} {env : Env} {st : Store} : evO p call lo env st = evPart (lo.map (evX p call)) env st := by
  cases lo <;> rfl
mutual
theorem ck_ok : ∀ (e : Ex) (tst : Bool) (X : Cx) (I : Inf) (e' : Expr), CtE p call T lvl X I → ck T p tst I e e' = true → Jd tst X e' (evX p call e)
  | .not a, tst, X, I, e', c, h => by
    rw [ck] at h
    split at h
    · next o a' hx =>
      obtain ⟨q, rfl⟩ := dUn_ok hx
      simp only [Bool.and_eq_true, decide_eq_true_eq] at h
      obtain ⟨rfl, h⟩ := h
      exact jd_not (ck_ok a tst X I a' c h)
    · cases h
  | .and a b, tst, X, I, e', c, h => by
    rw [ck] at h
    split at h
    · next o a' b' hx =>
      simp only [Bool.and_eq_true, decide_eq_true_eq] at h
      obtain ⟨⟨rfl, h1⟩, h2⟩ := h
      exact jd_and hx (ck_ok a tst X I a' c h1) (ck_ok b tst X I b' c h2)
    · cases h
  | .or a b, tst, X, I, e', c, h => by
    rw [ck] at h
    split at h
    · next o a' b' hx =>
      simp only [Bool.and_eq_true, decide_eq_true_eq] at h
      obtain ⟨⟨rfl, h1⟩, h2⟩ := h
      exact jd_or hx (ck_ok a tst X I a' c h1) (ck_ok b tst X I b' c h2)
    · cases h
  | .cmp o a b, tst, X, I, e', c, h => by
    rw [ck] at h
    split at h
    · next a' o' b' hx =>
      obtain ⟨q, rfl⟩ := dCmp_ok hx
      simp only [Bool.and_eq_true, decide_eq_true_eq] at h
      obtain ⟨⟨⟨rfl, h1⟩, h2⟩, h3⟩ := h
      exact jd_cmp c (ck_ok a false X I a' c h2) (ck_ok b false X I b' c h3) h1
    · cases h
  | .chain o q a b d, tst, X, I, e', c, h => by
    rw [ck] at h
    split at h
    · next a' o' b' q' d' hx =>
      obtain ⟨q, rfl⟩ := dChain_ok hx
      simp only [Bool.and_eq_true, decide_eq_true_eq] at h
      obtain ⟨⟨⟨⟨⟨⟨rfl, rfl⟩, h1⟩, h2⟩, h3⟩, h4⟩, h5⟩ := h
      exact jd_chain (ck_ok a false X I a' c h3) (ck_ok b false X I b' c h4) (ck_ok d false X I d' c h5) h1 h2
    · cases h
  | .ite t a b, tst, X, I, e', c, h => by
    rw [ck] at h
    split at h
    · next t' a' b' hx =>
      obtain ⟨q, rfl⟩ := dIf_ok hx
      simp only [Bool.and_eq_true, Bool.not_eq_true'] at h
      obtain ⟨⟨⟨rfl, h1⟩, h2⟩, h3⟩ := h
      exact je_ite rfl (ck_ok t true X I t' c h1) (ck_ok a false X I a' c h2) (ck_ok b false X I b' c h3)
    · cases h
  | .var i, tst, X, I, e', c, h => by
    rw [ck, Bool.and_eq_true] at h
    obtain ⟨hp, h⟩ := h
    refine jd_of ?_ hp
    split at h
    · next x hx =>
      obtain ⟨q, rfl⟩ := dName_ok hx
      simp only [Bool.and_eq_true, decide_eq_true_eq] at h
      have k := okN_ok h.2
      exact je_var rfl (by rw [c.N]; exact h.1.1) (c.vis h.1.2) k.1 k.2
    · cases h
  | .cst d, tst, X, I, e', c, h => by
    rw [ck, Bool.and_eq_true] at h
    exact jd_of (dCst_ok rfl h.2) h.1
  | .glb x, tst, X, I, e', c, h => by
    rw [ck, Bool.and_eq_true] at h
    obtain ⟨hp, h⟩ := h
    refine jd_of ?_ hp
    split at h
    · next y hx =>
      obtain ⟨q, rfl⟩ := dName_ok hx
      simp only [Bool.and_eq_true, decide_eq_true_eq] at h
      obtain ⟨⟨rfl, h1⟩, h2⟩ := h
      obtain ⟨d, v, u, e1, e2, r, rd⟩ := c.hg x (by simpa using h2)
      have g := c.gl h1
      refine je_glb (d := d) ?_ g.1 e2 r rd g.2
      funext env st
      show ((opt (p.gls.lookup x) st).bind fun d st => val d st) = _
      rw [e1]
      rfl
    · cases h
  | .tup es, tst, X, I, e', c, h => by
    rw [ck, Bool.and_eq_true] at h
    obtain ⟨hp, h⟩ := h
    refine jd_of ?_ hp
    split at h
    · next es' hx =>
      obtain ⟨k, q, rfl⟩ := dTup_ok hx
      simp only [Bool.and_eq_true, decide_eq_true_eq] at h
      obtain ⟨⟨h1, h2⟩, h3⟩ := h
      exact je_tup rfl h1 (fun env st ds st' e => by rw [len_evEs e, ckEs_len h3]) (cks_ok es X I es' c h3 h2)
    · cases h
  | .lst es, tst, X, I, e', c, h => by
    rw [ck, Bool.and_eq_true] at h
    obtain ⟨hp, h⟩ := h
    refine jd_of ?_ hp
    split at h
    · next es' hx =>
      obtain ⟨q, rfl⟩ := dLst_ok hx
      simp only [Bool.and_eq_true, decide_eq_true_eq] at h
      obtain ⟨⟨h1, h2⟩, h3⟩ := h
      exact je_lst rfl h1 (fun env st ds st' e => by rw [len_evEs e, ckEs_len h3]) (cks_ok es X I es' c h3 h2)
    · cases h
  | .tupS es, tst, X, I, e', c, h => by
    rw [ck, Bool.and_eq_true] at h
    obtain ⟨hp, h⟩ := h
    refine jd_of ?_ hp
    split at h
    · next es' hx =>
      obtain ⟨k, q, rfl⟩ := dTup_ok hx
      exact je_tupS rfl (ckSx_ok es X I es' c h)
    · cases h
  | .lstS es, tst, X, I, e', c, h => by
    rw [ck, Bool.and_eq_true] at h
    obtain ⟨hp, h⟩ := h
    refine jd_of ?_ hp
    split at h
    · next es' hx =>
      obtain ⟨q, rfl⟩ := dLst_ok hx
      exact je_lstS rfl (ckSx_ok es X I es' c h)
    · cases h
  | .bin o a b, tst, X, I, e', c, h => by
    rw [ck, Bool.and_eq_true] at h
    obtain ⟨hp, h⟩ := h
    refine jd_of ?_ hp
    split at h
    · next a' o' b' hx =>
      obtain ⟨q, rfl⟩ := dBin_ok hx
      simp only [Bool.and_eq_true, decide_eq_true_eq] at h
      obtain ⟨⟨rfl, h1⟩, h2⟩ := h
      exact je_bin rfl (noex_bin o) (op_bop o) (ck_ok a false X I a' c h1) (ck_ok b false X I b' c h2)
    · cases h
  | .neg a, tst, X, I, e', c, h => by
    rw [ck, Bool.and_eq_true] at h
    obtain ⟨hp, h⟩ := h
    refine jd_of ?_ hp
    split at h
    · next o a' hx =>
      obtain ⟨q, rfl⟩ := dUn_ok hx
      simp only [Bool.and_eq_true, decide_eq_true_eq] at h
      obtain ⟨rfl, h1⟩ := h
      exact je_un rfl noex_neg un_negG (ck_ok a false X I a' c h1)
    · cases h
  | .call f args, tst, X, I, e', c, h => by
    rw [ck, Bool.and_eq_true] at h
    obtain ⟨hp, h⟩ := h
    refine jd_of ?_ hp
    split at h
    · next x es hx =>
      obtain ⟨q, q2, rfl⟩ := dCall_ok hx
      simp only [Bool.and_eq_true, decide_eq_true_eq] at h
      obtain ⟨⟨⟨⟨rfl, h1⟩, h2⟩, h3⟩, h4⟩ := h
      obtain ⟨F, hm, hk⟩ := c.hf f es.length (by simpa using h2)
      have g := c.gl h1
      exact je_call rfl F (c.room.mono (Nat.le_succ _)) g.1 hm hk g.2 rfl (fun env st ds st' e => by rw [len_evEs e, ckEs_len h4]) (fun e env st => by subst e; cases args with
        | nil => rfl
        | cons => rw [cks] at h4 <;> first | cases h4 | simp) h3 (cks_ok args X I es c h4 h3)
    · cases h
  | .make k args, tst, X, I, e', c, h => by
    rw [ck, Bool.and_eq_true] at h
    obtain ⟨hp, h⟩ := h
    refine jd_of ?_ hp
    split at h
    · next x es hx =>
      obtain ⟨q, q2, rfl⟩ := dCall_ok hx
      simp only [Bool.and_eq_true, decide_eq_true_eq] at h
      obtain ⟨⟨⟨⟨rfl, h1⟩, h2⟩, h3⟩, h4⟩ := h
      obtain ⟨cd, a, hcd, M, F, hm⟩ := c.hc k es.length (by simpa using h2)
      have g := c.gl h1
      refine je_make (c := k) ?_ M F c.room g.1 hm g.2 rfl (fun env st ds st' e => by rw [len_evEs e, ckEs_len h4]) (fun e env st => by subst e; cases args with
        | nil => rfl
        | cons => rw [cks] at h4 <;> first | cases h4 | simp) h3 (cks_ok args X I es c h4 h3)
      funext env st
      show ((evEs p call args env st).bind fun ds st => match p.cls.lookup k with
        | some cd => (call cd.init (.obj st.length :: ds) (st ++ [.ins k []])).bind fun d st' => match d with
          | .non => val (.obj st.length) st'
          | _ => .no
        | none => .no) = _
      rw [hcd]
      rfl
    · cases h
  | .attr f o, tst, X, I, e', c, h => by
    rw [ck, Bool.and_eq_true] at h
    obtain ⟨hp, h⟩ := h
    refine jd_of ?_ hp
    split at h
    · next o' f' hx =>
      obtain ⟨q, rfl⟩ := dAttr_ok hx
      simp only [Bool.and_eq_true, decide_eq_true_eq] at h
      obtain ⟨⟨⟨rfl, h1⟩, h2⟩, h3⟩ := h
      rw [Bool.or_eq_true] at h2
      rcases h2 with h2 | h2
      · exact je_attr (attr_raw h2) c.cf (pe_asD (ck_ok o false X I o' c h3)) h1
      · exact je_fldp rfl c.cf (c.hp f (by simpa using h2)) c.room (pe_asD (ck_ok o false X I o' c h3)) h1
    · cases h
  | .idx a i, tst, X, I, e', c, h => by
    rw [ck, Bool.and_eq_true] at h
    obtain ⟨hp, h⟩ := h
    refine jd_of ?_ hp
    split at h
    · next a' i' hx =>
      obtain ⟨q, rfl⟩ := dSub_ok hx
      simp only [Bool.and_eq_true] at h
      obtain ⟨⟨h1, h2⟩, h3⟩ := h
      exact je_idx rfl c.hu (ck_ok a false X I a' c h2) (ck_ok i false X I i' c h3) h1
    · cases h
  | .slc a lo hi, tst, X, I, e', c, h => by
    rw [ck, Bool.and_eq_true] at h
    obtain ⟨hp, h⟩ := h
    refine jd_of ?_ hp
    split at h
    · next a' lo' hi' hx =>
      obtain ⟨q, q2, rfl⟩ := dSlc_ok hx
      simp only [Bool.and_eq_true] at h
      obtain ⟨⟨h1, h2⟩, h3⟩ := h
      refine je_slc (fl := lo.map (evX p call)) (fh := hi.map (evX p call)) ?_ (ck_ok a false X I a' c h1) (ckO_ok lo X I lo' c h2) (ckO_ok hi X I hi' c h3)
      funext env st
      show ((evX p call a env st).bind fun x st => (evO p call lo env st).bind fun l st => (evO p call hi env st).bind fun h st => slcV x l h st) = _
      simp only [evO_part]
    · cases h
  | .bm .reverse o [], tst, X, I, e', c, h => by
    rw [ck, Bool.and_eq_true] at h
    obtain ⟨hp, h⟩ := h
    refine jd_of ?_ hp
    split at h
    · next o' m es hx =>
      obtain ⟨q, q2, rfl, hl⟩ := dMeth_ok hx
      simp only [Bool.and_eq_true, decide_eq_true_eq] at h
      obtain ⟨⟨⟨rfl, h1⟩, h2⟩, h3⟩ := h
      obtain rfl : es = [] := by simpa using h1
      exact je_rev rfl (ck_ok o false X I o' c h3) h2 hl
    · cases h
  | .bm .append o args, tst, X, I, e', c, h => by rw [ck] at h <;> first | cases h | simp
  | .bm .extend o args, tst, X, I, e', c, h => by rw [ck] at h <;> first | cases h | simp
  | .bm .clear o args, tst, X, I, e', c, h => by rw [ck] at h <;> first | cases h | simp
  | .bm .get o args, tst, X, I, e', c, h => by rw [ck] at h <;> first | cases h | simp
  | .bm .setdefault o args, tst, X, I, e', c, h => by rw [ck] at h <;> first | cases h | simp
  | .bm .update o args, tst, X, I, e', c, h => by rw [ck] at h <;> first | cases h | simp
  | .bm .index o args, tst, X, I, e', c, h => by rw [ck] at h <;> first | cases h | simp
  | .bm .join o args, tst, X, I, e', c, h => by rw [ck] at h <;> first | cases h | simp
  | .bm .split o args, tst, X, I, e', c, h => by rw [ck] at h <;> first | cases h | simp
  | .bm .strip o args, tst, X, I, e', c, h => by rw [ck] at h <;> first | cases h | simp
  | .bm .reverse o (_ :: _), tst, X, I, e', c, h => by rw [ck] at h <;> first | cases h | simp
  | .bf f a, tst, X, I, e', c, h => by
    rw [ck, Bool.and_eq_true] at h
    obtain ⟨hp, h⟩ := h
    refine jd_of ?_ hp
    split at h
    · next x a' hx =>
      obtain ⟨q, q2, rfl⟩ := dCall_ok hx
      simp only [Bool.and_eq_true, decide_eq_true_eq] at h
      obtain ⟨⟨⟨⟨⟨rfl, h1⟩, h2⟩, h3⟩, h4⟩, h5⟩ := h
      have g := c.gl h2
      have hm := c.hb _ (by simpa using h3)
      have A := ck_ok a false X I a' c h5
      cases f with
      | len => exact je_bfB rfl bf_len (bf_noex .len) g.1 hm (by decide +kernel) (by decide) g.2 h4 A
      | list => exact je_bfT rfl (bf_list c.calm) (bf_noex .list) g.1 hm (by decide +kernel) (by decide) g.2 h4 A
      | tuple => exact je_bfT rfl bf_tuple (bf_noex .tuple) g.1 hm (by decide +kernel) (by decide) g.2 h4 A
      | all => exact je_bfB rfl (bf_all c.calm) (bf_noex .all) g.1 hm (by decide +kernel) (by decide) g.2 h4 A
      | any => exact je_bfB rfl (bf_any c.calm) (bf_noex .any) g.1 hm (by decide +kernel) (by decide) g.2 h4 A
      | sorted => exact je_bfB rfl (bf_sorted c.calm) (bf_noex .sorted) g.1 hm (by decide +kernel) (by decide) g.2 h4 A
      | int => exact je_bfT rfl bf_int (bf_noex .int) g.1 hm (by decide +kernel) (by decide) g.2 h4 A
      | str => cases h1
      | dict => exact je_dictC rfl g.1 hm h4 A (bf_noex .dict)
    · cases h
  | .isi a t, tst, X, I, e', c, h => by
    rw [ck, Bool.and_eq_true] at h
    obtain ⟨hp, h⟩ := h
    refine jd_of ?_ hp
    split at h
    · next x a' b' hx =>
      obtain ⟨q, q2, rfl⟩ := dCall_ok hx
      simp only [Bool.and_eq_true, decide_eq_true_eq] at h
      obtain ⟨⟨⟨⟨⟨rfl, h2⟩, h3⟩, h4⟩, h6⟩, h5⟩ := h
      have g := c.gl h2
      have hm := c.hb _ (by simpa using h3)
      have A := ck_ok a false X I a' c h5
      split at h6
      · next y tn hy ht =>
        obtain ⟨q3, rfl⟩ := dName_ok hy
        simp only [Bool.and_eq_true, decide_eq_true_eq] at h6
        obtain ⟨⟨rfl, h7⟩, h8⟩ := h6
        have g2 := c.gl h7
        have hm2 := c.hb _ (by simpa using h8)
        refine je_isi rfl ht g.1 hm g2.1 hm2 ?_ ?_ g2.2 h4 A
        · cases t <;> simp only [tyName, Option.some.injEq, reduceCtorEq] at ht <;> subst ht <;> decide +kernel
        · cases t <;> simp only [tyName, Option.some.injEq, reduceCtorEq] at ht <;> subst ht <;> decide
      · cases h6
    · cases h
  | .gidx x i, tst, X, I, e', c, h => by
    rw [ck, Bool.and_eq_true] at h
    obtain ⟨hp, h⟩ := h
    refine jd_of ?_ hp
    split at h
    · next a' i' hx =>
      obtain ⟨q, rfl⟩ := dSub_ok hx
      simp only [Bool.and_eq_true] at h
      obtain ⟨⟨h1, h2⟩, h3⟩ := h
      split at h1
      · next y hy =>
        obtain ⟨q3, rfl⟩ := dName_ok hy
        simp only [Bool.and_eq_true, decide_eq_true_eq] at h1
        obtain ⟨⟨rfl, h7⟩, h8⟩ := h1
        obtain ⟨kvs, a, e1, e2, kd⟩ := c.hd x (by simpa using h8)
        have g := c.gl h7
        refine je_gidx (kvs := kvs) ?_ g.1 e2 kd g.2 h2 (ck_ok i false X I i' c h3)
        funext env st
        show ((asD (evX p call i env st)).bind fun k st => (opt (match p.gds.lookup x, k with
          | some kvs, .str z => dLook kvs (.text z)
          | _, _ => none) st).bind fun d st => val d st) = _
        rw [e1]
        congr 1
        funext k st
        cases k <;> rfl
      · cases h1
    · cases h
  | .dct none kvs, tst, X, I, e', c, h => by
    rw [ck, Bool.and_eq_true] at h
    obtain ⟨hp, h⟩ := h
    refine jd_of ?_ hp
    split at h
    · next ks vs hx =>
      obtain ⟨q, rfl⟩ := dDict_ok hx
      simp only [Bool.and_eq_true, decide_eq_true_eq] at h
      obtain ⟨⟨⟨h1, h2⟩, h3⟩, h4⟩ := h
      have J := ckKx_ok kvs X I ks vs q c h4
      cases ks with
      | nil =>
        cases vs with
        | nil =>
          cases kvs with
          | nil => exact je_dct0 rfl
          | cons k _ => cases k; rw [ckKx] at h4 <;> first | cases h4 | simp
        | cons v vs => cases h2
      | cons k ks => exact je_dct rfl J h1 h2 (by simp) h3
    · cases h
  | .dct (some s) kvs, tst, X, I, e', c, h => by rw [ck] at h <;> first | cases h | simp
  | .lc elt tg it cond own, tst, X, I, e', c, h => by
    rw [ck, Bool.and_eq_true] at h
    obtain ⟨hp, h⟩ := h
    refine jd_of ?_ hp
    split at h
    · next elt' tg' it' ifs s hx =>
      obtain ⟨q, rfl⟩ := dLc_ok hx
      simp only [Bool.and_eq_true] at h
      obtain ⟨⟨⟨⟨⟨⟨h1, h2⟩, h3⟩, h4⟩, h5⟩, h6⟩, h7⟩ := h
      refine je_lc (own := ownOf I own) (t := tg) (fi := evI p call it) (fc := cond.map fun c env st => asB (evX p call c env st)) (fe := fun env st => asD (evX p call elt env st)) ?_ (own_sub h2) c.calm c.nd (ckI_ok it X I it' tg' c h5) (by rw [c.N, c.sc]; exact blkB_ok h1) (fun s0 H C cl fp => blk_G (ckP_ok (c.blk s0 H s cl C fp) tg tg' h4))
        (fun s0 H C cl fp => ckC_ok cond X s0 H s (compEnvC s cl C X.env) fp (I.blk s) ifs (c.blk s0 H s cl C fp) h7) (fun s0 H C cl fp => blk_D (pe_asD (ck_ok elt false _ (I.blk s) elt' (c.blk s0 H s cl C fp) h6))) (set_plain' h3)
      rw [own_map]
      exact lc_is
    · cases h
  | .dc k v tg it own, tst, X, I, e', c, h => by
    rw [ck, Bool.and_eq_true] at h
    obtain ⟨hp, h⟩ := h
    refine jd_of ?_ hp
    split at h
    · next k' v' tg' it' s hx =>
      obtain ⟨q, rfl⟩ := dDc_ok hx
      simp only [Bool.and_eq_true] at h
      obtain ⟨⟨⟨⟨⟨⟨h1, h2⟩, h3⟩, h4⟩, h5⟩, h6⟩, h7⟩ := h
      refine je_dc (own := ownOf I own) (t := tg) (fi := evI p call it) (fk := fun env st => asD (evX p call k env st)) (fv := fun env st => asD (evX p call v env st)) ?_ c.hu (own_sub h2) c.calm c.nd (ckI_ok it X I it' tg' c h5) (by rw [c.N, c.sc]; exact blkB_ok h1) (fun s0 H C cl fp => blk_G (ckP_ok (c.blk s0 H s cl C fp) tg tg' h4))
        (fun s0 H C cl fp => blk_D (pe_asD (ck_ok k false _ (I.blk s) k' (c.blk s0 H s cl C fp) h6))) (fun s0 H C cl fp => blk_D (pe_asD (ck_ok v false _ (I.blk s) v' (c.blk s0 H s cl C fp) h7))) (set_plain' h3)
      rw [own_map]
      rfl
    · cases h
  | .meth m o args, tst, X, I, e', c, h => by
    rw [ck, Bool.and_eq_true] at h
    obtain ⟨hp, h⟩ := h
    refine jd_of ?_ hp
    split at h
    · next o' m' es hx =>
      obtain ⟨q, q2, rfl, hl⟩ := dMeth_ok hx
      simp only [Bool.and_eq_true, decide_eq_true_eq] at h
      obtain ⟨⟨⟨⟨⟨⟨rfl, h1⟩, h2⟩, h3⟩, h4⟩, h5⟩, h6⟩ := h
      exact je_meth rfl c.cf (c.hm m _ (by simpa using h2)) (c.room.mono (Nat.le_succ _)) (fun env st ds st' e => by rw [len_evEs e, ckEs_len h6]) (fun e env st => by subst e; cases args with
        | nil => rfl
        | cons => rw [cks] at h6 <;> first | cases h6 | simp) h3 h4 h1 hl (pe_asD (ck_ok o false X I o' c h5)) (cks_ok args X I es c h6 h3)
    · cases h
  | .stuck, tst, X, I, e', c, h => by
    cases tst with
    | false => exact je_stuck
    | true => exact jt_stuck
  | .isc a C, tst, X, I, e', c, h => by
    rw [ck, Bool.and_eq_true] at h
    obtain ⟨hp, h⟩ := h
    refine jd_of ?_ hp
    split at h
    · next x a' b' hx =>
      obtain ⟨q, q2, rfl⟩ := dCall_ok hx
      simp only [Bool.and_eq_true, decide_eq_true_eq] at h
      obtain ⟨⟨⟨⟨⟨rfl, h2⟩, h3⟩, h4⟩, h6⟩, h5⟩ := h
      have g := c.gl h2
      have hm := c.hb _ (by simpa using h3)
      have A := ck_ok a false X I a' c h5
      split at h6
      · next y hy =>
        obtain ⟨q3, rfl⟩ := dName_ok hy
        simp only [Bool.and_eq_true, decide_eq_true_eq] at h6
        obtain ⟨⟨rfl, h7⟩, h8⟩ := h6
        have g2 := c.gl h7
        obtain ⟨i1, i2⟩ := c.hi C (by simpa using h8)
        exact je_isc rfl rfl c.cf i1 g.1 hm g2.1 i2 g2.2 h4 A
      · cases h6
    · cases h
  | .eqo neg a b, tst, X, I, e', c, h => by
    rw [ck] at h
    split at h
    · next a' o' b' hx =>
      obtain ⟨q, rfl⟩ := dCmp_ok hx
      simp only [Bool.and_eq_true, decide_eq_true_eq] at h
      obtain ⟨⟨⟨rfl, h1⟩, h2⟩, h3⟩ := h
      exact jd_eqo c (ck_ok a false X I a' c h2) (ck_ok b false X I b' c h3) h1
    · cases h
  | .sortT a, tst, X, I, e', c, h => by
    rw [ck, Bool.and_eq_true] at h
    obtain ⟨hp, h⟩ := h
    refine jd_of ?_ hp
    split at h
    · next x a' hx =>
      obtain ⟨q, q2, rfl⟩ := dCall_ok hx
      simp only [Bool.and_eq_true, decide_eq_true_eq] at h
      obtain ⟨⟨⟨⟨rfl, h2⟩, h3⟩, h4⟩, h5⟩ := h
      have g := c.gl h2
      exact je_bfB rfl (bf_sortT c.hu) sortV_noex g.1 (c.hb _ (by simpa using h3)) (by decide +kernel) (by decide) g.2 h4 (ck_ok a false X I a' c h5)
    · cases h
  | .dictP a, tst, X, I, e', c, h => by
    rw [ck, Bool.and_eq_true] at h
    obtain ⟨hp, h⟩ := h
    refine jd_of ?_ hp
    split at h
    · next x a' hx =>
      obtain ⟨q, q2, rfl⟩ := dCall_ok hx
      simp only [Bool.and_eq_true, decide_eq_true_eq] at h
      obtain ⟨⟨⟨⟨rfl, h2⟩, h3⟩, h4⟩, h5⟩ := h
      have g := c.gl h2
      exact je_dictP rfl c.calm g.1 (c.hb _ (by simpa using h3)) h4 (ck_ok a false X I a' c h5)
    · cases h
  | .itemsL o, tst, X, I, e', c, h => by
    rw [ck, Bool.and_eq_true] at h
    obtain ⟨hp, h⟩ := h
    refine jd_of ?_ hp
    split at h
    · next o' hx =>
      obtain ⟨p1, a1, c1, q1, rfl, hl⟩ := dItems_ok hx
      simp only [Bool.and_eq_true] at h
      obtain ⟨⟨⟨h1, h2⟩, h3⟩, h4⟩ := h
      have g := c.gl h1
      exact je_items rfl c.calm (ck_ok o false X I o' c h4) g.1 (c.hb "list" (by simpa using h2)) h3 hl
    · cases h
  | .rev a, tst, X, I, e', c, h => by
    rw [ck, Bool.and_eq_true] at h
    obtain ⟨hp, h⟩ := h
    refine jd_of ?_ hp
    split at h
    · next a' hx =>
      obtain ⟨k, p1, p2, p3, q, rfl⟩ := dRev_ok hx
      exact je_revL rfl (ck_ok a false X I a' c h)
    · cases h
  | .app o a, tst, X, I, e', c, h => by
    rw [ck, Bool.and_eq_true] at h
    obtain ⟨hp, h⟩ := h
    refine jd_of ?_ hp
    split at h
    · next o' m a' hx =>
      obtain ⟨q, q2, rfl, hl⟩ := dMeth_ok hx
      simp only [Bool.and_eq_true, decide_eq_true_eq] at h
      obtain ⟨⟨⟨⟨rfl, h1⟩, h2⟩, h3⟩, h4⟩ := h
      exact je_append rfl (ck_ok o false X I o' c h3) (ck_ok a false X I a' c h4) h1 h2 hl
    · cases h
  | .clr o, tst, X, I, e', c, h => by
    rw [ck, Bool.and_eq_true] at h
    obtain ⟨hp, h⟩ := h
    refine jd_of ?_ hp
    split at h
    · next o' m hx =>
      obtain ⟨q, q2, rfl, hl⟩ := dMeth_ok hx
      simp only [Bool.and_eq_true, decide_eq_true_eq] at h
      obtain ⟨⟨rfl, h1⟩, h3⟩ := h
      exact je_dclear rfl (ck_ok o false X I o' c h3) h1 hl
    · cases h
  | .tx t o a, tst, X, I, e', c, h => by
    rw [ck, Bool.and_eq_true] at h
    obtain ⟨hp, h⟩ := h
    refine jd_of ?_ hp
    split at h
    · next o' m a' hx =>
      obtain ⟨q, q2, rfl, hl⟩ := dMeth_ok hx
      simp only [Bool.and_eq_true, decide_eq_true_eq] at h
      obtain ⟨⟨⟨⟨rfl, h1⟩, h2⟩, h3⟩, h4⟩ := h
      cases t with
      | join => exact je_join rfl (ck_ok o false X I o' c h3) (ck_ok a false X I a' c h4) h1 h2 hl
      | split => exact je_split rfl (ck_ok o false X I o' c h3) (ck_ok a false X I a' c h4) h1 h2 hl
      | strip => exact je_strip rfl (ck_ok o false X I o' c h3) (ck_ok a false X I a' c h4) h1 h2 hl
    · cases h
  | .num a, tst, X, I, e', c, h => by
    rw [ck, Bool.and_eq_true] at h
    obtain ⟨hp, h⟩ := h
    refine jd_of ?_ hp
    split at h
    · next x a' hx =>
      obtain ⟨q, q2, rfl⟩ := dCall_ok hx
      simp only [Bool.and_eq_true, decide_eq_true_eq] at h
      obtain ⟨⟨⟨⟨rfl, h2⟩, h3⟩, h4⟩, h5⟩ := h
      have g := c.gl h2
      exact je_bfT rfl bf_num numV_noex g.1 (c.hb _ (by simpa using h3)) (by decide +kernel) (by decide) g.2 h4 (ck_ok a false X I a' c h5)
    · cases h
  | .txt a, tst, X, I, e', c, h => by
    rw [ck, Bool.and_eq_true] at h
    obtain ⟨hp, h⟩ := h
    refine jd_of ?_ hp
    split at h
    · next x a' hx =>
      obtain ⟨q, q2, rfl⟩ := dCall_ok hx
      simp only [Bool.and_eq_true, decide_eq_true_eq] at h
      obtain ⟨⟨⟨⟨rfl, h2⟩, h3⟩, h4⟩, h5⟩ := h
      have g := c.gl h2
      exact je_bfT rfl bf_txt strV_noex g.1 (c.hb _ (by simpa using h3)) (by decide +kernel) (by decide) g.2 h4 (ck_ok a false X I a' c h5)
    · cases h
  | .ext o a, tst, X, I, e', c, h => by
    rw [ck, Bool.and_eq_true] at h
    obtain ⟨hp, h⟩ := h
    refine jd_of ?_ hp
    split at h
    · next o' m a' hx =>
      obtain ⟨q, q2, rfl, hl⟩ := dMeth_ok hx
      simp only [Bool.and_eq_true, decide_eq_true_eq] at h
      obtain ⟨⟨⟨⟨rfl, h1⟩, h2⟩, h3⟩, h4⟩ := h
      exact je_ext rfl (ck_ok o false X I o' c h3) (ck_ok a false X I a' c h4) h1 h2 hl
    · cases h
  | .star d k v, tst, X, I, e', c, h => by
    rw [ck, Bool.and_eq_true] at h
    obtain ⟨hp, h⟩ := h
    refine jd_of ?_ hp
    split at h
    · next d' k' v' hx =>
      obtain ⟨q, rfl⟩ := dStar_ok hx
      simp only [Bool.and_eq_true] at h
      exact je_star rfl (ck_ok d false X I d' c h.1.1) (ck_ok k false X I k' c h.1.2) (ck_ok v false X I v' c h.2)
    · cases h
  | .zipd a b, tst, X, I, e', c, h => by
    rw [ck, Bool.and_eq_true] at h
    obtain ⟨hp, h⟩ := h
    refine jd_of ?_ hp
    split at h
    · next x z hx =>
      obtain ⟨q, q2, rfl⟩ := dCall_ok hx
      simp only [Bool.and_eq_true, decide_eq_true_eq] at h
      obtain ⟨⟨⟨rfl, h2⟩, h3⟩, h4⟩ := h
      split at h4
      · next y a' b' hy =>
        obtain ⟨q3, q4, rfl⟩ := dCall_ok hy
        simp only [Bool.and_eq_true, decide_eq_true_eq] at h4
        obtain ⟨⟨⟨⟨⟨⟨rfl, g1⟩, g2⟩, g3⟩, g4⟩, g5⟩, g6⟩ := h4
        have k1 := c.gl h2
        have k2 := c.gl g1
        exact je_zipd rfl c.calm k1.1 (c.hb _ (by simpa using h3)) k2.1 (c.hb _ (by simpa using g2)) g3 g4 (ck_ok a false X I a' c g5) (ck_ok b false X I b' c g6)
      · cases h4
    · cases h
  | .getN o k, tst, X, I, e', c, h => by
    rw [ck, Bool.and_eq_true] at h
    obtain ⟨hp, h⟩ := h
    refine jd_of ?_ hp
    split at h
    · next o' m k' n' hx =>
      obtain ⟨q, q2, rfl, hl⟩ := dMeth_ok hx
      simp only [Bool.and_eq_true, decide_eq_true_eq] at h
      obtain ⟨⟨⟨⟨⟨rfl, h1⟩, h2⟩, h3⟩, h4⟩, h5⟩ := h
      obtain ⟨kk, q3, rfl⟩ := dNone_ok h3
      exact je_getN rfl c.hu (ck_ok o false X I o' c h4) (ck_ok k false X I k' c h5) h1 h2 hl
    · cases h
  | .gix x a, tst, X, I, e', c, h => by
    rw [ck, Bool.and_eq_true] at h
    obtain ⟨hp, h⟩ := h
    refine jd_of ?_ hp
    split at h
    · next o' m a' hx =>
      obtain ⟨q, q2, rfl, hl⟩ := dMeth_ok hx
      simp only [Bool.and_eq_true, decide_eq_true_eq] at h
      obtain ⟨⟨⟨h1, rfl⟩, h2⟩, h3⟩ := h
      split at h1
      · next y hy =>
        obtain ⟨q3, rfl⟩ := dName_ok hy
        simp only [Bool.and_eq_true, decide_eq_true_eq] at h1
        obtain ⟨⟨rfl, h4⟩, h5⟩ := h1
        have k1 := c.gl h4
        obtain ⟨d, ws, e1, e2, F⟩ := c.hx x (by simpa using h5)
        refine je_gix (ws := ws) (fa := evX p call a) ?_ F k1.1 k1.2 (ck_ok a false X I a' c h3) h2 hl
        funext env st
        rw [evX, e1]
        show (match tupStrs d with
          | some ws => (asD (evX p call a env st)).bind fun k st => ixV ws k st
          | none => .no) = _
        rw [e2]
      · cases h1
    · cases h
  | .dctA kvs, tst, X, I, e', c, h => by
    rw [ck, Bool.and_eq_true] at h
    obtain ⟨hp, h⟩ := h
    refine jd_of ?_ hp
    split at h
    · next ks vs hx =>
      obtain ⟨q, rfl⟩ := dDict_ok hx
      simp only [Bool.and_eq_true, decide_eq_true_eq, Bool.not_eq_true'] at h
      obtain ⟨⟨⟨⟨h1, h2⟩, h3⟩, h4⟩, h5⟩ := h
      exact je_dctA rfl c.hu (ckKx_ok kvs X I ks vs q c h5) h1 h2 (fun e => by rw [e] at h4; cases h4) h3
    · cases h
theorem cks_ok : ∀ (es : List Ex) (X : Cx) (I : Inf) (es' : List Expr), CtE p call T lvl X I → cks T p I es es' = true → es'.all noStar = true → PA X es' (tDs X (evEs p call es))
  | [], X, I, [], c, h, hs => ja_nil rfl
  | e :: es, X, I, e' :: es', c, h, hs => by
    rw [cks] at h
    simp only [Bool.and_eq_true] at h
    simp only [List.all_cons, Bool.and_eq_true] at hs
    exact ja_cons rfl (pe_asD (ck_ok e false X I e' c h.1)) (cks_ok es X I es' c h.2 hs.2) (star_plain hs.1)
  | [], X, I, _ :: _, c, h, hs => by rw [cks] at h <;> first | cases h | simp
  | _ :: _, X, I, [], c, h, hs => by rw [cks] at h <;> first | cases h | simp
theorem ckSx_ok : ∀ (es : List Sx) (X : Cx) (I : Inf) (es' : List Expr), CtE p call T lvl X I → ckSx T p I es es' = true → PA X es' (tDs X (evSx p call es))
  | [], X, I, [], c, h => ja_nil rfl
  | .one e :: es, X, I, e' :: es', c, h => by
    rw [ckSx] at h
    simp only [Bool.and_eq_true] at h
    exact ja_cons rfl (pe_asD (ck_ok e false X I e' c h.1.2)) (ckSx_ok es X I es' c h.2) (star_plain h.1.1)
  | .star e :: es, X, I, e' :: es', c, h => by
    cases e' with
    | Starred e' q =>
      rw [ckSx] at h
      simp only [Bool.and_eq_true] at h
      exact jx_star rfl (ck_ok e false X I e' c h.1) (ckSx_ok es X I es' c h.2)
    | _ => rw [ckSx] at h <;> first | cases h | simp
  | [], X, I, _ :: _, c, h => by rw [ckSx] at h <;> first | cases h | simp
  | .one _ :: _, X, I, [], c, h => by rw [ckSx] at h <;> first | cases h | simp
  | .star _ :: _, X, I, [], c, h => by rw [ckSx] at h <;> first | cases h | simp
theorem ckO_ok : ∀ (e : Option Ex) (X : Cx) (I : Inf) (e' : Option Expr), CtE p call T lvl X I → ckO T p I e e' = true → PO X e' (tPartO X (e.map (evX p call)))
  | none, X, I, none, c, h => po_none
  | some e, X, I, some e', c, h => by
    rw [ckO] at h
    exact po_some (pe_asD (ck_ok e false X I e' c h))
  | none, X, I, some _, c, h => by rw [ckO] at h <;> first | cases h | simp
  | some _, X, I, none, c, h => by rw [ckO] at h <;> first | cases h | simp
theorem ckC_ok : ∀ (e : Option Ex) (X : Cx) (s : Shared) (H : Hp) (sc : Scope) (cenv : PySem.Env) (fp : List Addr) (I : Inf) (e' : List Expr), CtE p call T lvl (X.blk s H sc cenv fp) I → ckC T p I e e' = true → PTs (X.blk s H sc cenv fp) e' (tIfs X (e.map fun c env st => asB (evX p call c env st)))
  | none, X, s, H, sc, cenv, fp, I, [], c, h => pts_nil
  | some e, X, s, H, sc, cenv, fp, I, [e'], c, h => by
    rw [ckC] at h
    exact pts_one (blk_B (ck_ok e true _ I e' c h))
  | none, X, s, H, sc, cenv, fp, I, _ :: _, c, h => by rw [ckC] at h <;> first | cases h | simp
  | some _, X, s, H, sc, cenv, fp, I, [], c, h => by rw [ckC] at h <;> first | cases h | simp
  | some _, X, s, H, sc, cenv, fp, I, _ :: _ :: _, c, h => by rw [ckC] at h <;> first | cases h | simp
theorem ckKx_ok : ∀ (es : List Kx) (X : Cx) (I : Inf) (ks : List (Option Expr)) (vs : List Expr) (pos : Pos), CtE p call T lvl X I → ckKx T p I es ks vs = true → JPs X pos ks vs (evKs p call es)
  | [], X, I, [], [], pos, c, h => jps_nil
  | .kv k v :: es, X, I, some k' :: ks, v' :: vs, pos, c, h => by
    rw [ckKx] at h
    simp only [Bool.and_eq_true] at h
    exact jps_cons rfl (pe_asD (ck_ok k false X I k' c h.1.1)) (pe_asD (ck_ok v false X I v' c h.1.2)) (ckKx_ok es X I ks vs pos c h.2)
  | [], X, I, _ :: _, _, pos, c, h => by rw [ckKx] at h <;> first | cases h | simp
  | [], X, I, [], _ :: _, pos, c, h => by rw [ckKx] at h <;> first | cases h | simp
  | .kv _ _ :: _, X, I, [], _, pos, c, h => by rw [ckKx] at h <;> first | cases h | simp
  | .kv _ _ :: _, X, I, none :: _, _, pos, c, h => by rw [ckKx] at h <;> first | cases h | simp
  | .kv _ _ :: _, X, I, some _ :: _, [], pos, c, h => by rw [ckKx] at h <;> first | cases h | simp
theorem ckI_ok : ∀ (e : It) (X : Cx) (I : Inf) (e' tg : Expr), CtE p call T lvl X I → ckI T p I e e' tg = true → PI X tg e' (tI X (evI p call e))
  | .seq e, X, I, e', tg, c, h => by
    rw [ckI] at h
    exact jp_seq (ck_ok e false X I e' c h)
  | .rng1 a, X, I, e', tg, c, h => by
    rw [ckI] at h
    split at h
    · next x a' hx =>
      obtain ⟨q, q2, rfl⟩ := dCall_ok hx
      simp only [Bool.and_eq_true, decide_eq_true_eq] at h
      obtain ⟨⟨⟨⟨rfl, h2⟩, h3⟩, h4⟩, h5⟩ := h
      have g := c.gl h2
      exact jp_rng1 rfl g.1 (c.hb _ (by simpa using h3)) h4 (ck_ok a false X I a' c h5)
    · cases h
  | .enum e, X, I, e', tg, c, h => by
    rw [ckI] at h
    split at h
    · next x a' hx =>
      obtain ⟨q, q2, rfl⟩ := dCall_ok hx
      simp only [Bool.and_eq_true, decide_eq_true_eq] at h
      obtain ⟨⟨⟨⟨⟨h0, rfl⟩, h2⟩, h3⟩, h4⟩, h5⟩ := h
      obtain ⟨es, he⟩ := Option.isSome_iff_exists.mp h0
      obtain ⟨k, q3, rfl⟩ := dTup_ok he
      have g := c.gl h2
      exact jp_enum rfl g.1 (c.hb _ (by simpa using h3)) h4 (ck_ok e false X I a' c h5)
    · cases h
  | .zip a b, X, I, e', tg, c, h => by
    rw [ckI] at h
    split at h
    · next x a' b' hx =>
      obtain ⟨q, q2, rfl⟩ := dCall_ok hx
      simp only [Bool.and_eq_true, decide_eq_true_eq] at h
      obtain ⟨⟨⟨⟨⟨⟨⟨h0, rfl⟩, h2⟩, h3⟩, h4⟩, h5⟩, h6⟩, h7⟩ := h
      obtain ⟨es, he⟩ := Option.isSome_iff_exists.mp h0
      obtain ⟨k, q3, rfl⟩ := dTup_ok he
      have g := c.gl h2
      exact jp_zip rfl g.1 (c.hb _ (by simpa using h3)) h4 h5 (ck_ok a false X I a' c h6) (ck_ok b false X I b' c h7)
    · cases h
  | .items e, X, I, e', tg, c, h => by
    rw [ckI] at h
    split at h
    · next o' m hx =>
      obtain ⟨q, q2, rfl, hl⟩ := dMeth_ok hx
      simp only [Bool.and_eq_true, decide_eq_true_eq] at h
      obtain ⟨⟨⟨h0, rfl⟩, h1⟩, h2⟩ := h
      obtain ⟨es, he⟩ := Option.isSome_iff_exists.mp h0
      obtain ⟨k, q3, rfl⟩ := dTup_ok he
      exact jp_items rfl (ck_ok e false X I o' c h2) h1 hl
    · cases h
  | .rng2 a b, X, I, e', tg, c, h => by
    rw [ckI] at h
    split at h
    · next x a' b' hx =>
      obtain ⟨q, q2, rfl⟩ := dCall_ok hx
      simp only [Bool.and_eq_true, decide_eq_true_eq] at h
      obtain ⟨⟨⟨⟨⟨⟨rfl, h2⟩, h3⟩, h4⟩, h5⟩, h6⟩, h7⟩ := h
      have g := c.gl h2
      exact jp_rng2 rfl g.1 (c.hb _ (by simpa using h3)) h4 h5 (ck_ok a false X I a' c h6) (ck_ok b false X I b' c h7)
    · cases h
end
end
end Eng
/-! T9: the check of a def that tells an exception's classes. -/
namespace Eng
open PySem PySem.Spec PyProof.Rows L2
/-- the check of such a def -/
def kdB (T : Tab) (N : List Str) (sc : Scope) (ks : List (List String)) (body : List Stmt) : Bool := match N with
  | [n, t] => decide (sc.names.lookup n = some .local) && decide (sc.names.lookup t = some .local) && okN n && okN t && decide (sc.names.lookup ("isinstance" : Str) = some .globalImplicit) && T.blts.contains "isinstance" &&
    ks.flatten.all (fun c => decide (sc.names.lookup (Str.ofString c) = some .globalImplicit) && !(Str.ofString c == ("__debug__" : Str)) && (T.cat.contains c || (c == "ValueError" && T.blts.contains "ValueError"))) && decide (ks.flatten.length ≤ 10000) && ks.all (fun k => decide (k.length ≤ 100)) && bodyC n t ks body
  | _ => false
theorem kdF_of {P : Program} {w : World} {K : PySem.W.Frag} {mg : Str → Option Value} {base : Heap} {lvl : Nat} {p : Prg} {T : Tab} {f : Addr} {fd : FuncData} {x qual : Str} {params : Arguments} {body : List Stmt} {scope : Scope} {N ps : List Str} {ks : List (List String)}
    (F : FunD K x qual params body scope [] [] f fd) (S : FnScope N ps scope) (hb : Binds K fd ps []) (hps : ps.length = 1) (hx : ∀ x xd, p.exs.lookup x = some xd → ExcC K (He.ga K (Str.ofString x))) (hbl : ∀ x ∈ T.blts, mg (Str.ofString x) = none) (hc : ∀ c ∈ ks.flatten, (T.cat.contains c = true ∨ (c = "ValueError" ∧ T.blts.contains "ValueError" = true)) → KdC K mg p c)
    (h : kdB T N scope ks body = true) : KdF P w K mg base (lvl + 1) p f ks.flatten := by
  obtain ⟨oc, od, dV, kV, doc, pm, an, cdv, ct, osl, rfl, lk, hcd, _, _⟩ := F.ex
  unfold kdB at h
  split at h
  case h_2 => cases h
  next n t =>
  simp only [Bool.and_eq_true, decide_eq_true_eq] at h
  obtain ⟨⟨⟨⟨⟨⟨⟨⟨⟨h1, h2⟩, h3⟩, h4⟩, h5⟩, h6⟩, h7⟩, h8⟩, h9⟩, h10⟩ := h
  refine ⟨fun A outer s H a oe y xd d Q E hxd hr e0 hpin hz hf hd hq => ?_⟩
  have KX : K.In s.heap := e0.mod.kin.keeps fun b o e => (e0.bs b o e).1
  have lim : s.heap.NoLimit := e0.mod.nolimit.keeps fun b o e => (e0.bs b o e).1
  have hl : ([Value.ref a] ++ ([] : List Value)).length = ps.length := by rw [hps]; rfl
  have b := hb s [.ref a] KX hl
  rw [List.append_nil] at b
  have hkind : ∀ y ∈ ps.zip [Value.ref a], scope.names.lookup y.1 = some .local ∨ (scope.names.lookup y.1 = some .cell ∧ ((cellsFrom (s.heap.objs.size + 1) scope.names []).lookup y.1).isSome = true) := fun ⟨n, v⟩ hy => by
    rcases S.par n (List.of_mem_zip hy).1 with q | q
    · exact .inl q
    · exact .inr ⟨q, PySem.W.cellsFrom_some _ _ _ (.inl q)⟩
  refine codeAny_call_function hr.depth (KX _ _ lk) rfl S.co S.gen rfl (PySem.W.codeRec_of KX hcd) (b _ _ _ _ ?_)
  refine wpAny_newFunctionEnv_cells S.kind hkind fun env he s1 xx => ?_
  subst he
  refine ⟨lim.keeps xx.toInCall.keep, codeAny_func ?_⟩
  have I : L2.Inv (L2H.cxH (L2.CX P w) P w K mg base [n, t] qual scope f cdv A outer s H E (a, oe)) [] (L2.start [n, t] [V.ref a]) H s1 := L2H.inv_startH S hpin e0 (by rw [hps]; rfl) (.cons rfl .nil) xx
  have nk := okN_ok h3
  have tk := okN_ok h4
  have KK : KdX (L2H.cxH (L2.CX P w) P w K mg base [n, t] qual scope f cdv A outer s H E (a, oe)) a d (fun c => xd.sup.contains c) n t ks.flatten := by
    refine ⟨⟨He.ga K (Str.ofString y), call_isK (hx y xd hxd) hz hf hpin.get hpin.free hpin.nofs rfl, fun c hcm => ?_⟩, S.nd, rfl, rfl, h1, h2, nk, tk, h5, hbl "isinstance" (by simpa using h6)⟩
    have hcc := List.all_eq_true.mp h7 c hcm
    simp only [Bool.and_eq_true, decide_eq_true_eq, Bool.not_eq_true', Bool.or_eq_true, beq_iff_eq] at hcc
    obtain ⟨⟨c1, c2⟩, c3⟩ := hcc
    rcases (hc c hcm c3).ex with ⟨k1, k2⟩ | ⟨k0, k1, k2⟩
    · exact ⟨.ref (He.ga K (Str.ofString c)), .ref (He.ga K (Str.ofString c)), fun p => pe_glob (X := L2H.cxH (L2.CX P w) P w K mg base [n, t] qual scope f cdv A outer s H E (a, oe)) c1 k1 rfl c2, fun u r => r, k2 y xd hxd⟩
    · subst k0
      exact ⟨.ty "ValueError", .type "ValueError", fun p => pe_bltn (X := L2H.cxH (L2.CX P w) P w K mg base [n, t] qual scope f cdv A outer s H E (a, oe)) c1 k1 (by rfl) rfl (by decide) (by decide), fun u r => r, k2 y xd hxd⟩
  have ht := pss_bodyC KK (fun k hk => of_decide_eq_true (List.all_eq_true.mp h9 k hk)) h10
  refine wpAny_mono (ht.run [] s1 (L2.start [n, t] [V.ref a]) H { nx := fun _ H' => Q .non H', rt := Q } I ⟨rfl, by show 1 < 2; decide, hd, h8, fun H' q g hn => hq H' q g hn⟩) (fun fl s' hs => ?_) fun e s' hs => hs
  have fin : ∀ {σ' : L2.St} {H' : Hp} {v : V} {u : Value}, L2.Inv (L2H.cxH (L2.CX P w) P w K mg base [n, t] qual scope f cdv A outer s H E (a, oe)) [] σ' H' s' → L2.RelV v u → Q v H' → CE outer P w H s Q u s' :=
    fun {σ' H' v u} J rv q => ⟨v, H', J.os, J.bare, J.base, J.hok, rv, q⟩
  cases fl with
  | ret u =>
    obtain ⟨v, σ', H', J, rv, q⟩ := hs
    exact fin J rv q
  | next =>
    obtain ⟨σ', H', J, q⟩ := hs
    exact fin (v := V.non) (u := Value.none) J rfl q
  | brk =>
    obtain ⟨_, _, _, q⟩ := hs
    exact False.elim q
  | cont =>
    obtain ⟨_, _, _, q⟩ := hs
    exact False.elim q
end Eng
/-! E29: our statements say what the text's say: the check. -/
namespace Eng
open PySem PySem.Spec PyProof.Rows L2
def noComp : Expr → Bool
  | .ListComp .. => false
  | .SetComp .. => false
  | .DictComp .. => false
  | _ => true
def swB (I : Inf) : Expr → Expr → Bool
  | .ListComp a b s pp, .Name t pos => I.sc.names.lookup t == some .local && pos.line == (Expr.ListComp a b s pp).pos.line && !(s.names.any fun (n, k) => n == t && (k == .local || k == .cell))
  | .SetComp a b s pp, .Name t pos => I.sc.names.lookup t == some .local && pos.line == (Expr.SetComp a b s pp).pos.line && !(s.names.any fun (n, k) => n == t && (k == .local || k == .cell))
  | .DictComp a a2 b s pp, .Name t pos => I.sc.names.lookup t == some .local && pos.line == (Expr.DictComp a a2 b s pp).pos.line && !(s.names.any fun (n, k) => n == t && (k == .local || k == .cell))
  | _, _ => false
theorem sw_none {e : Expr} {line : Nat} {env : PySem.Env} (h : noComp e = true) : swapsWith e none line env = pure false := by
  cases e <;> first | rfl | cases h
theorem sw_noComp {e : Expr} {o : Option Expr} {line : Nat} {env : PySem.Env} (h : noComp e = true) : swapsWith e o line env = pure false := by
  cases e <;> first | rfl | cases h
theorem sw_is {I : Inf} {v tg : Expr} {line : Nat} {env : PySem.Env} (hs : env.scope = I.sc) (hk : env.scope.kind = .function) : swapsWith v (some tg) line env = pure (swB I v tg) := by
  have hb : (env.blockKind == .function) = true := by
    unfold Env.blockKind
    rw [hk]
    rfl
  have hl : ∀ t, env.kindOf t = I.sc.names.lookup t := fun t => by rw [← hs]; rfl
  cases v <;> first | rfl | (cases tg <;> first | rfl | (unfold swapsWith swB; simp only [hb, hl, Bool.true_and]))
def noTT : Expr → Expr → Bool
  | .Tuple .., .Tuple .. => false
  | .List .., .Tuple .. => false
  | _, _ => true
theorem tt_none {tg e : Expr} {env : PySem.Env} (h : noTT tg e = true) : swappedStores [tg] e env = pure none := by
  cases tg <;> first | rfl | (cases e <;> first | rfl | cases h)
/-- the names of the targets that could be stored in another order -/
def swNames (I : Inf) (ts : List Expr) : List Str := ts.filterMap fun
  | .Name id pos => if I.sc.names.lookup id == some .local && pos.line == (ts.head?.map (·.pos.line)).getD 0 then some id else none
  | _ => none
theorem filt_sw {I : Inf} {ts : List Expr} {f : Expr → Option Str} (hf : ∀ e, f e = (match e with
  | .Name id pos => if I.sc.names.lookup id == some .local && pos.line == (ts.head?.map (·.pos.line)).getD 0 then some id else none
  | _ => none)) : ts.filterMap f = swNames I ts := by
  unfold swNames
  exact congrArg (fun g => ts.filterMap g) (funext hf)
/-- a tuple is made and taken apart -/
def ttB (I : Inf) : Expr → Expr → Bool
  | .Tuple ts _ _, .Tuple vs _ _ => !(ts.length == 2 || ts.length == 3) || vs.length != ts.length || (swNames I ts).length != ts.length
  | _, _ => false
theorem tt_made {I : Inf} {tg e : Expr} {env : PySem.Env} (hs : env.scope = I.sc) (hk : env.scope.kind = .function) (h : ttB I tg e = true) : swappedStores [tg] e env = pure none := by
  have hb : env.blockKind = .function := by
    unfold Env.blockKind
    rw [hk]
    rfl
  have hl : ∀ t, env.kindOf t = I.sc.names.lookup t := fun t => by rw [← hs]; rfl
  cases tg <;> first | (cases h; done) | skip
  rename_i ts k q
  cases e <;> first | (cases h; done) | skip
  rename_i vs k2 q2
  unfold ttB at h
  unfold swappedStores
  simp only [Bool.or_eq_true] at h
  dsimp only
  by_cases h1 : (!(ts.length == 2 || ts.length == 3) || vs.length != ts.length || env.blockKind != .function) = true
  · rw [if_pos h1]
  · rw [if_neg h1]
    have h2 : ((swNames I ts).length != ts.length) = true := by
      rcases h with (h | h) | h
      · exact absurd (by rw [h]; rfl) h1
      · exact absurd (by rw [h]; simp) h1
      · exact h
    split
    · rfl
    · rw [filt_sw (I := I) (ts := ts)]
      · rw [if_pos (by rw [h2]; rfl)]
      · intro e
        cases e <;> first | rfl | (simp only [hl])
def isSubE : Expr → Bool
  | .Subscript .. => true
  | _ => false
theorem filt_nil {ts : List Expr} {f : Expr → Option Str} (h : ts.all isSubE = true) (hf : ∀ e, isSubE e = true → f e = none) : ts.filterMap f = [] := by
  rw [List.filterMap_eq_nil_iff]
  intro e he
  exact hf e (List.all_eq_true.mp h e he)
theorem tt_sub {ts vs : List Expr} {k k2 : Nat} {p1 p2 : Pos} {env : PySem.Env} (h : ts.all isSubE = true) : swappedStores [.Tuple ts k p1] (.Tuple vs k2 p2) env = pure none := by
  unfold swappedStores
  dsimp only
  by_cases h1 : (!(ts.length == 2 || ts.length == 3) || vs.length != ts.length || env.blockKind != .function) = true
  · rw [if_pos h1]
  · rw [if_neg h1]
    have h2 : ts.length ≠ 0 := fun z => h1 (by rw [z]; rfl)
    have h3 : (0 != ts.length) = true := by simpa using fun z => h2 z.symm
    split
    · rfl
    · rw [filt_nil h]
      · rw [if_pos (by simp [h3])]
      · intro e he; cases e <;> first | rfl | cases he
theorem thn_bind {α : Type} {r : R α} {env : Env} {k : α → Store → RS} {g : Env → Store → RS} : (r.thn env k).bind g = r.thn env fun a st => (k a st).bind g := by
  cases r <;> rfl

/-! ### the check -/
def dAsg : Stmt → Option (Expr × Expr)
  | .Assign [t] e _ => some (t, e)
  | _ => none
theorem dAsg_ok {s : Stmt} {t e : Expr} (h : dAsg s = some (t, e)) : ∃ q, s = .Assign [t] e q := by
  unfold dAsg at h; split at h <;> cases h; exact ⟨_, rfl⟩
def dAsgs : Stmt → Option (List Expr × Expr)
  | .Assign [.Tuple ts _ _] (.Tuple vs k p) _ => some (ts, .Tuple vs k p)
  | _ => none
theorem dAsgs_ok {s : Stmt} {ts : List Expr} {e : Expr} (h : dAsgs s = some (ts, e)) : ∃ k1 q1 vs k p q, s = .Assign [.Tuple ts k1 q1] (.Tuple vs k p) q ∧ e = .Tuple vs k p := by
  unfold dAsgs at h; split at h <;> cases h; exact ⟨_, _, _, _, _, _, rfl, rfl⟩
def dPar : Stmt → Option (Str × Pos × Str × Pos × Str × Pos × Expr × Expr × Expr)
  | .Assign [.Tuple [.Name x px, .Name y py, .Name z pz] _ _] (.Tuple [a, b, c] _ _) _ => some (x, px, y, py, z, pz, a, b, c)
  | _ => none
theorem dPar_ok {s : Stmt} {x y z : Str} {px py pz : Pos} {a b c : Expr} (h : dPar s = some (x, px, y, py, z, pz, a, b, c)) : ∃ k1 q1 k2 q2 q, s = .Assign [.Tuple [.Name x px, .Name y py, .Name z pz] k1 q1] (.Tuple [a, b, c] k2 q2) q := by
  unfold dPar at h; split at h <;> cases h; exact ⟨_, _, _, _, _, rfl⟩
def dPar2 : Stmt → Option (Str × Pos × Str × Pos × Expr × Expr)
  | .Assign [.Tuple [.Name x px, .Name y py] _ _] (.Tuple [a, b] _ _) _ => some (x, px, y, py, a, b)
  | _ => none
theorem dPar2_ok {s : Stmt} {x y : Str} {px py : Pos} {a b : Expr} (h : dPar2 s = some (x, px, y, py, a, b)) : ∃ k1 q1 k2 q2 q, s = .Assign [.Tuple [.Name x px, .Name y py] k1 q1] (.Tuple [a, b] k2 q2) q := by
  unfold dPar2 at h; split at h <;> cases h; exact ⟨_, _, _, _, _, rfl⟩
def dExpr : Stmt → Option Expr
  | .Expr e _ => some e
  | _ => none
theorem dExpr_ok {s : Stmt} {e : Expr} (h : dExpr s = some e) : ∃ q, s = .Expr e q := by
  unfold dExpr at h; split at h <;> cases h; exact ⟨_, rfl⟩
def dAug : Stmt → Option (Str × Int)
  | .AugAssign (.Name x _) .Add (.Constant (.int n) _ _) _ => some (x, n)
  | _ => none
theorem dAug_ok {s : Stmt} {x : Str} {n : Int} (h : dAug s = some (x, n)) : ∃ q1 k q2 q, s = .AugAssign (.Name x q1) .Add (.Constant (.int n) k q2) q := by
  unfold dAug at h; split at h <;> cases h; exact ⟨_, _, _, _, rfl⟩
def dAfl : Stmt → Option (Expr × Str × Int)
  | .AugAssign (.Attribute o f _) .Add (.Constant (.int n) _ _) _ => some (o, f, n)
  | _ => none
theorem dAfl_ok {s : Stmt} {o : Expr} {f : Str} {n : Int} (h : dAfl s = some (o, f, n)) : ∃ q1 k q2 q, s = .AugAssign (.Attribute o f q1) .Add (.Constant (.int n) k q2) q := by
  unfold dAfl at h; split at h <;> cases h; exact ⟨_, _, _, _, rfl⟩
def dRet : Stmt → Option (Option Expr)
  | .Return e _ => some e
  | _ => none
theorem dRet_ok {s : Stmt} {e : Option Expr} (h : dRet s = some e) : ∃ q, s = .Return e q := by
  unfold dRet at h; split at h <;> cases h; exact ⟨_, rfl⟩
def dPass : Stmt → Bool
  | .Pass _ => true
  | _ => false
theorem dPass_ok {s : Stmt} (h : dPass s = true) : ∃ q, s = .Pass q := by
  unfold dPass at h; split at h <;> cases h; exact ⟨_, rfl⟩
def dSif : Stmt → Option (Expr × List Stmt × List Stmt)
  | .If c a b _ => some (c, a, b)
  | _ => none
theorem dSif_ok {s : Stmt} {c : Expr} {a b : List Stmt} (h : dSif s = some (c, a, b)) : ∃ q, s = .If c a b q := by
  unfold dSif at h; split at h <;> cases h; exact ⟨_, rfl⟩
def dFor : Stmt → Option (Expr × Expr × List Stmt)
  | .For t i b [] _ => some (t, i, b)
  | _ => none
theorem dFor_ok {s : Stmt} {t i : Expr} {b : List Stmt} (h : dFor s = some (t, i, b)) : ∃ q, s = .For t i b [] q := by
  unfold dFor at h; split at h <;> cases h; exact ⟨_, rfl⟩
def dWhile : Stmt → Option (Expr × List Stmt)
  | .While c b [] _ => some (c, b)
  | _ => none
theorem dWhile_ok {s : Stmt} {c : Expr} {b : List Stmt} (h : dWhile s = some (c, b)) : ∃ q, s = .While c b [] q := by
  unfold dWhile at h; split at h <;> cases h; exact ⟨_, rfl⟩
def dRaise : Stmt → Option (Str × List Expr)
  | .Raise (some (.Call (.Name y _) es [] _)) none _ => some (y, es)
  | _ => none
theorem dRaise_ok {s : Stmt} {y : Str} {es : List Expr} (h : dRaise s = some (y, es)) : ∃ q1 q2 q, s = .Raise (some (.Call (.Name y q1) es [] q2)) none q := by
  unfold dRaise at h; split at h <;> cases h; exact ⟨_, _, _, rfl⟩
def dTry : Stmt → Option (List Stmt × ExceptHandler × List ExceptHandler)
  | .Try b (h :: hs) [] [] _ => some (b, h, hs)
  | _ => none
theorem dTry_ok {s : Stmt} {b : List Stmt} {h : ExceptHandler} {hs : List ExceptHandler} (e : dTry s = some (b, h, hs)) : ∃ q, s = .Try b (h :: hs) [] [] q := by
  unfold dTry at e; split at e <;> cases e; exact ⟨_, rfl⟩
def dMatch : Stmt → Option (Expr × List MatchCase)
  | .Match e cs _ => some (e, cs)
  | _ => none
theorem dMatch_ok {s : Stmt} {e : Expr} {cs : List MatchCase} (h : dMatch s = some (e, cs)) : ∃ q, s = .Match e cs q := by
  unfold dMatch at h; split at h <;> cases h; exact ⟨_, rfl⟩
def dCase : MatchCase → Option (Str × List Stmt)
  | ⟨.MatchValue (.Constant (.str x) _ _) _, none, body⟩ => some (x, body)
  | _ => none
theorem dCase_ok {c : MatchCase} {x : Str} {b : List Stmt} (h : dCase c = some (x, b)) : ∃ k q1 q2, c = ⟨.MatchValue (.Constant (.str x) k q1) q2, none, b⟩ := by
  unfold dCase at h; split at h <;> cases h; exact ⟨_, _, _, rfl⟩
/-- e.f, e the clause's name -/
def ckFld (I : Inf) (T : Tab) (j : Option Nat) (f : String) (e : Expr) : Bool := match dAttr e, j with
  | some (o, f'), some j => (match dName o with
    | some n => decide (I.N[j]? = some n) && I.vis n && okN n
    | none => false) && decide (f' = Str.ofString f) && T.xfl.contains f
  | _, _ => false
/-- isinstance(e, c) -/
def ckIs (I : Inf) (T : Tab) (j : Option Nat) (c : String) (t : Expr) : Bool := match dCall t, j with
  | some (x, [o, k]), some j => decide (x = "isinstance") && I.glb x && T.blts.contains "isinstance" && (match dName o, dName k with
    | some n, some y => decide (I.N[j]? = some n) && I.vis n && okN n && decide (y = Str.ofString c) && I.glb y && T.cat.contains c
    | _, _ => false)
  | _, _ => false
/-- f(e), f tells an exception's classes -/
def ckKd (I : Inf) (T : Tab) (j : Option Nat) (f : String) (e : Expr) : Bool := match dCall e, j with
  | some (x, [o]), some j => decide (x = Str.ofString f) && I.glb x && T.kds.contains f && (match dName o with
    | some n => decide (I.N[j]? = some n) && I.vis n && okN n
    | none => false)
  | _, _ => false
/-- what an except suite gives -/
def ckHe (I : Inf) (T : Tab) (j : Option Nat) : He → Expr → Bool
  | .cst d, e => dCst d e
  | .fld f, e => ckFld I T j f e
def ckHes (I : Inf) (T : Tab) (j : Option Nat) : List He → List Expr → Bool
  | [], [] => true
  | h :: hs, e :: es => noStar e && ckHe I T j h e && ckHes I T j hs es
  | _, _ => false
def ckHx (I : Inf) (T : Tab) (j : Option Nat) : Hx → Expr → Bool
  | .he h, e => ckHe I T j h e
  | .lst hs, e => match dLst e with
    | some es => decide (hs.length ≤ 1000) && ckHes I T j hs es
    | none => false
  | .ifis c a b, e => match dIf e with
    | some (t, a', b') => ckIs I T j c t && ckHx I T j a a' && ckHx I T j b b'
    | none => false
  | .kinds f, e => ckKd I T j f e
def ckHd (I : Inf) (T : Tab) : List Hd → List ExceptHandler → Bool
  | [], [] => true
  | .hd c i to h :: hs, .ExceptHandler (some (.Name x _)) nopt [.Assign [.Name y py] E _] _ :: es => decide (x = Str.ofString c) && I.glb x && T.cat.contains c &&
      (match nopt, i with
      | none, none => true
      | some n, some j => decide (I.N[j]? = some n) && decide (I.sc.names.lookup n = some .local)
      | _, _ => false) && decide (I.N[to]? = some y) && I.loc y && noComp E && ckHx I T i h E && ckHd I T hs es
  | _, _ => false
section
variable (T : Tab) (p : Prg)
def ckG (I : Inf) : List Tg → List Expr → Bool
  | [], [] => true
  | .sub o i :: ts, .Subscript o' i' _ :: es => noSlice i' && ck T p false I o o' && ck T p false I i i' && ckG I ts es
  | _, _ => false
def ckPar (I : Inf) (is : List Nat) (es : List Ex) (s : Stmt) : Bool := match dPar s, is with
  | some (x, px, y, py, z, pz, a, b, c), [i, j, l] => decide (I.N[i]? = some x) && decide (I.N[j]? = some y) && decide (I.N[l]? = some z) && decide (i ≠ j) && decide (i ≠ l) && decide (j ≠ l) &&
    decide (I.sc.names.lookup x = some .local) && decide (I.sc.names.lookup y = some .local) && decide (I.sc.names.lookup z = some .local) && cks T p I es [a, b, c] && [a, b, c].all noStar && decide (py.line = px.line) && decide (pz.line = px.line) && ![a, b, c].all (foldedForSure 8) && ![a, b, c].all (constantsAlone 8)
  | _, _ => false
def ckPar2 (I : Inf) (is : List Nat) (es : List Ex) (s : Stmt) : Bool := match dPar2 s, is with
  | some (x, px, y, py, a, b), [i, j] => decide (I.N[i]? = some x) && decide (I.N[j]? = some y) && decide (i ≠ j) &&
    decide (I.sc.names.lookup x = some .local) && decide (I.sc.names.lookup y = some .local) && cks T p I es [a, b] && [a, b].all noStar && decide (py.line = px.line) && ![a, b].all (foldedForSure 8) && ![a, b].all (constantsAlone 8)
  | _, _ => false
/-- names at once, by a tuple -/
def ckParN (I : Inf) (is : List Nat) (es : List Ex) (s : Stmt) : Bool := match dAsg s with
  | some (tg, e') => !swB I e' tg && ttB I tg e' && noStar tg && ckP I (.tp (is.map .nm)) tg && ck T p false I (.tup es) e'
  | none => false
/-- name = [..], stored from within -/
def ckSetLc (I : Inf) (t : Tp) (e : Ex) (tg e' : Expr) : Bool := match t, e, dName tg, dLc e' with
  | .nm i, .lc elt tp it cond own, some y, some (elt', tg', it', ifs, s) => decide (I.N[i]? = some y) && decide (I.sc.names.lookup y = some .local) && swB I e' tg && blkB I.N I.sc s (ownOf I own) && (tpNames tp).all own.contains && noMark it' && ckP (I.blk s) tp tg' && ckI T p I it it' tg' && ck T p false (I.blk s) elt elt' && ckC T p (I.blk s) cond ifs
  | _, _, _, _ => false
/-- name = {..}, stored from within -/
def ckSetDc (I : Inf) (t : Tp) (e : Ex) (tg e' : Expr) : Bool := match t, e, dName tg, dDc e' with
  | .nm i, .dc k v tp it own, some y, some (k', v', tg', it', s) => decide (I.N[i]? = some y) && decide (I.sc.names.lookup y = some .local) && swB I e' tg && blkB I.N I.sc s (ownOf I own) && (tpNames tp).all own.contains && noMark it' && ckP (I.blk s) tp tg' && ckI T p I it it' tg' && ck T p false (I.blk s) k k' && ck T p false (I.blk s) v v'
  | _, _, _, _ => false
def ckAug (I : Inf) (i : Nat) (b : Bop) (e : Ex) (s : Stmt) : Bool := match b, e, dAug s with
    | .add, .cst (.int n), some (x, n') => decide (I.N[i]? = some x) && I.loc x && decide (n' = n)
    | _, _, _ => false
def ckAfl (I : Inf) (o : Ex) (f : String) (b : Bop) (e : Ex) (s : Stmt) : Bool := match b, e, dAfl s with
    | .add, .cst (.int n), some (o', f', n') => decide (f' = Str.ofString f) && decide (n' = n) && ck T p false I o o'
    | _, _, _ => false
mutual
def ckS (I : Inf) : Sm → Stmt → Bool
  | .asg t e, s => match dAsg s with
    | some (tg, e') => (!swB I e' tg && (noTT tg e' || ttB I tg e') && noStar tg && ckP I t tg && ck T p false I e e') || ckSetLc T p I t e tg e' || ckSetDc T p I t e tg e'
    | none => false
  | .asgs ts e, s => match dAsgs s with
    | some (tgs, e') => tgs.all isSubE && decide (ts.length = tgs.length) && ckG T p I ts tgs && ck T p false I e e'
    | none => false
  | .par is es, s => ckPar T p I is es s || ckPar2 T p I is es s || ckParN T p I is es s
  | .sub o i e, s => match dAsg s with
    | some (tg, e') => match dSub tg with
      | some (o', i') => noSlice i' && ck T p false I o o' && ck T p false I i i' && ck T p false I e e'
      | none => false
    | none => false
  | .fld o f e, s => match dAsg s with
    | some (tg, e') => match dAttr tg with
      | some (o', f') => decide (f' = Str.ofString f) && ck T p false I o o' && ck T p false I e e'
      | none => false
    | none => false
  | .aug i b e, s => ckAug I i b e s
  | .afl o f b e, s => ckAfl T p I o f b e s
  | .expr e, s => match dExpr s with
    | some e' => noComp e' && ck T p false I e e'
    | none => false
  | .ret e, s => match dRet s with
    | some (some e') => ck T p false I e e'
    | _ => false
  | .retN, s => match dRet s with
    | some none => true
    | _ => false
  | .pass, s => dPass s
  | .stuck, _ => true
  | .sif c a b, s => match dSif s with
    | some (c', a', b') => ck T p true I c c' && ckSs I a a' && ckSs I b b'
    | none => false
  | .sfor t it body, s => match dFor s with
    | some (tg, it', body') => noMark it' && ckP I t tg && ckI T p I it it' tg && ckSs I body body'
    | none => false
  | .swhile c body, s => match dWhile s with
    | some (c', body') => ck T p true I c c' && ckSs I body body'
    | none => false
  | .raise x args, s => match dRaise s with
    | some (y, es) => decide (y = Str.ofString x) && I.glb y && T.rai.contains x && decide (es.length ≤ 1000) && es.all noStar && cks T p I args es
    | none => false
  | .trys body hs, s => match dTry s with
    | some (body', h, hds) => ckSs I body body' && ckHd I T hs (h :: hds)
    | none => false
  | .mtch e cs, s => match dMatch s with
    | some (e', cs') => ck T p false I e e' && ckCs I cs cs'
    | none => false
def ckSs (I : Inf) : List Sm → List Stmt → Bool
  | [], [] => true
  | s :: ss, s' :: ss' => ckS I s s' && ckSs I ss ss'
  | _, _ => false
def ckCs (I : Inf) : List Cs → List MatchCase → Bool
  | [], [] => true
  | .cs x b :: r, c :: cs => (match dCase c with
    | some (y, b') => decide (y = x) && ckSs I b b'
    | none => false) && ckCs I r cs
  | _, _ => false
end
end
end Eng
/-! E30: the check of statements is sound. -/
namespace Eng
open PySem PySem.Spec PyProof.Rows L2
structure CtS (p : Prg) (call : String → List D → Store → R D) (T : Tab) (lvl : Nat) (X : Cx) (I : Inf) : Prop extends CtE p call T lvl X I where
  kind : X.env.scope.kind = .function
  pass : PassesOwn (model X.prog X.w) X.A X.env X.xe
  stk : X.stack = X.env :: X.outer
  frm : X.env.frame = some X.env.locals
  hms : X.mg "super" = none
  hr : ∀ x ∈ T.rai, ∃ xd, p.exs.lookup x = some xd ∧ XcF X.prog X.K x xd ∧ X.mg (Str.ofString x) = some (.ref (He.ga X.K (Str.ofString x)))
  hct : ∀ k ∈ T.cat, X.mg (Str.ofString k) = some (.ref (He.ga X.K (Str.ofString k))) ∧ ∀ x xd, p.exs.lookup x = some xd → PySem.W.exmOne X.K (.ref (He.ga X.K (Str.ofString x))) (.ref (He.ga X.K (Str.ofString k))) = some (xd.sup.contains k) ∧
    PySem.W.kitOne X.K (.ref (He.ga X.K (Str.ofString x))) (.ref (He.ga X.K (Str.ofString k))) = some (xd.sup.contains k)
  hxf : ∀ f ∈ T.xfl, ∀ x xd, p.exs.lookup x = some xd → XfC X.K (He.ga X.K (Str.ofString x)) ∧ PySem.W.findIn X.K (.ref (He.ga X.K (Str.ofString x))) (Str.ofString f) = some none
  hxe : ∀ x xd, p.exs.lookup x = some xd → ExcC X.K (He.ga X.K (Str.ofString x))
  hkd : ∀ f ∈ T.kds, ∃ ks, p.kds.lookup f = some ks ∧ KdF X.prog X.w X.K X.mg X.base (lvl + 1) p (He.ga X.K (Str.ofString f)) ks.flatten ∧ X.mg (Str.ofString f) = some (.ref (He.ga X.K (Str.ofString f))) ∧ PySem.W.keepIn X.K (.ref (He.ga X.K (Str.ofString f))) = true
section
variable {p : Prg} {call : String → List D → Store → R D} {T : Tab} {lvl : Nat} {X : Cx} {I : Inf}
theorem CtS.tr (c : CtS p call T lvl X I) (pn : List (Addr × Obj)) (xe : Value → Shared → Prop) (hp : PassesOwn (model X.prog X.w) X.A X.env xe) : CtS p call T lvl (X.tr pn xe) I where
  sc := c.sc
  N := c.N
  nd := c.nd
  fn := c.fn
  calm := c.calm
  room := c.room
  hq := c.hq
  cf := c.cf
  hf := c.hf
  hc := c.hc
  hg := c.hg
  hd := c.hd
  hb := c.hb
  hm := c.hm
  hp := c.hp
  hi := c.hi
  he := fun k g h => ⟨(c.he k g h).ic, (c.he k g h).ex, (c.he k g h).ne, (c.he k g h).ob⟩
  kind := c.kind
  pass := hp
  stk := c.stk
  frm := c.frm
  hms := c.hms
  hr := c.hr
  hct := c.hct
  hxf := c.hxf
  hxe := c.hxe
  hkd := c.hkd
  hx := fun x h => let ⟨d, ws, h1, h2, h3⟩ := c.hx x h; ⟨d, ws, h1, h2, ⟨h3.ex⟩⟩
section
variable {a : Addr} {oe : Obj} {cls : Value} {d : Option Addr} {pn : List (Addr × Obj)} {j : Option Nat}
theorem ckHe_ok (c : CtS p call T lvl X I) (hz : Zc cls d oe) (hf : ∃ vs, oe.data = .fields vs) {h : He} {e : Expr} (hc : ckHe I T j h e = true) : PE (X.suite a ((a, oe) :: pn)) e (tHe p X a cls d j h) := by
  cases h with
  | cst dd =>
    rw [ckHe] at hc
    unfold dCst at hc
    split at hc
    · exact jh_cst pe_non fun _ _ => rfl
    · cases eq_of_beq hc; exact jh_cst pe_bl fun _ _ => rfl
    · cases of_decide_eq_true hc; exact jh_cst pe_int fun _ _ => rfl
    · cases of_decide_eq_true hc; exact jh_cst pe_str fun _ _ => rfl
    · cases hc
  | fld f =>
    rw [ckHe] at hc
    unfold ckFld at hc
    split at hc
    · next o f' j hx =>
      obtain ⟨q, rfl⟩ := dAttr_ok hx
      simp only [Bool.and_eq_true, decide_eq_true_eq] at hc
      obtain ⟨⟨h1, rfl⟩, h3⟩ := hc
      split at h1
      · next n hn =>
        obtain ⟨q2, rfl⟩ := dName_ok hn
        simp only [Bool.and_eq_true, decide_eq_true_eq] at h1
        have k := okN_ok h1.2
        exact jh_fld (e := .Name n q2) hz hf (by rw [c.N]; exact h1.1.1) (c.toCtE.vis h1.1.2) k.1 k.2 (c.hxf f (by simpa using h3))
      · cases h1
    · cases hc
theorem ckHes_ok (c : CtS p call T lvl X I) (hz : Zc cls d oe) (hf : ∃ vs, oe.data = .fields vs) : ∀ {hs : List He} {es : List Expr}, ckHes I T j hs es = true → PA (X.suite a ((a, oe) :: pn)) es (tHes p X a cls d j hs)
  | [], [], _ => jhs_nil
  | h :: hs, e :: es, hc => by
    rw [ckHes] at hc
    simp only [Bool.and_eq_true] at hc
    exact jhs_cons (ckHe_ok c hz hf hc.1.2) (ckHes_ok c hz hf hc.2) hc.1.1
  | [], _ :: _, h => by rw [ckHes] at h <;> first | cases h | simp
  | _ :: _, [], h => by rw [ckHes] at h <;> first | cases h | simp
theorem ckHx_ok (c : CtS p call T lvl X I) (hz : Zc cls d oe) (hf : ∃ vs, oe.data = .fields vs) : ∀ {h : Hx} {j : Option Nat} {e : Expr}, ckHx I T j h e = true → PE (X.suite a ((a, oe) :: pn)) e (tHx p X a cls d j h)
  | .he h, j, e, hc => by
    rw [ckHx] at hc
    exact jh_he (ckHe_ok c hz hf hc)
  | .lst hs, j, e, hc => by
    rw [ckHx] at hc
    split at hc
    · next es hx =>
      obtain ⟨q, rfl⟩ := dLst_ok hx
      simp only [Bool.and_eq_true, decide_eq_true_eq] at hc
      exact jh_lst (ckHes_ok c hz hf hc.2) hc.1
    · cases hc
  | .ifis k ha hb, j, e, hc => by
    rw [ckHx] at hc
    split at hc
    · next t a' b' hx =>
      obtain ⟨q, rfl⟩ := dIf_ok hx
      simp only [Bool.and_eq_true] at hc
      obtain ⟨⟨h1, h2⟩, h3⟩ := hc
      unfold ckIs at h1
      split at h1
      · next x o k' j hx2 =>
        obtain ⟨q1, q2, rfl⟩ := dCall_ok hx2
        simp only [Bool.and_eq_true, decide_eq_true_eq] at h1
        obtain ⟨⟨⟨rfl, h4⟩, h5⟩, h6⟩ := h1
        split at h6
        · next n y hn hy =>
          obtain ⟨q3, rfl⟩ := dName_ok hn
          obtain ⟨q4, rfl⟩ := dName_ok hy
          simp only [Bool.and_eq_true, decide_eq_true_eq] at h6
          obtain ⟨⟨⟨⟨⟨h7, h8⟩, h9⟩, rfl⟩, h10⟩, h11⟩ := h6
          have kn := okN_ok h9
          have g := c.toCtE.gl h4
          have g2 := c.toCtE.gl h10
          obtain ⟨m1, m2⟩ := c.hct k (by simpa using h11)
          exact jh_ifis hz hf (by rw [c.N]; exact h7) (c.toCtE.vis h8) kn.1 kn.2 g.1 (c.hb _ (by simpa using h5)) g2.1 m1 g2.2 (fun x xd e => ⟨c.hxe x xd e, (m2 x xd e).2⟩) (ckHx_ok c hz hf h2) (ckHx_ok c hz hf h3)
        · cases h6
      · cases h1
    · cases hc
  | .kinds f, j, e, hc => by
    rw [ckHx] at hc
    unfold ckKd at hc
    split at hc
    · next x o j hx2 =>
      obtain ⟨q1, q2, rfl⟩ := dCall_ok hx2
      simp only [Bool.and_eq_true, decide_eq_true_eq] at hc
      obtain ⟨⟨⟨rfl, h4⟩, h5⟩, h6⟩ := hc
      split at h6
      · next n hn =>
        obtain ⟨q3, rfl⟩ := dName_ok hn
        simp only [Bool.and_eq_true, decide_eq_true_eq] at h6
        obtain ⟨⟨h7, h8⟩, h9⟩ := h6
        have kn := okN_ok h9
        have g := c.toCtE.gl h4
        obtain ⟨ks, k1, k2, k3, k4⟩ := c.hkd f (by simpa using h5)
        exact jh_kinds k1 k2 c.room hz hf (by rw [c.N]; exact h7) (c.toCtE.vis h8) kn.1 kn.2 g.1 k3 k4 g.2
      · cases h6
    · cases hc
end
theorem ckHd_ok (c : CtS p call T lvl X I) : ∀ {l : List Hd} {hds : List ExceptHandler}, ckHd I T l hds = true → Hnds p X hds l
  | [], [], _ => .nil
  | .hd k i to h :: l, e :: hds, hc => by
    unfold ckHd at hc
    split at hc
    · cases ‹Hd.hd k i to h :: l = []›
    · rename_i k i to h l x np nopt y py E pos2 pos' hds e1 e2
      cases e1
      cases e2
      simp only [Bool.and_eq_true, decide_eq_true_eq] at hc
      obtain ⟨⟨⟨⟨⟨⟨⟨⟨rfl, h2⟩, h3⟩, h4⟩, h5⟩, h6⟩, h7⟩, h8⟩, h9⟩ := hc
      have g := c.toCtE.gl h2
      obtain ⟨m1, m2⟩ := c.hct k (by simpa using h3)
      have l := c.toCtE.loc h6
      refine .cons c.nd ?_ (by rw [c.N]; exact h5) l.1 l.2 ⟨g.1, g.2, .inl m1⟩ (sw_noComp h7) (fun x xd e => (m2 x xd e).1) (fun a oe cls d pn hz hf => ckHx_ok c hz hf h8) (ckHd_ok c h9)
      split at h4
      · exact .inl ⟨rfl, rfl⟩
      · next n j =>
        simp only [Bool.and_eq_true, decide_eq_true_eq] at h4
        exact .inr ⟨n, j, rfl, rfl, by rw [c.N]; exact h4.1, by show X.env.scope.names.lookup n = _; rw [c.sc]; exact h4.2⟩
      · cases h4
    · cases hc
  | [], _ :: _, h => by rw [ckHd] at h <;> first | cases h | simp
  | _ :: _, [], h => by rw [ckHd] at h <;> first | cases h | simp
end
end Eng
set_option maxHeartbeats 4000000
/-! E31: the check of statements is sound. -/
namespace Eng
open PySem PySem.Spec PyProof.Rows L2
section
variable {p : Prg} {call : String → List D → Store → R D} {T : Tab} {lvl : Nat} {wh : Nat}
theorem thn_nort {α : Type} {r : R α} {env : Env} {k : α → Store → RS} {v : D} {st' : Store} (h : ∀ a st, k a st ≠ .rt v st') : r.thn env k ≠ .rt v st' := by
  cases r with
  | ok a st => exact h a st
  | ex => exact fun z => nomatch z
  | no => exact fun z => nomatch z
/-- o[i] = d, alone -/
def subF (p : Prg) (call : String → List D → Store → R D) (o i : Ex) : D → Env → Store → RS := fun d env st => (evX p call o env st).thn env fun ov st => (asD (evX p call i env st)).thn env fun k st => (evG.setI ov k d st).thn env fun _ st => .nx env st
theorem subF_nort {o i : Ex} : ∀ d env st v st', subF p call o i d env st ≠ .rt v st' := fun d env st v st' => thn_nort fun _ _ => thn_nort fun _ _ => thn_nort fun _ _ z => nomatch z
theorem ckG_ok {X : Cx} {I : Inf} (c : CtE p call T lvl X I) : ∀ (ts : List Tg) (es : List Expr), ckG T p I ts es = true → es.all noStar = true → PGs X es (tTgs X (evG p call ts))
  | [], [], _, _ => jtgs_nil (by funext ds env st; cases ds <;> rfl)
  | .sub o i :: ts, e :: es, h, hs => by
    cases e with
    | Subscript o' i' q =>
      rw [ckG] at h
      simp only [Bool.and_eq_true] at h
      obtain ⟨⟨⟨h1, h2⟩, h3⟩, h4⟩ := h
      simp only [List.all_cons, Bool.and_eq_true] at hs
      refine jtgs_cons (f1 := subF p call o i) (fs := evG p call ts) ?_ (jt_sub rfl c.hu (ck_ok o false X I o' c h2) (pe_asD (ck_ok i false X I i' c h3)) h1) (ckG_ok c ts es h4 hs.2) hs.1 subF_nort
      funext ds env st
      cases ds with
      | nil => rfl
      | cons d ds =>
        show _ = (subF p call o i d env st).bind fun env st => evG p call ts ds env st
        unfold subF
        simp only [thn_bind]
        rfl
    | _ => rw [ckG] at h <;> first | cases h | simp
  | [], _ :: _, h, _ => by rw [ckG] at h <;> first | cases h | simp
  | .sub _ _ :: _, [], h, _ => by rw [ckG] at h <;> first | cases h | simp
  | .nm _ :: _, _, h, _ => by rw [ckG] at h <;> first | cases h | simp
  | .fld _ _ :: _, _, h, _ => by rw [ckG] at h <;> first | cases h | simp
theorem evG_nort {v : D} {st' : Store} : ∀ {ts : List Tg} {ds : List D} {env : Env} {st : Store}, evG p call ts ds env st ≠ .rt v st'
  | [], [], env, st => fun z => nomatch z
  | [], _ :: _, env, st => fun z => nomatch z
  | _ :: _, [], env, st => fun z => by
    rename_i t ts
    cases t <;> cases z
  | .nm i :: ts, d :: ds, env, st => evG_nort (ts := ts)
  | .sub o i :: ts, d :: ds, env, st => thn_nort fun _ _ => thn_nort fun _ _ => thn_nort fun _ _ => evG_nort (ts := ts)
  | .fld o f :: ts, d :: ds, env, st => thn_nort fun _ _ => thn_nort fun _ _ => evG_nort (ts := ts)
theorem sub_noStar {ts : List Expr} (h : ts.all isSubE = true) : ts.all noStar = true := by
  rw [List.all_eq_true] at h ⊢
  intro e he
  have := h e he
  cases e <;> first | rfl | cases this
theorem tt_par3 {I : Inf} {env : PySem.Env} {x y z : Str} {px py pz q1 q2 : Pos} {k1 k2 : Nat} {a b c : Expr} (hs : env.scope = I.sc) (hk : env.scope.kind = .function) (hx : I.sc.names.lookup x = some .local) (hy : I.sc.names.lookup y = some .local) (hz : I.sc.names.lookup z = some .local)
    (hxy : x ≠ y) (hxz : x ≠ z) (hyz : y ≠ z) (l1 : py.line = px.line) (l2 : pz.line = px.line) (hst : [a, b, c].all noStar = true) (f1 : [a, b, c].all (foldedForSure 8) = false) (f2 : [a, b, c].all (constantsAlone 8) = false) :
    swappedStores [.Tuple [.Name x px, .Name y py, .Name z pz] k1 q1] (.Tuple [a, b, c] k2 q2) env = pure (some [x, y, z]) := by
  have hb : env.blockKind = .function := by
    unfold Env.blockKind
    rw [hk]
    rfl
  have kx : env.kindOf x = some .local := by show env.scope.names.lookup x = _; rw [hs]; exact hx
  have ky : env.kindOf y = some .local := by show env.scope.names.lookup y = _; rw [hs]; exact hy
  have kz : env.kindOf z = some .local := by show env.scope.names.lookup z = _; rw [hs]; exact hz
  have e1 : ([x, y, z] : List Str).eraseDups = [x, y, z] := by
    simp [List.eraseDups_cons, hxy, hxz, hyz, Ne.symm hxy, Ne.symm hxz, Ne.symm hyz]
  unfold swappedStores
  simp only [List.length_cons, List.length_nil, hb, List.head?_cons, Option.map_some, Option.getD_some, List.filterMap_cons, List.filterMap_nil, kx, ky, kz, Expr.pos, l1, l2, f1, f2]
  simp only [List.all_cons, List.all_nil, Bool.and_true, Bool.and_eq_true] at hst
  obtain ⟨s1, s2, s3⟩ := hst
  have nost : ∀ (f : Expr → Bool), (∀ e, noStar e = true → f e = false) → ([a, b, c].any f) = false := fun f hf => by simp [hf a s1, hf b s2, hf c s3]
  rw [nost]
  · simp [e1]
  · intro e he
    cases e <;> first | rfl | cases he
theorem tt_par2 {I : Inf} {env : PySem.Env} {x y : Str} {px py q1 q2 : Pos} {k1 k2 : Nat} {a b : Expr} (hs : env.scope = I.sc) (hk : env.scope.kind = .function) (hx : I.sc.names.lookup x = some .local) (hy : I.sc.names.lookup y = some .local)
    (hxy : x ≠ y) (l1 : py.line = px.line) (hst : [a, b].all noStar = true) (f1 : [a, b].all (foldedForSure 8) = false) (f2 : [a, b].all (constantsAlone 8) = false) :
    swappedStores [.Tuple [.Name x px, .Name y py] k1 q1] (.Tuple [a, b] k2 q2) env = pure (some [x, y]) := by
  have hb : env.blockKind = .function := by
    unfold Env.blockKind
    rw [hk]
    rfl
  have kx : env.kindOf x = some .local := by show env.scope.names.lookup x = _; rw [hs]; exact hx
  have ky : env.kindOf y = some .local := by show env.scope.names.lookup y = _; rw [hs]; exact hy
  have e1 : ([x, y] : List Str).eraseDups = [x, y] := by
    simp [List.eraseDups_cons, hxy, Ne.symm hxy]
  unfold swappedStores
  simp only [List.length_cons, List.length_nil, hb, List.head?_cons, Option.map_some, Option.getD_some, List.filterMap_cons, List.filterMap_nil, kx, ky, Expr.pos, l1, f1, f2]
  simp only [List.all_cons, List.all_nil, Bool.and_true, Bool.and_eq_true] at hst
  obtain ⟨s1, s2⟩ := hst
  have nost : ∀ (f : Expr → Bool), (∀ e, noStar e = true → f e = false) → ([a, b].any f) = false := fun f hf => by simp [hf a s1, hf b s2]
  rw [nost]
  · simp [e1]
  · intro e he
    cases e <;> first | rfl | cases he
/-- two names at once -/
theorem js_par2 {X : Cx} {i j : Nat} {x y : Str} {a b : Expr} {fs : Env → Store → R (List D)} {px py pt pos : Pos} {kt k2 : Nat} {pt2 : Pos} {f : Env → Store → RS} (hf : f = fun env st => (fs env st).thn env fun ds st => match setAll [i, j] ds env with
      | some env' => .nx env' st
      | none => .no) (hc : X.calm = true) (hN : X.N.Nodup) (hi : X.N[i]? = some x) (hj : X.N[j]? = some y) (hij : i ≠ j)
    (hx : X.env.scope.names.lookup x = some .local) (hy : X.env.scope.names.lookup y = some .local) (ha : PA X [a, b] (tDs X fs))
    (hw : swappedStores [.Tuple [.Name x px, .Name y py] kt pt] (.Tuple [a, b] k2 pt2) X.env = pure (some [x, y])) : PS X (.Assign [.Tuple [.Name x px, .Name y py] kt pt] (.Tuple [a, b] k2 pt2) pos) (tS X f) := by
  subst hf
  refine (ps_par hc hN hi hj hij hx hy ha hw rfl).imp fun Z σ H h => ?_
  refine tDs_mono (tS_thnDs (k := fun ds env st => match setAll [i, j] ds env with
      | some env' => .nx env' st
      | none => .no) h) fun vs H1 ⟨env, m, st, ds, E, S, r, o⟩ => ?_
  match ds, r, o with
  | [d1, d2], ⟨v1, _, e1, r1, v2, _, e2, r2, e4⟩, o =>
    subst e1 e2 e4
    simp only [setAll] at o
    exact ⟨v1, v2, rfl, o _ m H1 (.refl S) ((E.set r1).set r2)⟩
  | [], _, o => exact o.elim
  | [_], _, o => exact o.elim
  | _ :: _ :: _ :: _, _, o => exact o.elim
theorem bindPs_nm : ∀ (is : List Nat) (ds : List D) (env : Env), bindPs (is.map .nm) ds env = setAll is ds env
  | [], [], env => rfl
  | i :: is, d :: ds, env => by
    simp only [List.map_cons, bindPs, bindP, setAll]
    exact bindPs_nm is ds _
  | [], _ :: _, env => rfl
  | _ :: _, [], env => rfl
theorem par_eq {is : List Nat} {es : List Ex} {wh : Nat} : evS p call wh (.par is es) = evS p call wh (.asg (.tp (is.map .nm)) (.tup es)) := by
  funext env st
  simp only [evS, evE, evX]
  cases evEs p call es env st with
  | ok ds st' => show (match setAll is ds env with | some env' => RS.nx env' st' | none => .no) = _; rw [← bindPs_nm]; rfl
  | ex x fs s => rfl
  | no => rfl
theorem tt_or {I : Inf} {tg e : Expr} {env : PySem.Env} (hs : env.scope = I.sc) (hk : env.scope.kind = .function) (h : (noTT tg e || ttB I tg e) = true) : swappedStores [tg] e env = pure none := by
  rcases Bool.or_eq_true_iff.mp h with h | h
  · exact tt_none h
  · exact tt_made hs hk h
mutual
theorem ckS_ok : ∀ (s : Sm) (X : Cx) (I : Inf) (s' : Stmt), CtS p call T lvl X I → ckS T p I s s' = true → PS X s' (tS X (evS p call wh s))
  | .asg t e, X, I, s', c, h => by
    rw [ckS] at h
    split at h
    · next tg e' hx =>
      obtain ⟨q, rfl⟩ := dAsg_ok hx
      have hor := Bool.or_eq_true_iff.mp h
      clear h
      rcases hor with hor | h
      rcases Bool.or_eq_true_iff.mp hor with h | h
      · simp only [Bool.and_eq_true, Bool.not_eq_true'] at h
        obtain ⟨⟨⟨⟨h1, h2⟩, h3⟩, h4⟩, h5⟩ := h
        exact js_asg rfl (pe_asD (ck_ok e false X I e' c.toCtE h5)) (ckP_ok c.toCtE t tg h4) (by show swapsWith e' (some tg) q.line X.env = _; rw [sw_is c.sc c.kind, h1]) (tt_or c.sc c.kind h2) h3
      · unfold ckSetLc at h
        split at h
        · next i elt tp it cond own y elt' tg' it' ifs s hy hl =>
          obtain ⟨q1, rfl⟩ := dName_ok hy
          obtain ⟨q2, rfl⟩ := dLc_ok hl
          simp only [Bool.and_eq_true, decide_eq_true_eq] at h
          obtain ⟨⟨⟨⟨⟨⟨⟨⟨⟨g1, g2⟩, g3⟩, h1⟩, h2⟩, h3⟩, h4⟩, h5⟩, h6⟩, h7⟩ := h
          refine js_setLc (own := ownOf I own) (t := tp) (fi := evI p call it) (fc := cond.map fun c env st => asB (evX p call c env st)) (fe := fun env st => asD (evX p call elt env st)) ?_ (by rw [c.N]; exact g1) (by rw [c.sc]; exact g2) (by show swapsWith _ (some (.Name y q1)) q.line X.env = _; rw [sw_is c.sc c.kind, g3]) (own_sub h2) c.calm c.nd (ckI_ok it X I it' tg' c.toCtE h5) (by rw [c.N, c.sc]; exact blkB_ok h1)
            (fun s0 H C cl fp => blk_G (ckP_ok (c.toCtE.blk s0 H s cl C fp) tp tg' h4)) (fun s0 H C cl fp => ckC_ok cond X s0 H s (compEnvC s cl C X.env) fp (I.blk s) ifs (c.toCtE.blk s0 H s cl C fp) h7) (fun s0 H C cl fp => blk_D (pe_asD (ck_ok elt false _ (I.blk s) elt' (c.toCtE.blk s0 H s cl C fp) h6))) (set_plain' h3)
          rw [own_map, ← lc_is]
          rfl
        · cases h
      · unfold ckSetDc at h
        split at h
        · next i k v tp it own y k' v' tg' it' s hy hl =>
          obtain ⟨q1, rfl⟩ := dName_ok hy
          obtain ⟨q2, rfl⟩ := dDc_ok hl
          simp only [Bool.and_eq_true, decide_eq_true_eq] at h
          obtain ⟨⟨⟨⟨⟨⟨⟨⟨⟨g1, g2⟩, g3⟩, h1⟩, h2⟩, h3⟩, h4⟩, h5⟩, h6⟩, h7⟩ := h
          refine js_setDc (own := ownOf I own) (t := tp) (fi := evI p call it) (fk := fun env st => asD (evX p call k env st)) (fv := fun env st => asD (evX p call v env st)) ?_ (by rw [c.N]; exact g1) (by rw [c.sc]; exact g2) (by show swapsWith _ (some (.Name y q1)) q.line X.env = _; rw [sw_is c.sc c.kind, g3]) c.hu (own_sub h2) c.calm c.nd (ckI_ok it X I it' tg' c.toCtE h5) (by rw [c.N, c.sc]; exact blkB_ok h1)
            (fun s0 H C cl fp => blk_G (ckP_ok (c.toCtE.blk s0 H s cl C fp) tp tg' h4)) (fun s0 H C cl fp => blk_D (pe_asD (ck_ok k false _ (I.blk s) k' (c.toCtE.blk s0 H s cl C fp) h6))) (fun s0 H C cl fp => blk_D (pe_asD (ck_ok v false _ (I.blk s) v' (c.toCtE.blk s0 H s cl C fp) h7))) (set_plain' h3)
          rw [own_map]
          rfl
        · cases h
    · cases h
  | .asgs ts e, X, I, s', c, h => by
    rw [ckS] at h
    split at h
    · next tgs e' hx =>
      obtain ⟨k1, q1, vs, k2, q2, q, rfl, rfl⟩ := dAsgs_ok hx
      simp only [Bool.and_eq_true, decide_eq_true_eq] at h
      obtain ⟨⟨⟨h2, h3⟩, h4⟩, h5⟩ := h
      refine js_tg (ft := fun d env st => match d with
        | .tup ds => if ds.length = tgs.length then evG p call ts ds env st else .no
        | _ => .no) ?_ (pe_asD (ck_ok e false X I _ c.toCtE h5)) (jtg_tup rfl c.calm (ckG_ok c.toCtE ts tgs h4 (sub_noStar h2)) (sub_noStar h2)) ?_ (by show swapsWith (.Tuple vs k2 q2) (some (.Tuple tgs k1 q1)) q.line X.env = pure false; exact sw_noComp rfl) (tt_sub h2) rfl
      · funext env st
        rw [← h3]
        rfl
      · intro d env st v st'
        cases d with
        | tup ds =>
          dsimp only
          split
          · exact evG_nort
          · intro z; cases z
        | _ => intro z; cases z
    · cases h
  | .par is es, X, I, s', c, h => by
    rw [ckS] at h
    simp only [Bool.or_eq_true] at h
    have nn : ∀ {i j : Nat} {x y : Str}, I.N[i]? = some x → I.N[j]? = some y → i ≠ j → x ≠ y := fun {i j x y} e1 e2 hij e => hij (nodup_ix (by rw [← c.N]; exact c.nd) e1 (e ▸ e2))
    rcases h with (h | h) | h
    · unfold ckPar at h
      split at h
      · next x px y py z pz a b d i j l hx =>
        obtain ⟨k1, q1, k2, q2, q, rfl⟩ := dPar_ok hx
        simp only [Bool.and_eq_true, decide_eq_true_eq, Bool.not_eq_true'] at h
        obtain ⟨⟨⟨⟨⟨⟨⟨⟨⟨⟨⟨⟨⟨⟨h1, h2⟩, h3⟩, h4⟩, h5⟩, h6⟩, h7⟩, h8⟩, h9⟩, h10⟩, h11⟩, h12⟩, h13⟩, h14⟩, h15⟩ := h
        exact js_par3 rfl c.calm c.nd (by rw [c.N]; exact h1) (by rw [c.N]; exact h2) (by rw [c.N]; exact h3) h4 h5 h6 (by rw [c.sc]; exact h7) (by rw [c.sc]; exact h8) (by rw [c.sc]; exact h9) (cks_ok es X I _ c.toCtE h10 h11)
          (tt_par3 c.sc c.kind h7 h8 h9 (nn h1 h2 h4) (nn h1 h3 h5) (nn h2 h3 h6) h12 h13 h11 h14 h15)
      · cases h
    · unfold ckPar2 at h
      split at h
      · next x px y py a b i j hx =>
        obtain ⟨k1, q1, k2, q2, q, rfl⟩ := dPar2_ok hx
        simp only [Bool.and_eq_true, decide_eq_true_eq, Bool.not_eq_true'] at h
        obtain ⟨⟨⟨⟨⟨⟨⟨⟨⟨h1, h2⟩, h4⟩, h7⟩, h8⟩, h10⟩, h11⟩, h12⟩, h14⟩, h15⟩ := h
        exact js_par2 rfl c.calm c.nd (by rw [c.N]; exact h1) (by rw [c.N]; exact h2) h4 (by rw [c.sc]; exact h7) (by rw [c.sc]; exact h8) (cks_ok es X I _ c.toCtE h10 h11)
          (tt_par2 c.sc c.kind h7 h8 (nn h1 h2 h4) h12 h11 h14 h15)
      · cases h
    · unfold ckParN at h
      split at h
      · next tg e' hx =>
        obtain ⟨q, rfl⟩ := dAsg_ok hx
        simp only [Bool.and_eq_true, Bool.not_eq_true'] at h
        obtain ⟨⟨⟨⟨h1, h2⟩, h3⟩, h4⟩, h5⟩ := h
        rw [par_eq]
        exact js_asg rfl (pe_asD (ck_ok (.tup es) false X I e' c.toCtE h5)) (ckP_ok c.toCtE _ tg h4) (by show swapsWith e' (some tg) q.line X.env = _; rw [sw_is c.sc c.kind, h1]) (tt_made c.sc c.kind h2) h3
      · cases h
  | .sub o i e, X, I, s', c, h => by
    rw [ckS] at h
    split at h
    · next tg e' hx =>
      obtain ⟨q, rfl⟩ := dAsg_ok hx
      split at h
      · next o' i' hx2 =>
        obtain ⟨q1, rfl⟩ := dSub_ok hx2
        simp only [Bool.and_eq_true] at h
        obtain ⟨⟨⟨h1, h2⟩, h3⟩, h4⟩ := h
        exact js_tg (ft := subF p call o i) rfl (pe_asD (ck_ok e false X I e' c.toCtE h4)) (jt_sub rfl c.hu (ck_ok o false X I o' c.toCtE h2) (pe_asD (ck_ok i false X I i' c.toCtE h3)) h1) subF_nort
          (by show swapsWith e' (some (.Subscript o' i' q1)) q.line X.env = _; rw [sw_is c.sc c.kind]; cases e' <;> rfl) (tt_none rfl) rfl
      · cases h
    · cases h
  | .fld o f e, X, I, s', c, h => by
    rw [ckS] at h
    split at h
    · next tg e' hx =>
      obtain ⟨q, rfl⟩ := dAsg_ok hx
      split at h
      · next o' f' hx2 =>
        obtain ⟨q1, rfl⟩ := dAttr_ok hx2
        simp only [Bool.and_eq_true, decide_eq_true_eq] at h
        obtain ⟨⟨rfl, h2⟩, h3⟩ := h
        exact js_fld rfl c.cf (pe_asD (ck_ok e false X I e' c.toCtE h3)) (pe_asD (ck_ok o false X I o' c.toCtE h2)) (by rw [sw_is c.sc c.kind]; cases e' <;> rfl)
      · cases h
    · cases h
  | .expr e, X, I, s', c, h => by
    rw [ckS] at h
    split at h
    · next e' hx =>
      obtain ⟨q, rfl⟩ := dExpr_ok hx
      simp only [Bool.and_eq_true] at h
      exact js_expr rfl (ck_ok e false X I e' c.toCtE h.2) (sw_none h.1)
    · cases h
  | .ret e, X, I, s', c, h => by
    rw [ckS] at h
    split at h
    · next e' hx =>
      obtain ⟨q, rfl⟩ := dRet_ok hx
      exact js_ret rfl (pe_asD (ck_ok e false X I e' c.toCtE h))
    · cases h
  | .retN, X, I, s', c, h => by
    rw [ckS] at h
    split at h
    · next hx =>
      obtain ⟨q, rfl⟩ := dRet_ok hx
      exact js_retN rfl
    · cases h
  | .pass, X, I, s', c, h => by
    rw [ckS] at h
    obtain ⟨q, rfl⟩ := dPass_ok h
    exact js_pass rfl
  | .sif t a b, X, I, s', c, h => by
    rw [ckS] at h
    split at h
    · next t' a' b' hx =>
      obtain ⟨q, rfl⟩ := dSif_ok hx
      simp only [Bool.and_eq_true] at h
      exact js_if rfl (ck_ok t true X I t' c.toCtE h.1.1) (ckSs_ok a X I a' c h.1.2) (ckSs_ok b X I b' c h.2)
    · cases h
  | .sfor t it a, X, I, s', c, h => by
    rw [ckS] at h
    split at h
    · next t' it' a' hx =>
      obtain ⟨q, rfl⟩ := dFor_ok hx
      simp only [Bool.and_eq_true] at h
      exact js_for rfl c.pass c.calm (ckI_ok it X I it' t' c.toCtE h.1.2) (ckP_ok c.toCtE t t' h.1.1.2) (ckSs_ok a X I a' c h.2) (set_plain' h.1.1.1)
    · cases h
  | .swhile t a, X, I, s', c, h => by
    rw [ckS] at h
    split at h
    · next t' a' hx =>
      obtain ⟨q, rfl⟩ := dWhile_ok hx
      simp only [Bool.and_eq_true] at h
      exact js_while rfl c.pass (ck_ok t true X I t' c.toCtE h.1) (ckSs_ok a X I a' c h.2)
    · cases h
  | .raise x args, X, I, s', c, h => by
    rw [ckS] at h
    split at h
    · next y es hx =>
      obtain ⟨q1, q2, q, rfl⟩ := dRaise_ok hx
      simp only [Bool.and_eq_true, decide_eq_true_eq] at h
      obtain ⟨⟨⟨⟨⟨rfl, h1⟩, h2⟩, h3⟩, h4⟩, h5⟩ := h
      obtain ⟨xd, hx, F, hm⟩ := c.hr x (by simpa using h2)
      have g := c.toCtE.gl h1
      exact js_raise rfl hx F c.hms c.room g.1 hm g.2 c.calm h3 (fun env st ds st' e => by rw [len_evEs e, ckEs_len h5]) (fun e env st => by subst e; cases args with
        | nil => rfl
        | cons => rw [cks] at h5 <;> first | cases h5 | simp) h4 (cks_ok args X I es c.toCtE h5 h4)
    · cases h
  | .trys body hs, X, I, s', c, h => by
    rw [ckS] at h
    split at h
    · next body' hd hds hx =>
      obtain ⟨q, rfl⟩ := dTry_ok hx
      simp only [Bool.and_eq_true] at h
      exact js_try rfl c.stk c.frm (fun pn xe hp => ckSs_ok body (X.tr pn xe) I body' (c.tr pn xe hp) h.1) (ckHd_ok c h.2)
    · cases h
  | .stuck, X, I, s', c, h => js_stuck
  | .aug i b e, X, I, s', c, h => by
    rw [ckS] at h
    unfold ckAug at h
    split at h
    · next n x n' hx =>
      obtain ⟨q1, k, q2, q, rfl⟩ := dAug_ok hx
      simp only [Bool.and_eq_true, decide_eq_true_eq] at h
      obtain ⟨⟨h1, h2⟩, rfl⟩ := h
      have l := c.toCtE.loc h2
      refine js_aug ?_ c.nd (by rw [c.N]; exact h1) l.1 l.2
      funext env st
      rfl
    · cases h
  | .afl o f b e, X, I, s', c, h => by
    rw [ckS] at h
    unfold ckAfl at h
    split at h
    · next n o' f' n' hx =>
      obtain ⟨q1, k, q2, q, rfl⟩ := dAfl_ok hx
      simp only [Bool.and_eq_true, decide_eq_true_eq] at h
      obtain ⟨⟨rfl, rfl⟩, h2⟩ := h
      exact js_afl rfl c.cf (pe_asD (ck_ok o false X I o' c.toCtE h2))
    · cases h
  | .mtch e cs, X, I, s', c, h => by
    rw [ckS] at h
    split at h
    · next e' cs' hx =>
      obtain ⟨q, rfl⟩ := dMatch_ok hx
      simp only [Bool.and_eq_true] at h
      exact js_match (fe := evE p call e) (fc := fun s => evCs p call wh s cs) rfl (pe_asD (ck_ok e false X I e' c.toCtE h.1)) (ckCs_ok cs X I cs' c h.2)
    · cases h
theorem ckSs_ok : ∀ (ss : List Sm) (X : Cx) (I : Inf) (ss' : List Stmt), CtS p call T lvl X I → ckSs T p I ss ss' = true → PSs X ss' (tS X (evSs p call wh ss))
  | [], X, I, [], c, h => js_nil rfl
  | s :: ss, X, I, s' :: ss', c, h => by
    rw [ckSs] at h
    simp only [Bool.and_eq_true] at h
    exact js_cons rfl (ckS_ok s X I s' c h.1) (ckSs_ok ss X I ss' c h.2)
  | [], X, I, _ :: _, c, h => by rw [ckSs] at h <;> first | cases h | simp
  | _ :: _, X, I, [], c, h => by rw [ckSs] at h <;> first | cases h | simp
theorem ckCs_ok : ∀ (cs : List Cs) (X : Cx) (I : Inf) (cs' : List MatchCase), CtS p call T lvl X I → ckCs T p I cs cs' = true → JCs X cs' (fun s => evCs p call wh s cs)
  | [], X, I, [], c, h => jcs_nil rfl
  | .cs x b :: cs, X, I, k :: cs', c, h => by
    rw [ckCs] at h
    simp only [Bool.and_eq_true] at h
    obtain ⟨h1, h2⟩ := h
    split at h1
    · next y b' hx =>
      obtain ⟨k0, q1, q2, rfl⟩ := dCase_ok hx
      simp only [Bool.and_eq_true, decide_eq_true_eq] at h1
      obtain ⟨rfl, h3⟩ := h1
      exact jcs_cons rfl (ckSs_ok b X I b' c h3) (ckCs_ok cs X I cs' c h2)
    · cases h1
  | [], X, I, _ :: _, c, h => by rw [ckCs] at h <;> first | cases h | simp
  | .cs _ _ :: _, X, I, [], c, h => by rw [ckCs] at h <;> first | cases h | simp
end
end
end Eng
/-! E32: what is thrown away behind a call. -/
namespace Eng
open PySem PySem.Spec PyProof.Rows L2
section
variable {K : PySem.W.Frag} {w : World} {m m' l : List Addr} {st st' : Store} {H H' : Hp}
/-- places below m's length are m's -/
theorem get_left {i : Nat} {a : Addr} (h : (m ++ l)[i]? = some a) (hi : i < m.length) : m[i]? = some a := by
  rwa [List.getElem?_append_left hi] at h
mutual
theorem Rep.left : ∀ {d : D} {v : V}, D.und m.length d = true → Rep K (m ++ l) H d v → Rep K m H d v
  | .non, _, _, h => h
  | .bl _, _, _, h => h
  | .int _, _, _, h => h
  | .str _, _, _, h => h
  | .tup xs, _, u, ⟨a, vs, h1, h2, h3⟩ => ⟨a, vs, h1, h2, Reps.left (by simpa [D.und] using u) h3⟩
  | .rol xs, _, u, ⟨a, vs, h1, h2, h3⟩ => ⟨a, vs, h1, h2, Reps.left (by simpa [D.und] using u) h3⟩
  | .obj i, _, u, ⟨a, h1, h2⟩ => ⟨a, h1, get_left h2 (by simpa [D.und] using u)⟩
theorem Reps.left : ∀ {ds : List D} {vs : List V}, D.unds m.length ds = true → Reps K (m ++ l) H ds vs → Reps K m H ds vs
  | [], _, _, h => h
  | x :: xs, _, u, ⟨v, ws, h1, h2, h3⟩ => by
    simp only [D.unds, Bool.and_eq_true] at u
    exact ⟨v, ws, h1, Rep.left u.1 h2, Reps.left u.2 h3⟩
end
mutual
theorem Rep.und : ∀ {d : D} {v : V}, Rep K m H d v → D.und m.length d = true
  | .non, _, _ => rfl
  | .bl _, _, _ => rfl
  | .int _, _, _ => rfl
  | .str _, _, _ => rfl
  | .tup xs, _, ⟨a, vs, h1, h2, h3⟩ => by simpa [D.und] using Reps.und h3
  | .rol xs, _, ⟨a, vs, h1, h2, h3⟩ => by simpa [D.und] using Reps.und h3
  | .obj i, _, ⟨a, h1, h2⟩ => by simpa [D.und] using (List.getElem?_eq_some_iff.mp h2).1
theorem Reps.und : ∀ {ds : List D} {vs : List V}, Reps K m H ds vs → D.unds m.length ds = true
  | [], _, _ => rfl
  | x :: xs, _, ⟨v, ws, h1, h2, h3⟩ => by
    simp only [D.unds, Bool.and_eq_true]
    exact ⟨Rep.und h2, Reps.und h3⟩
end
theorem Rep.shrink {d : D} {v : V} (h : Rep K m H d v) {l : List Addr} (h' : Rep K (m ++ l) H' d v) : Rep K m H' d v := Rep.left (Rep.und h) h'
theorem Kv_und {kvs : List (D × D)} {es : List (NestedKey × V × V)} {n : Nat} (e : n = m.length) (r : KvR K m H kvs es) : (kvs.all fun p => D.und n p.1 && D.und n p.2) = true := by
  subst e
  have := r.pr
  clear r
  induction this with
  | nil => rfl
  | cons h t ih =>
    simp only [List.all_cons, Bool.and_eq_true]
    exact ⟨⟨Rep.und h.2.2.1, Rep.und h.2.2.2⟩, by simpa using ih⟩
theorem ObjR.und {o : O} {a : Addr} (r : ObjR K w m H a o) : o.und m.length = true := by
  cases o with
  | lst xs => obtain ⟨vs, h, r⟩ := r; exact Reps.und r
  | dic kvs => obtain ⟨es, h, r⟩ := r; exact Kv_und rfl r
  | dicL kvs => obtain ⟨o, es, h, r⟩ := r; exact Kv_und rfl r
  | ins c fs =>
    obtain ⟨dx, vfs, h, r⟩ := r
    show (fs.all fun p => D.und m.length p.2) = true
    clear h
    induction r with
    | nil => rfl
    | cons h t ih => simp only [List.all_cons, Bool.and_eq_true]; exact ⟨Rep.und h.2, by simpa using ih⟩
theorem Kv_left {kvs : List (D × D)} {es : List (NestedKey × V × V)} (u : (kvs.all fun p => D.und m.length p.1 && D.und m.length p.2) = true) (r : KvR K (m ++ l) H kvs es) : KvR K m H kvs es := by
  refine ⟨?_, r.nd⟩
  have := r.pr
  clear r
  induction this with
  | nil => exact .nil
  | cons h t ih =>
    simp only [List.all_cons, Bool.and_eq_true] at u
    exact .cons ⟨h.1, h.2.1, Rep.left u.1.1 h.2.2.1, Rep.left u.1.2 h.2.2.2⟩ (ih (by simpa using u.2))
theorem ObjR.left {o : O} {a : Addr} (u : o.und m.length = true) (r : ObjR K w (m ++ l) H a o) : ObjR K w m H a o := by
  cases o with
  | lst xs => obtain ⟨vs, h, r⟩ := r; exact ⟨vs, h, Reps.left u r⟩
  | dic kvs => obtain ⟨es, h, r⟩ := r; exact ⟨es, h, Kv_left u r⟩
  | dicL kvs => obtain ⟨o, es, h, r⟩ := r; exact ⟨o, es, h, Kv_left u r⟩
  | ins c fs =>
    obtain ⟨dx, vfs, h, r⟩ := r
    refine ⟨dx, vfs, h, ?_⟩
    have u' : (fs.all fun p => D.und m.length p.2) = true := u
    clear h u
    induction r with
    | nil => exact .nil
    | cons h t ih =>
      simp only [List.all_cons, Bool.and_eq_true] at u'
      exact .cons ⟨h.1, Rep.left u'.1 h.2⟩ (ih (by simpa using u'.2))
theorem ObjR.flat {n : List Addr} {o : O} {a : Addr} (f : o.flat = true) (r : ObjR K w m H a o) : ObjR K w n H a o := by
  cases o with
  | lst xs => obtain ⟨vs, h, r⟩ := r; exact ⟨vs, h, Reps.flat f r⟩
  | _ => cases f
theorem keptS_get {n : Nat} : ∀ {st st' : Store} {i : Nat} {u : O}, keptS n st st' = true → i < st.length → st'[i]? = some u → (∃ o, st[i]? = some o ∧ o = u) ∨ u.und n = true
  | [], _, i, u, _, hi, _ => absurd hi (Nat.not_lt_zero _)
  | o :: r, [], i, u, h, _, _ => by cases h
  | o :: r, v :: t, 0, u, h, _, e => by
    simp only [keptS, Bool.and_eq_true, Bool.or_eq_true] at h
    simp only [List.getElem?_cons_zero, Option.some.injEq] at e
    subst e
    rcases h.1 with h | h
    · exact .inl ⟨o, rfl, O.eq_of_beq _ _ h⟩
    · exact .inr h
  | o :: r, v :: t, i + 1, u, h, hi, e => by
    simp only [keptS, Bool.and_eq_true] at h
    exact keptS_get (st := r) (st' := t) (i := i) h.2 (Nat.lt_of_succ_lt_succ hi) e
/-- what is new is thrown away -/
theorem sto_take (S : StoR K w m st H) (n : Nx K w m H m' H' st') (k : keptS st.length st st' = true) : Nx K w m H m H' (st'.take st.length) := by
  obtain ⟨l, rfl, hl⟩ := n.ext
  have hlen : st.length ≤ st'.length := by
    rw [← n.sto.len, ← S.len]
    simp
  refine ⟨.refl, ⟨by rw [List.length_take, Nat.min_eq_left hlen, S.len], ?_, fun i a o hi ho => ?_⟩, n.fr, n.fz⟩
  · have := n.sto.nd
    rw [List.nodup_append] at this
    exact this.1
  · have hi2 : i < m.length := (List.getElem?_eq_some_iff.mp hi).1
    have hi3 : i < st.length := by rw [← S.len]; exact hi2
    rw [List.getElem?_take, if_pos hi3] at ho
    have r := n.sto.at_ i a o (by rw [List.getElem?_append_left hi2]; exact hi) ho
    refine ObjR.left ?_ r
    rcases keptS_get k hi3 ho with ⟨u, hu, rfl⟩ | h
    · exact ObjR.und (S.at_ i a u hi hu)
    · rw [S.len]; exact h
theorem gcs_ok {g : Gc} {d d2 : D} {st2 : Store} {v : V} (S : StoR K w m st H) (n : Nx K w m H m' H' st') (r : Rep K m' H' d v) (e : gcs g st d st' = .ok d2 st2) : ∃ m2, Nx K w m H m2 H' st2 ∧ Rep K m2 H' d2 v := by
  cases g with
  | keep => cases e; exact ⟨m', n, r⟩
  | data =>
    unfold gcs at e
    dsimp only at e
    split at e
    · next h =>
      simp only [Bool.and_eq_true] at h
      cases e
      exact ⟨m, sto_take S n h.2, Rep.flat h.1 r⟩
    · cases e
  | fresh =>
    unfold gcs at e
    dsimp only at e
    split at e
    · next i =>
      split at e
      · next o ho =>
        split at e
        · next h =>
          simp only [Bool.and_eq_true, decide_eq_true_eq] at h
          obtain ⟨⟨h1, h2⟩, h3⟩ := h
          cases e
          obtain ⟨a, rfl, ha⟩ := r
          have n2 := sto_take S n h3
          obtain ⟨l, rfl, hl⟩ := n.ext
          have hi : m.length ≤ i := by rw [S.len]; exact h2
          have al : a ∈ l := by
            rw [List.getElem?_append_right hi] at ha
            exact List.mem_of_getElem? ha
          have am : a ∉ m := by
            intro z
            have := n.sto.nd
            rw [List.nodup_append] at this
            exact this.2.2 a z a al rfl
          have ro := n.sto.at_ i a o ha ho
          refine ⟨m ++ [a], ⟨⟨[a], rfl, fun b hb => by simp at hb; subst hb; exact hl _ al⟩, sto_push' n2.sto am (ObjR.flat h1 ro), n2.fr, n2.fz⟩, a, rfl, ?_⟩
          rw [← S.len]; simp
        · cases e
      · cases e
    · cases e
theorem gcs_ex {g : Gc} {d : D} {x : String} {fs : Fs} {st2 : Store} : gcs g st d st' ≠ .ex x fs st2 := by
  intro e
  cases g with
  | keep => cases e
  | data => unfold gcs at e; dsimp only at e; split at e <;> cases e
  | fresh =>
    unfold gcs at e
    dsimp only at e
    split at e
    · split at e
      · split at e <;> cases e
      · cases e
    · cases e
theorem FldX.flat {n : List Addr} {fs : Fs} {d : Option Addr} (f : (fs.all fun q => D.flat q.2) = true) (h : FldX K m H fs d) : FldX K n H fs d := by
  rcases h with h | ⟨dd, vfs, h1, h2, h3, h4⟩
  · exact .inl h
  · refine .inr ⟨dd, vfs, h1, h2, h3, fun g x e => ?_⟩
    obtain ⟨v, e1, e2⟩ := h4 g x e
    exact ⟨v, e1, Rep.flat (List.all_eq_true.mp f (g, x) (lookup_mem e)) e2⟩
theorem gcx_ok {g : Gc} {x y : String} {fs gs : Fs} {st2 : Store} {d : Option Addr} (S : StoR K w m st H) (n : Nx K w m H m' H' st') (r : FldX K m' H' fs d) (e : gcx g st x fs st' = .ex y gs st2) : y = x ∧ gs = fs ∧ ∃ m2, Nx K w m H m2 H' st2 ∧ FldX K m2 H' gs d := by
  cases g with
  | keep => cases e; exact ⟨rfl, rfl, m', n, r⟩
  | data =>
    unfold gcx at e
    dsimp only at e
    split at e
    · next h =>
      simp only [Bool.and_eq_true] at h
      cases e
      exact ⟨rfl, rfl, m, sto_take S n h.2, FldX.flat h.1 r⟩
    · cases e
  | fresh =>
    unfold gcx at e
    dsimp only at e
    split at e
    · next h =>
      simp only [Bool.and_eq_true] at h
      cases e
      exact ⟨rfl, rfl, m, sto_take S n h.2, FldX.flat h.1 r⟩
    · cases e
theorem gcx_ok' {g : Gc} {x : String} {fs : Fs} {d : D} {st2 : Store} : gcx g st x fs st' ≠ .ok d st2 := by
  intro e
  cases g with
  | keep => cases e
  | _ => unfold gcx at e; dsimp only at e; split at e <;> cases e
end
end Eng
/-! E33: every def of the program does what callF says, at every fuel. -/
namespace Eng
open PySem PySem.Spec PyProof.Rows L2
/-- what is known of the program's text in K: all but its defs -/
structure KF (P : Program) (w : World) (K : PySem.W.Frag) (mg : Str → Option Value) (p : Prg) (T : Tab) : Prop where
  hq : NoEq p
  cf : ClsF K p
  hg : ∀ x ∈ T.gls, ∃ d v u, p.gls.lookup x = some d ∧ mg (Str.ofString x) = some u ∧ L2.RelV v u ∧ ∀ m H, Rep K m H d v
  hd : ∀ x ∈ T.gds, ∃ kvs a, p.gds.lookup x = some kvs ∧ mg (Str.ofString x) = some (.ref a) ∧ KDic K w a kvs
  hb : ∀ x ∈ T.blts, mg (Str.ofString x) = none
  hms : mg "super" = none
  hr : ∀ x ∈ T.rai, ∃ xd, p.exs.lookup x = some xd ∧ XcF P K x xd ∧ mg (Str.ofString x) = some (.ref (He.ga K (Str.ofString x)))
  hct : ∀ k ∈ T.cat, mg (Str.ofString k) = some (.ref (He.ga K (Str.ofString k))) ∧ ∀ x xd, p.exs.lookup x = some xd → PySem.W.exmOne K (.ref (He.ga K (Str.ofString x))) (.ref (He.ga K (Str.ofString k))) = some (xd.sup.contains k) ∧
    PySem.W.kitOne K (.ref (He.ga K (Str.ofString x))) (.ref (He.ga K (Str.ofString k))) = some (xd.sup.contains k)
  hxf : ∀ f ∈ T.xfl, ∀ x xd, p.exs.lookup x = some xd → XfC K (He.ga K (Str.ofString x)) ∧ PySem.W.findIn K (.ref (He.ga K (Str.ofString x))) (Str.ofString f) = some none
  hxe : ∀ x xd, p.exs.lookup x = some xd → ExcC K (He.ga K (Str.ofString x))
  hx : ∀ x ∈ T.ixs, ∃ d ws a o, p.gls.lookup x = some d ∧ tupStrs d = some ws ∧ mg (Str.ofString x) = some (.ref a) ∧ K.lookup a = some o ∧ o.cls = .type "tuple" ∧ o.dict = none ∧ ∀ H, SqT K H a (ws.map V.str)
  hkd : ∀ f ∈ T.kds, ∃ ks, p.kds.lookup f = some ks ∧ (∀ base lvl, KdF P w K mg base (lvl + 1) p (He.ga K (Str.ofString f)) ks.flatten) ∧ mg (Str.ofString f) = some (.ref (He.ga K (Str.ofString f))) ∧ PySem.W.keepIn K (.ref (He.ga K (Str.ofString f))) = true
/-- a property's getter, a function itself -/
def getr (K : PySem.W.Frag) (a : Addr) : Addr := match PySem.W.recIn K a "property" with
  | some (.ref g :: _) => g
  | _ => a
/-- where a def's object is: a global's, a class's method or a getter -/
def adr (K : PySem.W.Frag) (q : Str × Option Str) : Addr := match q.2 with
  | none => He.ga K q.1
  | some m => getr K (He.ma K (He.ga K q.1) m)
/-- a def: its key in the program, where it stands, how many parameters -/
structure Fe where
  key : String
  at_ : Str × Option Str
  np : Nat
structure FnT (K : PySem.W.Frag) (mg : Str → Option Value) (p : Prg) (T : Tab) (es : List Fe) : Prop where
  hf : ∀ f np, (f, np) ∈ T.fns → (⟨f, (Str.ofString f, none), np⟩ : Fe) ∈ es ∧ mg (Str.ofString f) = some (.ref (He.ga K (Str.ofString f))) ∧ PySem.W.keepIn K (.ref (He.ga K (Str.ofString f))) = true
  hc : ∀ c np, (c, np) ∈ T.cls → ∃ cd, p.cls.lookup c = some cd ∧ Mk K (He.ga K (Str.ofString c)) (adr K (Str.ofString c, some "__init__")) ∧ (⟨cd.init, (Str.ofString c, some "__init__"), np + 1⟩ : Fe) ∈ es ∧ mg (Str.ofString c) = some (.ref (He.ga K (Str.ofString c)))
  hm : ∀ m np, (m, np) ∈ T.mets → ∀ c cd g, p.cls.lookup c = some cd → cd.mets.lookup m = some g → Meth K (He.ga K (Str.ofString c)) (Str.ofString m) (adr K (Str.ofString c, some (Str.ofString m))) ∧ (⟨g, (Str.ofString c, some (Str.ofString m)), np + 1⟩ : Fe) ∈ es
  hp : ∀ f ∈ T.prps, ∀ c cd g, p.cls.lookup c = some cd → cd.prps.lookup f = some g → ∃ q, PropOf K (He.ga K (Str.ofString c)) (Str.ofString f) q (adr K (Str.ofString c, some (Str.ofString f))) ∧ (⟨g, (Str.ofString c, some (Str.ofString f)), 1⟩ : Fe) ∈ es
  hi : ∀ C ∈ T.isc, IsC K p C ∧ mg (Str.ofString C) = some (.ref (He.ga K (Str.ofString C)))
  he : ∀ c g, p.eqs.lookup c = some g → IsC K p c ∧ PySem.W.findIn K (.ref (He.ga K (Str.ofString c))) "__eq__" = some (some (.ref (adr K (Str.ofString c, some "__eq__")))) ∧ PySem.W.isFn K (.ref (adr K (Str.ofString c, some "__eq__"))) = true ∧
    PySem.W.findIn K (.ref (He.ga K (Str.ofString c))) "__ne__" = some (some (.builtin "object.__ne__")) ∧ PySem.W.mroIn K (He.ga K (Str.ofString c)) (.type "object") = some true ∧ (⟨g, (Str.ofString c, some "__eq__"), 2⟩ : Fe) ∈ es
def AllH (P : Program) (w : World) (K : PySem.W.Frag) (mg : Str → Option Value) (base : Heap) (p : Prg) (wh : Nat) (es : List Fe) (n : Nat) : Prop := ∀ e ∈ es, FnH P w K mg base (2 * n) (adr K e.at_) e.np (callF p wh n e.key)
theorem start_get {N : List Str} {vs : List V} {i : Nat} {v : V} (h : vs[i]? = some v) : (L2.start N vs)[i]? = some (some v) := by
  have hi := (List.getElem?_eq_some_iff.mp h).1
  unfold L2.start
  rw [List.getElem?_append_left (by simpa using hi), List.getElem?_map, h]
  rfl
section
variable {P : Program} {w : World} {K : PySem.W.Frag} {mg : Str → Option Value} {base : Heap} {p : Prg} {T : Tab} {wh n : Nat} {es : List Fe}
theorem envR_start {N : List Str} {m : List Addr} {H : Hp} {vs : List V} {ds : List D} {ns np : Nat} (hl : vs.length = np) (hN : N.length = ns) (hle : np ≤ ns) (r : Reps K m H ds vs) : EnvR K m H (L2.start N vs) (ds.map some ++ List.replicate (ns - np) none) := by
  have hd := r.length
  refine ⟨?_, fun i d e => ?_⟩
  · unfold L2.start
    simp only [List.length_append, List.length_map, List.length_replicate]
    omega
  · by_cases hi : i < ds.length
    · rw [List.getElem?_append_left (by simpa using hi), List.getElem?_map] at e
      cases q : ds[i]? with
      | none => rw [q] at e; cases e
      | some d2 =>
        rw [q] at e
        simp only [Option.map_some, Option.some.injEq] at e
        subst e
        obtain ⟨v, e1, e2⟩ := r.get q
        exact ⟨v, start_get e1, e2⟩
    · rw [List.getElem?_append_right (by simpa using hi)] at e
      rw [List.getElem?_replicate] at e
      split at e <;> cases e
theorem cts_of {qual : Str} {scope : Scope} {f : Addr} {cdv : Value} {A : Around} {outer : List PySem.Env} {s : Shared} {H : Hp} {E : XK} {N ps : List Str} (kf : KF P w K mg p T) (ft : FnT K mg p T es) (S : FnScope N ps scope) (prev : AllH P w K mg base p wh es n)
    (hr : Room (2 * n + 1) (A.deeper (envOfC qual scope s.heap.objs.size f cdv))) : CtS p (callF p wh n) T (2 * n) (cxOf (L2.CX P w) P w K mg base N qual scope f cdv A outer s H E) ⟨N, scope, fun _ => true⟩ where
  sc := rfl
  N := rfl
  nd := S.nd
  fn := rfl
  calm := rfl
  room := hr
  hq := kf.hq
  cf := kf.cf
  hf := fun f np h => ⟨prev _ (ft.hf f np h).1, (ft.hf f np h).2.1, (ft.hf f np h).2.2⟩
  hc := fun c np h => by
    obtain ⟨cd, h1, h2, h3, h4⟩ := ft.hc c np h
    exact ⟨cd, _, h1, h2, prev _ h3, h4⟩
  hg := kf.hg
  hd := kf.hd
  hb := kf.hb
  hm := fun m np h c cd g h1 h2 => ⟨_, (ft.hm m np h c cd g h1 h2).1, prev _ (ft.hm m np h c cd g h1 h2).2⟩
  hp := fun f h c cd g h1 h2 => by
    obtain ⟨q, a, b⟩ := ft.hp f h c cd g h1 h2
    exact ⟨q, _, a, prev _ b⟩
  hi := ft.hi
  he := fun c g h => by
    obtain ⟨a1, a2, a3, a4, a5, a6⟩ := ft.he c g h
    exact ⟨a1, ⟨_, a2, a3, prev _ a6⟩, a4, a5⟩
  kind := S.kind
  pass := passes_of rfl
  stk := rfl
  frm := rfl
  hms := kf.hms
  hr := kf.hr
  hct := kf.hct
  hxf := kf.hxf
  hxe := kf.hxe
  hx := fun x h => by
    obtain ⟨d, ws, a, o, h1, h2, h3, h4, h5, h6, h7⟩ := kf.hx x h
    exact ⟨d, ws, h1, h2, ⟨a, o, h3, h4, h5, h6, h7⟩⟩
  hkd := fun f h => by
    obtain ⟨ks, h1, h2, h3, h4⟩ := kf.hkd f h
    exact ⟨ks, h1, h2 _ _, h3, h4⟩
theorem fnH_zero {a : Addr} {np : Nat} {key : String} {fd : FuncData} {ps : List Str} {x qual : Str} {params : Arguments} {body : List Stmt} {scope : Scope} {N : List Str} (F : FunD K x qual params body scope [] [] a fd) (hb : Binds K fd ps []) (hnp : ps.length = np) : FnH P w K mg base 0 a np (callF p wh 0 key) := by
  refine ⟨fd, ps, ⟨fun vs H Q E h => ?_, fun A outer s H args us vs Q E hr e0 b r h => ?_⟩, hb⟩
  · rw [hnp]; exact h.1
  · obtain ⟨_, m, ds, st, _, _, o⟩ := h
    exact o.elim
theorem fnOk_succ {a : Addr} {key : String} {fdef : FDef} {fd : FuncData} {ps : List Str} {x qual : Str} {params : Arguments} {body : List Stmt} {scope : Scope} {N : List Str} (kf : KF P w K mg p T) (ft : FnT K mg p T es) (prev : AllH P w K mg base p wh es n)
    (F : FunD K x qual params body scope [] [] a fd) (S : FnScope N ps scope) (hfn : p.fns.lookup key = some fdef) (hnp : ps.length = fdef.np) (hN : N.length = fdef.ns) (hle : fdef.np ≤ fdef.ns)
    (hk : ckSs T p ⟨N, scope, fun _ => true⟩ fdef.body body = true) : FnOk P w K mg base (L2.CX P w) (2 * n + 2) a fd ps (spC K w fdef.np (callF p wh (n + 1) key)) := by
  refine FunD.ok (CX := L2.CX P w) F S (fun vs H Q E h => by rw [hnp]; exact h.1) (fun cdv A outer s H vs Q E hr h => ?_)
  have c := cts_of (qual := qual) (f := a) (cdv := cdv) (outer := outer) (s := s) (H := H) (E := E) kf ft S prev hr
  refine ⟨_, ckSs_ok (wh := wh) fdef.body _ _ body c hk, ?_⟩
  obtain ⟨hl, m, ds, st, Sm, r, o⟩ := h
  have hd : ds.length = fdef.np := by rw [← hl, r.length]
  refine ⟨_, m, st, envR_start hl hN hle r, Sm, ?_⟩
  rw [callF, hfn] at o
  dsimp only at o
  rw [if_pos hd] at o
  have tk := takes_of (X := cxOf (L2.CX P w) P w K mg base N qual scope a cdv A outer s H E) (E := E) (E₁ := fun e' s'' => L2.CX P w outer H s E e' s'') rfl rfl rfl rfl
  cases hq : evSs p (callF p wh n) wh fdef.body (ds.map some ++ List.replicate (fdef.ns - fdef.np) none) st with
  | no => rw [hq] at o; exact o.elim
  | nx env' st' =>
    rw [hq] at o
    dsimp only at o
    intro σ' m' H' n' E'
    cases hg : gcs fdef.gc st .non st' with
    | no => rw [hg] at o; exact o.elim
    | ex x fs s2 => exact absurd hg gcs_ex
    | ok d2 st2 =>
      rw [hg] at o
      obtain ⟨m2, n2, r2⟩ := gcs_ok Sm n' (show Rep K m' H' .non .non from rfl) hg
      exact o .non m2 H' n2 r2
  | rt d st' =>
    rw [hq] at o
    dsimp only at o
    intro v m' H' n' rv
    cases hg : gcs fdef.gc st d st' with
    | no => rw [hg] at o; exact o.elim
    | ex x fs s2 => exact absurd hg gcs_ex
    | ok d2 st2 =>
      rw [hg] at o
      obtain ⟨m2, n2, r2⟩ := gcs_ok Sm n' rv hg
      exact o v m2 H' n2 r2
  | ex x fs env' st' =>
    rw [hq] at o
    dsimp only at o
    cases hg : gcx fdef.gc st x fs st' with
    | no => rw [hg] at o; exact o.elim
    | ok d s2 => exact absurd hg gcx_ok'
    | ex y gs st2 =>
      rw [hg] at o
      refine Takes.imp tk fun cc d σ1 H1 ⟨m1, e1, n1, f1, _⟩ => ?_
      obtain ⟨e3, e4, m2, n2, f2⟩ := gcx_ok Sm n1 f1 hg
      subst e3 e4
      exact o cc d H1 ⟨e1, m2, n2, f2⟩
end
end Eng
/-! E34: all defs; the law's end. -/
namespace Eng
open PySem PySem.Spec PyProof.Rows L2
structure EntOk (K : PySem.W.Frag) (T : Tab) (p : Prg) (e : Fe) : Prop where
  ex : ∃ (fd : FuncData) (ps : List Str) (x qual : Str) (params : Arguments) (body : List Stmt) (scope : Scope) (N : List Str) (fdef : FDef), FunD K x qual params body scope [] [] (adr K e.at_) fd ∧ FnScope N ps scope ∧ Binds K fd ps [] ∧ p.fns.lookup e.key = some fdef ∧
    ps.length = fdef.np ∧ N.length = fdef.ns ∧ fdef.np ≤ fdef.ns ∧ e.np = fdef.np ∧ ckSs T p ⟨N, scope, fun _ => true⟩ fdef.body body = true
section
variable {P : Program} {w : World} {K : PySem.W.Frag} {mg : Str → Option Value} {base : Heap} {p : Prg} {T : Tab} {wh : Nat} {es : List Fe}
theorem allH (kf : KF P w K mg p T) (ft : FnT K mg p T es) (h : ∀ e ∈ es, EntOk K T p e) : ∀ n, AllH P w K mg base p wh es n
  | 0, e, he => by
    obtain ⟨fd, ps, x, qual, params, body, scope, N, fdef, F, S, hb, h1, h2, h3, h4, h5, h6⟩ := (h e he).ex
    exact fnH_zero (N := N) F hb (by rw [h2, h5])
  | n + 1, e, he => by
    obtain ⟨fd, ps, x, qual, params, body, scope, N, fdef, F, S, hb, h1, h2, h3, h4, h5, h6⟩ := (h e he).ex
    rw [h5]
    exact ⟨fd, ps, fnOk_succ kf ft (allH kf ft h n) F S h1 h2 h3 h4 h6, hb⟩
theorem reps_ints {m : List Addr} {H : Hp} : ∀ ns : List Int, Reps K m H (ns.map D.int) (ns.map V.int)
  | [] => rfl
  | n :: ns => ⟨_, _, rfl, rfl, reps_ints ns⟩
theorem law_sp {ns : List Int} {H : Hp} {a : Addr} {g : List D → Store → R D} (hO : Only H) (hS : SqL K H a (ns.map V.int)) (h : ∃ st, g [.rol (ns.map D.int)] [] = .ok (.bl true) st) : spC K w 1 g [.ref a] H (fun v _ => v = .bl true) fun _ _ _ => False := by
  obtain ⟨st, h⟩ := h
  refine ⟨rfl, [], [.rol (ns.map D.int)], [], ⟨rfl, .nil, fun i a o h _ => by cases h⟩, ⟨_, _, rfl, ⟨a, ns.map V.int, rfl, ?_, reps_ints ns⟩, rfl⟩, ?_⟩
  · rcases hS with (h | ⟨o, h⟩) | h
    · rcases hO a with z | ⟨o, xs, z⟩
      · rw [h] at z; cases z
      · rw [h] at z; cases z
    · exact .inl ⟨o, h⟩
    · exact .inr h
  · rw [h]
    exact fun v m' H' n r => r
theorem no_cx {P : Program} {w : World} (H : Hp) (s : Shared) (e : Value) (s' : Shared) : L2.CX P w [] H s (fun _ _ _ => False) e s' → False := by
  rintro ⟨a, B, H', cls, d, _, _, _, _, _, _, _, z⟩
  exact z
end
end Eng
/-! E35: what the head tells of the program's text. -/
namespace Eng
open PySem PySem.Spec PyProof.Rows L2 PySem.W
/-! ### values of the module -/
mutual
def repB (K : Frag) : D → Value → Bool
  | .non, .none => true
  | .bl a, .bool b => a == b
  | .int i, .int j _ => decide (i = j)
  | .str s, .str t _ => decide (s = t)
  | .tup xs, .ref a => match K.lookup a with
    | some ⟨.type c, _, .seq its _, _⟩ => decide (c = "tuple") && decide (its.size ≤ sizeLine) && repsB K xs its.toList
    | _ => false
  | _, _ => false
def repsB (K : Frag) : List D → List Value → Bool
  | [], [] => true
  | d :: ds, u :: us => repB K d u && repsB K ds us
  | _, _ => false
end
mutual
theorem repB_ok {K : Frag} : ∀ (d : D) (u : Value), repB K d u = true → ∃ v, L2.RelV v u ∧ ∀ m H, Rep K m H d v
  | .non, u, h => by cases u <;> first | (rw [repB] at h; done) | exact ⟨.non, rfl, fun _ _ => rfl⟩ | cases h
  | .bl a, u, h => by
    cases u with
    | bool b => rw [repB] at h; cases eq_of_beq h; exact ⟨.bl _, rfl, fun _ _ => rfl⟩
    | _ => cases h
  | .int i, u, h => by
    cases u with
    | int j t => rw [repB] at h; cases of_decide_eq_true h; exact ⟨.int _, ⟨t, rfl⟩, fun _ _ => rfl⟩
    | _ => cases h
  | .str s, u, h => by
    cases u with
    | str j t => rw [repB] at h; cases of_decide_eq_true h; exact ⟨.str _, ⟨t, rfl⟩, fun _ _ => rfl⟩
    | _ => cases h
  | .tup xs, u, h => by
    cases u with
    | ref a =>
      rw [repB] at h
      split at h
      · next c od its n sl e =>
        simp only [Bool.and_eq_true, decide_eq_true_eq] at h
        obtain ⟨⟨rfl, h1⟩, h2⟩ := h
        obtain ⟨vs, r, k⟩ := repsB_ok xs its.toList h2
        exact ⟨.ref a, rfl, fun m H => ⟨a, vs, rfl, .inr ⟨_, its, n, e, rfl, rfl, h1, r⟩, k m H⟩⟩
      · cases h
    | _ => cases h
  | .rol _, u, h => by cases u <;> cases h
  | .obj _, u, h => by cases u <;> cases h
theorem repsB_ok {K : Frag} : ∀ (ds : List D) (us : List Value), repsB K ds us = true → ∃ vs, Vals vs us ∧ ∀ m H, Reps K m H ds vs
  | [], [], _ => ⟨[], .nil, fun _ _ => rfl⟩
  | d :: ds, u :: us, h => by
    rw [repsB, Bool.and_eq_true] at h
    obtain ⟨v, r, k⟩ := repB_ok d u h.1
    obtain ⟨vs, rs, ks⟩ := repsB_ok ds us h.2
    exact ⟨v :: vs, .cons r rs, fun m H => ⟨v, vs, rfl, k m H, ks m H⟩⟩
  | [], _ :: _, h => by cases h
  | _ :: _, [], h => by cases h
end
/-! ### own exceptions -/
abbrev gaS (K : Frag) (x : String) : Addr := He.ga K (Str.ofString x)
def oexcB (K : Frag) (C : Addr) : Bool := (match K.lookup C with
  | some ⟨.type t, _, .cls cd, sl⟩ => decide (t = "type") && (match cd.mro, sl.toList with
    | .ref C' :: bm, [_, _, _, _, some (.builtin n), _] => C' == C && n == "ValueError.__new__" && !cd.hasDel && cd.hasDict && PySem.HandSPX.refsVE bm
    | _, _ => false)
  | _ => false) && decide (findIn K (.ref C) "__setattr__" = some (some (.builtin "object.__setattr__"))) && decide (subIn K (.ref C) (.type "BaseException") = some true) && decide (typeIn K (.ref C) = some (.type "type")) && keepIn K (.ref C)
theorem oexcB_ok {K : Frag} {C : Addr} (h : oexcB K C = true) : OexC K C := by
  unfold oexcB at h
  simp only [Bool.and_eq_true, decide_eq_true_eq] at h
  obtain ⟨⟨⟨⟨h1, h2⟩, h3⟩, h4⟩, h5⟩ := h
  refine ⟨?_, h2, h3, h4, h5⟩
  split at h1
  · next t dd cd sl e =>
    simp only [Bool.and_eq_true, decide_eq_true_eq] at h1
    obtain ⟨rfl, h1⟩ := h1
    split at h1
    · next C' bm k0 k1 k2 k3 n k5 hm hs =>
      simp only [Bool.and_eq_true, beq_iff_eq, Bool.not_eq_true'] at h1
      obtain ⟨⟨⟨⟨rfl, rfl⟩, hdel⟩, hd⟩, hr⟩ := h1
      obtain ⟨nm, bs, mro, ns, qn, hdc, sn, sub, ab, col, del⟩ := cd
      dsimp only at hm hdel hd
      subst hm hdel hd
      have hsl : sl = #[k0, k1, k2, k3, some (.builtin "ValueError.__new__"), k5] := by
        obtain ⟨l⟩ := sl
        simp only at hs
        rw [hs]
      subst hsl
      exact ⟨nm, qn, ns, bs, bm, sn, sub, ab, col, dd, k0, k1, k2, k3, k5, e, hr⟩
    · cases h1
  · cases h1
def excCB (K : Frag) (D : Addr) : Bool := decide (findIn K (.ref D) "__getattribute__" = some (some (.builtin "BaseException.__getattribute__"))) && decide (findIn K (.ref D) "__getattr__" = some none) && decide (subIn K (.ref D) (.type "BaseException") = some true) && hasDictIn K D &&
  decide (findIn K (.ref D) "__class__" = some (some (.builtin "object.__class__"))) && decide (specialIn K (.builtin "object.__class__") "__get__" = some (some (.builtin "getset_descriptor.__get__"))) && decide (takesIn K (.builtin "object.__class__") = some true) && decide (mroIn K D (.type "object") = some true)
theorem excCB_ok {K : Frag} {D : Addr} (h : excCB K D = true) : ExcC K D := by
  unfold excCB at h
  simp only [Bool.and_eq_true, decide_eq_true_eq] at h
  obtain ⟨⟨⟨⟨⟨⟨⟨h1, h2⟩, h3⟩, h4⟩, h5⟩, h6⟩, h7⟩, h8⟩ := h
  exact ⟨h1, h2, h3, h4, h5, h6, h7, h8⟩
abbrev iAd (K : Frag) (x : String) : Addr := He.ma K (gaS K x) "__init__"
/-- an __init__ in the text: its parameters, body, scope -/
abbrev XT := Arguments × List Stmt × Scope
def xtOf (K : Frag) (x : String) : Option (Arguments × FuncBody × Scope) := match K.lookup (iAd K x) with
  | some ⟨_, _, .func fd, _⟩ => some (fd.params, fd.body, fd.scope)
  | _ => none
def xtVal (t : XT) : Option (Arguments × FuncBody × Scope) := some (t.1, .stmts t.2.1, t.2.2)
def isNoneV : Value → Bool
  | .none => true
  | _ => false
/-- fd, the __init__ of the class at C -/
def fdB (K : Frag) (file : Str) (C : Addr) (fd : FuncData) : Bool := isNoneV fd.defaults && decide (fd.globals = mainGlobals) && decide (fd.builtins = builtinsNs) && (match fd.code with
    | .ref cda => codeIn K (.ref cda) fd.qualname && (match K.lookup cda with
      | some ⟨_, _, .fields vs, _⟩ => (match (vs[2]? : Option Value) with
        | some (Value.str f _) => file == f
        | _ => false)
      | _ => false)
    | _ => false) && (match fd.closure with
    | [(n, cc)] => decide (n = "__class__") && (match K.lookup cc with
      | some ⟨_, _, .cell (some (.ref c)), _⟩ => decide (c = C)
      | _ => false)
    | _ => false)
def exB (K : Frag) (file : Str) (x : String) (xd : XDef) : Bool := oexcB K (gaS K x) && decide (findIn K (.ref (gaS K x)) "__init__" = some (some (.ref (iAd K x)))) && decide (typeIn K (.ref (iAd K x)) = some (.type "function")) &&
  decide (ks_superIn K (gaS K x) (gaS K x) "__init__" = some (some (.builtin "ValueError.__init__"))) && decide (subIn K (.ref (gaS K x)) (.type "ValueError") = some true) && decide (mroIn K (gaS K x) (.ref (gaS K x)) = some true) && decide (nsIn K PySem.cStatics "thirdparty.any" = some none) &&
  keepIn K (.ref (gaS K x)) && xd.flds.all (fun q => decide (findIn K (.ref (gaS K x)) (Str.ofString q.1) = some none)) && (match K.lookup (iAd K x) with
  | some ⟨_, _, .func fd, _⟩ => fdB K file (gaS K x) fd
  | _ => false)
/-- parameters that bind in their order -/
def BindP (A : Arguments) (ps : List Str) : Prop := ∀ (fd : FuncData) (us : List Value), fd.params = A → fd.defaults = .none → us.length = ps.length → bindArgs fd ⟨us, []⟩ = pure (ps.zip us)
/-- what the text of an exception's __init__ must say -/
def xtB (ps : List Str) (xd : XDef) (t : XT) : Bool := initOk ("self" :: ps) xd t.2.1 && decide ((("self" : Str) :: ps).Nodup) && ((("self" : Str) :: ps).all fun y => decide (t.2.2.names.lookup y = some .local) && !(y == ("__debug__" : Str))) && t.2.2.names.all (fun y => !decide (y.2 = .cell)) && !t.2.2.isCoroutine && !t.2.2.isGenerator &&
  decide (xd.flds.length ≤ 900) && decide (ps.length = xd.np) && decide (t.2.2.names.lookup ("super" : Str) = some .globalImplicit) && decide (t.2.2.names.lookup ("__class__" : Str) = some .free) && decide (t.2.2.kind = .function) && (match (t.1.posonlyargs ++ t.1.args).head? with
  | some ar => decide (ar.arg = "self")
  | none => false)
theorem xcf_ok {P : Program} {K : Frag} {x : String} {xd : XDef} {ps : List Str} {t : XT} (hx : exB K P.main.file x xd = true) (ht : xtOf K x = xtVal t) (hb : xtB ps xd t = true) (bp : BindP t.1 ("self" :: ps)) (hs : (P.main.scope.names.lookup ("super" : Str)).isSome = false) : XcF P K x xd := by
  obtain ⟨A, body, sc⟩ := t
  unfold exB at hx
  simp only [Bool.and_eq_true, decide_eq_true_eq] at hx
  obtain ⟨⟨⟨⟨⟨⟨⟨⟨⟨x1, x2⟩, x3⟩, x4⟩, x5⟩, x6⟩, x7⟩, x8⟩, x9⟩, x10⟩ := hx
  unfold xtOf at ht
  unfold xtB at hb
  simp only [Bool.and_eq_true, decide_eq_true_eq, Bool.not_eq_true'] at hb
  obtain ⟨⟨⟨⟨⟨⟨⟨⟨⟨⟨⟨b1, b2⟩, b3⟩, b4⟩, b5⟩, b6⟩, b7⟩, b8⟩, b9⟩, b10⟩, b11⟩, b12⟩ := hb
  split at x10
  · next oc od fd sl e =>
    rw [e] at ht
    simp only [xtVal, Option.some.injEq, Prod.mk.injEq] at ht
    obtain ⟨t1, t2, t3⟩ := ht
    unfold fdB at x10
    simp only [Bool.and_eq_true, decide_eq_true_eq] at x10
    obtain ⟨⟨⟨⟨f1, f2⟩, f3⟩, f4⟩, f5⟩ := x10
    have f1' : fd.defaults = .none := by
      cases q : fd.defaults <;> rw [q] at f1 <;> first | rfl | cases f1
    split at f4
    · next cda hc =>
      simp only [Bool.and_eq_true] at f4
      obtain ⟨g1, g2⟩ := f4
      split at g2
      · next ccl cdd vs ccs e2 =>
        split at g2
        · next f tf e3 =>
          split at f5
          · next n cc hcl =>
            simp only [Bool.and_eq_true, decide_eq_true_eq] at f5
            obtain ⟨rfl, f5⟩ := f5
            split at f5
            · next cl cld c csl e4 =>
              rw [decide_eq_true_eq] at f5
              subst f5
              have T := oexcB_ok x1
              have hcls : ∃ cd, clsIn K (gaS K x) = some cd := by
                obtain ⟨nm, q, N, bs, bm, sn, sub, ab, col, dd, k0, k1, k2, k3, k5, e5, _⟩ := T.cls
                unfold clsIn
                rw [e5]
                exact ⟨_, rfl⟩
              have b3' : ∀ y ∈ ("self" : Str) :: ps, fd.scope.names.lookup y = some .local ∧ (y == ("__debug__" : Str)) = false := by
                intro y hy
                have := List.all_eq_true.mp b3 y hy
                simp only [Bool.and_eq_true, decide_eq_true_eq, Bool.not_eq_true'] at this
                rw [t3]
                exact this
              refine ⟨⟨iAd K x, cda, cc, fd, ps, body, ⟨⟨oc, od, sl, e⟩, ⟨ccl, cdd, vs, ccs, f, tf, e2, e3, g2⟩, ⟨cl, cld, csl, e4⟩, hcls, by rw [t3]; exact b9, by rw [t3]; exact b10, (b3' _ (List.mem_cons_self ..)).1, by rw [t3]; exact b11, hc, hcl, f2, f3, ?_⟩,
                ⟨T, x2, x3, x4, x5, x6, x7, hs⟩, t2, b1, b2, b3', ?_, by rw [t3]; exact b5, by rw [t3]; exact b6, g1, .all fun us hl => bp fd us t1 f1' hl, ?_, b7, b8⟩, x8⟩
              · rw [t1]
                split at b12
                · next ar hh => exact ⟨ar, hh, of_decide_eq_true b12⟩
                · cases b12
              · rw [t3]
                intro y hy
                have := List.all_eq_true.mp b4 y hy
                simpa using this
              · intro q hq
                have := List.all_eq_true.mp x9 q hq
                exact of_decide_eq_true this
            · cases f5
          · cases f5
        · cases g2
      · cases g2
    · cases f4
  · cases x10
end Eng
/-! E36: all facts as one Bool; the hook. -/
namespace Eng
open PySem PySem.Spec PyProof.Rows L2 PySem.W
def glB (K : Frag) (x : String) : Bool := decide (nsIn K mainGlobals (Str.ofString x) = some (some (.ref (gaS K x))))
def frB (K : Frag) (x : Str) : Bool := decide (nsIn K mainGlobals x = some none)
def gvB (K : Frag) (p : Prg) (x : String) : Bool := match p.gls.lookup x, nsIn K mainGlobals (Str.ofString x) with
  | some d, some (some u) => repB K d u
  | _, _ => false
def gdB (K : Frag) (p : Prg) (x : String) : Bool := glB K x && (match p.gds.lookup x with
  | some kvs => kvs.all fun q => match q.1 with
    | .str z => (match nsIn K (gaS K x) z with
      | some (some u) => repB K q.2 u
      | _ => false)
    | _ => false
  | none => false)
def raB (K : Frag) (p : Prg) (file : Str) (x : String) : Bool := glB K x && (match p.exs.lookup x with
  | some xd => exB K file x xd
  | none => false)
def caB (K : Frag) (p : Prg) (k : String) : Bool := glB K k && p.exs.all fun q => decide (exmOne K (.ref (gaS K q.1)) (.ref (gaS K k)) = some (q.2.sup.contains k)) && decide (kitOne K (.ref (gaS K q.1)) (.ref (gaS K k)) = some (q.2.sup.contains k))
def xflB (K : Frag) (p : Prg) (f : String) : Bool := p.exs.all fun q => xfB K (gaS K q.1) && decide (findIn K (.ref (gaS K q.1)) (Str.ofString f) = some none)
def clB (K : Frag) (p : Prg) (q : String × CDef) : Bool := (He.Fa.cls (Str.ofString q.1)).ok K && p.ats.all fun f => !rawA p q.1 f || decide (findIn K (.ref (gaS K q.1)) (Str.ofString f) = some none)
def mkB (K : Frag) (p : Prg) (q : String × Nat) : Bool := glB K q.1 && (He.Fa.mkr (Str.ofString q.1)).ok K && (p.cls.lookup q.1).isSome && decide (adr K (Str.ofString q.1, some "__init__") = He.ma K (gaS K q.1) "__init__")
def fnB (K : Frag) (q : String × Nat) : Bool := glB K q.1 && keepIn K (.ref (gaS K q.1))
def methB (K : Frag) (c m : String) : Bool := decide (findIn K (.ref (gaS K c)) (Str.ofString m) = some (some (.ref (adr K (Str.ofString c, some (Str.ofString m)))))) && isFn K (.ref (adr K (Str.ofString c, some (Str.ofString m)))) && keepIn K (.ref (adr K (Str.ofString c, some (Str.ofString m))))
def metB (K : Frag) (p : Prg) (q : String × Nat) : Bool := p.cls.all fun z => (z.2.mets.lookup q.1).isNone || methB K z.1 q.1
def propB (K : Frag) (c f : String) : Bool := match findIn K (.ref (gaS K c)) (Str.ofString f) with
  | some (some (.ref a)) => decide (specialIn K (.ref a) "__get__" = some (some (.builtin "property.__get__"))) && decide (takesIn K (.ref a) = some true) && (match recIn K a "property" with
    | some (.ref g :: _) => decide (adr K (Str.ofString c, some (Str.ofString f)) = g)
    | _ => false)
  | _ => false
def prpB (K : Frag) (p : Prg) (f : String) : Bool := p.cls.all fun z => (z.2.prps.lookup f).isNone || propB K z.1 f
def iscB (K : Frag) (p : Prg) (C : String) : Bool := btys.all (fun a => decide (kitOne K (.type a) (.ref (gaS K C)) = some false)) && p.cls.all (fun q => decide (kitOne K (.ref (gaS K q.1)) (.ref (gaS K C)) = some (q.1 == C)) && decide (findIn K (.ref (gaS K q.1)) "__class__" = some (some (.builtin "object.__class__"))) && decide (mroIn K (gaS K q.1) (.type "object") = some true)) &&
  decide (specialIn K (.builtin "object.__class__") "__get__" = some (some (.builtin "getset_descriptor.__get__"))) && decide (takesIn K (.builtin "object.__class__") = some true)
def eqB (K : Frag) (p : Prg) (q : String × String) : Bool := iscB K p q.1 && decide (findIn K (.ref (gaS K q.1)) "__eq__" = some (some (.ref (adr K (Str.ofString q.1, some "__eq__"))))) && isFn K (.ref (adr K (Str.ofString q.1, some "__eq__"))) && decide (findIn K (.ref (gaS K q.1)) "__ne__" = some (some (.builtin "object.__ne__"))) &&
  decide (mroIn K (gaS K q.1) (.type "object") = some true)
theorem iscB_ok {K : Frag} {p : Prg} {C : String} (h : iscB K p C = true) : IsC K p C := by
  unfold iscB at h
  simp only [Bool.and_eq_true, decide_eq_true_eq] at h
  obtain ⟨⟨⟨h1, h2⟩, h3⟩, h4⟩ := h
  refine ⟨fun a ha => of_decide_eq_true (List.all_eq_true.mp h1 a ha), fun c cd e => ?_, h3, h4⟩
  have := List.all_eq_true.mp h2 _ (Eng.lookup_mem e)
  simp only [Bool.and_eq_true, decide_eq_true_eq] at this
  exact ⟨this.1.1, this.1.2, this.2⟩
theorem methB_ok {K : Frag} {c m : String} (h : methB K c m = true) : Meth K (gaS K c) (Str.ofString m) (adr K (Str.ofString c, some (Str.ofString m))) := by
  unfold methB at h
  simp only [Bool.and_eq_true, decide_eq_true_eq] at h
  exact ⟨h.1.1, h.1.2, h.2⟩
theorem propB_ok {K : Frag} {c f : String} (h : propB K c f = true) : ∃ q, PropOf K (gaS K c) (Str.ofString f) q (adr K (Str.ofString c, some (Str.ofString f))) := by
  unfold propB at h
  split at h
  · next a e =>
    simp only [Bool.and_eq_true, decide_eq_true_eq] at h
    obtain ⟨⟨h1, h2⟩, h3⟩ := h
    split at h3
    · next g r e2 =>
      rw [of_decide_eq_true h3]
      exact ⟨a, e, h1, h2, r, e2⟩
    · cases h3
  · cases h
/-- a tuple of texts of the module, as it stands -/
def gxB (K : Frag) (p : Prg) (x : String) : Bool := match p.gls.lookup x, nsIn K mainGlobals (Str.ofString x) with
  | some d, some (some (.ref a)) => (tupStrs d).isSome && repB K d (.ref a) && (match K.lookup a with
    | some o => decide (o.cls = .type "tuple") && o.dict.isNone
    | none => false)
  | _, _ => false
def verB (K : Frag) (p : Prg) : Bool := p.exs.all fun q => decide (kitOne K (.ref (gaS K q.1)) (.type "ValueError") = some (q.2.sup.contains "ValueError"))
theorem gxB_ok {K : Frag} {p : Prg} {x : String} (h : gxB K p x = true) : ∃ d ws a o, p.gls.lookup x = some d ∧ tupStrs d = some ws ∧ nsIn K mainGlobals (Str.ofString x) = some (some (.ref a)) ∧ K.lookup a = some o ∧ o.cls = .type "tuple" ∧ o.dict = none ∧ ∀ H, SqT K H a (ws.map V.str) := by
  unfold gxB at h
  split at h
  · next d a e1 e2 =>
    simp only [Bool.and_eq_true] at h
    obtain ⟨⟨h1, h2⟩, h3⟩ := h
    obtain ⟨ws, hw⟩ := Option.isSome_iff_exists.mp h1
    split at h3
    · next o ho =>
      simp only [Bool.and_eq_true, decide_eq_true_eq] at h3
      refine ⟨d, ws, a, o, e1, hw, e2, ho, h3.1, by simpa using h3.2, fun H => ?_⟩
      obtain ⟨v, r, k⟩ := repB_ok _ _ h2
      cases d with
      | tup xs =>
        obtain ⟨a', vs, rfl, q, rs⟩ := k [] H
        have e4 := Value.ref.inj r
        subst e4
        rw [reps_strsO hw rs] at q
        exact q
      | _ => cases hw
    · cases h3
  · cases h
def kfB (K : Frag) (p : Prg) (T : Tab) (file : Str) : Bool := T.gls.all (gvB K p) && T.gds.all (gdB K p) && T.blts.all (fun x => frB K (Str.ofString x)) && frB K "super" && T.rai.all (raB K p file) && T.cat.all (caB K p) && T.xfl.all (xflB K p) && p.exs.all (fun q => excCB K (gaS K q.1)) &&
  p.cls.all (clB K p) && T.cls.all (mkB K p) && T.fns.all (fnB K) && (T.mets.all (metB K p) && T.prps.all (prpB K p) && T.isc.all (fun C => glB K C && iscB K p C) && p.eqs.all (eqB K p)) && (T.ixs.all (gxB K p) && T.kds.all (fun f => fnB K (f, 1)) && (T.kds.isEmpty || verB K p))
theorem lookup_mem' {α : Type} {k : String} {v : α} {l : List (String × α)} (h : l.lookup k = some v) : (k, v) ∈ l := Eng.lookup_mem h
section
variable {K : Frag} {p : Prg} {T : Tab} {P : Program} {w : World} {mg : Str → Option Value} {h : Heap}
theorem glB_ok (X : K.In h) (G : h.Ns mainGlobals mg) {x : String} (c : glB K x = true) : mg (Str.ofString x) = some (.ref (gaS K x)) := mg_of X G (of_decide_eq_true c)
theorem frB_ok (X : K.In h) (G : h.Ns mainGlobals mg) {x : Str} (c : frB K x = true) : mg x = none := mg_none_of X G (of_decide_eq_true c)
/-- the exceptions' texts: of every raised class -/
structure XtOk (K : Frag) (p : Prg) (T : Tab) : Prop where
  ex : ∀ x ∈ T.rai, ∀ xd, p.exs.lookup x = some xd → ∃ (ps : List Str) (t : XT), xtOf K x = xtVal t ∧ xtB ps xd t = true ∧ BindP t.1 ("self" :: ps)
theorem kf_of (X : K.In h) (G : h.Ns mainGlobals mg) (hk : kfB K p T P.main.file = true) (hq : NoEq p) (hs : (P.main.scope.names.lookup ("super" : Str)).isSome = false) (xt : XtOk K p T) (hd : ∀ x ∈ T.gds, ∃ es n, KDict K w (gaS K x) es n) (hkd : ∀ f ∈ T.kds, (∀ x xd, p.exs.lookup x = some xd → ExcC K (gaS K x)) → (∀ x ∈ T.blts, mg (Str.ofString x) = none) → (∀ c, (T.cat.contains c = true ∨ (c = "ValueError" ∧ T.blts.contains "ValueError" = true)) → KdC K mg p c) → ∃ ks, p.kds.lookup f = some ks ∧ ∀ base lvl, KdF P w K mg base (lvl + 1) p (gaS K f) ks.flatten) : KF P w K mg p T := by
  unfold kfB at hk
  simp only [Bool.and_eq_true] at hk
  obtain ⟨⟨⟨⟨⟨⟨⟨⟨⟨⟨⟨⟨k1, k2⟩, k3⟩, k4⟩, k5⟩, k6⟩, k7⟩, k8⟩, k9⟩, k10⟩, k11⟩, _⟩, ⟨⟨kx1, kx2⟩, kx3⟩⟩ := hk
  have hxe0 : ∀ x xd, p.exs.lookup x = some xd → ExcC K (gaS K x) := fun x xd e => by
    have := List.all_eq_true.mp k8 _ (lookup_mem' e)
    exact excCB_ok this
  have hbl0 : ∀ x ∈ T.blts, mg (Str.ofString x) = none := fun x hx => by
    have := List.all_eq_true.mp k3 x hx
    exact frB_ok X G this
  have hct0 : ∀ k ∈ T.cat, mg (Str.ofString k) = some (.ref (gaS K k)) ∧ ∀ x xd, p.exs.lookup x = some xd → exmOne K (.ref (gaS K x)) (.ref (gaS K k)) = some (xd.sup.contains k) ∧ kitOne K (.ref (gaS K x)) (.ref (gaS K k)) = some (xd.sup.contains k) := fun k hx => by
    have := List.all_eq_true.mp k6 k hx
    unfold caB at this
    simp only [Bool.and_eq_true] at this
    refine ⟨glB_ok X G this.1, fun x xd e => ?_⟩
    have := List.all_eq_true.mp this.2 _ (lookup_mem' e)
    simp only [Bool.and_eq_true, decide_eq_true_eq] at this
    exact this
  refine ⟨hq, ⟨fun c cd e => ?_, fun c f e => ?_⟩, fun x hx => ?_, fun x hx => ?_, fun x hx => ?_, frB_ok (x := "super") X G k4, fun x hx => ?_, fun k hx => ?_, fun f hf x xd e => ?_, fun x xd e => ?_, fun x hx => ?_, fun f hf => ?_⟩
  · have := List.all_eq_true.mp k9 _ (lookup_mem' e)
    unfold clB at this
    simp only [Bool.and_eq_true] at this
    exact He.cls_ok this.1
  · obtain ⟨cd, hc⟩ := rawA_cls e
    have := List.all_eq_true.mp k9 _ (lookup_mem' hc)
    unfold clB at this
    simp only [Bool.and_eq_true] at this
    have hf : f ∈ p.ats := by
      unfold rawA at e
      rw [hc] at e
      simp only [Bool.and_eq_true] at e
      simpa using e.1.1
    have := List.all_eq_true.mp this.2 f hf
    simp only [Bool.or_eq_true, Bool.not_eq_true', decide_eq_true_eq] at this
    rcases this with z | z
    · rw [e] at z; cases z
    · exact z
  · have := List.all_eq_true.mp k1 x hx
    unfold gvB at this
    split at this
    · next d u e1 e2 =>
      obtain ⟨v, r, k⟩ := repB_ok _ _ this
      exact ⟨d, v, u, e1, mg_of X G e2, r, k⟩
    · cases this
  · have := List.all_eq_true.mp k2 x hx
    unfold gdB at this
    simp only [Bool.and_eq_true] at this
    obtain ⟨g1, g2⟩ := this
    split at g2
    · next kvs e =>
      obtain ⟨es, n, D⟩ := hd x hx
      refine ⟨kvs, gaS K x, e, glB_ok X G g1, fun k d hl z hz => ?_⟩
      subst hz
      unfold dLook at hl
      cases hf : kvs.find? (fun p => decide (p.1.nk = some (.text z))) with
      | none => rw [hf] at hl; cases hl
      | some q =>
        rw [hf] at hl
        simp only [Option.map_some, Option.some.injEq] at hl
        subst hl
        have hq := List.find?_some hf
        have hm := List.mem_of_find?_eq_some hf
        have := List.all_eq_true.mp g2 q hm
        have hq' := of_decide_eq_true hq
        split at this
        · next z' e1 =>
          rw [e1] at hq'
          have ez : z' = z := by
            have : (some (NestedKey.text z') : Option NestedKey) = some (.text z) := hq'
            injection this with this
            injection this
          subst ez
          split at this
          · next u e2 =>
            obtain ⟨v, r, k⟩ := repB_ok _ _ this
            exact ⟨v, ⟨es, n, u, D.at_, D.lit, e2, r⟩, k⟩
          · cases this
        · cases this
    · cases g2
  · have := List.all_eq_true.mp k3 x hx
    exact frB_ok X G this
  · have := List.all_eq_true.mp k5 x hx
    unfold raB at this
    simp only [Bool.and_eq_true] at this
    obtain ⟨g1, g2⟩ := this
    split at g2
    · next xd e =>
      obtain ⟨ps, t, t1, t2, t3⟩ := xt.ex x hx xd e
      exact ⟨xd, e, xcf_ok g2 t1 t2 t3 hs, glB_ok X G g1⟩
    · cases g2
  · have := List.all_eq_true.mp k6 k hx
    unfold caB at this
    simp only [Bool.and_eq_true] at this
    refine ⟨glB_ok X G this.1, fun x xd e => ?_⟩
    have := List.all_eq_true.mp this.2 _ (lookup_mem' e)
    simp only [Bool.and_eq_true, decide_eq_true_eq] at this
    exact this
  · have := List.all_eq_true.mp k7 f hf
    unfold xflB at this
    have := List.all_eq_true.mp this _ (lookup_mem' e)
    simp only [Bool.and_eq_true, decide_eq_true_eq] at this
    exact ⟨xfB_ok this.1, this.2⟩
  · have := List.all_eq_true.mp k8 _ (lookup_mem' e)
    exact excCB_ok this
  · obtain ⟨d, ws, a, o, h1, h2, h3, h4, h5, h6, h7⟩ := gxB_ok (List.all_eq_true.mp kx1 x hx)
    exact ⟨d, ws, a, o, h1, h2, mg_of X G h3, h4, h5, h6, h7⟩
  · have h1 := List.all_eq_true.mp kx2 f hf
    unfold fnB at h1
    simp only [Bool.and_eq_true] at h1
    obtain ⟨ks, e1, e2⟩ := hkd f hf hxe0 hbl0 fun c hc => by
      by_cases hcc : T.cat.contains c = true
      · obtain ⟨m1, m2⟩ := hct0 c (by simpa using hcc)
        exact ⟨.inl ⟨m1, fun x xd e => (m2 x xd e).2⟩⟩
      · rcases hc with z | ⟨z1, z2⟩
        · exact absurd z hcc
        · refine ⟨.inr ⟨z1, by rw [z1]; exact hbl0 _ (by simpa using z2), fun x xd e => ?_⟩⟩
          have : verB K p = true := by
            cases hT : T.kds with
            | nil => rw [hT] at hf; cases hf
            | cons a l => rw [hT] at kx3; simpa using kx3
          have := List.all_eq_true.mp this _ (lookup_mem' e)
          rw [z1]
          exact of_decide_eq_true this
    exact ⟨ks, e1, e2, glB_ok X G h1.1, h1.2⟩
/-- the defs are among the entries -/
structure Ents (p : Prg) (T : Tab) (es : List Fe) : Prop where
  f : ∀ q ∈ T.fns, (⟨q.1, (Str.ofString q.1, none), q.2⟩ : Fe) ∈ es
  c : ∀ q ∈ T.cls, ∀ cd, p.cls.lookup q.1 = some cd → (⟨cd.init, (Str.ofString q.1, some "__init__"), q.2 + 1⟩ : Fe) ∈ es
  m : ∀ q ∈ T.mets, ∀ c cd g, p.cls.lookup c = some cd → cd.mets.lookup q.1 = some g → (⟨g, (Str.ofString c, some (Str.ofString q.1)), q.2 + 1⟩ : Fe) ∈ es
  r : ∀ f ∈ T.prps, ∀ c cd g, p.cls.lookup c = some cd → cd.prps.lookup f = some g → (⟨g, (Str.ofString c, some (Str.ofString f)), 1⟩ : Fe) ∈ es
  e : ∀ c g, p.eqs.lookup c = some g → (⟨g, (Str.ofString c, some "__eq__"), 2⟩ : Fe) ∈ es
theorem fnT_of (X : K.In h) (G : h.Ns mainGlobals mg) {file : Str} {es : List Fe} (hk : kfB K p T file = true) (E : Ents p T es) : FnT K mg p T es := by
  unfold kfB at hk
  simp only [Bool.and_eq_true] at hk
  obtain ⟨⟨⟨⟨_, k10⟩, k11⟩, ⟨⟨⟨k12, k13⟩, k14⟩, k15⟩⟩, _⟩ := hk
  refine ⟨fun f np hm => ?_, fun c np hm => ?_, fun m np hm c cd g e1 e2 => ?_, fun f hf c cd g e1 e2 => ?_, fun C hC => ?_, fun c g e => ?_⟩
  · have := List.all_eq_true.mp k11 _ hm
    unfold fnB at this
    simp only [Bool.and_eq_true] at this
    exact ⟨E.f _ hm, glB_ok X G this.1, this.2⟩
  · have := List.all_eq_true.mp k10 _ hm
    unfold mkB at this
    simp only [Bool.and_eq_true, decide_eq_true_eq] at this
    obtain ⟨⟨⟨h1, h2⟩, h3⟩, h4⟩ := this
    obtain ⟨cd, e⟩ := Option.isSome_iff_exists.mp h3
    exact ⟨cd, e, by rw [h4]; exact He.mkr_ok h2, E.c _ hm cd e, glB_ok X G h1⟩
  · have := List.all_eq_true.mp (List.all_eq_true.mp k12 _ hm) _ (lookup_mem' e1)
    rw [e2] at this
    exact ⟨methB_ok (by simpa using this), E.m _ hm c cd g e1 e2⟩
  · have := List.all_eq_true.mp (List.all_eq_true.mp k13 _ hf) _ (lookup_mem' e1)
    rw [e2] at this
    obtain ⟨q, z⟩ := propB_ok (K := K) (c := c) (f := f) (by simpa using this)
    exact ⟨q, z, E.r f hf c cd g e1 e2⟩
  · have := List.all_eq_true.mp k14 C hC
    simp only [Bool.and_eq_true] at this
    exact ⟨iscB_ok this.2, glB_ok X G this.1⟩
  · have := List.all_eq_true.mp k15 _ (lookup_mem' e)
    unfold eqB at this
    simp only [Bool.and_eq_true, decide_eq_true_eq] at this
    obtain ⟨⟨⟨⟨h1, h2⟩, h3⟩, h4⟩, h5⟩ := this
    exact ⟨iscB_ok h1, h2, h3, h4, h5, E.e c g e⟩
end
theorem map_two {α β γ : Type} {o : Option α} {f : α → β} {g : α → γ} {b : β} {c : γ} (h1 : o.map f = some b) (h2 : o.map g = some c) : o.map (fun s => (f s, g s)) = some (b, c) := by
  cases o with
  | none => cases h1
  | some a =>
    have e1 := Option.some.inj h1
    have e2 := Option.some.inj h2
    show some (f a, g a) = _
    rw [e1, e2]
theorem map_three {α β γ δ : Type} {o : Option α} {f : α → β} {g : α → γ} {h : α → δ} {b : β} {c : γ} {d : δ} (h1 : o.map (fun s => (f s, g s)) = some (b, c)) (h2 : o.map h = some d) : o.map (fun s => (f s, g s, h s)) = some (b, c, d) := by
  cases o with
  | none => cases h1
  | some a =>
    have e1 := Option.some.inj h1
    have e2 := Option.some.inj h2
    injection e1 with e1 e3
    show some (f a, g a, h a) = _
    rw [e1, e2, e3]
/-- the four parts of a look -/
theorem map_obs {α β γ δ : Type} {o : Option α} {k l : α → Bool} {f : α → β} {g : α → γ} {h : α → δ} {b : β} {c : γ} {d : δ} (h0 : o.map k = some true) (h1 : o.map (fun s => (l s, g s, h s)) = some (true, c, d)) (h2 : o.map f = some b) : o.map (fun s => (k s && l s, f s, g s, h s)) = some (true, b, c, d) := by
  cases o with
  | none => cases h0
  | some a =>
    have e0 := Option.some.inj h0
    have e1 := Option.some.inj h1
    have e2 := Option.some.inj h2
    simp only [Prod.mk.injEq] at e1
    show some (k a && l a, f a, g a, h a) = _
    rw [e0, e1.1, e1.2.1, e1.2.2, e2]
    rfl
/-! ### a def, as it stands in the heap -/
structure Df where
  at_ : Str × Option Str
  name : Str
  qual : Str
  params : Arguments
  body : List Stmt
  scope : Scope
def funAt (K : Frag) (a : Addr) : Option FuncData := match K.lookup a with
  | some ob => match ob.data with
    | .func fd => some fd
    | _ => none
  | none => none
/-- what must be seen of it, what is seen -/
def Df.said (x : Df) : He.FnW := some (x.name, x.qual, x.params, .stmts x.body, x.scope, mainGlobals, [], builtinsNs)
def seen (K : Frag) (q : Str × Option Str) : He.FnW := (funAt K (adr K q)).map fun fd => (fd.name, fd.qualname, fd.params, fd.body, fd.scope, fd.globals, fd.closure, fd.builtins)
def Df.good (K : Frag) (x : Df) : Bool := keepIn K (.ref (adr K x.at_)) && (match funAt K (adr K x.at_) with
  | some fd => codeIn K fd.code x.qual && He.dflB K fd.defaults [] && He.kwdB K fd.kwdefaults []
  | none => false)
theorem Df.holds {K : Frag} {x : Df} (s : seen K x.at_ = x.said) (g : x.good K = true) : ∃ fd, FunD K x.name x.qual x.params x.body x.scope [] [] (adr K x.at_) fd := by
  unfold Df.good at g
  rw [Bool.and_eq_true] at g
  obtain ⟨kp, g⟩ := g
  cases hf : funAt K (adr K x.at_) with
  | none => rw [hf] at g; cases g
  | some fd =>
    rw [hf] at g
    simp only [Bool.and_eq_true] at g
    obtain ⟨⟨g1, g2⟩, g3⟩ := g
    unfold seen at s
    rw [hf] at s
    have lk : ∃ ob, K.lookup (adr K x.at_) = some ob ∧ ob.data = .func fd := by
      unfold funAt at hf
      split at hf
      · next ob e =>
        split at hf
        · next f2 e2 => cases hf; exact ⟨ob, e, e2⟩
        · cases hf
      · cases hf
    obtain ⟨⟨oc, od, dt, osl⟩, lk, ed⟩ := lk
    dsimp only at ed
    subst ed
    obtain ⟨f1, f2, f3, f4, f5, f6, f7, f8, f9, fA, fB, fC, fD, fE, fF⟩ := fd
    have z := Option.some.inj s
    simp only [Prod.mk.injEq] at z
    obtain ⟨z1, z2, z3, z4, z5, z6, z7, z8⟩ := z
    subst z1 z2 z3 z4 z5 z6 z7 z8
    exact ⟨_, ⟨oc, od, f8, f9, fA, fB, fC, fD, fE, osl, rfl, lk, g1, He.dflB_ok g2, He.kwdB_ok g3⟩, kp⟩
/-! ### the hook -/
structure HD where
  p : Prg
  T : Tab
  file : Str
  fn : List Df
  xs : List (String × XT)
abbrev AlY := Bool × List He.FnW × List (Option (List (Option (Str × Int)))) × List (Option (Arguments × FuncBody × Scope))
def keysOf (p : Prg) (x : String) : List Str := match p.gds.lookup x with
  | some kvs => kvs.map fun q => match q.1 with
    | .str z => z
    | _ => ⟨#[]⟩
  | none => []
def obsK (d : HD) (K : Frag) : AlY := (kfB K d.p d.T d.file && d.fn.all (fun f => f.good K), d.fn.map (fun f => seen K f.at_), d.T.gds.map (fun x => He.dicW K (gaS K x)), d.xs.map fun x => xtOf K x.1)
def valY (d : HD) (w : World) : AlY := (true, d.fn.map Df.said, d.T.gds.map (fun x => some (He.keysIn w.params (keysOf d.p x))), d.xs.map fun x => xtVal x.2)
/-- those that are new by the bits of m, the bits with them -/
def addNew : Nat → List Addr → List Addr → (Nat → List Addr → List Addr) → List Addr
  | m, [], acc, k => k m acc
  | m, a :: as, acc, k => match Nat.beq (Nat.land (Nat.shiftRight m a) 1) 1 with
    | true => addNew m as acc k
    | false => HandSHeadRun.frNat (Nat.lor m (Nat.shiftLeft 1 a)) fun m' => addNew m' as (a :: acc) k
def refsAt (g : Addr → Option Obj) (a : Addr) : List Addr := match g a with
  | some o => He.refsD o
  | none => []
/-- what is named from there, n times -/
def bfsA (g : Addr → Option Obj) : Nat → Nat → List Addr → List Addr
  | 0, _, front => front
  | n + 1, m, front => addNew m (front.flatMap (refsAt g)) [] fun m' new => front ++ bfsA g n m' new
def asM (g : Addr → Option Obj) (n : Nat) : List Addr := addNew 0 [mainGlobals] [] fun m new => bfsA g n m new
def frY (n : Nat) (g : Addr → Option Obj) : Frag := He.frG g (PySem.cStatics :: asM g n)
def obsY (n : Nat) (d : HD) (g : Addr → Option Obj) : AlY := obsK d (frY n g)
def hookY (n : Nat) (d : HD) : Hook where
  α := AlY
  obs := fun s => obsY n d s.heap.get?
  val := fun w => valY d w
  says := fun w h => ∃ K : Frag, K.In h ∧ obsK d K = valY d w
  of := fun _ _ e => ⟨_, He.frG_in, e⟩
  keeps := fun _ _ _ ⟨K, hK, c⟩ k => ⟨K, Frag.In.keeps hK k, c⟩
theorem obsY_eq {n : Nat} {d : HD} {g : Addr → Option Obj} {s : Shared} (h : ∀ a, g a = s.heap.get? a) : obsY n d g = (hookY n d).obs s := by
  have e : g = s.heap.get? := funext h
  rw [e] <;> rfl
section
variable {d : HD} {w : World} {K : Frag}
theorem says_kf (c : obsK d K = valY d w) : kfB K d.p d.T d.file = true := by
  have := congrArg (fun z : AlY => z.1) c
  simp only [obsK, valY, Bool.and_eq_true] at this
  exact this.1
theorem map_ix {α β : Type} {f g : α → β} {l : List α} (h : l.map f = l.map g) : ∀ x ∈ l, f x = g x := by
  induction l with
  | nil => intro x hx; cases hx
  | cons a l ih =>
    simp only [List.map_cons, List.cons.injEq] at h
    intro x hx
    rcases List.mem_cons.mp hx with rfl | hx
    · exact h.1
    · exact ih h.2 x hx
theorem says_def (c : obsK d K = valY d w) {f : Df} (hf : f ∈ d.fn) : ∃ fd, FunD K f.name f.qual f.params f.body f.scope [] [] (adr K f.at_) fd := by
  have h1 := congrArg (fun z : AlY => z.1) c
  simp only [obsK, valY, Bool.and_eq_true] at h1
  have h2 : d.fn.map (fun f => seen K f.at_) = d.fn.map Df.said := congrArg (fun z : AlY => z.2.1) c
  exact Df.holds (map_ix h2 f hf) (List.all_eq_true.mp h1.2 f hf)
theorem says_dict (c : obsK d K = valY d w) {x : String} (hx : x ∈ d.T.gds) : ∃ es n, KDict K w (gaS K x) es n := by
  have h2 : d.T.gds.map (fun x => He.dicW K (gaS K x)) = d.T.gds.map (fun x => some (He.keysIn w.params (keysOf d.p x))) := congrArg (fun z : AlY => z.2.2.1) c
  exact He.dicW_ok (map_ix h2 x hx)
theorem says_xt (c : obsK d K = valY d w) {x : String × XT} (hx : x ∈ d.xs) : xtOf K x.1 = xtVal x.2 := by
  have h2 : d.xs.map (fun x => xtOf K x.1) = d.xs.map fun x => xtVal x.2 := congrArg (fun z : AlY => z.2.2.2) c
  exact map_ix h2 x hx
end
/-! ### the defs of a law -/
/-- a def of the law: its key, where it stands, its text, parameters, all names -/
structure Dd where
  key : String
  at_ : Str × Option Str
  name : Str
  qual : Str
  st : Stmt
  ps : List Str
  N : List Str
def Dd.d (x : Dd) : Df := ⟨x.at_, x.name, x.qual, defArgs x.st, defBody x.st, defScope x.st⟩
def Dd.fe (x : Dd) : Fe := ⟨x.key, x.at_, x.ps.length⟩
def scopeB (N ps : List Str) (sc : Scope) : Bool := decide (sc.kind = .function) && !sc.isCoroutine && !sc.isGenerator && decide N.Nodup && decide (N.take ps.length = ps) && ps.all (fun x => decide (sc.names.lookup x = some .local) || decide (sc.names.lookup x = some .cell)) && sc.names.all (fun y => !decide (y.2 = .free))
theorem scopeB_ok {N ps : List Str} {sc : Scope} (h : scopeB N ps sc = true) : FnScope N ps sc := by
  unfold scopeB at h
  simp only [Bool.and_eq_true, decide_eq_true_eq, Bool.not_eq_true'] at h
  obtain ⟨⟨⟨⟨⟨⟨h1, h2⟩, h3⟩, h4⟩, h5⟩, h6⟩, h7⟩ := h
  refine ⟨h1, h2, h3, h4, h5, fun x hx => ?_, fun y hy => ?_⟩
  · have := List.all_eq_true.mp h6 x hx
    simpa using this
  · have := List.all_eq_true.mp h7 y hy
    simpa using this
def Dd.ok (T : Tab) (p : Prg) (x : Dd) : Bool := match p.fns.lookup x.key with
  | some fd => scopeB x.N x.ps (defScope x.st) && decide (x.ps.length = fd.np) && decide (x.N.length = fd.ns) && decide (fd.np ≤ fd.ns) && ckSs T p ⟨x.N, defScope x.st, fun _ => true⟩ fd.body (defBody x.st)
  | none => false
theorem ent_of {d : HD} {w : World} {K : Frag} {x : Dd} (c : obsK d K = valY d w) (hx : x.d ∈ d.fn) (ok : x.ok d.T d.p = true) (bp : BindP (defArgs x.st) x.ps) : EntOk K d.T d.p x.fe := by
  obtain ⟨fd, F⟩ := says_def c hx
  unfold Dd.ok at ok
  split at ok
  · next fdef e =>
    simp only [Bool.and_eq_true, decide_eq_true_eq] at ok
    obtain ⟨⟨⟨⟨h1, h2⟩, h3⟩, h4⟩, h5⟩ := ok
    exact ⟨fd, x.ps, _, _, _, _, _, x.N, fdef, F, scopeB_ok h1, FunD.bindsN F (fun kV doc pm an cdv ct us hl => bp _ us rfl rfl hl), e, h2, h3, h4, h2, h5⟩
  · cases ok
inductive AllQ {α : Type} (P : α → Prop) : List α → Prop where
  | nil : AllQ P []
  | cons {a : α} {l : List α} (h : P a) (t : AllQ P l) : AllQ P (a :: l)
theorem AllQ.mem {α : Type} {P : α → Prop} {l : List α} (h : AllQ P l) : ∀ a ∈ l, P a := by
  induction h with
  | nil => intro a ha; cases ha
  | cons h t ih =>
    intro b hb
    rcases List.mem_cons.mp hb with rfl | hb
    · exact h
    · exact ih b hb
/-- a def that tells an exception's classes -/
abbrev Kk := Dd × List (List String)
def kkB (T : Tab) (p : Prg) (q : Kk) : Bool := decide (p.kds.lookup q.1.key = some q.2) && scopeB q.1.N q.1.ps (defScope q.1.st) && decide (q.1.ps.length = 1) && kdB T q.1.N (defScope q.1.st) q.2 (defBody q.1.st) && decide (q.1.at_ = (Str.ofString q.1.key, none))
theorem kk_of {P : Program} {d : HD} {w : World} {K : Frag} {mg : Str → Option Value} {q : Kk} (c : obsK d K = valY d w) (hx : q.1.d ∈ d.fn) (ok : kkB d.T d.p q = true) (bp : BindP (defArgs q.1.st) q.1.ps) (h1 : ∀ x xd, d.p.exs.lookup x = some xd → ExcC K (gaS K x)) (h2 : ∀ x ∈ d.T.blts, mg (Str.ofString x) = none) (h3 : ∀ c, (d.T.cat.contains c = true ∨ (c = "ValueError" ∧ d.T.blts.contains "ValueError" = true)) → KdC K mg d.p c) :
    ∃ ks, d.p.kds.lookup q.1.key = some ks ∧ ∀ base lvl, KdF P w K mg base (lvl + 1) d.p (gaS K q.1.key) ks.flatten := by
  obtain ⟨fd, F⟩ := says_def c hx
  unfold kkB at ok
  simp only [Bool.and_eq_true, decide_eq_true_eq] at ok
  obtain ⟨⟨⟨⟨k1, k2⟩, k3⟩, k4⟩, k5⟩ := ok
  refine ⟨q.2, k1, fun base lvl => ?_⟩
  have e : adr K q.1.at_ = gaS K q.1.key := by rw [k5]; rfl
  have F' : FunD K q.1.name q.1.qual (defArgs q.1.st) (defBody q.1.st) (defScope q.1.st) [] [] (adr K q.1.at_) fd := F
  rw [e] at F'
  exact kdF_of F' (scopeB_ok k2) (FunD.bindsN F' (fun kV doc pm an cdv ct us hl => bp _ us rfl rfl hl)) k3 h1 h2 (fun c _ hc => h3 c hc) k4
end Eng
/-! E37: a law from its head and its plain run. -/
namespace Eng
open PySem PySem.Spec PyProof.Rows L2 PySem.W
section
variable {K : Frag} {P : Program} {w : World} {mg : Str → Option Value} {h : Heap} {d : HD} {dds : List Dd} {kks : List Kk} {law : Dd}
/-- the lists say of each other what they must -/
def hasD (dds : List Dd) (k : String) (a : Str × Option Str) (n : Nat) : Bool := dds.any fun x => decide (x.key = k) && decide (x.at_ = a) && decide (x.ps.length = n)
def listsB (d : HD) (dds : List Dd) : Bool := d.T.fns.all (fun q => hasD dds q.1 (Str.ofString q.1, none) q.2) &&
  d.T.cls.all (fun q => match d.p.cls.lookup q.1 with
    | some cd => hasD dds cd.init (Str.ofString q.1, some ("__init__" : Str)) (q.2 + 1)
    | none => true) && d.p.cls.all (fun q => q.2.eqm.isNone) &&
  d.T.mets.all (fun q => d.p.cls.all fun c => match c.2.mets.lookup q.1 with
    | some g => hasD dds g (Str.ofString c.1, some (Str.ofString q.1)) (q.2 + 1)
    | none => true) &&
  d.T.prps.all (fun f => d.p.cls.all fun c => match c.2.prps.lookup f with
    | some g => hasD dds g (Str.ofString c.1, some (Str.ofString f)) 1
    | none => true) && d.p.eqs.all fun q => hasD dds q.2 (Str.ofString q.1, some ("__eq__" : Str)) 2
theorem hasD_ok {k : String} {a : Str × Option Str} {n : Nat} (h : hasD dds k a n = true) : (⟨k, a, n⟩ : Fe) ∈ dds.map Dd.fe := by
  obtain ⟨y, hy, e⟩ := List.any_eq_true.mp h
  simp only [Bool.and_eq_true, decide_eq_true_eq] at e
  exact List.mem_map.mpr ⟨y, hy, by unfold Dd.fe; rw [e.1.1, e.1.2, e.2]⟩
theorem law_facts {wh n : Nat} {x : Str} (X : K.In h) (G : h.Ns mainGlobals mg) (c : obsK d K = valY d w) (hfile : d.file = P.main.file) (hs : (P.main.scope.names.lookup ("super" : Str)).isSome = false) (xt : XtOk K d.p d.T) (hfn : d.fn = dds.map Dd.d ++ kks.map (fun q => q.1.d)) (kok : kks.all (kkB d.T d.p) = true) (kbp : AllQ (fun q : Kk => BindP (defArgs q.1.st) q.1.ps) kks) (kls : d.T.kds.all (fun f => kks.any fun q => decide (q.1.key = f)) = true)
    (oks : dds.all (fun x => x.ok d.T d.p) = true) (bps : AllQ (fun x : Dd => BindP (defArgs x.st) x.ps) dds) (hl : listsB d dds = true) (hlaw : law ∈ dds) (hps : law.ps = [x]) :
    ∃ fd : FuncData, (∀ (s : Shared) (u : Value), BindsTo s fd ⟨[u], []⟩ [(x, u)]) ∧ ∀ base : Heap, K.In base → base.Ns mainGlobals mg → FnOk P w K mg base (L2.CX P w) (2 * n + 2) (adr K law.at_) fd [x] (spC K w 1 (callF d.p wh (n + 1) law.key)) := by
  unfold listsB at hl
  simp only [Bool.and_eq_true] at hl
  obtain ⟨⟨⟨⟨⟨l1, l2⟩, l3⟩, l4⟩, l5⟩, l6⟩ := hl
  have hq : NoEq d.p := fun c cd e => by
    have := List.all_eq_true.mp l3 _ (lookup_mem' e)
    simpa using this
  have hk := says_kf c
  rw [hfile] at hk
  have kf : KF P w K mg d.p d.T := kf_of X G hk hq hs xt (fun x hx => says_dict c hx) fun f hf h1 h2 h3 => by
    obtain ⟨q, hq, e⟩ := List.any_eq_true.mp (List.all_eq_true.mp kls f hf)
    obtain rfl := of_decide_eq_true e
    exact kk_of c (by rw [hfn]; exact List.mem_append_right _ (List.mem_map.mpr ⟨q, hq, rfl⟩)) (List.all_eq_true.mp kok q hq) (kbp.mem q hq) h1 h2 h3
  have ft : FnT K mg d.p d.T (dds.map Dd.fe) := by
    refine fnT_of X G hk ⟨fun q hq => hasD_ok (List.all_eq_true.mp l1 q hq), fun q hq cd e => ?_, fun q hq c cd g e1 e2 => ?_, fun f hf c cd g e1 e2 => ?_, fun c g e => hasD_ok (List.all_eq_true.mp l6 _ (lookup_mem' e))⟩
    · have := List.all_eq_true.mp l2 q hq
      rw [e] at this
      exact hasD_ok this
    · have := List.all_eq_true.mp (List.all_eq_true.mp l4 q hq) _ (lookup_mem' e1)
      rw [e2] at this
      exact hasD_ok this
    · have := List.all_eq_true.mp (List.all_eq_true.mp l5 f hf) _ (lookup_mem' e1)
      rw [e2] at this
      exact hasD_ok this
  have ents : ∀ e ∈ dds.map Dd.fe, EntOk K d.T d.p e := fun e he => by
    obtain ⟨y, hy, rfl⟩ := List.mem_map.mp he
    exact ent_of c (by rw [hfn]; exact List.mem_append_left _ (List.mem_map.mpr ⟨y, hy, rfl⟩)) (List.all_eq_true.mp oks y hy) (bps.mem y hy)
  obtain ⟨fd, F⟩ := says_def c (f := law.d) (by rw [hfn]; exact List.mem_append_left _ (List.mem_map.mpr ⟨law, hlaw, rfl⟩))
  have ok := List.all_eq_true.mp oks law hlaw
  unfold Dd.ok at ok
  split at ok
  · next fdef e =>
    simp only [Bool.and_eq_true, decide_eq_true_eq] at ok
    obtain ⟨⟨⟨⟨h1, h2⟩, h3⟩, h4⟩, h5⟩ := ok
    have bp := bps.mem law hlaw
    rw [hps] at bp h1 h2
    refine ⟨fd, fun s u => ?_, fun base hb hn => ?_⟩
    · have := FunD.bindsA (ps := [x]) F (fun kV doc pm an cdv ct us hl => bp _ us rfl rfl hl) s [u] rfl
      exact this
    · have := fnOk_succ (base := base) kf ft (allH (wh := wh) kf ft ents n) F (scopeB_ok h1) e h2 h3 h4 h5
      rw [← h2] at this
      exact this
  · cases ok
end
/-- the law's call, where the promise's exceptions hang on the world -/
theorem law_walk {l : OpenLaw} {q : Program} {loose : List Str} {XP : (Str → Option Value) → Heap → Prop} {hk : Hook} {d : DefRec} {x : Str} {k : Nat} (hn : l.most = some 63) (hdf : d.params.defaults = []) (hr : Room k callerA)
    (F : ∀ (w : World) (mg : Str → Option Value) (fa : Addr) (h : Heap), hk.says w h → h.Ns mainGlobals mg → mg d.name = some (.ref fa) → ∃ (K : Frag) (fd : FuncData) (g : List D → Store → R D), K.In h ∧ (∀ (s : Shared) (u : Value), BindsTo s fd ⟨[u], []⟩ [(x, u)]) ∧
      (∀ ns : List Int, ns.length ≤ 63 → ∃ st, g [.rol (ns.map D.int)] [] = .ok (.bl true) st) ∧ ∀ base : Heap, K.In base → base.Ns mainGlobals mg → FnOk l.prog w K mg base (L2.CX l.prog w) k fa fd [x] (spC K w 1 g)) :
    WalkO q loose XP hk.says l.row.toRowW d [] (fun f vs => PySem.call f vs) := by
  refine Att.attach_call hn hdf fun w s₀ s₁ mg mb fa o pm cd doc a vs ns G Y ho hd hcd hmg hobj hints hlen hg => ?_
  have h63 : 63 ≤ sizeLine := by rw [sizeLine_eq]; decide
  obtain ⟨K, fd, g, KX, hb, hsp, hF⟩ := F w mg fa _ Y G.T.g hmg
  refine law_call KX G.T.g G.T.b G.T.builtins G.T.nolimit hg hobj hints (Nat.le_trans hlen h63) hr hF hb (fun H hO hS => ?_) fun H e s' => no_cx H s₁ e s'
  exact law_sp hO hS (hsp ns hlen)
end Eng
namespace K24
open Eng
open PySem (Str)
def f_is_integer : FDef := ⟨1, 1, .keep, [(.ret (.and (.isi (.var 0) .int) (.not (.isi (.var 0) .bool))))]⟩
def f_is_one_of : FDef := ⟨2, 2, .keep, [(.ret (.and (.isi (.var 0) .str) (.cmp .isin (.var 0) (.var 1))))]⟩
def f_rows_for : FDef := ⟨1, 1, .keep, [(.ret (.bf .sorted (.lstS [(.star (.glb "COMMON")), (.star (.gidx "OWN_ROWS" (.var 0)))])))]⟩
def f_is_program : FDef := ⟨2, 3, .keep, [(.sif (.or (.not (.isi (.var 1) .tuple)) (.not (.chain .le .le (.cst (.int 1)) (.bf .len (.var 1)) (.glb "MOST_ROWS")))) [(.ret (.cst (.bl false)))] []),
  (.ret (.bf .all (.lc (.call "is_one_of" [(.var 2), (.call "rows_for" [(.var 0)])]) (.nm 2) (.seq (.var 1)) none [2])))]⟩
def f_check_programs : FDef := ⟨1, 2, .keep, [(.sif (.or (.not (.isi (.var 0) .dict)) (.or (.cmp .eq (.bf .len (.var 0)) (.cst (.int 0))) (.not (.bf .all (.lc (.call "is_one_of" [(.var 1), (.glb "WORDS")]) (.nm 1) (.seq (.var 0)) none [1]))))) [(.raise "BadProgram" [(.cst (.str (Str.ofString "")))])] []),
  (.sfor (.nm 1) (.seq (.bf .sorted (.var 0))) [(.sif (.not (.call "is_program" [(.var 1), (.idx (.var 0) (.var 1))])) [(.raise "BadProgram" [(.var 1)])] [])])]⟩
def f_is_start : FDef := ⟨1, 2, .keep, [(.sif (.or (.not (.isi (.var 0) .tuple)) (.not (.chain .le .le (.cst (.int 1)) (.bf .len (.var 0)) (.glb "MOST_THINGS")))) [(.ret (.cst (.bl false)))] []),
  (.ret (.bf .all (.lc (.call "is_one_of" [(.var 1), (.glb "OWNERS")]) (.nm 1) (.seq (.var 0)) none [1])))]⟩
def f_Book____init__ : FDef := ⟨5, 6, .keep, [(.sif (.not (.call "is_start" [(.var 1)])) [(.raise "BadStart" [])] []),
  (.sif (.not (.call "is_one_of" [(.var 2), (.glb "KEEPINGS")])) [(.raise "BadKeeping" [])] []),
  (.expr (.call "check_programs" [(.var 3)])),
  (.sif (.or (.not (.call "is_integer" [(.var 4)])) (.cmp .notin (.var 4) (.tup [(.cst (.int 1)), (.cst (.int 2))]))) [(.raise "BadNumber" [])] []),
  (.fld (.var 0) "owners" (.var 1)),
  (.fld (.var 0) "kept_by" (.var 2)),
  (.fld (.var 0) "lists" (.dc (.var 5) (.idx (.var 3) (.var 5)) (.nm 5) (.seq (.bf .sorted (.var 3))) [5])),
  (.fld (.var 0) "most" (.var 4))]⟩
def f_Book__programs : FDef := ⟨1, 1, .keep, [(.ret (.bf .dict (.attr "lists" (.var 0))))]⟩
def f_Book____eq__ : FDef := ⟨2, 2, .keep, [(.sif (.or (.not (.isc (.var 1) "Book")) (.or (.eqo true (.attr "owners" (.var 0)) (.attr "owners" (.var 1))) (.eqo true (.attr "kept_by" (.var 0)) (.attr "kept_by" (.var 1))))) [(.ret (.cst (.bl false)))] []),
  (.ret (.and (.eqo false (.attr "lists" (.var 0)) (.attr "lists" (.var 1))) (.eqo false (.attr "most" (.var 0)) (.attr "most" (.var 1)))))]⟩
def f_Book__with_program : FDef := ⟨3, 3, .keep, [(.sif (.not (.call "is_one_of" [(.var 1), (.bf .list (.attr "lists" (.var 0)))])) [(.raise "BadProgram" [(.cst (.str (Str.ofString "")))])] []),
  (.ret (.make "Book" [(.attr "owners" (.var 0)), (.attr "kept_by" (.var 0)), (.star (.attr "lists" (.var 0)) (.var 1) (.var 2)), (.attr "most" (.var 0))]))]⟩
def f_Line____init__ : FDef := ⟨3, 4, .keep, [(.fld (.var 0) "parts" (.lc (.var 3) (.nm 3) (.seq (.tx .split (.var 1) (.cst (.str (Str.ofString " "))))) (some (.cmp .ne (.var 3) (.cst (.str (Str.ofString ""))))) [3])),
  (.fld (.var 0) "number" (.var 2)),
  (.fld (.var 0) "spot_now" (.cst (.int 0)))]⟩
def f_Line__present_word : FDef := ⟨1, 1, .keep, [(.ret (.ite (.cmp .lt (.attr "spot_now" (.var 0)) (.bf .len (.attr "parts" (.var 0)))) (.idx (.attr "parts" (.var 0)) (.attr "spot_now" (.var 0))) (.cst (.str (Str.ofString "")))))]⟩
def f_Line__one_of : FDef := ⟨2, 3, .keep, [(.asg (.nm 2) (.meth "present_word" (.var 0) [])),
  (.sif (.or (.cmp .eq (.var 2) (.cst (.str (Str.ofString "")))) (.cmp .notin (.var 2) (.var 1))) [(.raise "BadLine" [(.attr "number" (.var 0)), (.bin .add (.attr "spot_now" (.var 0)) (.cst (.int 1)))])] []),
  (.afl (.var 0) "spot_now" .add (.cst (.int 1))),
  (.ret (.var 2))]⟩
def f_Line__several : FDef := ⟨3, 4, .keep, [(.asg (.nm 3) (.lst [(.meth "one_of" (.var 0) [(.var 1)])])),
  (.swhile (.cmp .ne (.meth "present_word" (.var 0) []) (.cst (.str (Str.ofString "")))) [(.expr (.app (.var 3) (.meth "one_of" (.var 0) [(.ite (.cmp .lt (.bf .len (.var 3)) (.var 2)) (.var 1) (.tup []))])))]),
  (.ret (.bf .tuple (.var 3)))]⟩
def f_Line__one_last : FDef := ⟨2, 2, .keep, [(.ret (.idx (.meth "several" (.var 0) [(.var 1), (.cst (.int 1))]) (.cst (.int 0))))]⟩
def f_line_at : FDef := ⟨3, 4, .keep, [(.sif (.cmp .eq (.var 1) (.bf .len (.var 0))) [(.raise "BadLine" [(.bin .add (.var 1) (.cst (.int 1))), (.cst (.int 1))])] []),
  (.asg (.nm 3) (.make "Line" [(.idx (.var 0) (.var 1)), (.bin .add (.var 1) (.cst (.int 1)))])),
  (.ret (.tup [(.meth "one_of" (.var 3) [(.var 2)]), (.var 3)]))]⟩
def f_read_programs : FDef := ⟨1, 6, .keep, [(.par [1, 2] [(.dct none []), (.bf .len (.glb "HEADS"))]),
  (.swhile (.or (.cmp .lt (.var 2) (.bf .len (.var 0))) (.eqo false (.var 1) (.dct none []))) [(.asg (.tp [(.nm 3), (.nm 4)]) (.call "line_at" [(.var 0), (.var 2), (.lc (.var 5) (.nm 5) (.seq (.glb "WORDS")) (some (.cmp .notin (.var 5) (.var 1))) [5])])), (.sub (.var 1) (.var 3) (.meth "several" (.var 4) [(.call "rows_for" [(.var 3)]), (.glb "MOST_ROWS")])), (.aug 2 .add (.cst (.int 1)))]),
  (.ret (.var 1))]⟩
def f_read : FDef := ⟨1, 5, .keep, [(.asg (.nm 1) (.tx .split (.var 0) (.cst (.str (Str.ofString "\n"))))),
  (.asg (.nm 2) (.meth "several" (.idx (.call "line_at" [(.var 1), (.cst (.int 0)), (.slc (.glb "HEADS") none (some (.cst (.int 1))))]) (.cst (.int 1))) [(.glb "OWNERS"), (.glb "MOST_THINGS")])),
  (.asg (.nm 3) (.meth "one_last" (.idx (.call "line_at" [(.var 1), (.cst (.int 1)), (.slc (.glb "HEADS") (some (.cst (.int 1))) (some (.cst (.int 2))))]) (.cst (.int 1))) [(.glb "KEEPINGS")])),
  (.asg (.nm 4) (.meth "one_last" (.idx (.call "line_at" [(.var 1), (.cst (.int 2)), (.slc (.glb "HEADS") (some (.cst (.int 2))) none)]) (.cst (.int 1))) [(.glb "NUMBERS")])),
  (.ret (.make "Book" [(.var 2), (.var 3), (.call "read_programs" [(.var 1)]), (.num (.var 4))]))]⟩
def f_put : FDef := ⟨3, 3, .keep, [(.ret (.bin .add (.bin .add (.slc (.var 0) none (some (.var 1))) (.tup [(.var 2)])) (.slc (.var 0) (some (.bin .add (.var 1) (.cst (.int 1)))) none)))]⟩
def f_least_of : FDef := ⟨2, 3, .keep, [(.asg (.nm 2) (.call "things_of" [(.var 0), (.var 1)])),
  (.ret (.ite (.cmp .ne (.var 2) (.lst [])) (.idx (.var 2) (.cst (.int 0))) (.cst .non)))]⟩
def f_things_of : FDef := ⟨2, 4, .keep, [(.ret (.lc (.bin .add (.var 2) (.cst (.int 1))) (.tp [(.nm 2), (.nm 3)]) (.enum (.var 0)) (some (.cmp .eq (.var 3) (.tup [(.var 1), (.cst (.bl true))]))) [2, 3]))]⟩
def f_first_standing : FDef := ⟨1, 6, .keep, [(.asg (.nm 1) (.bf .tuple (.lc (.tup [(.var 2), (.cst (.bl true))]) (.nm 2) (.seq (.attr "owners" (.var 0))) none [2]))),
  (.asg (.nm 3) (.bf .tuple (.lc (.call "least_of" [(.var 1), (.var 2)]) (.nm 2) (.seq (.glb "OWNERS")) none [2]))),
  (.asg (.nm 4) (.bf .tuple (.lc (.cmp .isin (.bin .add (.var 5) (.cst (.int 1))) (.var 3)) (.nm 5) (.rng1 (.bf .len (.var 1))) none [5]))),
  (.ret (.tup [(.var 1), (.var 4), (.var 3), (.var 3), (.tup [])]))]⟩
def f_calls_of : FDef := ⟨1, 5, .keep, [(.asg (.nm 1) (.lst [])),
  (.sfor (.nm 2) (.rng2 (.cst (.int 1)) (.bin .add (.bf .len (.attr "owners" (.var 0))) (.cst (.int 1)))) [(.sfor (.nm 3) (.seq (.attr "lists" (.var 0))) [(.sif (.cmp .eq (.var 3) (.cst (.str (Str.ofString "move")))) [(.expr (.ext (.var 1) (.lc (.tup [(.var 3), (.var 2), (.var 4)]) (.nm 4) (.seq (.glb "OWNERS")) none [4])))] [(.expr (.app (.var 1) (.tup [(.var 3), (.var 2)])))])])]),
  (.ret (.sortT (.var 1)))]⟩
def f_deeds_of : FDef := ⟨1, 3, .keep, [(.ret (.bin .add (.lc (.tup [(.glb "BEGIN"), (.var 1)]) (.nm 1) (.seq (.call "calls_of" [(.var 0)])) none [1]) (.lc (.tup [(.glb "NEXT"), (.var 2)]) (.nm 2) (.rng1 (.attr "most" (.var 0))) none [2])))]⟩
def f_is_call : FDef := ⟨2, 2, .keep, [(.sif (.or (.not (.isi (.var 1) .tuple)) (.or (.cmp .lt (.bf .len (.var 1)) (.cst (.int 2))) (.not (.call "is_one_of" [(.idx (.var 1) (.cst (.int 0))), (.bf .list (.attr "lists" (.var 0)))])))) [(.ret (.cst (.bl false)))] []),
  (.sif (.or (.not (.call "is_integer" [(.idx (.var 1) (.cst (.int 1)))])) (.not (.chain .le .le (.cst (.int 1)) (.idx (.var 1) (.cst (.int 1))) (.bf .len (.attr "owners" (.var 0)))))) [(.ret (.cst (.bl false)))] []),
  (.sif (.cmp .eq (.idx (.var 1) (.cst (.int 0))) (.cst (.str (Str.ofString "move")))) [(.ret (.and (.cmp .eq (.bf .len (.var 1)) (.cst (.int 3))) (.call "is_one_of" [(.idx (.var 1) (.cst (.int 2))), (.bf .list (.glb "OWNERS"))])))] []),
  (.ret (.cmp .eq (.bf .len (.var 1)) (.cst (.int 2))))]⟩
def f_is_deed : FDef := ⟨2, 2, .keep, [(.sif (.or (.not (.isi (.var 1) .tuple)) (.or (.cmp .ne (.bf .len (.var 1)) (.cst (.int 2))) (.not (.isi (.idx (.var 1) (.cst (.int 0))) .str)))) [(.ret (.cst (.bl false)))] []),
  (.sif (.cmp .eq (.idx (.var 1) (.cst (.int 0))) (.glb "BEGIN")) [(.ret (.call "is_call" [(.var 0), (.idx (.var 1) (.cst (.int 1)))]))] []),
  (.ret (.and (.cmp .eq (.idx (.var 1) (.cst (.int 0))) (.glb "NEXT")) (.and (.call "is_integer" [(.idx (.var 1) (.cst (.int 1)))]) (.chain .le .lt (.cst (.int 0)) (.idx (.var 1) (.cst (.int 1))) (.attr "most" (.var 0))))))]⟩
def f_chosen_of : FDef := ⟨3, 8, .keep, [(.asg (.tp [(.nm 3), (.nm 4), (.nm 5)]) (.slc (.var 1) none (some (.cst (.int 3))))),
  (.sif (.cmp .eq (.attr "kept_by" (.var 0)) (.cst (.str (Str.ofString "pointer")))) [(.asg (.nm 6) (.idx (.var 5) (.gix "OWNERS" (.var 2)))), (.ret (.ite (.cmp .isN (.var 6) (.cst .non)) (.tup []) (.tup [(.var 6)])))] []),
  (.asg (.nm 7) (.call "things_of" [(.var 3), (.var 2)])),
  (.ret (.ite (.cmp .eq (.attr "kept_by" (.var 0)) (.cst (.str (Str.ofString "mark")))) (.bf .tuple (.lc (.var 6) (.nm 6) (.seq (.var 7)) (some (.idx (.var 4) (.bin .sub (.var 6) (.cst (.int 1))))) [6])) (.bf .tuple (.slc (.var 7) none (some (.cst (.int 1)))))))]⟩
def f_with_owner : FDef := ⟨3, 3, .keep, [(.ret (.call "put" [(.var 0), (.gix "OWNERS" (.var 1)), (.var 2)]))]⟩
def f_cleared : FDef := ⟨2, 9, .keep, [(.asg (.tp [(.nm 2), (.nm 3), (.nm 4), (.nm 5), (.nm 6)]) (.var 0)),
  (.asg (.nm 3) (.bf .tuple (.lc (.and (.var 7) (.cmp .ne (.var 8) (.tup [(.var 1), (.cst (.bl true))]))) (.tp [(.nm 7), (.nm 8)]) (.zip (.var 3) (.var 2)) none [7, 8]))),
  (.ret (.tup [(.var 2), (.var 3), (.call "with_owner" [(.var 4), (.var 1), (.cst .non)]), (.var 5), (.var 6)]))]⟩
def f_healed : FDef := ⟨2, 9, .keep, [(.sfor (.nm 2) (.seq (.glb "OWNERS")) [(.asg (.tp [(.nm 3), (.nm 4), (.nm 5), (.nm 6), (.nm 7)]) (.var 1)), (.asg (.nm 8) (.call "least_of" [(.var 3), (.var 2)])), (.sif (.and (.cmp .notN (.var 8) (.cst .non)) (.cmp .eq (.call "chosen_of" [(.var 0), (.var 1), (.var 2)]) (.tup []))) [(.asg (.nm 1) (.tup [(.var 3), (.call "put" [(.var 4), (.bin .sub (.var 8) (.cst (.int 1))), (.cst (.bl true))]), (.call "with_owner" [(.var 5), (.var 2), (.var 8)]), (.var 6), (.var 7)]))] [])]),
  (.ret (.var 1))]⟩
def f_placed : FDef := ⟨3, 3, .keep, [(.ret (.bin .add (.tup [(.call "put" [(.idx (.var 0) (.cst (.int 0))), (.bin .sub (.var 1) (.cst (.int 1))), (.var 2)])]) (.slc (.var 0) (some (.cst (.int 1))) none)))]⟩
def f_pointed : FDef := ⟨2, 2, .keep, [(.ret (.bin .add (.bin .add (.slc (.var 0) none (some (.cst (.int 2)))) (.tup [(.var 1)])) (.slc (.var 0) (some (.cst (.int 3))) none)))]⟩
def f_marked : FDef := ⟨3, 3, .keep, [(.ret (.bin .add (.tup [(.idx (.var 0) (.cst (.int 0))), (.call "put" [(.idx (.var 0) (.cst (.int 1))), (.bin .sub (.var 1) (.cst (.int 1))), (.var 2)])]) (.slc (.var 0) (some (.cst (.int 2))) none)))]⟩
def f_row_done : FDef := ⟨4, 9, .keep, [(.asg (.nm 4) (.idx (.var 2) (.cst (.int 1)))),
  (.asg (.tp [(.nm 5), (.nm 6)]) (.idx (.idx (.var 1) (.cst (.int 0))) (.bin .sub (.var 4) (.cst (.int 1))))),
  (.asg (.nm 7) (.idx (.var 1) (.cst (.int 2)))),
  (.mtch (.var 3) [(.cs (Str.ofString "clear") [(.ret (.ite (.var 6) (.call "cleared" [(.var 1), (.var 5)]) (.var 1)))]), (.cs (Str.ofString "drop") [(.ret (.call "placed" [(.var 1), (.var 4), (.tup [(.var 5), (.cst (.bl false))])]))]), (.cs (Str.ofString "fetch") [(.ret (.call "placed" [(.var 1), (.var 4), (.tup [(.var 5), (.cst (.bl true))])]))]), (.cs (Str.ofString "give") [(.ret (.ite (.var 6) (.call "placed" [(.var 1), (.var 4), (.tup [(.idx (.var 2) (.cst (.int 2))), (.cst (.bl true))])]) (.var 1)))]), (.cs (Str.ofString "heal") [(.ret (.call "healed" [(.var 0), (.var 1)]))]), (.cs (Str.ofString "mark") [(.ret (.ite (.var 6) (.call "marked" [(.var 1), (.var 4), (.cst (.bl true))]) (.var 1)))]), (.cs (Str.ofString "unmark") [(.ret (.call "marked" [(.var 1), (.var 4), (.cst (.bl false))]))]), (.cs (Str.ofString "point") [(.ret (.ite (.var 6) (.call "pointed" [(.var 1), (.call "with_owner" [(.var 7), (.var 5), (.var 4)])]) (.var 1)))]), (.cs (Str.ofString "unpoint") [(.ret (.call "pointed" [(.var 1), (.bf .tuple (.lc (.ite (.cmp .eq (.var 8) (.var 4)) (.cst .non) (.var 8)) (.nm 8) (.seq (.var 7)) none [8]))]))])]),
  (.ret (.var 1))]⟩
def f_still_wanted : FDef := ⟨1, 9, .keep, [(.asg (.tp [(.nm 1), (.nm 2), (.nm 3), (.nm 4), (.nm 5)]) (.var 0)),
  (.asg (.nm 6) (.lst [])),
  (.sfor (.tp [(.nm 7), (.nm 8)]) (.zip (.glb "OWNERS") (.var 4)) [(.expr (.app (.var 6) (.ite (.and (.cmp .notN (.var 8) (.cst .non)) (.cmp .eq (.idx (.var 1) (.bin .sub (.var 8) (.cst (.int 1)))) (.tup [(.var 7), (.cst (.bl true))]))) (.var 8) (.cst .non))))]),
  (.ret (.tup [(.var 1), (.var 2), (.var 3), (.bf .tuple (.var 6)), (.var 5)]))]⟩
def f_ended : FDef := ⟨2, 10, .keep, [(.asg (.tp [(.nm 2), (.nm 3), (.nm 4), (.nm 5), (.nm 6)]) (.var 0)),
  (.asg (.nm 7) (.idx (.idx (.var 6) (.var 1)) (.cst (.int 0)))),
  (.asg (.tp [(.nm 8), (.nm 9)]) (.idx (.var 2) (.bin .sub (.idx (.var 7) (.cst (.int 1))) (.cst (.int 1))))),
  (.sif (.and (.cmp .eq (.idx (.var 7) (.cst (.int 0))) (.cst (.str (Str.ofString "choose")))) (.var 9)) [(.asg (.nm 5) (.call "with_owner" [(.var 5), (.var 8), (.idx (.var 7) (.cst (.int 1)))]))] []),
  (.ret (.tup [(.var 2), (.var 3), (.var 4), (.var 5), (.bin .add (.slc (.var 6) none (some (.var 1))) (.slc (.var 6) (some (.bin .add (.var 1) (.cst (.int 1)))) none))]))]⟩
def f_waits : FDef := ⟨3, 9, .keep, [(.asg (.nm 3) (.idx (.var 1) (.cst (.int 4)))),
  (.asg (.tp [(.nm 4), (.nm 5), (.nm 6)]) (.idx (.var 3) (.var 2))),
  (.sif (.cmp .ne (.idx (.idx (.attr "lists" (.var 0)) (.idx (.var 4) (.cst (.int 0)))) (.var 5)) (.cst (.str (Str.ofString "lock")))) [(.ret (.cst (.bl false)))] []),
  (.ret (.bf .any (.lc (.idx (.var 8) (.cst (.int 2))) (.tp [(.nm 7), (.nm 8)]) (.enum (.var 3)) (some (.cmp .ne (.var 7) (.var 2))) [7, 8])))]⟩
def f_next_done : FDef := ⟨3, 9, .keep, [(.sif (.or (.cmp .ge (.var 2) (.bf .len (.idx (.var 1) (.cst (.int 4))))) (.call "waits" [(.var 0), (.var 1), (.var 2)])) [(.ret (.cst .non))] []),
  (.asg (.tp [(.nm 3), (.nm 4), (.nm 5)]) (.idx (.idx (.var 1) (.cst (.int 4))) (.var 2))),
  (.asg (.nm 6) (.idx (.attr "lists" (.var 0)) (.idx (.var 3) (.cst (.int 0))))),
  (.asg (.nm 7) (.call "still_wanted" [(.call "row_done" [(.var 0), (.var 1), (.var 3), (.idx (.var 6) (.var 4))])])),
  (.asg (.nm 8) (.call "put" [(.idx (.var 1) (.cst (.int 4))), (.var 2), (.tup [(.var 3), (.bin .add (.var 4) (.cst (.int 1))), (.or (.var 5) (.cmp .eq (.idx (.var 6) (.var 4)) (.cst (.str (Str.ofString "lock")))))])])),
  (.asg (.nm 7) (.bin .add (.slc (.var 7) none (some (.cst (.int 4)))) (.tup [(.var 8)]))),
  (.ret (.ite (.cmp .eq (.bin .add (.var 4) (.cst (.int 1))) (.bf .len (.var 6))) (.call "ended" [(.var 7), (.var 2)]) (.var 7)))]⟩
def f_begun : FDef := ⟨3, 10, .keep, [(.asg (.tp [(.nm 3), (.nm 4), (.nm 5), (.nm 6), (.nm 7)]) (.var 1)),
  (.asg (.tp [(.nm 8), (.nm 9)]) (.idx (.var 3) (.bin .sub (.idx (.var 2) (.cst (.int 1))) (.cst (.int 1))))),
  (.sif (.or (.cmp .eq (.bf .len (.var 7)) (.attr "most" (.var 0))) (.cmp .ne (.var 9) (.cmp .ne (.idx (.var 2) (.cst (.int 0))) (.cst (.str (Str.ofString "restore")))))) [(.ret (.cst .non))] []),
  (.sif (.and (.cmp .eq (.idx (.var 2) (.cst (.int 0))) (.cst (.str (Str.ofString "move")))) (.cmp .eq (.var 8) (.idx (.var 2) (.cst (.int 2))))) [(.ret (.cst .non))] []),
  (.ret (.tup [(.var 3), (.var 4), (.var 5), (.var 6), (.bin .add (.var 7) (.tup [(.tup [(.var 2), (.cst (.int 0)), (.cst (.bl false))])]))]))]⟩
def f_led_to : FDef := ⟨3, 3, .keep, [(.sif (.cmp .eq (.idx (.var 2) (.cst (.int 0))) (.glb "BEGIN")) [(.ret (.call "begun" [(.var 0), (.var 1), (.idx (.var 2) (.cst (.int 1)))]))] []),
  (.ret (.call "next_done" [(.var 0), (.var 1), (.idx (.var 2) (.cst (.int 1)))]))]⟩
def f_findings_at : FDef := ⟨2, 8, .keep, [(.asg (.nm 2) (.lst [])),
  (.sfor (.tp [(.nm 3), (.nm 4)]) (.zip (.glb "OWNERS") (.idx (.var 1) (.cst (.int 3)))) [(.par [5, 6] [(.call "chosen_of" [(.var 0), (.var 1), (.var 3)]), (.call "things_of" [(.idx (.var 1) (.cst (.int 0))), (.var 3)])]), (.sif (.bf .any (.lc (.cmp .notin (.var 7) (.var 6)) (.nm 7) (.seq (.var 5)) none [7])) [(.expr (.app (.var 2) (.tup [(.cst (.str (Str.ofString "foreign"))), (.var 3)])))] []), (.sif (.and (.cmp .ne (.var 6) (.lst [])) (.cmp .eq (.var 5) (.tup []))) [(.expr (.app (.var 2) (.tup [(.cst (.str (Str.ofString "none"))), (.var 3)])))] []), (.sif (.and (.cmp .eq (.bf .len (.var 5)) (.cst (.int 1))) (.and (.cmp .isin (.idx (.var 5) (.cst (.int 0))) (.var 6)) (.and (.cmp .notN (.var 4) (.cst .non)) (.cmp .ne (.var 4) (.idx (.var 5) (.cst (.int 0))))))) [(.expr (.app (.var 2) (.tup [(.cst (.str (Str.ofString "other"))), (.var 3)])))] []), (.sif (.cmp .gt (.bf .len (.var 5)) (.cst (.int 1))) [(.expr (.app (.var 2) (.tup [(.cst (.str (Str.ofString "two"))), (.var 3)])))] [])]),
  (.ret (.sortT (.var 2)))]⟩
def f_findings_of : FDef := ⟨3, 3, .keep, [(.ret (.ite (.and (.cmp .eq (.idx (.var 1) (.cst (.int 0))) (.glb "NEXT")) (.cmp .eq (.idx (.var 2) (.cst (.int 4))) (.tup []))) (.call "findings_at" [(.var 0), (.var 2)]) (.lst [])))]⟩
def f_told_at : FDef := ⟨2, 4, .keep, [(.asg (.nm 2) (.dc (.var 3) (.call "chosen_of" [(.var 0), (.var 1), (.var 3)]) (.nm 3) (.seq (.glb "OWNERS")) [3])),
  (.ret (.tup [(.var 2), (.zipd (.glb "OWNERS") (.idx (.var 1) (.cst (.int 3))))]))]⟩
def f_Record____init__ : FDef := ⟨2, 2, .keep, [(.fld (.var 0) "source" (.var 1)),
  (.fld (.var 0) "at" (.call "first_standing" [(.var 1)])),
  (.fld (.var 0) "many" (.lst [])),
  (.fld (.var 0) "marks" (.lst [])),
  (.fld (.var 0) "now" (.call "told_at" [(.var 1), (.attr "at" (.var 0))]))]⟩
def f_Record____eq__ : FDef := ⟨2, 2, .keep, [(.sif (.or (.not (.isc (.var 1) "Record")) (.or (.eqo true (.attr "at" (.var 0)) (.attr "at" (.var 1))) (.eqo true (.bf .len (.attr "many" (.var 0))) (.bf .len (.attr "many" (.var 1)))))) [(.ret (.cst (.bl false)))] []),
  (.ret (.and (.eqo false (.attr "now" (.var 0)) (.attr "now" (.var 1))) (.eqo false (.attr "marks" (.var 0)) (.attr "marks" (.var 1)))))]⟩
def f_Record__take_in : FDef := ⟨3, 5, .keep, [(.expr (.app (.attr "many" (.var 0)) (.var 1))),
  (.fld (.var 0) "at" (.var 2)),
  (.fld (.var 0) "now" (.call "told_at" [(.attr "source" (.var 0)), (.var 2)])),
  (.asg (.nm 3) (.call "findings_of" [(.attr "source" (.var 0)), (.var 1), (.var 2)])),
  (.expr (.ext (.attr "marks" (.var 0)) (.lc (.tup [(.bf .len (.attr "many" (.var 0))), (.var 4)]) (.nm 4) (.seq (.var 3)) none [4]))),
  (.ret (.var 3))]⟩
def f_replay : FDef := ⟨2, 6, .keep, [(.asg (.nm 2) (.make "Record" [(.var 0)])),
  (.sfor (.tp [(.nm 3), (.nm 4)]) (.enum (.var 1)) [(.asg (.nm 5) (.ite (.call "is_deed" [(.var 0), (.var 4)]) (.call "led_to" [(.var 0), (.attr "at" (.var 2)), (.var 4)]) (.cst .non))), (.sif (.cmp .isN (.var 5) (.cst .non)) [(.raise "BadDeed" [(.var 3)])] []), (.expr (.meth "take_in" (.var 2) [(.var 4), (.var 5)]))]),
  (.ret (.var 2))]⟩
def f_Desk____init__ : FDef := ⟨2, 2, .keep, [(.fld (.var 0) "present" (.tup [(.var 1), (.tup [])])),
  (.fld (.var 0) "past" (.lst [])),
  (.fld (.var 0) "later" (.lst [])),
  (.fld (.var 0) "told_now" (.call "told_by" [(.var 1), (.tup [])]))]⟩
def f_Desk__stand : FDef := ⟨2, 2, .keep, [(.fld (.var 0) "present" (.var 1)),
  (.fld (.var 0) "told_now" (.call "told_by" [(.idx (.var 1) (.cst (.int 0))), (.idx (.var 1) (.cst (.int 1)))]))]⟩
def f_Desk__go_on : FDef := ⟨2, 2, .keep, [(.expr (.app (.attr "past" (.var 0)) (.attr "present" (.var 0)))),
  (.fld (.var 0) "later" (.lst [])),
  (.expr (.meth "stand" (.var 0) [(.var 1)]))]⟩
def f_Desk__do : FDef := ⟨2, 2, .keep, [(.sif (.not (.call "is_deed" [(.idx (.attr "present" (.var 0)) (.cst (.int 0))), (.var 1)])) [(.raise "UnknownDeed" [(.var 1)])] []),
  (.expr (.meth "go_on" (.var 0) [(.tup [(.idx (.attr "present" (.var 0)) (.cst (.int 0))), (.tupS [(.star (.idx (.attr "present" (.var 0)) (.cst (.int 1)))), (.one (.var 1))])])]))]⟩
def f_told_by : FDef := ⟨2, 9, .keep, [(.par [2, 3] [(.make "Record" [(.var 0)]), (.lst [])]),
  (.sfor (.tp [(.nm 4), (.nm 5)]) (.enum (.var 1)) [(.asg (.nm 6) (.call "led_to" [(.var 0), (.attr "at" (.var 2)), (.var 5)])), (.sif (.cmp .isN (.var 6) (.cst .non)) [(.expr (.app (.var 3) (.var 4)))] [(.expr (.meth "take_in" (.var 2) [(.var 5), (.var 6)]))])]),
  (.ret (.tup [(.var 3), (.idx (.attr "now" (.var 2)) (.cst (.int 0))), (.idx (.attr "now" (.var 2)) (.cst (.int 1))), (.bf .sorted (.dc (.var 8) (.cst (.bl true)) (.tp [(.nm 7), (.nm 8)]) (.seq (.attr "marks" (.var 2))) [7, 8]))]))]⟩
def f_Reach____init__ : FDef := ⟨3, 9, .keep, [(.fld (.var 0) "source" (.var 1)),
  (.fld (.var 0) "able" (.call "deeds_of" [(.var 1)])),
  (.fld (.var 0) "rows" (.dctA [(.kv (.var 2) (.tup []))])),
  (.fld (.var 0) "hits" (.dct none [])),
  (.par [3, 4] [(.lst [(.var 2)]), (.cst (.int 0))]),
  (.swhile (.cmp .lt (.var 4) (.bf .len (.var 3))) [(.asg (.nm 5) (.idx (.var 3) (.var 4))), (.aug 4 .add (.cst (.int 1))), (.sfor (.tp [(.nm 6), (.nm 7)]) (.seq (.meth "moves" (.var 0) [(.var 5)])) [(.sfor (.nm 8) (.seq (.call "findings_of" [(.var 1), (.var 6), (.var 7)])) [(.sif (.cmp .notin (.var 8) (.attr "hits" (.var 0))) [(.sub (.attr "hits" (.var 0)) (.var 8) (.tupS [(.star (.idx (.attr "rows" (.var 0)) (.var 5))), (.one (.var 6))]))] [])]), (.sif (.cmp .notin (.var 7) (.attr "rows" (.var 0))) [(.sub (.attr "rows" (.var 0)) (.var 7) (.tupS [(.star (.idx (.attr "rows" (.var 0)) (.var 5))), (.one (.var 6))])), (.expr (.app (.var 3) (.var 7)))] [])])])]⟩
def f_Reach__moves : FDef := ⟨2, 5, .keep, [(.asg (.nm 2) (.lc (.tup [(.var 3), (.call "led_to" [(.attr "source" (.var 0)), (.var 1), (.var 3)])]) (.nm 3) (.seq (.attr "able" (.var 0))) none [3])),
  (.ret (.lc (.tup [(.var 3), (.var 4)]) (.tp [(.nm 3), (.nm 4)]) (.seq (.var 2)) (some (.cmp .notN (.var 4) (.cst .non))) [3, 4]))]⟩
def f_reach_of : FDef := ⟨1, 1, .keep, [(.ret (.make "Reach" [(.var 0), (.call "first_standing" [(.var 0)])]))]⟩
def f_least : FDef := ⟨2, 3, .keep, [(.sif (.or (.not (.isi (.var 1) .tuple)) (.not (.bf .all (.lc (.isi (.var 2) .str) (.nm 2) (.seq (.var 1)) none [2])))) [(.ret (.cst .non))] []),
  (.ret (.getN (.attr "hits" (.call "reach_of" [(.var 0)])) (.var 1)))]⟩
def f_check_kinds : FDef := ⟨1, 3, .keep, [(.sfor (.tp [(.nm 1), (.nm 2)]) (.enum (.var 0)) [(.sif (.not (.call "is_one_of" [(.var 2), (.bf .list (.glb "KINDS"))])) [(.raise "UnknownKind" [(.var 1)])] [])])]⟩
def f_is_free : FDef := ⟨2, 3, .keep, [(.ret (.not (.bf .any (.lc (.cmp .isin (.idx (.var 2) (.cst (.int 0))) (.var 1)) (.nm 2) (.seq (.attr "hits" (.call "reach_of" [(.var 0)]))) none [2]))))]⟩
def f_added : FDef := ⟨4, 5, .keep, [(.asg (.nm 4) (.idx (.attr "lists" (.var 0)) (.var 1))),
  (.ret (.meth "with_program" (.var 0) [(.var 1), (.bin .add (.bin .add (.slc (.var 4) none (some (.var 2))) (.tup [(.var 3)])) (.slc (.var 4) (some (.var 2)) none))]))]⟩
def f_additions : FDef := ⟨2, 8, .keep, [(.expr (.call "check_kinds" [(.var 1)])),
  (.sif (.call "is_free" [(.var 0), (.var 1)]) [(.ret (.lst [(.tup [(.cst (.str (Str.ofString ""))), (.cst (.int 0)), (.cst (.str (Str.ofString "")))])]))] []),
  (.asg (.nm 2) (.lst [])),
  (.sfor (.tp [(.nm 3), (.nm 4)]) (.items (.attr "lists" (.var 0))) [(.sfor (.nm 5) (.rng1 (.ite (.cmp .lt (.bf .len (.var 4)) (.glb "MOST_ROWS")) (.bin .add (.bf .len (.var 4)) (.cst (.int 1))) (.cst (.int 0)))) [(.asg (.nm 6) (.lc (.var 7) (.nm 7) (.seq (.call "rows_for" [(.var 3)])) (some (.call "is_free" [(.call "added" [(.var 0), (.var 3), (.var 5), (.var 7)]), (.var 1)])) [7])), (.expr (.ext (.var 2) (.lc (.tup [(.var 3), (.var 5), (.var 7)]) (.nm 7) (.seq (.var 6)) none [7])))])]),
  (.ret (.var 2))]⟩
def f_all_orders : FDef := ⟨1, 5, .keep, [(.sif (.cmp .eq (.bf .len (.var 0)) (.cst (.int 0))) [(.ret (.lst [(.tup [])]))] []),
  (.asg (.nm 1) (.dct none [])),
  (.sfor (.tp [(.nm 2), (.nm 3)]) (.enum (.var 0)) [.stuck]),
  (.ret (.sortT (.var 1)))]⟩
def f_orders : FDef := ⟨3, 4, .keep, [(.sif (.not (.call "is_one_of" [(.var 1), (.bf .list (.attr "lists" (.var 0)))])) [(.raise "UnknownWord" [(.var 1)])] []),
  (.expr (.call "check_kinds" [(.var 2)])),
  (.ret (.lc (.var 3) (.nm 3) (.seq (.call "all_orders" [(.idx (.attr "lists" (.var 0)) (.var 1))])) (some (.call "is_free" [(.meth "with_program" (.var 0) [(.var 1), (.var 3)]), (.var 2)])) [3]))]⟩
def f_is_apart : FDef := ⟨3, 6, .keep, [(.asg (.tp [(.nm 3), (.nm 4)]) (.var 2)),
  (.sif (.or (.cmp .ne (.idx (.var 3) (.cst (.int 4))) (.tup [])) (.cmp .ne (.idx (.var 4) (.cst (.int 4))) (.tup []))) [(.ret (.cst (.bl false)))] []),
  (.ret (.bf .any (.lc (.cmp .ne (.call "chosen_of" [(.var 0), (.var 3), (.var 5)]) (.call "chosen_of" [(.var 1), (.var 4), (.var 5)])) (.nm 5) (.seq (.glb "OWNERS")) none [5])))]⟩
def f_parting : FDef := ⟨2, 10, .keep, [(.sif (.or (.cmp .ne (.attr "owners" (.var 0)) (.attr "owners" (.var 1))) (.or (.cmp .ne (.attr "most" (.var 0)) (.attr "most" (.var 1))) (.cmp .ne (.bf .list (.attr "lists" (.var 0))) (.bf .list (.attr "lists" (.var 1)))))) [(.raise "NotComparable" [])] []),
  (.asg (.nm 2) (.tup [(.call "first_standing" [(.var 0)]), (.call "first_standing" [(.var 1)])])),
  (.par [3, 4, 5] [(.dctA [(.kv (.var 2) (.tup []))]), (.lst [(.var 2)]), (.cst (.int 0))]),
  (.swhile (.cmp .lt (.var 5) (.bf .len (.var 4))) [(.asg (.nm 6) (.idx (.var 4) (.var 5))), (.aug 5 .add (.cst (.int 1))), (.sif (.call "is_apart" [(.var 0), (.var 1), (.var 6)]) [(.ret (.idx (.var 3) (.var 6)))] []), (.sfor (.nm 7) (.seq (.call "deeds_of" [(.var 0)])) [(.par [8, 9] [(.call "led_to" [(.var 0), (.idx (.var 6) (.cst (.int 0))), (.var 7)]), (.call "led_to" [(.var 1), (.idx (.var 6) (.cst (.int 1))), (.var 7)])]), (.sif (.and (.cmp .notN (.var 8) (.cst .non)) (.and (.cmp .notN (.var 9) (.cst .non)) (.cmp .notin (.tup [(.var 8), (.var 9)]) (.var 3)))) [(.sub (.var 3) (.tup [(.var 8), (.var 9)]) (.tupS [(.star (.idx (.var 3) (.var 6))), (.one (.var 7))])), (.expr (.app (.var 4) (.tup [(.var 8), (.var 9)])))] [])])]),
  (.ret (.cst .non))]⟩
def f_alike : FDef := ⟨2, 2, .keep, [(.ret (.cmp .isN (.call "parting" [(.var 0), (.var 1)]) (.cst .non)))]⟩
def f_key_of : FDef := ⟨1, 1, .keep, [(.ret (.ite (.cmp .isN (.var 0) (.cst .non)) (.tup [(.cst (.int 0)), (.cst (.int 0))]) (.tup [(.cst (.int 1)), (.var 0)])))]⟩
def f_order_key : FDef := ⟨1, 7, .keep, [(.asg (.tp [(.nm 1), (.nm 2), (.nm 3), (.nm 4), (.nm 5)]) (.var 0)),
  (.ret (.tup [(.var 1), (.var 2), (.bf .tuple (.lc (.call "key_of" [(.var 6)]) (.nm 6) (.seq (.var 3)) none [6])), (.bf .tuple (.lc (.call "key_of" [(.var 6)]) (.nm 6) (.seq (.var 4)) none [6])), (.var 5)]))]⟩
def f_paper : FDef := ⟨2, 3, .keep, [(.asg (.nm 2) (.call "least" [(.var 0), (.var 1)])),
  (.sif (.cmp .notN (.var 2) (.cst .non)) [(.raise "Possible" [(.var 2)])] []),
  .stuck]⟩
def f__law_draws : FDef := ⟨1, 1, .keep, [(.ret (.lst [(.bf .list (.var 0)), (.cst (.int 0)), (.cst (.int 0)), (.cst (.int 7))]))]⟩
def f__law_pick : FDef := ⟨2, 4, .data, [(.sif (.cmp .eq (.idx (.var 0) (.cst (.int 2))) (.cst (.int 0))) [(.sif (.cmp .lt (.idx (.var 0) (.cst (.int 1))) (.bf .len (.idx (.var 0) (.cst (.int 0))))) [(.asg (.nm 2) (.idx (.idx (.var 0) (.cst (.int 0))) (.idx (.var 0) (.cst (.int 1))))), (.sub (.var 0) (.cst (.int 1)) (.bin .add (.idx (.var 0) (.cst (.int 1))) (.cst (.int 1)))), (.sif (.cmp .ge (.var 2) (.bin .pow (.cst (.int 10)) (.cst (.int 18)))) [(.sub (.var 0) (.cst (.int 2)) (.var 2))] [(.sub (.var 0) (.cst (.int 3)) (.bin .mod (.bf .int (.bin .add (.bin .add (.bin .mul (.idx (.var 0) (.cst (.int 3))) (.cst (.int 48271))) (.bin .mul (.var 2) (.cst (.int 69621)))) (.cst (.int 11)))) (.cst (.int 2147483647))))])] [(.sub (.var 0) (.cst (.int 3)) (.bin .mod (.bf .int (.bin .add (.bin .mul (.idx (.var 0) (.cst (.int 3))) (.cst (.int 48271))) (.cst (.int 7)))) (.cst (.int 2147483647))))])] []),
  (.sif (.cmp .gt (.idx (.var 0) (.cst (.int 2))) (.cst (.int 0))) [(.asg (.nm 3) (.bin .mod (.bf .int (.idx (.var 0) (.cst (.int 2)))) (.var 1))), (.sub (.var 0) (.cst (.int 2)) (.bin .fdiv (.idx (.var 0) (.cst (.int 2))) (.var 1))), (.ret (.var 3))] []),
  (.ret (.bin .mod (.bin .mod (.bf .int (.bin .mul (.idx (.var 0) (.cst (.int 3))) (.cst (.int 16807)))) (.cst (.int 2147483629))) (.var 1)))]⟩
def f__law_first : FDef := ⟨2, 2, .keep, [(.sif (.cmp .eq (.var 0) (.cst (.int 0))) [(.expr (.make "Book" [(.tup []), (.cst (.str (Str.ofString "mark"))), (.dct none []), (.cst (.int 0))]))] []),
  (.sif (.cmp .eq (.var 0) (.cst (.int 1))) [(.expr (.make "Book" [(.tup [(.cst (.str (Str.ofString "a")))]), (.cst (.str (Str.ofString "no"))), (.dct none []), (.cst (.int 0))]))] []),
  (.sif (.cmp .eq (.var 0) (.cst (.int 2))) [(.expr (.make "Book" [(.tup [(.cst (.str (Str.ofString "a")))]), (.cst (.str (Str.ofString "mark"))), (.dct none []), (.cst (.int 0))]))] []),
  (.sif (.cmp .eq (.var 0) (.cst (.int 3))) [(.expr (.make "Book" [(.tup [(.cst (.str (Str.ofString "a")))]), (.cst (.str (Str.ofString "mark"))), (.attr "programs" (.var 1)), (.cst (.int 0))]))] []),
  (.sif (.cmp .eq (.var 0) (.cst (.int 4))) [(.expr (.call "replay" [(.var 1), (.lst [(.cst .non)])]))] []),
  (.sif (.cmp .eq (.var 0) (.cst (.int 5))) [(.expr (.meth "do" (.make "Desk" [(.var 1)]) [(.cst .non)]))] [])]⟩
def f__law_second : FDef := ⟨2, 2, .keep, [(.sif (.cmp .eq (.var 0) (.cst (.int 6))) [(.expr (.call "additions" [(.var 1), (.lst [(.cst .non)])]))] []),
  (.sif (.cmp .eq (.var 0) (.cst (.int 7))) [(.expr (.call "orders" [(.var 1), (.cst (.str (Str.ofString "move"))), (.lst [])]))] []),
  (.sif (.cmp .eq (.var 0) (.cst (.int 8))) [(.expr (.call "alike" [(.var 1), (.make "Book" [(.tup [(.cst (.str (Str.ofString "b")))]), (.cst (.str (Str.ofString "mark"))), (.attr "programs" (.var 1)), (.cst (.int 1))])]))] []),
  (.sif (.cmp .eq (.var 0) (.cst (.int 9))) [(.expr (.call "paper" [(.var 1), (.tup [(.cst (.str (Str.ofString "none"))), (.cst (.str (Str.ofString "a")))])]))] []),
  (.sif (.cmp .eq (.var 0) (.cst (.int 10))) [(.expr (.call "read" [(.cst (.str (Str.ofString "")))]))] [])]⟩
def f_law : FDef := ⟨1, 7, .keep, [(.asg (.nm 2) (.call "_law_draws" [(.var 0)])),
  (.par [3, 4] [(.call "_law_pick" [(.var 2), (.cst (.int 11))]), (.lst [])]),
  (.asg (.nm 5) (.make "Book" [(.tup [(.cst (.str (Str.ofString "a")))]), (.cst (.str (Str.ofString "mark"))), (.dct none [(.kv (.cst (.str (Str.ofString "choose"))) (.tup [(.cst (.str (Str.ofString "clear")))]))]), (.cst (.int 1))])),
  (.trys [(.expr (.call "_law_first" [(.var 3), (.var 5)])), (.expr (.call "_law_second" [(.var 3), (.var 5)]))] [(.hd "ChosenError" (some 1) 4 (.kinds "_law_kinds_of"))]),
  (.ret (.eqo false (.var 4) (.bin .add (.lc (.eqo false (.var 6) (.var 3)) (.nm 6) (.rng1 (.cst (.int 11))) none [6]) (.lst [(.cst (.bl true))]))))]⟩
def prg : Prg where
  fns := [("is_integer", f_is_integer),
    ("is_one_of", f_is_one_of),
    ("rows_for", f_rows_for),
    ("is_program", f_is_program),
    ("check_programs", f_check_programs),
    ("is_start", f_is_start),
    ("Book.__init__", f_Book____init__),
    ("Book.programs", f_Book__programs),
    ("Book.__eq__", f_Book____eq__),
    ("Book.with_program", f_Book__with_program),
    ("Line.__init__", f_Line____init__),
    ("Line.present_word", f_Line__present_word),
    ("Line.one_of", f_Line__one_of),
    ("Line.several", f_Line__several),
    ("Line.one_last", f_Line__one_last),
    ("line_at", f_line_at),
    ("read_programs", f_read_programs),
    ("read", f_read),
    ("put", f_put),
    ("least_of", f_least_of),
    ("things_of", f_things_of),
    ("first_standing", f_first_standing),
    ("calls_of", f_calls_of),
    ("deeds_of", f_deeds_of),
    ("is_call", f_is_call),
    ("is_deed", f_is_deed),
    ("chosen_of", f_chosen_of),
    ("with_owner", f_with_owner),
    ("cleared", f_cleared),
    ("healed", f_healed),
    ("placed", f_placed),
    ("pointed", f_pointed),
    ("marked", f_marked),
    ("row_done", f_row_done),
    ("still_wanted", f_still_wanted),
    ("ended", f_ended),
    ("waits", f_waits),
    ("next_done", f_next_done),
    ("begun", f_begun),
    ("led_to", f_led_to),
    ("findings_at", f_findings_at),
    ("findings_of", f_findings_of),
    ("told_at", f_told_at),
    ("Record.__init__", f_Record____init__),
    ("Record.__eq__", f_Record____eq__),
    ("Record.take_in", f_Record__take_in),
    ("replay", f_replay),
    ("Desk.__init__", f_Desk____init__),
    ("Desk.stand", f_Desk__stand),
    ("Desk.go_on", f_Desk__go_on),
    ("Desk.do", f_Desk__do),
    ("told_by", f_told_by),
    ("Reach.__init__", f_Reach____init__),
    ("Reach.moves", f_Reach__moves),
    ("reach_of", f_reach_of),
    ("least", f_least),
    ("check_kinds", f_check_kinds),
    ("is_free", f_is_free),
    ("added", f_added),
    ("additions", f_additions),
    ("all_orders", f_all_orders),
    ("orders", f_orders),
    ("is_apart", f_is_apart),
    ("parting", f_parting),
    ("alike", f_alike),
    ("key_of", f_key_of),
    ("order_key", f_order_key),
    ("paper", f_paper),
    ("_law_draws", f__law_draws),
    ("_law_pick", f__law_pick),
    ("_law_first", f__law_first),
    ("_law_second", f__law_second),
    ("law", f_law)]
  cls := [("Book", ⟨"Book.__init__", [("with_program", "Book.with_program")], [("programs", "Book.programs")], none⟩),
    ("Line", ⟨"Line.__init__", [("present_word", "Line.present_word"), ("one_of", "Line.one_of"), ("several", "Line.several"), ("one_last", "Line.one_last")], [], none⟩),
    ("Record", ⟨"Record.__init__", [("take_in", "Record.take_in")], [], none⟩),
    ("Desk", ⟨"Desk.__init__", [("stand", "Desk.stand"), ("go_on", "Desk.go_on"), ("do", "Desk.do")], [], none⟩),
    ("Reach", ⟨"Reach.__init__", [("moves", "Reach.moves")], [], none⟩)]
  exs := [("ChosenError", ⟨["ChosenError", "ValueError"], 0, [], []⟩),
    ("BadStart", ⟨["BadStart", "ChosenError", "ValueError"], 0, [], []⟩),
    ("BadKeeping", ⟨["BadKeeping", "ChosenError", "ValueError"], 0, [], []⟩),
    ("BadProgram", ⟨["BadProgram", "ChosenError", "ValueError"], 1, [("word", 0)], [0]⟩),
    ("BadNumber", ⟨["BadNumber", "ChosenError", "ValueError"], 0, [], []⟩),
    ("BadDeed", ⟨["BadDeed", "ChosenError", "ValueError"], 1, [("index", 0)], [0]⟩),
    ("UnknownDeed", ⟨["UnknownDeed", "ChosenError", "ValueError"], 1, [("deed", 0)], [0]⟩),
    ("UnknownKind", ⟨["UnknownKind", "ChosenError", "ValueError"], 1, [("index", 0)], [0]⟩),
    ("UnknownWord", ⟨["UnknownWord", "ChosenError", "ValueError"], 1, [("word", 0)], [0]⟩),
    ("NotComparable", ⟨["NotComparable", "ChosenError", "ValueError"], 0, [], []⟩),
    ("Possible", ⟨["Possible", "ChosenError", "ValueError"], 1, [("history", 0)], []⟩),
    ("BadLine", ⟨["BadLine", "ChosenError", "ValueError"], 2, [("spot", 1), ("line", 0)], [0]⟩)]
  gls := [("OWNERS", (.tup [(.str (Str.ofString "a")), (.str (Str.ofString "b"))])),
    ("KEEPINGS", (.tup [(.str (Str.ofString "first")), (.str (Str.ofString "mark")), (.str (Str.ofString "pointer"))])),
    ("WORDS", (.tup [(.str (Str.ofString "choose")), (.str (Str.ofString "move")), (.str (Str.ofString "remove")), (.str (Str.ofString "restore"))])),
    ("COMMON", (.tup [(.str (Str.ofString "clear")), (.str (Str.ofString "heal")), (.str (Str.ofString "lock")), (.str (Str.ofString "mark")), (.str (Str.ofString "point")), (.str (Str.ofString "unmark")), (.str (Str.ofString "unpoint"))])),
    ("MOST_THINGS", (.int 3)),
    ("MOST_ROWS", (.int 4)),
    ("HEADS", (.tup [(.str (Str.ofString "start")), (.str (Str.ofString "keeping")), (.str (Str.ofString "beside"))])),
    ("NUMBERS", (.tup [(.str (Str.ofString "1")), (.str (Str.ofString "2"))])),
    ("BEGIN", (.str (Str.ofString "begin"))),
    ("NEXT", (.str (Str.ofString "next"))),
    ("KINDS", (.tup [(.str (Str.ofString "foreign")), (.str (Str.ofString "none")), (.str (Str.ofString "other")), (.str (Str.ofString "two"))]))]
  gds := [("OWN_ROWS", [((.str (Str.ofString "choose")), (.tup [])), ((.str (Str.ofString "move")), (.tup [(.str (Str.ofString "give"))])), ((.str (Str.ofString "remove")), (.tup [(.str (Str.ofString "drop"))])), ((.str (Str.ofString "restore")), (.tup [(.str (Str.ofString "fetch"))]))])]
  ats := ["able", "at", "hits", "kept_by", "later", "lists", "many", "marks", "most", "now", "number", "owners", "parts", "past", "present", "rows", "source", "spot_now", "told_now"]
  eqs := [("Book", "Book.__eq__"), ("Record", "Record.__eq__")]
  kds := [("_law_kinds_of", [["BadStart", "BadKeeping", "BadProgram", "BadNumber"], ["BadDeed", "UnknownDeed", "UnknownKind"], ["UnknownWord", "NotComparable", "Possible"], ["BadLine", "ValueError"]])]
def WH : Nat := 100
def FU : Nat := 40
end K24
set_option maxHeartbeats 0
namespace K24H
open PySem PySem.Spec PyProof.Rows L2 Eng K24
def tab : Tab where
  fns := [("is_integer", 1), ("is_one_of", 2), ("rows_for", 1), ("is_program", 2), ("check_programs", 1), ("is_start", 1), ("line_at", 3), ("read_programs", 1), ("read", 1), ("put", 3), ("least_of", 2), ("things_of", 2), ("first_standing", 1), ("calls_of", 1), ("deeds_of", 1), ("is_call", 2), ("is_deed", 2), ("chosen_of", 3), ("with_owner", 3), ("cleared", 2), ("healed", 2), ("placed", 3), ("pointed", 2), ("marked", 3), ("row_done", 4), ("still_wanted", 1), ("ended", 2), ("waits", 3), ("next_done", 3), ("begun", 3), ("led_to", 3), ("findings_at", 2), ("findings_of", 3), ("told_at", 2), ("replay", 2), ("told_by", 2), ("reach_of", 1), ("least", 2), ("check_kinds", 1), ("is_free", 2), ("added", 4), ("additions", 2), ("all_orders", 1), ("orders", 3), ("is_apart", 3), ("parting", 2), ("alike", 2), ("key_of", 1), ("order_key", 1), ("paper", 2), ("_law_draws", 1), ("_law_pick", 2), ("_law_first", 2), ("_law_second", 2), ("law", 1)]
  cls := [("Book", 4), ("Line", 2), ("Record", 1), ("Desk", 1), ("Reach", 2)]
  gls := ["OWNERS", "KEEPINGS", "WORDS", "COMMON", "MOST_THINGS", "MOST_ROWS", "HEADS", "NUMBERS", "BEGIN", "NEXT", "KINDS"]
  gds := ["OWN_ROWS"]
  blts := ["len", "list", "tuple", "all", "any", "sorted", "int", "str", "dict", "isinstance", "range", "enumerate", "zip", "bool", "ValueError"]
  rai := ["BadStart", "BadKeeping", "BadProgram", "BadNumber", "BadDeed", "UnknownDeed", "UnknownKind", "UnknownWord", "NotComparable", "Possible", "BadLine"]
  cat := ["ChosenError", "BadStart", "BadKeeping", "BadProgram", "BadNumber", "BadDeed", "UnknownDeed", "UnknownKind", "UnknownWord", "NotComparable", "Possible", "BadLine"]
  xfl := []
  mets := [("do", 1), ("go_on", 1), ("moves", 1), ("one_last", 1), ("one_of", 1), ("present_word", 0), ("several", 2), ("stand", 1), ("take_in", 2), ("with_program", 2)]
  prps := ["programs"]
  isc := ["Book", "Record"]
  ixs := ["OWNERS"]
  kds := ["_law_kinds_of"]
abbrev PG := PySem.Challenge.pw_onechosen_k24_errors_apart.main.body
def top (i : Nat) : Stmt := PySem.Challenge.pw_onechosen_k24_errors_apart.main.body.getD i (.Pass ⟨0, 0, 0, 0⟩)
def clsB : Stmt → List Stmt
  | .ClassDef _ _ _ b _ _ _ _ _ _ _ => b
  | _ => []
def topC (i j : Nat) : Stmt := (clsB (top i)).getD j (.Pass ⟨0, 0, 0, 0⟩)
def d0 : Dd := ⟨"is_integer", ("is_integer", none), "is_integer", "is_integer", top 22, ["value"], ["value"]⟩
theorem bp0 : BindP (defArgs d0.st) d0.ps := fun fd us h1 h2 hl => by
  obtain ⟨n1, n2, n3, n4, n5, n6, n7, n8, n9, n10, n11, n12, n13, n14, n15⟩ := fd
  dsimp only at h1 h2
  subst h1 h2
  match us, hl with
  | [_], _ => rfl
def d1 : Dd := ⟨"is_one_of", ("is_one_of", none), "is_one_of", "is_one_of", top 23, ["value", "some"], ["value", "some"]⟩
theorem bp1 : BindP (defArgs d1.st) d1.ps := fun fd us h1 h2 hl => by
  obtain ⟨n1, n2, n3, n4, n5, n6, n7, n8, n9, n10, n11, n12, n13, n14, n15⟩ := fd
  dsimp only at h1 h2
  subst h1 h2
  match us, hl with
  | [_, _], _ => rfl
def d2 : Dd := ⟨"rows_for", ("rows_for", none), "rows_for", "rows_for", top 24, ["word"], ["word"]⟩
theorem bp2 : BindP (defArgs d2.st) d2.ps := fun fd us h1 h2 hl => by
  obtain ⟨n1, n2, n3, n4, n5, n6, n7, n8, n9, n10, n11, n12, n13, n14, n15⟩ := fd
  dsimp only at h1 h2
  subst h1 h2
  match us, hl with
  | [_], _ => rfl
def d3 : Dd := ⟨"is_program", ("is_program", none), "is_program", "is_program", top 25, ["word", "value"], ["word", "value", "row"]⟩
theorem bp3 : BindP (defArgs d3.st) d3.ps := fun fd us h1 h2 hl => by
  obtain ⟨n1, n2, n3, n4, n5, n6, n7, n8, n9, n10, n11, n12, n13, n14, n15⟩ := fd
  dsimp only at h1 h2
  subst h1 h2
  match us, hl with
  | [_, _], _ => rfl
def d4 : Dd := ⟨"check_programs", ("check_programs", none), "check_programs", "check_programs", top 26, ["value"], ["value", "word"]⟩
theorem bp4 : BindP (defArgs d4.st) d4.ps := fun fd us h1 h2 hl => by
  obtain ⟨n1, n2, n3, n4, n5, n6, n7, n8, n9, n10, n11, n12, n13, n14, n15⟩ := fd
  dsimp only at h1 h2
  subst h1 h2
  match us, hl with
  | [_], _ => rfl
def d5 : Dd := ⟨"is_start", ("is_start", none), "is_start", "is_start", top 27, ["value"], ["value", "owner"]⟩
theorem bp5 : BindP (defArgs d5.st) d5.ps := fun fd us h1 h2 hl => by
  obtain ⟨n1, n2, n3, n4, n5, n6, n7, n8, n9, n10, n11, n12, n13, n14, n15⟩ := fd
  dsimp only at h1 h2
  subst h1 h2
  match us, hl with
  | [_], _ => rfl
def d6 : Dd := ⟨"Book.__init__", ("Book", some "__init__"), "__init__", "Book.__init__", topC 28 0, ["self", "start", "keeping", "programs", "beside"], ["self", "start", "keeping", "programs", "beside", "word"]⟩
theorem bp6 : BindP (defArgs d6.st) d6.ps := fun fd us h1 h2 hl => by
  obtain ⟨n1, n2, n3, n4, n5, n6, n7, n8, n9, n10, n11, n12, n13, n14, n15⟩ := fd
  dsimp only at h1 h2
  subst h1 h2
  match us, hl with
  | [_, _, _, _, _], _ => rfl
def d7 : Dd := ⟨"Book.programs", ("Book", some "programs"), "programs", "Book.programs", topC 28 3, ["self"], ["self"]⟩
theorem bp7 : BindP (defArgs d7.st) d7.ps := fun fd us h1 h2 hl => by
  obtain ⟨n1, n2, n3, n4, n5, n6, n7, n8, n9, n10, n11, n12, n13, n14, n15⟩ := fd
  dsimp only at h1 h2
  subst h1 h2
  match us, hl with
  | [_], _ => rfl
def d8 : Dd := ⟨"Book.__eq__", ("Book", some "__eq__"), "__eq__", "Book.__eq__", topC 28 5, ["self", "other"], ["self", "other"]⟩
theorem bp8 : BindP (defArgs d8.st) d8.ps := fun fd us h1 h2 hl => by
  obtain ⟨n1, n2, n3, n4, n5, n6, n7, n8, n9, n10, n11, n12, n13, n14, n15⟩ := fd
  dsimp only at h1 h2
  subst h1 h2
  match us, hl with
  | [_, _], _ => rfl
def d9 : Dd := ⟨"Book.with_program", ("Book", some "with_program"), "with_program", "Book.with_program", topC 28 7, ["self", "word", "rows"], ["self", "word", "rows"]⟩
theorem bp9 : BindP (defArgs d9.st) d9.ps := fun fd us h1 h2 hl => by
  obtain ⟨n1, n2, n3, n4, n5, n6, n7, n8, n9, n10, n11, n12, n13, n14, n15⟩ := fd
  dsimp only at h1 h2
  subst h1 h2
  match us, hl with
  | [_, _, _], _ => rfl
def d10 : Dd := ⟨"Line.__init__", ("Line", some "__init__"), "__init__", "Line.__init__", topC 32 0, ["self", "text", "number"], ["self", "text", "number", "word"]⟩
theorem bp10 : BindP (defArgs d10.st) d10.ps := fun fd us h1 h2 hl => by
  obtain ⟨n1, n2, n3, n4, n5, n6, n7, n8, n9, n10, n11, n12, n13, n14, n15⟩ := fd
  dsimp only at h1 h2
  subst h1 h2
  match us, hl with
  | [_, _, _], _ => rfl
def d11 : Dd := ⟨"Line.present_word", ("Line", some "present_word"), "present_word", "Line.present_word", topC 32 1, ["self"], ["self"]⟩
theorem bp11 : BindP (defArgs d11.st) d11.ps := fun fd us h1 h2 hl => by
  obtain ⟨n1, n2, n3, n4, n5, n6, n7, n8, n9, n10, n11, n12, n13, n14, n15⟩ := fd
  dsimp only at h1 h2
  subst h1 h2
  match us, hl with
  | [_], _ => rfl
def d12 : Dd := ⟨"Line.one_of", ("Line", some "one_of"), "one_of", "Line.one_of", topC 32 2, ["self", "some"], ["self", "some", "word"]⟩
theorem bp12 : BindP (defArgs d12.st) d12.ps := fun fd us h1 h2 hl => by
  obtain ⟨n1, n2, n3, n4, n5, n6, n7, n8, n9, n10, n11, n12, n13, n14, n15⟩ := fd
  dsimp only at h1 h2
  subst h1 h2
  match us, hl with
  | [_, _], _ => rfl
def d13 : Dd := ⟨"Line.several", ("Line", some "several"), "several", "Line.several", topC 32 3, ["self", "some", "most"], ["self", "some", "most", "found"]⟩
theorem bp13 : BindP (defArgs d13.st) d13.ps := fun fd us h1 h2 hl => by
  obtain ⟨n1, n2, n3, n4, n5, n6, n7, n8, n9, n10, n11, n12, n13, n14, n15⟩ := fd
  dsimp only at h1 h2
  subst h1 h2
  match us, hl with
  | [_, _, _], _ => rfl
def d14 : Dd := ⟨"Line.one_last", ("Line", some "one_last"), "one_last", "Line.one_last", topC 32 4, ["self", "some"], ["self", "some"]⟩
theorem bp14 : BindP (defArgs d14.st) d14.ps := fun fd us h1 h2 hl => by
  obtain ⟨n1, n2, n3, n4, n5, n6, n7, n8, n9, n10, n11, n12, n13, n14, n15⟩ := fd
  dsimp only at h1 h2
  subst h1 h2
  match us, hl with
  | [_, _], _ => rfl
def d15 : Dd := ⟨"line_at", ("line_at", none), "line_at", "line_at", top 33, ["rows", "at", "heads"], ["rows", "at", "heads", "line"]⟩
theorem bp15 : BindP (defArgs d15.st) d15.ps := fun fd us h1 h2 hl => by
  obtain ⟨n1, n2, n3, n4, n5, n6, n7, n8, n9, n10, n11, n12, n13, n14, n15⟩ := fd
  dsimp only at h1 h2
  subst h1 h2
  match us, hl with
  | [_, _, _], _ => rfl
def d16 : Dd := ⟨"read_programs", ("read_programs", none), "read_programs", "read_programs", top 34, ["rows"], ["rows", "found", "at", "word", "line", "one"]⟩
theorem bp16 : BindP (defArgs d16.st) d16.ps := fun fd us h1 h2 hl => by
  obtain ⟨n1, n2, n3, n4, n5, n6, n7, n8, n9, n10, n11, n12, n13, n14, n15⟩ := fd
  dsimp only at h1 h2
  subst h1 h2
  match us, hl with
  | [_], _ => rfl
def d17 : Dd := ⟨"read", ("read", none), "read", "read", top 35, ["text"], ["text", "rows", "start", "keeping", "beside"]⟩
theorem bp17 : BindP (defArgs d17.st) d17.ps := fun fd us h1 h2 hl => by
  obtain ⟨n1, n2, n3, n4, n5, n6, n7, n8, n9, n10, n11, n12, n13, n14, n15⟩ := fd
  dsimp only at h1 h2
  subst h1 h2
  match us, hl with
  | [_], _ => rfl
def d18 : Dd := ⟨"put", ("put", none), "put", "put", top 39, ["things", "index", "thing"], ["things", "index", "thing"]⟩
theorem bp18 : BindP (defArgs d18.st) d18.ps := fun fd us h1 h2 hl => by
  obtain ⟨n1, n2, n3, n4, n5, n6, n7, n8, n9, n10, n11, n12, n13, n14, n15⟩ := fd
  dsimp only at h1 h2
  subst h1 h2
  match us, hl with
  | [_, _, _], _ => rfl
def d19 : Dd := ⟨"least_of", ("least_of", none), "least_of", "least_of", top 40, ["places", "owner"], ["places", "owner", "own"]⟩
theorem bp19 : BindP (defArgs d19.st) d19.ps := fun fd us h1 h2 hl => by
  obtain ⟨n1, n2, n3, n4, n5, n6, n7, n8, n9, n10, n11, n12, n13, n14, n15⟩ := fd
  dsimp only at h1 h2
  subst h1 h2
  match us, hl with
  | [_, _], _ => rfl
def d20 : Dd := ⟨"things_of", ("things_of", none), "things_of", "things_of", top 41, ["places", "owner"], ["places", "owner", "index", "place"]⟩
theorem bp20 : BindP (defArgs d20.st) d20.ps := fun fd us h1 h2 hl => by
  obtain ⟨n1, n2, n3, n4, n5, n6, n7, n8, n9, n10, n11, n12, n13, n14, n15⟩ := fd
  dsimp only at h1 h2
  subst h1 h2
  match us, hl with
  | [_, _], _ => rfl
def d21 : Dd := ⟨"first_standing", ("first_standing", none), "first_standing", "first_standing", top 42, ["book"], ["book", "places", "owner", "firsts", "marks", "index"]⟩
theorem bp21 : BindP (defArgs d21.st) d21.ps := fun fd us h1 h2 hl => by
  obtain ⟨n1, n2, n3, n4, n5, n6, n7, n8, n9, n10, n11, n12, n13, n14, n15⟩ := fd
  dsimp only at h1 h2
  subst h1 h2
  match us, hl with
  | [_], _ => rfl
def d22 : Dd := ⟨"calls_of", ("calls_of", none), "calls_of", "calls_of", top 43, ["book"], ["book", "found", "thing", "word", "owner"]⟩
theorem bp22 : BindP (defArgs d22.st) d22.ps := fun fd us h1 h2 hl => by
  obtain ⟨n1, n2, n3, n4, n5, n6, n7, n8, n9, n10, n11, n12, n13, n14, n15⟩ := fd
  dsimp only at h1 h2
  subst h1 h2
  match us, hl with
  | [_], _ => rfl
def d23 : Dd := ⟨"deeds_of", ("deeds_of", none), "deeds_of", "deeds_of", top 44, ["book"], ["book", "call", "index"]⟩
theorem bp23 : BindP (defArgs d23.st) d23.ps := fun fd us h1 h2 hl => by
  obtain ⟨n1, n2, n3, n4, n5, n6, n7, n8, n9, n10, n11, n12, n13, n14, n15⟩ := fd
  dsimp only at h1 h2
  subst h1 h2
  match us, hl with
  | [_], _ => rfl
def d24 : Dd := ⟨"is_call", ("is_call", none), "is_call", "is_call", top 45, ["book", "value"], ["book", "value"]⟩
theorem bp24 : BindP (defArgs d24.st) d24.ps := fun fd us h1 h2 hl => by
  obtain ⟨n1, n2, n3, n4, n5, n6, n7, n8, n9, n10, n11, n12, n13, n14, n15⟩ := fd
  dsimp only at h1 h2
  subst h1 h2
  match us, hl with
  | [_, _], _ => rfl
def d25 : Dd := ⟨"is_deed", ("is_deed", none), "is_deed", "is_deed", top 46, ["book", "value"], ["book", "value"]⟩
theorem bp25 : BindP (defArgs d25.st) d25.ps := fun fd us h1 h2 hl => by
  obtain ⟨n1, n2, n3, n4, n5, n6, n7, n8, n9, n10, n11, n12, n13, n14, n15⟩ := fd
  dsimp only at h1 h2
  subst h1 h2
  match us, hl with
  | [_, _], _ => rfl
def d26 : Dd := ⟨"chosen_of", ("chosen_of", none), "chosen_of", "chosen_of", top 47, ["book", "standing", "owner"], ["book", "standing", "owner", "places", "marks", "points", "thing", "own"]⟩
theorem bp26 : BindP (defArgs d26.st) d26.ps := fun fd us h1 h2 hl => by
  obtain ⟨n1, n2, n3, n4, n5, n6, n7, n8, n9, n10, n11, n12, n13, n14, n15⟩ := fd
  dsimp only at h1 h2
  subst h1 h2
  match us, hl with
  | [_, _, _], _ => rfl
def d27 : Dd := ⟨"with_owner", ("with_owner", none), "with_owner", "with_owner", top 48, ["pair", "owner", "thing"], ["pair", "owner", "thing"]⟩
theorem bp27 : BindP (defArgs d27.st) d27.ps := fun fd us h1 h2 hl => by
  obtain ⟨n1, n2, n3, n4, n5, n6, n7, n8, n9, n10, n11, n12, n13, n14, n15⟩ := fd
  dsimp only at h1 h2
  subst h1 h2
  match us, hl with
  | [_, _, _], _ => rfl
def d28 : Dd := ⟨"cleared", ("cleared", none), "cleared", "cleared", top 49, ["standing", "owner"], ["standing", "owner", "places", "marks", "points", "wanted", "calls", "mark", "place"]⟩
theorem bp28 : BindP (defArgs d28.st) d28.ps := fun fd us h1 h2 hl => by
  obtain ⟨n1, n2, n3, n4, n5, n6, n7, n8, n9, n10, n11, n12, n13, n14, n15⟩ := fd
  dsimp only at h1 h2
  subst h1 h2
  match us, hl with
  | [_, _], _ => rfl
def d29 : Dd := ⟨"healed", ("healed", none), "healed", "healed", top 50, ["book", "standing"], ["book", "standing", "owner", "places", "marks", "points", "wanted", "calls", "thing"]⟩
theorem bp29 : BindP (defArgs d29.st) d29.ps := fun fd us h1 h2 hl => by
  obtain ⟨n1, n2, n3, n4, n5, n6, n7, n8, n9, n10, n11, n12, n13, n14, n15⟩ := fd
  dsimp only at h1 h2
  subst h1 h2
  match us, hl with
  | [_, _], _ => rfl
def d30 : Dd := ⟨"placed", ("placed", none), "placed", "placed", top 51, ["standing", "thing", "place"], ["standing", "thing", "place"]⟩
theorem bp30 : BindP (defArgs d30.st) d30.ps := fun fd us h1 h2 hl => by
  obtain ⟨n1, n2, n3, n4, n5, n6, n7, n8, n9, n10, n11, n12, n13, n14, n15⟩ := fd
  dsimp only at h1 h2
  subst h1 h2
  match us, hl with
  | [_, _, _], _ => rfl
def d31 : Dd := ⟨"pointed", ("pointed", none), "pointed", "pointed", top 52, ["standing", "points"], ["standing", "points"]⟩
theorem bp31 : BindP (defArgs d31.st) d31.ps := fun fd us h1 h2 hl => by
  obtain ⟨n1, n2, n3, n4, n5, n6, n7, n8, n9, n10, n11, n12, n13, n14, n15⟩ := fd
  dsimp only at h1 h2
  subst h1 h2
  match us, hl with
  | [_, _], _ => rfl
def d32 : Dd := ⟨"marked", ("marked", none), "marked", "marked", top 53, ["standing", "thing", "mark"], ["standing", "thing", "mark"]⟩
theorem bp32 : BindP (defArgs d32.st) d32.ps := fun fd us h1 h2 hl => by
  obtain ⟨n1, n2, n3, n4, n5, n6, n7, n8, n9, n10, n11, n12, n13, n14, n15⟩ := fd
  dsimp only at h1 h2
  subst h1 h2
  match us, hl with
  | [_, _, _], _ => rfl
def d33 : Dd := ⟨"row_done", ("row_done", none), "row_done", "row_done", top 54, ["book", "standing", "call", "row"], ["book", "standing", "call", "row", "thing", "owner", "is_there", "points", "one"]⟩
theorem bp33 : BindP (defArgs d33.st) d33.ps := fun fd us h1 h2 hl => by
  obtain ⟨n1, n2, n3, n4, n5, n6, n7, n8, n9, n10, n11, n12, n13, n14, n15⟩ := fd
  dsimp only at h1 h2
  subst h1 h2
  match us, hl with
  | [_, _, _, _], _ => rfl
def d34 : Dd := ⟨"still_wanted", ("still_wanted", none), "still_wanted", "still_wanted", top 55, ["standing"], ["standing", "places", "marks", "points", "wanted", "calls", "found", "owner", "thing"]⟩
theorem bp34 : BindP (defArgs d34.st) d34.ps := fun fd us h1 h2 hl => by
  obtain ⟨n1, n2, n3, n4, n5, n6, n7, n8, n9, n10, n11, n12, n13, n14, n15⟩ := fd
  dsimp only at h1 h2
  subst h1 h2
  match us, hl with
  | [_], _ => rfl
def d35 : Dd := ⟨"ended", ("ended", none), "ended", "ended", top 56, ["standing", "index"], ["standing", "index", "places", "marks", "points", "wanted", "calls", "call", "owner", "is_there"]⟩
theorem bp35 : BindP (defArgs d35.st) d35.ps := fun fd us h1 h2 hl => by
  obtain ⟨n1, n2, n3, n4, n5, n6, n7, n8, n9, n10, n11, n12, n13, n14, n15⟩ := fd
  dsimp only at h1 h2
  subst h1 h2
  match us, hl with
  | [_, _], _ => rfl
def d36 : Dd := ⟨"waits", ("waits", none), "waits", "waits", top 57, ["book", "standing", "index"], ["book", "standing", "index", "calls", "call", "done", "has_lock", "at", "one"]⟩
theorem bp36 : BindP (defArgs d36.st) d36.ps := fun fd us h1 h2 hl => by
  obtain ⟨n1, n2, n3, n4, n5, n6, n7, n8, n9, n10, n11, n12, n13, n14, n15⟩ := fd
  dsimp only at h1 h2
  subst h1 h2
  match us, hl with
  | [_, _, _], _ => rfl
def d37 : Dd := ⟨"next_done", ("next_done", none), "next_done", "next_done", top 58, ["book", "standing", "index"], ["book", "standing", "index", "call", "done", "has_lock", "rows", "found", "calls"]⟩
theorem bp37 : BindP (defArgs d37.st) d37.ps := fun fd us h1 h2 hl => by
  obtain ⟨n1, n2, n3, n4, n5, n6, n7, n8, n9, n10, n11, n12, n13, n14, n15⟩ := fd
  dsimp only at h1 h2
  subst h1 h2
  match us, hl with
  | [_, _, _], _ => rfl
def d38 : Dd := ⟨"begun", ("begun", none), "begun", "begun", top 59, ["book", "standing", "call"], ["book", "standing", "call", "places", "marks", "points", "wanted", "calls", "owner", "is_there"]⟩
theorem bp38 : BindP (defArgs d38.st) d38.ps := fun fd us h1 h2 hl => by
  obtain ⟨n1, n2, n3, n4, n5, n6, n7, n8, n9, n10, n11, n12, n13, n14, n15⟩ := fd
  dsimp only at h1 h2
  subst h1 h2
  match us, hl with
  | [_, _, _], _ => rfl
def d39 : Dd := ⟨"led_to", ("led_to", none), "led_to", "led_to", top 60, ["book", "standing", "deed"], ["book", "standing", "deed"]⟩
theorem bp39 : BindP (defArgs d39.st) d39.ps := fun fd us h1 h2 hl => by
  obtain ⟨n1, n2, n3, n4, n5, n6, n7, n8, n9, n10, n11, n12, n13, n14, n15⟩ := fd
  dsimp only at h1 h2
  subst h1 h2
  match us, hl with
  | [_, _, _], _ => rfl
def d40 : Dd := ⟨"findings_at", ("findings_at", none), "findings_at", "findings_at", top 61, ["book", "standing"], ["book", "standing", "found", "owner", "wish", "chosen", "own", "thing"]⟩
theorem bp40 : BindP (defArgs d40.st) d40.ps := fun fd us h1 h2 hl => by
  obtain ⟨n1, n2, n3, n4, n5, n6, n7, n8, n9, n10, n11, n12, n13, n14, n15⟩ := fd
  dsimp only at h1 h2
  subst h1 h2
  match us, hl with
  | [_, _], _ => rfl
def d41 : Dd := ⟨"findings_of", ("findings_of", none), "findings_of", "findings_of", top 62, ["book", "deed", "later"], ["book", "deed", "later"]⟩
theorem bp41 : BindP (defArgs d41.st) d41.ps := fun fd us h1 h2 hl => by
  obtain ⟨n1, n2, n3, n4, n5, n6, n7, n8, n9, n10, n11, n12, n13, n14, n15⟩ := fd
  dsimp only at h1 h2
  subst h1 h2
  match us, hl with
  | [_, _, _], _ => rfl
def d42 : Dd := ⟨"told_at", ("told_at", none), "told_at", "told_at", top 64, ["book", "standing"], ["book", "standing", "chosen", "owner"]⟩
theorem bp42 : BindP (defArgs d42.st) d42.ps := fun fd us h1 h2 hl => by
  obtain ⟨n1, n2, n3, n4, n5, n6, n7, n8, n9, n10, n11, n12, n13, n14, n15⟩ := fd
  dsimp only at h1 h2
  subst h1 h2
  match us, hl with
  | [_, _], _ => rfl
def d43 : Dd := ⟨"Record.__init__", ("Record", some "__init__"), "__init__", "Record.__init__", topC 65 0, ["self", "book"], ["self", "book"]⟩
theorem bp43 : BindP (defArgs d43.st) d43.ps := fun fd us h1 h2 hl => by
  obtain ⟨n1, n2, n3, n4, n5, n6, n7, n8, n9, n10, n11, n12, n13, n14, n15⟩ := fd
  dsimp only at h1 h2
  subst h1 h2
  match us, hl with
  | [_, _], _ => rfl
def d44 : Dd := ⟨"Record.__eq__", ("Record", some "__eq__"), "__eq__", "Record.__eq__", topC 65 6, ["self", "other"], ["self", "other"]⟩
theorem bp44 : BindP (defArgs d44.st) d44.ps := fun fd us h1 h2 hl => by
  obtain ⟨n1, n2, n3, n4, n5, n6, n7, n8, n9, n10, n11, n12, n13, n14, n15⟩ := fd
  dsimp only at h1 h2
  subst h1 h2
  match us, hl with
  | [_, _], _ => rfl
def d45 : Dd := ⟨"Record.take_in", ("Record", some "take_in"), "take_in", "Record.take_in", topC 65 7, ["self", "deed", "later"], ["self", "deed", "later", "found", "finding"]⟩
theorem bp45 : BindP (defArgs d45.st) d45.ps := fun fd us h1 h2 hl => by
  obtain ⟨n1, n2, n3, n4, n5, n6, n7, n8, n9, n10, n11, n12, n13, n14, n15⟩ := fd
  dsimp only at h1 h2
  subst h1 h2
  match us, hl with
  | [_, _, _], _ => rfl
def d46 : Dd := ⟨"replay", ("replay", none), "replay", "replay", top 66, ["book", "deeds"], ["book", "deeds", "record", "index", "deed", "later"]⟩
theorem bp46 : BindP (defArgs d46.st) d46.ps := fun fd us h1 h2 hl => by
  obtain ⟨n1, n2, n3, n4, n5, n6, n7, n8, n9, n10, n11, n12, n13, n14, n15⟩ := fd
  dsimp only at h1 h2
  subst h1 h2
  match us, hl with
  | [_, _], _ => rfl
def d47 : Dd := ⟨"Desk.__init__", ("Desk", some "__init__"), "__init__", "Desk.__init__", topC 68 0, ["self", "book"], ["self", "book"]⟩
theorem bp47 : BindP (defArgs d47.st) d47.ps := fun fd us h1 h2 hl => by
  obtain ⟨n1, n2, n3, n4, n5, n6, n7, n8, n9, n10, n11, n12, n13, n14, n15⟩ := fd
  dsimp only at h1 h2
  subst h1 h2
  match us, hl with
  | [_, _], _ => rfl
def d48 : Dd := ⟨"Desk.stand", ("Desk", some "stand"), "stand", "Desk.stand", topC 68 8, ["self", "present"], ["self", "present"]⟩
theorem bp48 : BindP (defArgs d48.st) d48.ps := fun fd us h1 h2 hl => by
  obtain ⟨n1, n2, n3, n4, n5, n6, n7, n8, n9, n10, n11, n12, n13, n14, n15⟩ := fd
  dsimp only at h1 h2
  subst h1 h2
  match us, hl with
  | [_, _], _ => rfl
def d49 : Dd := ⟨"Desk.go_on", ("Desk", some "go_on"), "go_on", "Desk.go_on", topC 68 9, ["self", "present"], ["self", "present"]⟩
theorem bp49 : BindP (defArgs d49.st) d49.ps := fun fd us h1 h2 hl => by
  obtain ⟨n1, n2, n3, n4, n5, n6, n7, n8, n9, n10, n11, n12, n13, n14, n15⟩ := fd
  dsimp only at h1 h2
  subst h1 h2
  match us, hl with
  | [_, _], _ => rfl
def d50 : Dd := ⟨"Desk.do", ("Desk", some "do"), "do", "Desk.do", topC 68 10, ["self", "deed"], ["self", "deed"]⟩
theorem bp50 : BindP (defArgs d50.st) d50.ps := fun fd us h1 h2 hl => by
  obtain ⟨n1, n2, n3, n4, n5, n6, n7, n8, n9, n10, n11, n12, n13, n14, n15⟩ := fd
  dsimp only at h1 h2
  subst h1 h2
  match us, hl with
  | [_, _], _ => rfl
def d51 : Dd := ⟨"told_by", ("told_by", none), "told_by", "told_by", top 69, ["book", "deeds"], ["book", "deeds", "record", "left", "index", "deed", "later", "number", "finding"]⟩
theorem bp51 : BindP (defArgs d51.st) d51.ps := fun fd us h1 h2 hl => by
  obtain ⟨n1, n2, n3, n4, n5, n6, n7, n8, n9, n10, n11, n12, n13, n14, n15⟩ := fd
  dsimp only at h1 h2
  subst h1 h2
  match us, hl with
  | [_, _], _ => rfl
def d52 : Dd := ⟨"Reach.__init__", ("Reach", some "__init__"), "__init__", "Reach.__init__", topC 71 0, ["self", "book", "start"], ["self", "book", "start", "waiting", "at", "standing", "deed", "later", "finding"]⟩
theorem bp52 : BindP (defArgs d52.st) d52.ps := fun fd us h1 h2 hl => by
  obtain ⟨n1, n2, n3, n4, n5, n6, n7, n8, n9, n10, n11, n12, n13, n14, n15⟩ := fd
  dsimp only at h1 h2
  subst h1 h2
  match us, hl with
  | [_, _, _], _ => rfl
def d53 : Dd := ⟨"Reach.moves", ("Reach", some "moves"), "moves", "Reach.moves", topC 71 1, ["self", "standing"], ["self", "standing", "found", "deed", "later"]⟩
theorem bp53 : BindP (defArgs d53.st) d53.ps := fun fd us h1 h2 hl => by
  obtain ⟨n1, n2, n3, n4, n5, n6, n7, n8, n9, n10, n11, n12, n13, n14, n15⟩ := fd
  dsimp only at h1 h2
  subst h1 h2
  match us, hl with
  | [_, _], _ => rfl
def d54 : Dd := ⟨"reach_of", ("reach_of", none), "reach_of", "reach_of", top 72, ["book"], ["book"]⟩
theorem bp54 : BindP (defArgs d54.st) d54.ps := fun fd us h1 h2 hl => by
  obtain ⟨n1, n2, n3, n4, n5, n6, n7, n8, n9, n10, n11, n12, n13, n14, n15⟩ := fd
  dsimp only at h1 h2
  subst h1 h2
  match us, hl with
  | [_], _ => rfl
def d55 : Dd := ⟨"least", ("least", none), "least", "least", top 73, ["book", "finding"], ["book", "finding", "part"]⟩
theorem bp55 : BindP (defArgs d55.st) d55.ps := fun fd us h1 h2 hl => by
  obtain ⟨n1, n2, n3, n4, n5, n6, n7, n8, n9, n10, n11, n12, n13, n14, n15⟩ := fd
  dsimp only at h1 h2
  subst h1 h2
  match us, hl with
  | [_, _], _ => rfl
def d56 : Dd := ⟨"check_kinds", ("check_kinds", none), "check_kinds", "check_kinds", top 76, ["kinds"], ["kinds", "index", "kind"]⟩
theorem bp56 : BindP (defArgs d56.st) d56.ps := fun fd us h1 h2 hl => by
  obtain ⟨n1, n2, n3, n4, n5, n6, n7, n8, n9, n10, n11, n12, n13, n14, n15⟩ := fd
  dsimp only at h1 h2
  subst h1 h2
  match us, hl with
  | [_], _ => rfl
def d57 : Dd := ⟨"is_free", ("is_free", none), "is_free", "is_free", top 77, ["book", "kinds"], ["book", "kinds", "finding"]⟩
theorem bp57 : BindP (defArgs d57.st) d57.ps := fun fd us h1 h2 hl => by
  obtain ⟨n1, n2, n3, n4, n5, n6, n7, n8, n9, n10, n11, n12, n13, n14, n15⟩ := fd
  dsimp only at h1 h2
  subst h1 h2
  match us, hl with
  | [_, _], _ => rfl
def d58 : Dd := ⟨"added", ("added", none), "added", "added", top 78, ["book", "word", "place", "row"], ["book", "word", "place", "row", "rows"]⟩
theorem bp58 : BindP (defArgs d58.st) d58.ps := fun fd us h1 h2 hl => by
  obtain ⟨n1, n2, n3, n4, n5, n6, n7, n8, n9, n10, n11, n12, n13, n14, n15⟩ := fd
  dsimp only at h1 h2
  subst h1 h2
  match us, hl with
  | [_, _, _, _], _ => rfl
def d59 : Dd := ⟨"additions", ("additions", none), "additions", "additions", top 79, ["book", "kinds"], ["book", "kinds", "found", "word", "rows", "place", "able", "row"]⟩
theorem bp59 : BindP (defArgs d59.st) d59.ps := fun fd us h1 h2 hl => by
  obtain ⟨n1, n2, n3, n4, n5, n6, n7, n8, n9, n10, n11, n12, n13, n14, n15⟩ := fd
  dsimp only at h1 h2
  subst h1 h2
  match us, hl with
  | [_, _], _ => rfl
def d60 : Dd := ⟨"all_orders", ("all_orders", none), "all_orders", "all_orders", top 80, ["rows"], ["rows", "found", "index", "row", "rest"]⟩
theorem bp60 : BindP (defArgs d60.st) d60.ps := fun fd us h1 h2 hl => by
  obtain ⟨n1, n2, n3, n4, n5, n6, n7, n8, n9, n10, n11, n12, n13, n14, n15⟩ := fd
  dsimp only at h1 h2
  subst h1 h2
  match us, hl with
  | [_], _ => rfl
def d61 : Dd := ⟨"orders", ("orders", none), "orders", "orders", top 81, ["book", "word", "kinds"], ["book", "word", "kinds", "rows"]⟩
theorem bp61 : BindP (defArgs d61.st) d61.ps := fun fd us h1 h2 hl => by
  obtain ⟨n1, n2, n3, n4, n5, n6, n7, n8, n9, n10, n11, n12, n13, n14, n15⟩ := fd
  dsimp only at h1 h2
  subst h1 h2
  match us, hl with
  | [_, _, _], _ => rfl
def d62 : Dd := ⟨"is_apart", ("is_apart", none), "is_apart", "is_apart", top 82, ["one", "other", "pair"], ["one", "other", "pair", "left", "right", "owner"]⟩
theorem bp62 : BindP (defArgs d62.st) d62.ps := fun fd us h1 h2 hl => by
  obtain ⟨n1, n2, n3, n4, n5, n6, n7, n8, n9, n10, n11, n12, n13, n14, n15⟩ := fd
  dsimp only at h1 h2
  subst h1 h2
  match us, hl with
  | [_, _, _], _ => rfl
def d63 : Dd := ⟨"parting", ("parting", none), "parting", "parting", top 83, ["one", "other"], ["one", "other", "start", "rows", "waiting", "at", "pair", "deed", "left", "right"]⟩
theorem bp63 : BindP (defArgs d63.st) d63.ps := fun fd us h1 h2 hl => by
  obtain ⟨n1, n2, n3, n4, n5, n6, n7, n8, n9, n10, n11, n12, n13, n14, n15⟩ := fd
  dsimp only at h1 h2
  subst h1 h2
  match us, hl with
  | [_, _], _ => rfl
def d64 : Dd := ⟨"alike", ("alike", none), "alike", "alike", top 84, ["one", "other"], ["one", "other"]⟩
theorem bp64 : BindP (defArgs d64.st) d64.ps := fun fd us h1 h2 hl => by
  obtain ⟨n1, n2, n3, n4, n5, n6, n7, n8, n9, n10, n11, n12, n13, n14, n15⟩ := fd
  dsimp only at h1 h2
  subst h1 h2
  match us, hl with
  | [_, _], _ => rfl
def d65 : Dd := ⟨"key_of", ("key_of", none), "key_of", "key_of", top 86, ["thing"], ["thing"]⟩
theorem bp65 : BindP (defArgs d65.st) d65.ps := fun fd us h1 h2 hl => by
  obtain ⟨n1, n2, n3, n4, n5, n6, n7, n8, n9, n10, n11, n12, n13, n14, n15⟩ := fd
  dsimp only at h1 h2
  subst h1 h2
  match us, hl with
  | [_], _ => rfl
def d66 : Dd := ⟨"order_key", ("order_key", none), "order_key", "order_key", top 87, ["standing"], ["standing", "places", "marks", "points", "wanted", "calls", "one"]⟩
theorem bp66 : BindP (defArgs d66.st) d66.ps := fun fd us h1 h2 hl => by
  obtain ⟨n1, n2, n3, n4, n5, n6, n7, n8, n9, n10, n11, n12, n13, n14, n15⟩ := fd
  dsimp only at h1 h2
  subst h1 h2
  match us, hl with
  | [_], _ => rfl
def d67 : Dd := ⟨"paper", ("paper", none), "paper", "paper", top 88, ["book", "finding"], ["book", "finding", "row"]⟩
theorem bp67 : BindP (defArgs d67.st) d67.ps := fun fd us h1 h2 hl => by
  obtain ⟨n1, n2, n3, n4, n5, n6, n7, n8, n9, n10, n11, n12, n13, n14, n15⟩ := fd
  dsimp only at h1 h2
  subst h1 h2
  match us, hl with
  | [_, _], _ => rfl
def d68 : Dd := ⟨"_law_draws", ("_law_draws", none), "_law_draws", "_law_draws", top 90, ["_law_script"], ["_law_script"]⟩
theorem bp68 : BindP (defArgs d68.st) d68.ps := fun fd us h1 h2 hl => by
  obtain ⟨n1, n2, n3, n4, n5, n6, n7, n8, n9, n10, n11, n12, n13, n14, n15⟩ := fd
  dsimp only at h1 h2
  subst h1 h2
  match us, hl with
  | [_], _ => rfl
def d69 : Dd := ⟨"_law_pick", ("_law_pick", none), "_law_pick", "_law_pick", top 91, ["_law_row", "_law_many"], ["_law_row", "_law_many", "_law_cell", "_law_found"]⟩
theorem bp69 : BindP (defArgs d69.st) d69.ps := fun fd us h1 h2 hl => by
  obtain ⟨n1, n2, n3, n4, n5, n6, n7, n8, n9, n10, n11, n12, n13, n14, n15⟩ := fd
  dsimp only at h1 h2
  subst h1 h2
  match us, hl with
  | [_, _], _ => rfl
def d70 : Dd := ⟨"_law_first", ("_law_first", none), "_law_first", "_law_first", top 92, ["_law_at", "_law_book"], ["_law_at", "_law_book"]⟩
theorem bp70 : BindP (defArgs d70.st) d70.ps := fun fd us h1 h2 hl => by
  obtain ⟨n1, n2, n3, n4, n5, n6, n7, n8, n9, n10, n11, n12, n13, n14, n15⟩ := fd
  dsimp only at h1 h2
  subst h1 h2
  match us, hl with
  | [_, _], _ => rfl
def d71 : Dd := ⟨"_law_second", ("_law_second", none), "_law_second", "_law_second", top 93, ["_law_at", "_law_book"], ["_law_at", "_law_book"]⟩
theorem bp71 : BindP (defArgs d71.st) d71.ps := fun fd us h1 h2 hl => by
  obtain ⟨n1, n2, n3, n4, n5, n6, n7, n8, n9, n10, n11, n12, n13, n14, n15⟩ := fd
  dsimp only at h1 h2
  subst h1 h2
  match us, hl with
  | [_, _], _ => rfl
def d72 : Dd := ⟨"law", ("law", none), "law", "law", top 95, ["_law_script"], ["_law_script", "_law_e", "_law_row", "_law_at", "_law_told", "_law_book", "_law_k"]⟩
theorem bp72 : BindP (defArgs d72.st) d72.ps := fun fd us h1 h2 hl => by
  obtain ⟨n1, n2, n3, n4, n5, n6, n7, n8, n9, n10, n11, n12, n13, n14, n15⟩ := fd
  dsimp only at h1 h2
  subst h1 h2
  match us, hl with
  | [_], _ => rfl
def dds : List Dd := [d0, d1, d2, d3, d4, d5, d6, d7, d8, d9, d10, d11, d12, d13, d14, d15, d16, d17, d18, d19, d20, d21, d22, d23, d24, d25, d26, d27, d28, d29, d30, d31, d32, d33, d34, d35, d36, d37, d38, d39, d40, d41, d42, d43, d44, d45, d46, d47, d48, d49, d50, d51, d52, d53, d54, d55, d56, d57, d58, d59, d60, d61, d62, d63, d64, d65, d66, d67, d68, d69, d70, d71, d72]
theorem bps : AllQ (fun d : Dd => BindP (defArgs d.st) d.ps) dds := .cons bp0 (.cons bp1 (.cons bp2 (.cons bp3 (.cons bp4 (.cons bp5 (.cons bp6 (.cons bp7 (.cons bp8 (.cons bp9 (.cons bp10 (.cons bp11 (.cons bp12 (.cons bp13 (.cons bp14 (.cons bp15 (.cons bp16 (.cons bp17 (.cons bp18 (.cons bp19 (.cons bp20 (.cons bp21 (.cons bp22 (.cons bp23 (.cons bp24 (.cons bp25 (.cons bp26 (.cons bp27 (.cons bp28 (.cons bp29 (.cons bp30 (.cons bp31 (.cons bp32 (.cons bp33 (.cons bp34 (.cons bp35 (.cons bp36 (.cons bp37 (.cons bp38 (.cons bp39 (.cons bp40 (.cons bp41 (.cons bp42 (.cons bp43 (.cons bp44 (.cons bp45 (.cons bp46 (.cons bp47 (.cons bp48 (.cons bp49 (.cons bp50 (.cons bp51 (.cons bp52 (.cons bp53 (.cons bp54 (.cons bp55 (.cons bp56 (.cons bp57 (.cons bp58 (.cons bp59 (.cons bp60 (.cons bp61 (.cons bp62 (.cons bp63 (.cons bp64 (.cons bp65 (.cons bp66 (.cons bp67 (.cons bp68 (.cons bp69 (.cons bp70 (.cons bp71 (.cons bp72 (.nil)))))))))))))))))))))))))))))))))))))))))))))))))))))))))))))))))))))))))
def k0 : Kk := (⟨"_law_kinds_of", ("_law_kinds_of", none), "_law_kinds_of", "_law_kinds_of", top 94, ["_law_e"], ["_law_e", "_law_told"]⟩, [["BadStart", "BadKeeping", "BadProgram", "BadNumber"], ["BadDeed", "UnknownDeed", "UnknownKind"], ["UnknownWord", "NotComparable", "Possible"], ["BadLine", "ValueError"]])
theorem bk0 : BindP (defArgs k0.1.st) k0.1.ps := fun fd us h1 h2 hl => by
  obtain ⟨n1, n2, n3, n4, n5, n6, n7, n8, n9, n10, n11, n12, n13, n14, n15⟩ := fd
  dsimp only at h1 h2
  subst h1 h2
  match us, hl with
  | [_], _ => rfl
def kks : List Kk := [k0]
theorem kbps : AllQ (fun q : Kk => BindP (defArgs q.1.st) q.1.ps) kks := .cons bk0 (.nil)
def x0 : String × XT := ("BadStart", defArgs (topC 3 0), defBody (topC 3 0), defScope (topC 3 0))
theorem bx0 : BindP (x0).2.1 ("self" :: []) := fun fd us h1 h2 hl => by
  obtain ⟨n1, n2, n3, n4, n5, n6, n7, n8, n9, n10, n11, n12, n13, n14, n15⟩ := fd
  dsimp only at h1 h2
  subst h1 h2
  match us, hl with
  | [_], _ => rfl
def x1 : String × XT := ("BadKeeping", defArgs (topC 4 0), defBody (topC 4 0), defScope (topC 4 0))
theorem bx1 : BindP (x1).2.1 ("self" :: []) := fun fd us h1 h2 hl => by
  obtain ⟨n1, n2, n3, n4, n5, n6, n7, n8, n9, n10, n11, n12, n13, n14, n15⟩ := fd
  dsimp only at h1 h2
  subst h1 h2
  match us, hl with
  | [_], _ => rfl
def x2 : String × XT := ("BadProgram", defArgs (topC 5 0), defBody (topC 5 0), defScope (topC 5 0))
theorem bx2 : BindP (x2).2.1 ("self" :: ["word"]) := fun fd us h1 h2 hl => by
  obtain ⟨n1, n2, n3, n4, n5, n6, n7, n8, n9, n10, n11, n12, n13, n14, n15⟩ := fd
  dsimp only at h1 h2
  subst h1 h2
  match us, hl with
  | [_, _], _ => rfl
def x3 : String × XT := ("BadNumber", defArgs (topC 6 0), defBody (topC 6 0), defScope (topC 6 0))
theorem bx3 : BindP (x3).2.1 ("self" :: []) := fun fd us h1 h2 hl => by
  obtain ⟨n1, n2, n3, n4, n5, n6, n7, n8, n9, n10, n11, n12, n13, n14, n15⟩ := fd
  dsimp only at h1 h2
  subst h1 h2
  match us, hl with
  | [_], _ => rfl
def x4 : String × XT := ("BadDeed", defArgs (topC 7 0), defBody (topC 7 0), defScope (topC 7 0))
theorem bx4 : BindP (x4).2.1 ("self" :: ["index"]) := fun fd us h1 h2 hl => by
  obtain ⟨n1, n2, n3, n4, n5, n6, n7, n8, n9, n10, n11, n12, n13, n14, n15⟩ := fd
  dsimp only at h1 h2
  subst h1 h2
  match us, hl with
  | [_, _], _ => rfl
def x5 : String × XT := ("UnknownDeed", defArgs (topC 8 0), defBody (topC 8 0), defScope (topC 8 0))
theorem bx5 : BindP (x5).2.1 ("self" :: ["deed"]) := fun fd us h1 h2 hl => by
  obtain ⟨n1, n2, n3, n4, n5, n6, n7, n8, n9, n10, n11, n12, n13, n14, n15⟩ := fd
  dsimp only at h1 h2
  subst h1 h2
  match us, hl with
  | [_, _], _ => rfl
def x6 : String × XT := ("UnknownKind", defArgs (topC 9 0), defBody (topC 9 0), defScope (topC 9 0))
theorem bx6 : BindP (x6).2.1 ("self" :: ["index"]) := fun fd us h1 h2 hl => by
  obtain ⟨n1, n2, n3, n4, n5, n6, n7, n8, n9, n10, n11, n12, n13, n14, n15⟩ := fd
  dsimp only at h1 h2
  subst h1 h2
  match us, hl with
  | [_, _], _ => rfl
def x7 : String × XT := ("UnknownWord", defArgs (topC 10 0), defBody (topC 10 0), defScope (topC 10 0))
theorem bx7 : BindP (x7).2.1 ("self" :: ["word"]) := fun fd us h1 h2 hl => by
  obtain ⟨n1, n2, n3, n4, n5, n6, n7, n8, n9, n10, n11, n12, n13, n14, n15⟩ := fd
  dsimp only at h1 h2
  subst h1 h2
  match us, hl with
  | [_, _], _ => rfl
def x8 : String × XT := ("NotComparable", defArgs (topC 11 0), defBody (topC 11 0), defScope (topC 11 0))
theorem bx8 : BindP (x8).2.1 ("self" :: []) := fun fd us h1 h2 hl => by
  obtain ⟨n1, n2, n3, n4, n5, n6, n7, n8, n9, n10, n11, n12, n13, n14, n15⟩ := fd
  dsimp only at h1 h2
  subst h1 h2
  match us, hl with
  | [_], _ => rfl
def x9 : String × XT := ("Possible", defArgs (topC 12 0), defBody (topC 12 0), defScope (topC 12 0))
theorem bx9 : BindP (x9).2.1 ("self" :: ["history"]) := fun fd us h1 h2 hl => by
  obtain ⟨n1, n2, n3, n4, n5, n6, n7, n8, n9, n10, n11, n12, n13, n14, n15⟩ := fd
  dsimp only at h1 h2
  subst h1 h2
  match us, hl with
  | [_, _], _ => rfl
def x10 : String × XT := ("BadLine", defArgs (topC 13 0), defBody (topC 13 0), defScope (topC 13 0))
theorem bx10 : BindP (x10).2.1 ("self" :: ["line", "spot"]) := fun fd us h1 h2 hl => by
  obtain ⟨n1, n2, n3, n4, n5, n6, n7, n8, n9, n10, n11, n12, n13, n14, n15⟩ := fd
  dsimp only at h1 h2
  subst h1 h2
  match us, hl with
  | [_, _, _], _ => rfl
def hd : HD := ⟨prg, tab, PySem.Challenge.pw_onechosen_k24_errors_apart.main.file, dds.map Dd.d ++ kks.map (fun q => q.1.d), [x0, x1, x2, x3, x4, x5, x6, x7, x8, x9, x10]⟩
theorem kok : kks.all (kkB tab prg) = true := by decide +kernel
theorem kls : tab.kds.all (fun f => kks.any fun q => decide (q.1.key = f)) = true := by decide +kernel
theorem oks : dds.all (fun d => d.ok tab prg) = true := by decide +kernel
theorem xt_ok {K : PySem.W.Frag} {w : World} (c : obsK hd K = valY hd w) : XtOk K prg tab := by
  refine ⟨fun x hx xd e => ?_⟩
  have hx2 : x ∈ (["BadStart", "BadKeeping", "BadProgram", "BadNumber", "BadDeed", "UnknownDeed", "UnknownKind", "UnknownWord", "NotComparable", "Possible", "BadLine"] : List String) := hx
  simp only [List.mem_cons, List.not_mem_nil, or_false] at hx2
  rcases hx2 with rfl | rfl | rfl | rfl | rfl | rfl | rfl | rfl | rfl | rfl | rfl
  · exact ⟨[], x0.2, says_xt (x := x0) c (by simp [hd]), by cases e; decide +kernel, bx0⟩
  · exact ⟨[], x1.2, says_xt (x := x1) c (by simp [hd]), by cases e; decide +kernel, bx1⟩
  · exact ⟨["word"], x2.2, says_xt (x := x2) c (by simp [hd]), by cases e; decide +kernel, bx2⟩
  · exact ⟨[], x3.2, says_xt (x := x3) c (by simp [hd]), by cases e; decide +kernel, bx3⟩
  · exact ⟨["index"], x4.2, says_xt (x := x4) c (by simp [hd]), by cases e; decide +kernel, bx4⟩
  · exact ⟨["deed"], x5.2, says_xt (x := x5) c (by simp [hd]), by cases e; decide +kernel, bx5⟩
  · exact ⟨["index"], x6.2, says_xt (x := x6) c (by simp [hd]), by cases e; decide +kernel, bx6⟩
  · exact ⟨["word"], x7.2, says_xt (x := x7) c (by simp [hd]), by cases e; decide +kernel, bx7⟩
  · exact ⟨[], x8.2, says_xt (x := x8) c (by simp [hd]), by cases e; decide +kernel, bx8⟩
  · exact ⟨["history"], x9.2, says_xt (x := x9) c (by simp [hd]), by cases e; decide +kernel, bx9⟩
  · exact ⟨["line", "spot"], x10.2, says_xt (x := x10) c (by simp [hd]), by cases e; decide +kernel, bx10⟩
abbrev R : PySem.W.OpenRow := PySem.W.OpenLaw.row PySem.Challenge.rw_onechosen_k24_errors_apart
abbrev hk : PySem.W.Hook := hookY 5 hd
def ob (s : PySem.W.SharedT) : AlY := obsY 5 hd (HandSHeadRun.getT s)
theorem ob_eq (s : PySem.W.SharedT) : ob s = hk.obs s.abs := obsY_eq (HandSHeadRun.getT_eq s)
def loose0 : List Str := ["_wall", "ChosenError", "BadStart", "BadKeeping", "BadProgram", "BadNumber", "BadDeed", "UnknownDeed", "UnknownKind", "UnknownWord", "NotComparable", "Possible", "BadLine", "OWNERS", "KEEPINGS", "WORDS", "COMMON", "OWN_ROWS", "MOST_THINGS", "MOST_ROWS", "is_integer", "is_one_of", "rows_for", "is_program"]
def loose1 : List Str := ["check_programs", "is_start", "Book", "HEADS", "NUMBERS", "Line", "line_at", "read_programs", "read", "BEGIN", "NEXT", "put", "least_of", "things_of", "first_standing", "calls_of", "deeds_of", "is_call", "is_deed", "chosen_of", "with_owner", "cleared", "healed", "placed"]
def loose2 : List Str := ["pointed", "marked", "row_done", "still_wanted", "ended", "waits", "next_done", "begun", "led_to", "findings_at", "findings_of", "told_at", "Record", "replay", "Desk", "told_by", "Reach", "reach_of", "least", "KINDS", "check_kinds", "is_free", "added", "additions"]
def loose3 : List Str := ["all_orders", "orders", "is_apart", "parting", "alike", "key_of", "order_key", "paper", "_law_draws", "_law_pick", "_law_first", "_law_second", "_law_kinds_of"]
def loose : List Str := loose0 ++ loose1 ++ loose2 ++ loose3
noncomputable abbrev EN (b : Bool) (w : World) (os : OsState) := HandSHeadRun.endF (HandSHeadRun.stepQ (HandSHeadRun.denQ HandSHeadRun.tabQ) R.prog (w.withFollow "special-get-raises" b)) 20000 R.prog (w.withFollow "special-get-raises" b) os
abbrev fr (s : PySem.W.SharedT) : PySem.W.Frag := frY 5 (HandSHeadRun.getT s)
theorem ra_f (w : World) (os : OsState) : (EN false w os).map (fun s => (HandSHeadRun.looksF R.prog (PySem.W.boot_heap (w.withFollow "special-get-raises" false).params) s.abs, HandSHeadRun.seenQ (PySem.W.view R.prog [95]) (loose) (PySem.importedModules R.prog.main.body) (fun s => PySem.W.xlAt (PySem.W.view R.prog [95]) [] s && PySem.W.recOk R.toRowW.records s) s.abs)) = some (true, PySem.W.openGood (PySem.W.view R.prog [95]) (loose)) := by kernel_rfl
theorem rb_f (w : World) (os : OsState) : (EN false w os).map (fun s => kfB (fr s) hd.p hd.T hd.file) = some true := by kernel_rfl
theorem rc_f (w : World) (os : OsState) : (EN false w os).map (fun s => (hd.fn.all (fun f => f.good (fr s)), hd.T.gds.map (fun x => He.dicW (fr s) (gaS (fr s) x)), hd.xs.map fun x => xtOf (fr s) x.1)) = some (true, hd.T.gds.map (fun x => some (He.keysIn (w.withFollow "special-get-raises" false).params (keysOf hd.p x))), hd.xs.map fun x => xtVal x.2) := by kernel_rfl
theorem rd_f (w : World) (os : OsState) : (EN false w os).map (fun s => hd.fn.map (fun f => seen (fr s) f.at_)) = some (hd.fn.map Df.said) := by kernel_rfl
theorem run_f (w : World) : HandSHeadRun.RunEq R (PySem.W.view R.prog [95]) hk ob 20000 (loose) (w.withFollow "special-get-raises" false) := fun os => map_three (ra_f w os) (map_obs (rb_f w os) (rc_f w os) (rd_f w os))
theorem ra_t (w : World) (os : OsState) : (EN true w os).map (fun s => (HandSHeadRun.looksF R.prog (PySem.W.boot_heap (w.withFollow "special-get-raises" true).params) s.abs, HandSHeadRun.seenQ (PySem.W.view R.prog [95]) (loose) (PySem.importedModules R.prog.main.body) (fun s => PySem.W.xlAt (PySem.W.view R.prog [95]) [] s && PySem.W.recOk R.toRowW.records s) s.abs)) = some (true, PySem.W.openGood (PySem.W.view R.prog [95]) (loose)) := by kernel_rfl
theorem rb_t (w : World) (os : OsState) : (EN true w os).map (fun s => kfB (fr s) hd.p hd.T hd.file) = some true := by kernel_rfl
theorem rc_t (w : World) (os : OsState) : (EN true w os).map (fun s => (hd.fn.all (fun f => f.good (fr s)), hd.T.gds.map (fun x => He.dicW (fr s) (gaS (fr s) x)), hd.xs.map fun x => xtOf (fr s) x.1)) = some (true, hd.T.gds.map (fun x => some (He.keysIn (w.withFollow "special-get-raises" true).params (keysOf hd.p x))), hd.xs.map fun x => xtVal x.2) := by kernel_rfl
theorem rd_t (w : World) (os : OsState) : (EN true w os).map (fun s => hd.fn.map (fun f => seen (fr s) f.at_)) = some (hd.fn.map Df.said) := by kernel_rfl
theorem run_t (w : World) : HandSHeadRun.RunEq R (PySem.W.view R.prog [95]) hk ob 20000 (loose) (w.withFollow "special-get-raises" true) := fun os => map_three (ra_t w os) (map_obs (rb_t w os) (rc_t w os) (rd_t w os))
theorem run (w : World) : HandSHeadRun.RunEq R (PySem.W.view R.prog [95]) hk ob 20000 (loose) w := PySem.W.byRow2 "special-get-raises" (P := fun w => HandSHeadRun.RunEq R (PySem.W.view R.prog [95]) hk ob 20000 (loose) w) run_f run_t w

theorem lists : listsB hd dds = true := by decide +kernel
theorem facts {w : World} {K : PySem.W.Frag} {h : Heap} {mg : Str → Option Value} (X : K.In h) (G : h.Ns mainGlobals mg) (c : obsK hd K = valY hd w) :
    mg "law" = some (.ref (adr K d72.at_)) ∧ ∃ fd : FuncData, (∀ (s : Shared) (u : Value), BindsTo s fd ⟨[u], []⟩ [("_law_script", u)]) ∧
      ∀ base : Heap, K.In base → base.Ns mainGlobals mg → FnOk PySem.Challenge.pw_onechosen_k24_errors_apart w K mg base (L2.CX PySem.Challenge.pw_onechosen_k24_errors_apart w) (2 * FU + 2) (adr K d72.at_) fd ["_law_script"] (spC K w 1 (callF prg WH (FU + 1) "law")) := by
  refine ⟨?_, law_facts (law := d72) (kks := kks) X G c rfl (by decide +kernel) (xt_ok c) rfl kok kbps kls oks bps lists (by simp [dds]) rfl⟩
  have hk := says_kf c
  unfold kfB at hk
  simp only [Bool.and_eq_true] at hk
  have := List.all_eq_true.mp hk.1.1.2 ("law", 1) (by decide +kernel)
  unfold fnB at this
  simp only [Bool.and_eq_true] at this
  exact glB_ok (x := "law") X G this.1
end K24H
section
open PySem PySem.W PySem.Calls PyProof.Rows
theorem k24_law_end (plain : ∀ ns : List Int, ns.length ≤ 63 → ∃ st, Eng.callF K24.prg K24.WH (K24.FU + 1) "law" [.rol (ns.map Eng.D.int)] [] = .ok (.bl true) st) : PySem.Challenge.rw_onechosen_k24_errors_apart.Holds := by
  w_on; o_law
  refine HandSHeadRun.head_any (H := K24H.hk) (ob := K24H.ob) (M := 20000) (q := view K24H.R.prog [95]) (loose := K24H.loose) (d := HandSHeadRun.topDef K24H.R.prog 95) (kwd := []) K24H.ob_eq (by kernel_rfl) (fun s => by kernel_rfl)
    K24H.run (by kernel_rfl) (by kernel_rfl) (by kernel_rfl) (by rfl) (by first | assumption | decide +kernel) (by decide +kernel) ⟨rfl, rfl, rfl, rfl, rfl, by decide +kernel⟩ ?hw ?hc
  case hw => w_witness2
  case hc =>
    refine Eng.law_walk (l := PySem.Challenge.rw_onechosen_k24_errors_apart) (hk := K24H.hk) (x := "_law_script") (k := 2 * K24.FU + 2) rfl (by kernel_rfl) ⟨rfl, by decide, by decide⟩ ?F
    intro w mg fa h Y G hmg
    obtain ⟨K, KX, c⟩ := Y
    obtain ⟨e, fd, hb, hF⟩ := K24H.facts KX G c
    have e2 : (HandSHeadRun.topDef (OpenLaw.row PySem.Challenge.rw_onechosen_k24_errors_apart).prog 95).name = ("law" : PySem.Str) := by kernel_rfl
    have e3 := hmg
    rw [show (HandSHeadRun.topDef K24H.R.prog 95).name = ("law" : PySem.Str) from e2, e] at e3
    injection e3 with e3
    injection e3 with e3
    subst e3
    exact ⟨K, fd, _, KX, hb, plain, hF⟩
end
/-! P0: the evaluator's run, rule by rule (no program in sight). -/
namespace Eng
open PySem PyProof.Rows
section
variable {p : Prg} {call : String → List D → Store → R D} {wh : Nat} {env env1 env2 env' : Env} {st st1 st2 st3 st4 st' : Store} {a b c e o i : Ex} {q x y z : Sq} {d d1 d2 k : D}
/-! ### expressions -/
theorem d_of (h : evX p call e env st = .ok q st1) (h2 : settle q st1 = .ok d st2) : asD (evX p call e env st) = .ok d st2 := by rw [h]; exact h2
theorem t_of {v : Bool} (h : evX p call e env st = .ok (.val (.bl v)) st1) : asB (evX p call e env st) = .ok v st1 := by rw [h]; rfl
theorem x_var {n : Nat} (h : env[n]? = some (some d)) : evX p call (.var n) env st = .ok (.val d) st := by rw [evX, h]; rfl
theorem x_cst : evX p call (.cst d) env st = .ok (.val d) st := rfl
theorem x_glb {g : String} (h : p.gls.lookup g = some d) : evX p call (.glb g) env st = .ok (.val d) st := by rw [evX, h]; rfl
theorem x_tup {es : List Ex} {ds : List D} (h : evEs p call es env st = .ok ds st1) : evX p call (.tup es) env st = .ok (.val (.tup ds)) st1 := by rw [evX, h]; rfl
theorem x_lst {es : List Ex} {ds : List D} (h : evEs p call es env st = .ok ds st1) : evX p call (.lst es) env st = .ok (.fresh ds) st1 := by rw [evX, h]; rfl
theorem x_tupS {es : List Sx} {ds : List D} (h : evSx p call es env st = .ok ds st1) (hs : small ds.length = true) : evX p call (.tupS es) env st = .ok (.val (.tup ds)) st1 := by rw [evX, h]; simp only [R.bind, hs, if_true]; rfl
theorem x_lstS {es : List Sx} {ds : List D} (h : evSx p call es env st = .ok ds st1) (hs : small ds.length = true) : evX p call (.lstS es) env st = .ok (.fresh ds) st1 := by rw [evX, h]; simp only [R.bind, hs, if_true]
theorem x_bin {op : Bop} (h1 : evX p call a env st = .ok x st1) (h2 : evX p call b env st1 = .ok y st2) (h3 : binop op x y st2 = .ok q st3) : evX p call (.bin op a b) env st = .ok q st3 := by rw [evX, h1]; simp only [R.bind, h2]; exact h3
theorem x_not {v : Bool} (h : evX p call a env st = .ok (.val (.bl v)) st1) : evX p call (.not a) env st = .ok (.val (.bl (!v))) st1 := by rw [evX, t_of h]; rfl
theorem x_and {v : Bool} (h : evX p call a env st = .ok (.val (.bl v)) st1) (h2 : (if v then evX p call b env st1 else .ok (.val (.bl false)) st1) = .ok q st2) : evX p call (.and a b) env st = .ok q st2 := by
  rw [evX, t_of h]; exact h2
theorem x_or {v : Bool} (h : evX p call a env st = .ok (.val (.bl v)) st1) (h2 : (if v then .ok (.val (.bl true)) st1 else evX p call b env st1) = .ok q st2) : evX p call (.or a b) env st = .ok q st2 := by
  rw [evX, t_of h]; exact h2
theorem x_cmp {op : Cop} (h1 : evX p call a env st = .ok x st1) (h2 : evX p call b env st1 = .ok y st2) (h3 : cmpV p call op x y st2 = .ok q st3) : evX p call (.cmp op a b) env st = .ok q st3 := by rw [evX, h1]; simp only [R.bind, h2]; exact h3
theorem x_chain {op oq : Cop} {m n : Int} {v : Bool} (h1 : evX p call a env st = .ok (.val (.int m)) st1) (h2 : evX p call b env st1 = .ok (.val (.int n)) st2) (h3 : intCmp op m n = some v)
    (h4 : (if v then (evX p call c env st2).bind fun z st => match z with
        | .val (.int k) => (opt (intCmp oq n k) st).bind fun r st => val (.bl r) st
        | _ => .no else .ok (.val (.bl false)) st2) = .ok q st3) : evX p call (.chain op oq a b c) env st = .ok q st3 := by
  rw [evX, h1]
  simp only [R.bind, h2, h3]
  cases v
  · exact h4
  · exact h4
theorem x_chain2 {oq : Cop} {n m : Int} {v : Bool} (h : evX p call c env st = .ok (.val (.int m)) st1) (hv : intCmp oq n m = some v) : ((evX p call c env st).bind fun z st => match z with
        | .val (.int k) => (opt (intCmp oq n k) st).bind fun r st => val (.bl r) st
        | _ => .no) = .ok (.val (.bl v)) st1 := by
  rw [h]; simp only [R.bind, hv]; rfl
theorem x_ite {v : Bool} (h : evX p call c env st = .ok (.val (.bl v)) st1) (h2 : (if v then evX p call a env st1 else evX p call b env st1) = .ok q st2) : evX p call (.ite c a b) env st = .ok q st2 := by
  rw [evX, t_of h]; exact h2
theorem x_call {f : String} {es : List Ex} {ds : List D} (h : evEs p call es env st = .ok ds st1) (h2 : call f ds st1 = .ok d st2) : evX p call (.call f es) env st = .ok (.val d) st2 := by
  rw [evX, h]; simp only [R.bind, h2]; rfl
theorem x_make {cn : String} {cd : CDef} {es : List Ex} {ds : List D} (h : evEs p call es env st = .ok ds st1) (hc : p.cls.lookup cn = some cd) (h2 : call cd.init (.obj st1.length :: ds) (st1 ++ [.ins cn []]) = .ok .non st2) : evX p call (.make cn es) env st = .ok (.val (.obj st1.length)) st2 := by
  rw [evX, h]; simp only [R.bind, hc, h2]; rfl
theorem x_attr {f cn : String} {fs : Fs} {cd : CDef} {j : Nat} (h : evX p call o env st = .ok (.val (.obj j)) st1) (hj : st1[j]? = some (.ins cn fs)) (hc : p.cls.lookup cn = some cd) (hp : cd.prps.lookup f = none) (hr : rawA p cn f = true) (hf : fs.lookup f = some d) : evX p call (.attr f o) env st = .ok (.val d) st1 := by
  rw [evX, d_of h rfl]; simp only [R.bind, hj, fld, hc, hp, hr, hf]; rfl
theorem x_bm {m : Bm} {es : List Ex} {qs : List Sq} (h : evX p call o env st = .ok x st1) (h2 : evXs p call es env st1 = .ok qs st2) (h3 : bmV m x qs st2 = .ok q st3) : evX p call (.bm m o es) env st = .ok q st3 := by rw [evX, h]; simp only [R.bind, h2]; exact h3
theorem x_bf {f : Bf} (h : evX p call a env st = .ok x st1) (h2 : bfV f x st1 = .ok q st2) : evX p call (.bf f a) env st = .ok q st2 := by rw [evX, h]; exact h2
theorem x_isi {t : Ty} {v : Bool} (h : evX p call a env st = .ok q st1) (h1 : settle q st1 = .ok d st2) (h2 : tyIs st2 t d = some v) : evX p call (.isi a t) env st = .ok (.val (.bl v)) st2 := by rw [evX, d_of h h1]; simp only [R.bind, h2]; rfl
theorem x_idx (h : evX p call a env st = .ok x st1) (h1 : evX p call i env st1 = .ok y st2) (h2 : settle y st2 = .ok k st3) (h3 : idxV x k st3 = .ok q st4) : evX p call (.idx a i) env st = .ok q st4 := by
  rw [evX, h]; simp only [R.bind]; rw [d_of h1 h2]; exact h3
theorem x_gidx {g : String} {kvs : List (D × D)} {s : Str} (h : evX p call i env st = .ok (.val (.str s)) st1) (hg : p.gds.lookup g = some kvs) (hk : dLook kvs (.text s) = some d) : evX p call (.gidx g i) env st = .ok (.val d) st1 := by
  rw [evX, d_of h rfl]; simp only [R.bind, hg, hk]; rfl
theorem x_slc {lo hi : Option Ex} {l h : Option D} (h1 : evX p call a env st = .ok x st1) (h2 : evO p call lo env st1 = .ok l st2) (h3 : evO p call hi env st2 = .ok h st3) (h4 : slcV x l h st3 = .ok q st4) : evX p call (.slc a lo hi) env st = .ok q st4 := by
  rw [evX, h1]; simp only [R.bind, h2, h3]; exact h4
theorem x_dct {kvs : List Kx} {ps : List (D × D)} {l : List (D × D)} (h : evKs p call kvs env st = .ok ps st1) (ha : (ps.all (fun q => isKeyD q.1) && decide (ps.length ≤ 15)) = true) (hp : putAll [] ps = some l) : evX p call (.dct none kvs) env st = .ok (.val (.obj st1.length)) (st1 ++ [.dic l]) := by
  rw [evX, h]; simp only [R.bind, ha, if_true, hp]; rfl
/-- a comprehension's turn -/
def lcF (p : Prg) (call : String → List D → Store → R D) (tg : Tp) (elt : Ex) (cond : Option Ex) (own : List Nat) (env : Env) : D → Store → R (Option D) := fun x st => match bindP tg x (wipeE env own) with
        | some env' => match cond with
          | none => (asD (evX p call elt env' st)).bind fun d st => .ok (some d) st
          | some c => (asB (evX p call c env' st)).bind fun b st => if b then (asD (evX p call elt env' st)).bind fun d st => .ok (some d) st else .ok none st
        | none => .no
theorem x_lc {elt : Ex} {tg : Tp} {it : It} {cond : Option Ex} {own : List Nat} {w : List D × Dep} {ds : List D} (h : evI p call it env st = .ok w st1) (hs : small w.1.length = true) (hc : compL w.2 (lcF p call tg elt cond own env) w.1 (w.2.lock st1) = .ok ds st2) (hu : w.2.unlock st2 = some st3) : evX p call (.lc elt tg it cond own) env st = .ok (.fresh ds) st3 := by
  rw [evX, h]
  show (if small w.1.length = false then .no else (compL w.2 (lcF p call tg elt cond own env) w.1 (w.2.lock st1)).bind fun ds st => match w.2.unlock st with
          | some st => R.ok (Sq.fresh ds) st
          | none => .no) = _
  rw [if_neg (by rw [hs]; decide), hc]
  show (match w.2.unlock st2 with
          | some st => R.ok (Sq.fresh ds) st
          | none => .no) = _
  rw [hu]
theorem es_nil : evEs p call [] env st = .ok [] st := rfl
theorem es_cons {es : List Ex} {ds : List D} (h : evX p call e env st = .ok q st1) (h1 : settle q st1 = .ok d st2) (h2 : evEs p call es env st2 = .ok ds st3) : evEs p call (e :: es) env st = .ok (d :: ds) st3 := by
  rw [evEs, d_of h h1]; simp only [R.bind, h2]
theorem xs_nil : evXs p call [] env st = .ok [] st := rfl
theorem xs_cons {es : List Ex} {qs : List Sq} (h : evX p call e env st = .ok q st1) (h2 : evXs p call es env st1 = .ok qs st2) : evXs p call (e :: es) env st = .ok (q :: qs) st2 := by
  rw [evXs, h]; simp only [R.bind, h2]
theorem o_none : evO p call none env st = .ok none st := rfl
theorem o_some {m : Int} (h : evX p call e env st = .ok (.val (.int m)) st1) : evO p call (some e) env st = .ok (some (.int m)) st1 := by rw [evO, d_of h rfl]; rfl
theorem sx_nil : evSx p call [] env st = .ok [] st := rfl
theorem sx_one {es : List Sx} {ds : List D} (h : evX p call e env st = .ok q st1) (h1 : settle q st1 = .ok d st2) (h2 : evSx p call es env st2 = .ok ds st3) : evSx p call (.one e :: es) env st = .ok (d :: ds) st3 := by
  rw [evSx, d_of h h1]; simp only [R.bind, h2]
theorem sx_star {es : List Sx} {ds xs : List D} (h : evX p call e env st = .ok q st1) (h1 : seqOf st1 q = some xs) (h2 : evSx p call es env st1 = .ok ds st2) : evSx p call (.star e :: es) env st = .ok (xs ++ ds) st2 := by
  rw [evSx, h]; simp only [R.bind, h1, opt, h2]
theorem ks_nil : evKs p call [] env st = .ok [] st := rfl
theorem ks_cons {kx vx : Ex} {es : List Kx} {ds : List (D × D)} (h : evX p call kx env st = .ok x st1) (h1 : settle x st1 = .ok d1 st2) (h2 : evX p call vx env st2 = .ok y st3) (h3 : settle y st3 = .ok d2 st4) (h4 : evKs p call es env st4 = .ok ds st') : evKs p call (.kv kx vx :: es) env st = .ok ((d1, d2) :: ds) st' := by
  rw [evKs, d_of h h1]; simp only [R.bind]; rw [d_of h2 h3]; simp only [h4]
theorem i_seq {w : List D × Dep} (h : evX p call e env st = .ok q st1) (h1 : walked st1 q = some w) : evI p call (.seq e) env st = .ok w st1 := by
  rw [evI, h]; simp only [R.bind, h1]; rfl
theorem i_rng1 {m : Int} (h : evX p call e env st = .ok (.val (.int m)) st1) (hs : smallI m = true) : evI p call (.rng1 e) env st = .ok (rangeD 0 m.toNat, .free) st1 := by
  rw [evI, h]; simp only [R.bind, hs, if_true]
/-! ### statements -/
variable {r : RS}
theorem ss_nil : evSs p call wh [] env st = .nx env st := rfl
theorem ss_nx {s : Sm} {ss : List Sm} (h : evS p call wh s env st = .nx env1 st1) (h2 : evSs p call wh ss env1 st1 = r) : evSs p call wh (s :: ss) env st = r := by rw [evSs, h]; exact h2
theorem ss_rt {s : Sm} {ss : List Sm} (h : evS p call wh s env st = .rt d st1) : evSs p call wh (s :: ss) env st = .rt d st1 := by rw [evSs, h]; rfl
theorem ss_ex {s : Sm} {ss : List Sm} {xn : String} {fs : Fs} (h : evS p call wh s env st = .ex xn fs env1 st1) : evSs p call wh (s :: ss) env st = .ex xn fs env1 st1 := by rw [evSs, h]; rfl
theorem s_asg {t : Tp} (h : evX p call e env st = .ok q st1) (h1 : settle q st1 = .ok d st2) (h2 : bindP t d env = some env') : evS p call wh (.asg t e) env st = .nx env' st2 := by
  rw [evS, evE, d_of h h1]; simp only [R.thn, h2]
theorem s_par {is : List Nat} {es : List Ex} {ds : List D} (h : evEs p call es env st = .ok ds st1) (h2 : setAll is ds env = some env') : evS p call wh (.par is es) env st = .nx env' st1 := by
  rw [evS, h]; simp only [R.thn, h2]
theorem s_asgs {ts : List Tg} {ds : List D} (h : evX p call e env st = .ok (.val (.tup ds)) st1) (hl : ds.length = ts.length) (h2 : evG p call ts ds env st1 = r) : evS p call wh (.asgs ts e) env st = r := by
  rw [evS, evE, d_of h rfl]; simp only [R.thn, hl, if_true]; exact h2
theorem g_nil : evG p call [] [] env st = .nx env st := rfl
theorem g_sub {ts : List Tg} {ds : List D} (h1 : evX p call o env st = .ok x st1) (h2 : evX p call i env st1 = .ok y st2) (h3 : settle y st2 = .ok k st3) (h4 : evG.setI x k d st3 = .ok () st4) (h5 : evG p call ts ds env st4 = r) : evG p call (.sub o i :: ts) (d :: ds) env st = r := by
  rw [evG, h1]; simp only [R.thn, evE]; rw [d_of h2 h3]; simp only [h4]; exact h5
theorem s_sub (h : evX p call e env st = .ok q st1) (h0 : settle q st1 = .ok d st2) (h1 : evX p call o env st2 = .ok x st3) (h2 : evX p call i env st3 = .ok y st4) {st5 st6 : Store} (h3 : settle y st4 = .ok k st5) (h4 : evG.setI x k d st5 = .ok () st6) : evS p call wh (.sub o i e) env st = .nx env st6 := by
  rw [evS, evE, d_of h h0]; simp only [R.thn, h1, evE]; rw [d_of h2 h3]; simp only [h4]
theorem s_fld {f : String} (h : evX p call e env st = .ok q st1) (h0 : settle q st1 = .ok d st2) (h1 : evX p call o env st2 = .ok (.val d1) st3) (h4 : evSetF p d1 f d st3 = .ok () st4) : evS p call wh (.fld o f e) env st = .nx env st4 := by
  rw [evS, evE, d_of h h0]; simp only [R.thn, evE]; rw [d_of h1 rfl]; simp only [h4]
theorem s_expr (h : evX p call e env st = .ok q st1) : evS p call wh (.expr e) env st = .nx env st1 := by rw [evS, h]; rfl
theorem s_exprX {f xn : String} {es : List Ex} {ds : List D} {fs : Fs} (h : evEs p call es env st = .ok ds st1) (h2 : call f ds st1 = .ex xn fs st2) : evS p call wh (.expr (.call f es)) env st = .ex xn fs env st2 := by
  rw [evS, evX, h]; simp only [R.bind, h2]; rfl
theorem s_retX {f xn : String} {es : List Ex} {ds : List D} {fs : Fs} (h : evEs p call es env st = .ok ds st1) (h2 : call f ds st1 = .ex xn fs st2) : evS p call wh (.ret (.call f es)) env st = .ex xn fs env st2 := by
  rw [evS, evE, evX, h]; simp only [R.bind, h2]; rfl
theorem s_retMakeX {cn xn : String} {cd : CDef} {es : List Ex} {ds : List D} {fs : Fs} (h : evEs p call es env st = .ok ds st1) (hc : p.cls.lookup cn = some cd) (h2 : call cd.init (.obj st1.length :: ds) (st1 ++ [.ins cn []]) = .ex xn fs st2) : evS p call wh (.ret (.make cn es)) env st = .ex xn fs env st2 := by
  rw [evS, evE, evX, h]; simp only [R.bind, hc, h2]; rfl
theorem s_try_nx {body : List Sm} {hs : List Hd} (h : evSs p call wh body env st = .nx env1 st1) : evS p call wh (.trys body hs) env st = .nx env1 st1 := by rw [evS, h]
theorem s_try_ex {body : List Sm} {hs : List Hd} {xn : String} {fs : Fs} {r : RS} (h : evSs p call wh body env st = .ex xn fs env1 st1) (h2 : hands p xn fs env1 hs st1 = r) : evS p call wh (.trys body hs) env st = r := by rw [evS, h]; exact h2
theorem s_ret (h : evX p call e env st = .ok q st1) (h1 : settle q st1 = .ok d st2) : evS p call wh (.ret e) env st = .rt d st2 := by rw [evS, evE, d_of h h1]; rfl
theorem s_if {v : Bool} {as bs : List Sm} (h : evX p call c env st = .ok (.val (.bl v)) st1) (h2 : (if v then evSs p call wh as env st1 else evSs p call wh bs env st1) = r) : evS p call wh (.sif c as bs) env st = r := by
  rw [evS, evT, t_of h]; exact h2
theorem ss_app : ∀ (as bs : List Sm) (env : Env) (st : Store), evSs p call wh (as ++ bs) env st = (evSs p call wh as env st).bind (evSs p call wh bs)
  | [], bs, env, st => rfl
  | s :: as, bs, env, st => by
    rw [List.cons_append, evSs, evSs]
    cases evS p call wh s env st with
    | nx env' st' => exact ss_app as bs env' st'
    | rt d st' => rfl
    | ex x fs env' st' => rfl
    | no => rfl
theorem ss_if {v : Bool} {as bs ss : List Sm} (h : evX p call c env st = .ok (.val (.bl v)) st1) (h2 : (if v then evSs p call wh (as ++ ss) env st1 else evSs p call wh (bs ++ ss) env st1) = r) : evSs p call wh (.sif c as bs :: ss) env st = r := by
  rw [evSs, s_if h rfl, ← h2]
  cases v
  · exact (ss_app bs ss env st1).symm
  · exact (ss_app as ss env st1).symm
theorem ss_ret {ss : List Sm} (h : evX p call e env st = .ok q st1) (h1 : settle q st1 = .ok d st2) : evSs p call wh (.ret e :: ss) env st = .rt d st2 := by rw [evSs, s_ret h h1]; rfl
theorem ss_asg {t : Tp} {ss : List Sm} (h : evX p call e env st = .ok q st1) (h1 : settle q st1 = .ok d st2) (h2 : bindP t d env = some env') (h3 : evSs p call wh ss env' st2 = r) : evSs p call wh (.asg t e :: ss) env st = r := ss_nx (s_asg h h1 h2) h3
/-- a for's turn -/
def forF (p : Prg) (call : String → List D → Store → R D) (wh : Nat) (t : Tp) (body : List Sm) : D → Env → Store → RS := fun x env st => match bindP t x env with
      | some env' => evSs p call wh body env' st
      | none => .no
theorem s_for {t : Tp} {it : It} {body : List Sm} {w : List D × Dep} (h : evI p call it env st = .ok w st1) (h2 : RS.unlock w.2 (forL w.2 (forF p call wh t body) w.1 env (w.2.lock st1)) = r) : evS p call wh (.sfor t it body) env st = r := by
  rw [evS, h]; exact h2
theorem for_nx {dep : Dep} {f : D → Env → Store → RS} {dx : D} {xs : List D} (h : f dx env st = .nx env1 st1) (hd : dep.ok st1 = true) : forL dep f (dx :: xs) env st = forL dep f xs env1 st1 := by
  rw [forL, h]; exact if_pos hd
theorem for_ex {dep : Dep} {f : D → Env → Store → RS} {dx : D} {xs : List D} {xn : String} {fs : Fs} (h : f dx env st = .ex xn fs env1 st1) : forL dep f (dx :: xs) env st = .ex xn fs env1 st1 := by rw [forL, h]
theorem for_rt {dep : Dep} {f : D → Env → Store → RS} {dx : D} {xs : List D} (h : f dx env st = .rt d st1) : forL dep f (dx :: xs) env st = .rt d st1 := by rw [forL, h]
theorem s_while {bs : List Sm} (h : whileN (fun env st => evT p call c env st) (fun env st => evSs p call wh bs env st) wh env st = r) : evS p call wh (.swhile c bs) env st = r := h
theorem while_t {cf : Env → Store → R Bool} {f : Env → Store → RS} {n : Nat} (h : cf env st = .ok true st1) (h2 : f env st1 = .nx env2 st2) (h3 : whileN cf f n env2 st2 = r) : whileN cf f (n + 1) env st = r := by
  rw [whileN, h]; simp only [R.thn, if_true, h2, RS.bind]; exact h3
theorem while_f {cf : Env → Store → R Bool} {f : Env → Store → RS} {n : Nat} (h : cf env st = .ok false st1) : whileN cf f (n + 1) env st = .nx env st1 := by
  rw [whileN, h]; rfl
theorem s_raise {xn : String} {es : List Ex} {ds : List D} (h : evEs p call es env st = .ok ds st1) (h2 : mkExc p xn ds env st1 = r) : evS p call wh (.raise xn es) env st = r := by rw [evS, h]; exact h2
end
end Eng
/-! P0b: what operations give. -/
namespace Eng
open PySem PyProof.Rows
section
variable {p : Prg} {call : String → List D → Store → R D} {st : Store} {i j k : Int} {n : Nat} {xs ys : List D} {d : D}
theorem small_ok {n : Nat} (h : n ≤ 16777216) : small n = true := decide_eq_true h
theorem settle_val : Eng.settle (.val d) st = .ok d st := rfl
theorem settle_fresh : Eng.settle (.fresh xs) st = .ok (.obj st.length) (st ++ [.lst xs]) := rfl
theorem b_add : binop .add (.val (.int i)) (.val (.int j)) st = .ok (.val (.int (i + j))) st := rfl
theorem b_sub : binop .sub (.val (.int i)) (.val (.int j)) st = .ok (.val (.int (i - j))) st := rfl
theorem b_mul (h : -(2 ^ 64) < j ∧ j < 2 ^ 64) : binop .mul (.val (.int i)) (.val (.int j)) st = .ok (.val (.int (i * j))) st := by
  show (if mulOk i j = true then val (.int (i * j)) st else .no) = _
  rw [if_pos (by unfold mulOk; exact decide_eq_true (.inr h))]; rfl
theorem b_mod (h : 0 < j) : binop .mod (.val (.int i)) (.val (.int j)) st = .ok (.val (.int (i % j))) st := by
  show (if 0 < j then val (.int (i % j)) st else .no) = _
  rw [if_pos h]; rfl
theorem b_fdiv (h : 0 < j ∧ j < 1073741824) : binop .fdiv (.val (.int i)) (.val (.int j)) st = .ok (.val (.int (i / j))) st := by
  show (if 0 < j ∧ j < 1073741824 then val (.int (i / j)) st else .no) = _
  rw [if_pos h]; rfl
theorem b_pow (h : 0 ≤ j ∧ j ≤ 1000 ∧ i.natAbs < 2 ^ 64) : binop .pow (.val (.int i)) (.val (.int j)) st = .ok (.val (.int (i ^ j.toNat))) st := by
  show (if 0 ≤ j ∧ j ≤ 1000 ∧ i.natAbs < 2 ^ 64 then val (.int (i ^ j.toNat)) st else .no) = _
  rw [if_pos h]; rfl
theorem b_add_str {a b : Str} (h : a.length + b.length ≤ 16777216) : binop .add (.val (.str a)) (.val (.str b)) st = .ok (.val (.str (a ++ b))) st := by
  show (if small (a.length + b.length) = true then val (.str (a ++ b)) st else .no) = _
  rw [if_pos (small_ok h)]; rfl
theorem b_add_tup (h : xs.length + ys.length ≤ 16777216) : binop .add (.val (.tup xs)) (.val (.tup ys)) st = .ok (.val (.tup (xs ++ ys))) st := by
  show (if small (xs.length + ys.length) = true then val (.tup (xs ++ ys)) st else .no) = _
  rw [if_pos (small_ok h)]; rfl
/-- a list, or a list's place -/
theorem b_add_lst {a b : Sq} (ha : mlst st a = some xs) (hb : mlst st b = some ys) (h : xs.length + ys.length ≤ 16777216) : binop .add a b st = .ok (.fresh (xs ++ ys)) st := by
  have key : (match mlst st a, mlst st b with
    | some x, some y => if small (x.length + y.length) then R.ok (Sq.fresh (x ++ y)) st else .no
    | _, _ => .no) = .ok (.fresh (xs ++ ys)) st := by
    rw [ha, hb]
    show (if small (xs.length + ys.length) = true then R.ok (Sq.fresh (xs ++ ys)) st else .no) = _
    rw [if_pos (small_ok h)]
  cases a with
  | fresh xs => exact key
  | val x =>
    cases x with
    | obj i => exact key
    | _ => cases ha
theorem m_fresh : mlst st (.fresh xs) = some xs := rfl
theorem m_obj (h : st[n]? = some (.lst xs)) : mlst st (.val (.obj n)) = some xs := by unfold mlst; simp only [h]
theorem l_fresh : lstOf st (.fresh xs) = some xs := rfl
theorem l_obj (h : st[n]? = some (.lst xs)) : lstOf st (.val (.obj n)) = some xs := by unfold lstOf; simp only [h]
theorem q_tup : seqOf st (.val (.tup xs)) = some xs := rfl
theorem q_fresh : seqOf st (.fresh xs) = some xs := rfl
theorem q_obj (h : st[n]? = some (.lst xs)) : seqOf st (.val (.obj n)) = some xs := l_obj h
theorem ix_seq {a : Sq} (h : seqOf st a = some xs) (h2 : L2.atI xs k = some d) : idxV a (.int k) st = .ok (.val d) st := by
  unfold idxV; rw [h]; simp only [h2]; rfl
theorem ix_dic {kvs : List (D × D)} {kd : D} {kk : NestedKey} (h : st[n]? = some (.dic kvs)) (hk : kd.key = some kk) (h2 : dLook kvs kk = some d) : idxV (.val (.obj n)) kd st = .ok (.val d) st := by
  unfold idxV
  have e : seqOf st (.val (.obj n)) = none := by unfold seqOf lstOf; simp only [h]
  rw [e]
  have e2 : dicAt st (.obj n) = some kvs := by unfold dicAt; simp only [h]
  simp only [e2, hk, h2]; rfl
theorem atI_nat {m : Nat} (h : xs[m]? = some d) : L2.atI xs (m : Int) = some d := by
  unfold L2.atI L2.ixN
  have hm := (List.getElem?_eq_some_iff.mp h).1
  rw [if_pos (by omega), if_pos (by omega)]
  simpa using h
theorem c_lt : cmpV p call .lt (.val (.int i)) (.val (.int j)) st = .ok (.val (.bl (decide (i < j)))) st := rfl
theorem c_le : cmpV p call .le (.val (.int i)) (.val (.int j)) st = .ok (.val (.bl (decide (i ≤ j)))) st := rfl
theorem c_gt : cmpV p call .gt (.val (.int i)) (.val (.int j)) st = .ok (.val (.bl (decide (j < i)))) st := rfl
theorem c_ge : cmpV p call .ge (.val (.int i)) (.val (.int j)) st = .ok (.val (.bl (decide (j ≤ i)))) st := rfl
theorem c_eq_int : cmpV p call .eq (.val (.int i)) (.val (.int j)) st = .ok (.val (.bl (decide (i = j)))) st := by
  show R.ok (Sq.val (.bl (PyData.eqv (.int i) (.int j) != false))) st = _
  rw [show PyData.eqv (.int i) (.int j) = decide (i = j) from rfl]; simp
theorem c_ne_int : cmpV p call .ne (.val (.int i)) (.val (.int j)) st = .ok (.val (.bl (!decide (i = j)))) st := by
  show R.ok (Sq.val (.bl (PyData.eqv (.int i) (.int j) != true))) st = _
  rw [show PyData.eqv (.int i) (.int j) = decide (i = j) from rfl]; simp
theorem f_len_seq {a : Sq} (h : seqOf st a = some xs) : bfV .len a st = .ok (.val (.int xs.length)) st := by unfold bfV; simp only [h]; rfl
theorem f_len_dic {kvs : List (D × D)} (h : st[n]? = some (.dic kvs)) : bfV .len (.val (.obj n)) st = .ok (.val (.int kvs.length)) st := by
  have e : seqOf st (.val (.obj n)) = none := by unfold seqOf lstOf; simp only [h]
  have e2 : dicAt st (.obj n) = some kvs := by unfold dicAt; simp only [h]
  unfold bfV; simp only [e, e2]; rfl
theorem f_int : bfV .int (.val (.int i)) st = .ok (.val (.int i)) st := rfl
theorem f_list {a : Sq} {w : List D × Dep} (h : walked st a = some w) : bfV .list a st = .ok (.fresh w.1) st := by unfold bfV; simp only [h]; rfl
theorem f_tuple {a : Sq} (h : seqOf st a = some xs) : bfV .tuple a st = .ok (.val (.tup xs)) st := by unfold bfV; simp only [h]; rfl
theorem f_all {a : Sq} {bs : List Bool} (h : lstOf st a = some xs) (hb : optM truth xs = some bs) : bfV .all a st = .ok (.val (.bl (bs.all id))) st := by unfold bfV; simp only [h, Option.bind, hb]; rfl
theorem f_any {a : Sq} {bs : List Bool} (h : lstOf st a = some xs) (hb : optM truth xs = some bs) : bfV .any a st = .ok (.val (.bl (bs.any id))) st := by unfold bfV; simp only [h, Option.bind, hb]; rfl
theorem f_sorted {a : Sq} (h : lstOf st a = some xs) (hs : sortable xs = true) : bfV .sorted a st = .ok (.fresh (sortD xs)) st := by
  unfold bfV
  simp only [h]
  exact if_pos hs
theorem set_lst {x : Int} {m : Nat} (h : st[n]? = some (.lst xs)) (hx : L2.ixN xs.length x = some m) : evG.setI (.val (.obj n)) (.int x) d st = .ok () (st.set n (.lst (xs.set m d))) := by
  unfold evG.setI; simp only [h, hx]
theorem set_dic {kvs : List (D × D)} {kd : D} {kk : NestedKey} (h : st[n]? = some (.dic kvs)) (hk : kd.key = some kk) (hs : kvs.length + 1 ≤ 16777216) : evG.setI (.val (.obj n)) kd d st = .ok () (st.set n (.dic (dPut kvs kd kk d))) := by
  unfold evG.setI
  simp only [h]
  have e : small (kvs.length + 1) = true := small_ok hs
  cases kd <;> simp only [hk, e, if_true]
theorem key_str {s : Str} : (D.str s).key = some (.text s) := rfl
/-! ### stores -/
theorem lk_self {st : Store} {n : Nat} {o : O} (h : n < st.length) : (st.set n o)[n]? = some o := List.getElem?_set_self h
theorem lk_ne {st : Store} {n m : Nat} {o : O} {r : Option O} (h : n ≠ m) (e : st[m]? = r) : (st.set n o)[m]? = r := by rw [List.getElem?_set_ne h]; exact e
theorem lk_left {st nw : Store} {n : Nat} {o : O} (e : st[n]? = some o) : (st ++ nw)[n]? = some o := by
  rw [List.getElem?_append_left (List.getElem?_eq_some_iff.mp e).1]; exact e
theorem lk_new {st : Store} {o : O} : (st ++ [o])[st.length]? = some o := by simp
theorem lk_lt {st : Store} {n : Nat} {o : O} (e : st[n]? = some o) : n < st.length := (List.getElem?_eq_some_iff.mp e).1
theorem set_id {st : Store} {n : Nat} {o : O} (e : st[n]? = some o) : st.set n o = st := by
  apply List.ext_getElem?
  intro i
  by_cases h : n = i
  · subst h; rw [List.getElem?_set_self (lk_lt e), e]
  · rw [List.getElem?_set_ne h]
/-! ### comprehensions -/
def consO {α : Type} (o : Option α) (ys : List α) : List α := match o with
  | some y => y :: ys
  | none => ys
theorem comp_cons {α : Type} {dep : Dep} {f : D → Store → R (Option α)} {x : D} {st1 st2 : Store} {o : Option α} {ys : List α} (h : f x st = .ok o st1) (hd : dep.ok st1 = true) (h2 : compL dep f xs st1 = .ok ys st2) : compL dep f (x :: xs) st = .ok (consO o ys) st2 := by
  rw [compL]
  simp only [h, hd, if_true, h2]
  rfl
/-- turns that only make new things -/
theorem comp_app {α : Type} {dep : Dep} {f : D → Store → R (Option α)} {g : D → Option α} (hd : ∀ nw, dep.ok (st ++ nw) = true) : ∀ (xs : List D) (nw0 : Store), (∀ x ∈ xs, ∀ nw, ∃ nw', f x (st ++ nw) = .ok (g x) (st ++ nw')) → ∃ nw, compL dep f xs (st ++ nw0) = .ok (xs.filterMap g) (st ++ nw)
  | [], nw0, _ => ⟨nw0, rfl⟩
  | x :: xs, nw0, h => by
    obtain ⟨nw1, e1⟩ := h x (List.mem_cons_self ..) nw0
    obtain ⟨nw2, e2⟩ := comp_app hd xs nw1 fun y hy => h y (List.mem_cons_of_mem _ hy)
    refine ⟨nw2, ?_⟩
    rw [comp_cons e1 (hd _) e2, List.filterMap_cons]
    cases g x <;> rfl
theorem filterMap_some {α β : Type} (f : α → β) (l : List α) : (l.filterMap fun x => some (f x)) = l.map f := by
  induction l with
  | nil => rfl
  | cons a l ih => simp
/-! ### calls -/
theorem callF_eq {wh m : Nat} {f : String} {fd : FDef} {ds : List D} (h : p.fns.lookup f = some fd) (hl : ds.length = fd.np) : callF p wh (m + 1) f ds st = match evSs p (callF p wh m) wh fd.body (ds.map some ++ List.replicate (fd.ns - fd.np) none) st with
        | .nx _ st' => gcs fd.gc st .non st'
        | .rt d st' => gcs fd.gc st d st'
        | .ex x fs _ st' => gcx fd.gc st x fs st'
        | .no => .no := by
  rw [callF, h]
  exact if_pos hl
theorem keptS_setapp (n : Nat) : ∀ (a : Store) (i : Nat) (o : O) (b : Store), o.und n = true → keptS n a (a.set i o ++ b) = true
  | [], _, _, _, _ => rfl
  | u :: r, 0, o, b, h => by simp only [List.set_cons_zero, List.cons_append, keptS, h, Bool.or_true, Bool.true_and, keptS_app n r b]
  | u :: r, i + 1, o, b, h => by simp only [List.set_cons_succ, List.cons_append, keptS, O.beq_refl, Bool.true_or, Bool.true_and, keptS_setapp n r i o b h]
theorem take_app {a b : Store} : (a ++ b).take a.length = a := by simp
/-- the store is as before, but for what is new: that is thrown away -/
theorem call_data {wh m : Nat} {f : String} {fd : FDef} {ds : List D} {nw : Store} (h : p.fns.lookup f = some fd) (hl : ds.length = fd.np) (hg : fd.gc = .data) (he : evSs p (callF p wh m) wh fd.body (ds.map some ++ List.replicate (fd.ns - fd.np) none) st = .rt d (st ++ nw)) (hf : d.flat = true) : callF p wh (m + 1) f ds st = .ok d st := by
  rw [callF_eq h hl, he]
  dsimp only
  rw [hg]
  unfold gcs
  dsimp only
  rw [hf, keptS_app, take_app]
  rfl
theorem call_nx_data {wh m : Nat} {f : String} {fd : FDef} {ds : List D} {nw : Store} {env : Env} (h : p.fns.lookup f = some fd) (hl : ds.length = fd.np) (hg : fd.gc = .data) (he : evSs p (callF p wh m) wh fd.body (ds.map some ++ List.replicate (fd.ns - fd.np) none) st = .nx env (st ++ nw)) : callF p wh (m + 1) f ds st = .ok .non st := by
  rw [callF_eq h hl, he]
  dsimp only
  rw [hg]
  unfold gcs
  dsimp only
  rw [keptS_app, take_app]
  rfl
/-- one object is changed, and data handed back -/
theorem call_set {wh m : Nat} {f : String} {fd : FDef} {ds : List D} {nw : Store} {j : Nat} {o : O} (h : p.fns.lookup f = some fd) (hl : ds.length = fd.np) (hg : fd.gc = .data) (he : evSs p (callF p wh m) wh fd.body (ds.map some ++ List.replicate (fd.ns - fd.np) none) st = .rt d (st.set j o ++ nw)) (hf : d.flat = true) (ho : o.und st.length = true) : callF p wh (m + 1) f ds st = .ok d (st.set j o) := by
  rw [callF_eq h hl, he]
  dsimp only
  rw [hg]
  unfold gcs
  dsimp only
  have e1 : (st.set j o ++ nw).take st.length = st.set j o := by
    rw [show st.length = (st.set j o).length by simp]; exact take_app
  have e2 : keptS st.length st (st.set j o ++ nw) = true := keptS_setapp _ _ _ _ _ ho
  rw [hf, e1, e2]
  rfl
/-- a new list of data is kept alone -/
theorem call_fresh {wh m : Nat} {f : String} {fd : FDef} {ds : List D} {nw : Store} (h : p.fns.lookup f = some fd) (hl : ds.length = fd.np) (hg : fd.gc = .fresh) {j : Nat} (he : evSs p (callF p wh m) wh fd.body (ds.map some ++ List.replicate (fd.ns - fd.np) none) st = .rt (.obj (st.length + j)) (st ++ nw)) (hj : nw[j]? = some (.lst xs)) (hf : D.flats xs = true) : callF p wh (m + 1) f ds st = .ok (.obj st.length) (st ++ [.lst xs]) := by
  rw [callF_eq h hl, he]
  dsimp only
  rw [hg]
  unfold gcs
  dsimp only
  rw [List.getElem?_append_right (by omega), show st.length + j - st.length = j by omega, hj]
  dsimp only
  rw [keptS_app, take_app, show (O.lst xs).flat = true from hf, if_pos (by simp)]
/-- kept as it is -/
theorem call_keep {wh m : Nat} {f : String} {fd : FDef} {ds : List D} {st' : Store} (h : p.fns.lookup f = some fd) (hl : ds.length = fd.np) (hg : fd.gc = .keep) (he : evSs p (callF p wh m) wh fd.body (ds.map some ++ List.replicate (fd.ns - fd.np) none) st = .rt d st') : callF p wh (m + 1) f ds st = .ok d st' := by
  rw [callF_eq h hl, he]
  dsimp only
  rw [hg]; rfl
theorem call_keepN {wh m : Nat} {f : String} {fd : FDef} {ds : List D} {st' : Store} {env : Env} (h : p.fns.lookup f = some fd) (hl : ds.length = fd.np) (hg : fd.gc = .keep) (he : evSs p (callF p wh m) wh fd.body (ds.map some ++ List.replicate (fd.ns - fd.np) none) st = .nx env st') : callF p wh (m + 1) f ds st = .ok .non st' := by
  rw [callF_eq h hl, he]
  dsimp only
  rw [hg]; rfl
end
end Eng
/-! P0c: the evaluator's run of the further forms. -/
namespace Eng
open PySem PyProof.Rows
section
variable {p : Prg} {call : String → List D → Store → R D} {env : Env} {st st1 st2 st3 st4 : Store} {a b o e s k v : Ex} {q x y : Sq} {d d1 d2 : D}
theorem x_isc {C : String} {t : Bool} (h : evX p call a env st = .ok q st1) (h2 : settle q st1 = .ok d st2) (hc : clsOk p st2 d = true) (ht : tyIs st2 (.cls C) d = some t) : evX p call (.isc a C) env st = .ok (.val (.bl t)) st2 := by
  rw [evX, h]
  show (settle q st1).bind _ = _
  rw [h2]
  show (if clsOk p st2 d then (opt (tyIs st2 (.cls C) d) st2).bind fun b st => val (.bl b) st else .no) = _
  rw [if_pos hc, ht]
  rfl
theorem x_eqo {neg : Bool} {r : R Sq} (ha : evX p call a env st = .ok x st1) (hb : evX p call b env st1 = .ok y st2) (hr : eqoV p p.eqs call neg x y st2 = r) : evX p call (.eqo neg a b) env st = r := by
  rw [evX, ha]
  show (evX p call b env st1).bind _ = _
  rw [hb]
  exact hr
theorem x_sortT {r : R Sq} (ha : evX p call a env st = .ok x st1) (hr : sortV x st1 = r) : evX p call (.sortT a) env st = r := by
  rw [evX, ha]; exact hr
theorem x_dictP {r : R Sq} (ha : evX p call a env st = .ok x st1) (hr : dpV x st1 = r) : evX p call (.dictP a) env st = r := by
  rw [evX, ha]; exact hr
theorem x_items {r : R Sq} (ha : evX p call a env st = .ok x st1) (hr : itmV x st1 = r) : evX p call (.itemsL a) env st = r := by
  rw [evX, ha]; exact hr
theorem x_clr {r : R Sq} (ha : evX p call a env st = .ok x st1) (hr : dclV x st1 = r) : evX p call (.clr a) env st = r := by
  rw [evX, ha]; exact hr
theorem x_rev {xs : List D} (ha : evX p call a env st = .ok x st1) (hr : lstOf st1 x = some xs) : evX p call (.rev a) env st = .ok (.fresh xs.reverse) st1 := by
  rw [evX, ha]
  show (match lstOf st1 x with
    | some xs => R.ok (Sq.fresh xs.reverse) st1
    | none => .no) = _
  rw [hr]
theorem x_app {i : Nat} {xs ys : List D} (ho : evX p call o env st = .ok (.val (.obj i)) st1) (h1 : st1[i]? = some (.lst xs)) (ha : asD (evX p call a env st1) = .ok d st2) (h2 : st2[i]? = some (.lst ys)) (hz : small (ys.length + 1) = true) : evX p call (.app o a) env st = .ok (.val .non) (st2.set i (.lst (ys ++ [d]))) := by
  rw [evX, ho]
  show (match st1[i]? with
      | some (.lst _) => (asD (evX p call a env st1)).bind fun d st => appV (.val (.obj i)) d st
      | _ => .no) = _
  rw [h1]
  dsimp only
  rw [ha]
  show (match st2[i]? with
    | some (.lst xs) => if small (xs.length + 1) then val .non (st2.set i (.lst (xs ++ [d]))) else .no
    | _ => .no) = _
  rw [h2]
  dsimp only
  rw [if_pos hz]
  rfl
theorem x_raw {f c : String} {i : Nat} {fs : Fs} (ho : asD (evX p call o env st) = .ok (.obj i) st1) (h1 : st1[i]? = some (.ins c fs)) (hp : ∃ cd, p.cls.lookup c = some cd ∧ cd.prps.lookup f = none) (hr : rawA p c f = true) (hf : fs.lookup f = some d) : evX p call (.attr f o) env st = .ok (.val d) st1 := by
  obtain ⟨cd, h2, h3⟩ := hp
  rw [evX, ho]
  show (match st1[i]? with
      | some (.ins c fs) => fld p call c fs i f st1
      | _ => .no) = _
  rw [h1]
  dsimp only
  unfold fld
  rw [h2]
  dsimp only
  rw [h3]
  dsimp only
  rw [if_pos hr, hf]
  rfl
theorem x_prop {f c g : String} {i : Nat} {fs : Fs} (ho : asD (evX p call o env st) = .ok (.obj i) st1) (h1 : st1[i]? = some (.ins c fs)) (hp : ∃ cd, p.cls.lookup c = some cd ∧ cd.prps.lookup f = some g) (hc : call g [.obj i] st1 = .ok d st2) : evX p call (.attr f o) env st = .ok (.val d) st2 := by
  obtain ⟨cd, h2, h3⟩ := hp
  rw [evX, ho]
  show (match st1[i]? with
      | some (.ins c fs) => fld p call c fs i f st1
      | _ => .no) = _
  rw [h1]
  dsimp only
  unfold fld
  rw [h2]
  dsimp only
  rw [h3]
  dsimp only
  rw [hc]
  rfl
theorem x_methR {m c g : String} {i : Nat} {fs : Fs} {args : List Ex} {ds : List D} {r : R D} (ho : asD (evX p call o env st) = .ok (.obj i) st1) (h1 : st1[i]? = some (.ins c fs)) (hp : ∃ cd, p.cls.lookup c = some cd ∧ cd.mets.lookup m = some g) (hf : fs.lookup m = none) (ha : evEs p call args env st1 = .ok ds st2) (hc : call g (.obj i :: ds) st2 = r) :
    evX p call (.meth m o args) env st = r.bind fun d st => val d st := by
  obtain ⟨cd, h2, h3⟩ := hp
  rw [evX, ho]
  show (match st1[i]? with
      | some (.ins c fs) => match p.cls.lookup c, fs.lookup m with
        | some cd, none => match cd.mets.lookup m with
          | some g => (evEs p call args env st1).bind fun ds st => (call g (.obj i :: ds) st).bind fun d st => val d st
          | none => .no
        | _, _ => .no
      | _ => .no) = _
  rw [h1]
  dsimp only
  rw [h2, hf]
  dsimp only
  rw [h3]
  dsimp only
  rw [ha]
  show (call g (.obj i :: ds) st2).bind _ = _
  rw [hc]
theorem x_star {i : Nat} {more l : List (D × D)} (hs : evX p call s env st = .ok (.val (.obj i)) st1) (h1 : st1[i]? = some (.dic more)) (hm : (more.all (fun p => isKeyD p.1) && small (more.length + 1)) = true) (hk : asD (evX p call k env st1) = .ok d1 st2) (hv : asD (evX p call v env st2) = .ok d2 st3) (h2 : isKeyD d1 = true) (hl : putAll more [(d1, d2)] = some l) :
    evX p call (.star s k v) env st = .ok (.val (.obj st3.length)) (st3 ++ [.dic l]) := by
  rw [evX, hs]
  show (match st1[i]? with
      | some (.dic more) => if (more.all (fun p => isKeyD p.1) && small (more.length + 1)) = true then (asD (evX p call k env st1)).bind fun kd st => (asD (evX p call v env st)).bind fun vd st => if isKeyD kd = true then (opt (putAll more [(kd, vd)]) st).bind fun l st => R.ok (Sq.val (.obj st.length)) (st ++ [O.dic l]) else .no else .no
      | _ => .no) = _
  rw [h1]
  dsimp only
  rw [if_pos hm, hk]
  show (asD (evX p call v env st2)).bind _ = _
  rw [hv]
  show (if isKeyD d1 = true then (opt (putAll more [(d1, d2)]) st3).bind fun l st => R.ok (Sq.val (.obj st.length)) (st ++ [O.dic l]) else .no) = _
  rw [if_pos h2, hl]
  rfl
end
end Eng
/-! P0d: the evaluator's run of the third stage's forms. -/
namespace Eng
open PySem PyProof.Rows
section
variable {p : Prg} {call : String → List D → Store → R D} {wh : Nat} {env : Env} {st st1 st2 st3 st4 : Store} {a b o e s k v : Ex} {q x y : Sq} {d d1 d2 : D}
theorem s_afl {f c : String} {i : Nat} {fs : Fs} {n m : Int} (h : evX p call o env st = .ok (.val (.obj i)) st1) (h1 : st1[i]? = some (.ins c fs)) (hc : fs.length < 50 ∧ rawA p c f = true) (hx : fs.lookup f = some (.int m)) :
    evS p call wh (.afl o f .add (.cst (.int n))) env st = .nx env (st1.set i (.ins c (putA f (.int (m + n)) fs))) := by
  rw [evS, evE, d_of h rfl]
  simp only [R.thn, aflV, h1, hx]
  rw [if_pos hc]
theorem s_aug {i : Nat} {n m : Int} (h : env[i]? = some (some (.int m))) : evS p call wh (.aug i .add (.cst (.int n))) env st = .nx (env.set i (some (.int (m + n)))) st := by
  rw [evS, h]
  rfl
theorem x_num {s : Str} {n : Int} (h : evX p call a env st = .ok (.val (.str s)) st1) (hn : PySem.intText? s = some n) (hl : s.length ≤ 640) : evX p call (.num a) env st = .ok (.val (.int n)) st1 := by
  rw [evX, h]
  show numV (.val (.str s)) st1 = _
  unfold numV
  dsimp only
  rw [hn]
  dsimp only
  rw [if_pos hl]
  rfl
theorem x_txt {n : Int} (h : evX p call a env st = .ok (.val (.int n)) st1) (hn : n.natAbs.log2 < 1920) : evX p call (.txt a) env st = .ok (.val (.str (toString n))) st1 := by
  rw [evX, h]
  show strV (.val (.int n)) st1 = _
  unfold strV
  dsimp only
  rw [if_pos hn]
  rfl
theorem x_ext {i : Nat} {xs ys zs : List D} (ho : evX p call o env st = .ok (.val (.obj i)) st1) (h1 : st1[i]? = some (.lst xs)) (ha : evX p call a env st1 = .ok q st2) (h2 : st2[i]? = some (.lst ys)) (h3 : mlst st2 q = some zs) (hz : small (ys.length + zs.length) = true) :
    evX p call (.ext o a) env st = .ok (.val .non) (st2.set i (.lst (ys ++ zs))) := by
  rw [evX, ho]
  show (match st1[i]? with
      | some (.lst _) => (evX p call a env st1).bind fun y st => extV i y st
      | _ => .no) = _
  rw [h1]
  dsimp only
  rw [ha]
  show extV i q st2 = _
  unfold extV
  rw [h2, h3]
  dsimp only
  rw [if_pos hz]
  rfl
theorem x_tx {m : Tm} {z : Str} {r : R Sq} (ho : evX p call o env st = .ok (.val (.str z)) st1) (ha : evX p call a env st1 = .ok q st2) (hr : txV m (.val (.str z)) q st2 = r) : evX p call (.tx m o a) env st = r := by
  rw [evX, ho]
  show (evX p call a env st1).bind _ = _
  rw [ha]
  exact hr
theorem t_split {s sep : Str} (h : sep.length ≠ 0) (hz : s.length + 2 ≤ 16777216) : txV .split (.val (.str s)) (.val (.str sep)) st = .ok (.fresh ((Txt.split s sep).map .str)) st := by
  show (if decide (sep.length ≠ 0) && small (s.length + 2) then R.ok (Sq.fresh ((Txt.split s sep).map .str)) st else .no) = _
  rw [if_pos]
  rw [decide_eq_true h]
  exact decide_eq_true hz
theorem strsOf_map : ∀ ws : List Str, strsOf (ws.map .str) = some ws
  | [] => rfl
  | w :: ws => by rw [List.map_cons, strsOf, strsOf_map ws]; rfl
theorem t_join {s : Str} {ws : List Str} {q : Sq} (h : seqOf st q = some (ws.map .str)) (hz : (ws.map (·.length)).sum + ws.length * s.length ≤ 16777216) : txV .join (.val (.str s)) q st = .ok (.val (.str (Txt.join s ws))) st := by
  show joinV (.val (.str s)) q st = _
  unfold joinV
  dsimp only
  rw [h]
  dsimp only [Option.bind]
  rw [strsOf_map]
  dsimp only
  rw [if_pos (decide_eq_true hz)]
  rfl
theorem t_strip {s sep : Str} (hz : s.length ≤ 16777216) : txV .strip (.val (.str s)) (.val (.str sep)) st = .ok (.val (.str (Txt.stripChars s sep))) st := by
  show (if small s.length then val (.str (Txt.stripChars s sep)) st else .no) = _
  rw [if_pos (small_ok hz)]
  rfl
theorem i_rng2 {m n : Int} (h : evX p call a env st = .ok (.val (.int m)) st1) (h2 : evX p call b env st1 = .ok (.val (.int n)) st2) (h3 : smallI m = true) (h4 : smallI n = true) : evI p call (.rng2 a b) env st = .ok (rangeD m (n - m).toNat, .free) st2 := by
  rw [evI, h]
  simp only [R.bind, h2]
  rw [h3, h4]
  rfl
/-! ### what is raised -/
variable {xn : String} {fs : Fs} {env2 : Env}
theorem es_X {es : List Ex} (h : evX p call e env st = .ex xn fs st1) : evEs p call (e :: es) env st = .ex xn fs st1 := by
  rw [evEs, h]; rfl
theorem es_X2 {es : List Ex} (h : evX p call e env st = .ok q st1) (h1 : settle q st1 = .ok d st2) (h2 : evEs p call es env st2 = .ex xn fs st3) : evEs p call (e :: es) env st = .ex xn fs st3 := by
  rw [evEs, d_of h h1]; simp only [R.bind, h2]
theorem x_lstX {es : List Ex} (h : evEs p call es env st = .ex xn fs st1) : evX p call (.lst es) env st = .ex xn fs st1 := by rw [evX, h]; rfl
theorem x_tupX {es : List Ex} (h : evEs p call es env st = .ex xn fs st1) : evX p call (.tup es) env st = .ex xn fs st1 := by rw [evX, h]; rfl
theorem x_idxX {i : Ex} (h : evX p call a env st = .ex xn fs st1) : evX p call (.idx a i) env st = .ex xn fs st1 := by rw [evX, h]; rfl
theorem x_callX {f : String} {es : List Ex} {ds : List D} (h : evEs p call es env st = .ok ds st1) (h2 : call f ds st1 = .ex xn fs st2) : evX p call (.call f es) env st = .ex xn fs st2 := by
  rw [evX, h]; simp only [R.bind, h2]
theorem x_appX {i : Nat} {xs : List D} (ho : evX p call o env st = .ok (.val (.obj i)) st1) (h1 : st1[i]? = some (.lst xs)) (ha : evX p call a env st1 = .ex xn fs st2) : evX p call (.app o a) env st = .ex xn fs st2 := by
  rw [evX, ho]
  show (match st1[i]? with
      | some (.lst _) => (asD (evX p call a env st1)).bind fun d st => appV (.val (.obj i)) d st
      | _ => .no) = _
  rw [h1]
  dsimp only
  rw [ha]
  rfl
theorem s_asgE {t : Tp} (h : evX p call e env st = .ex xn fs st1) : evS p call wh (.asg t e) env st = .ex xn fs env st1 := by
  rw [evS, evE, h]; rfl
theorem s_exprE (h : evX p call e env st = .ex xn fs st1) : evS p call wh (.expr e) env st = .ex xn fs env st1 := by
  rw [evS, h]; rfl
theorem s_retE (h : evX p call e env st = .ex xn fs st1) : evS p call wh (.ret e) env st = .ex xn fs env st1 := by
  rw [evS, evE, h]; rfl
theorem s_subE {i : Ex} (h : evX p call e env st = .ex xn fs st1) : evS p call wh (.sub o i e) env st = .ex xn fs env st1 := by
  rw [evS, evE, h]; rfl
theorem while_x {cf : Env → Store → R Bool} {f : Env → Store → RS} {n : Nat} (h : cf env st = .ok true st1) (h2 : f env st1 = .ex xn fs env2 st2) : whileN cf f (n + 1) env st = .ex xn fs env2 st2 := by
  rw [whileN, h]; simp only [R.thn, if_true, h2, RS.bind]
theorem call_keepX {m : Nat} {f : String} {fd : FDef} {ds : List D} {st' : Store} (h : p.fns.lookup f = some fd) (hl : ds.length = fd.np) (hg : fd.gc = .keep) (he : evSs p (callF p wh m) wh fd.body (ds.map some ++ List.replicate (fd.ns - fd.np) none) st = .ex xn fs env st') : callF p wh (m + 1) f ds st = .ex xn fs st' := by
  rw [callF_eq h hl, he]
  dsimp only
  rw [hg]; rfl
end
end Eng
/-! TX: laws of texts: words, lines. -/
namespace Eng
open PySem TL
abbrev sp1 : Str := Str.ofString " "
abbrev nl1 : Str := Str.ofString "\n"
abbrev emp : Str := Str.ofString ""
theorem tl_sp : tl sp1 = [32] := by decide +kernel
theorem tl_nl : tl nl1 = [10] := by decide +kernel
theorem tl_emp : tl emp = [] := by decide +kernel
theorem sp_is : sp1 = ⟨#[32]⟩ := ext_tl tl_sp
theorem nl_is : nl1 = ⟨#[10]⟩ := ext_tl tl_nl
theorem split_sp {parts : List Str} (hne : parts ≠ []) (hp : ∀ p ∈ parts, 32 ∉ tl p) : Txt.split (Txt.join sp1 parts) sp1 = parts := split_join (S := []) tl_sp (by decide +kernel) hne hp
theorem split_nl {parts : List Str} (hne : parts ≠ []) (hp : ∀ p ∈ parts, 10 ∉ tl p) : Txt.split (Txt.join nl1 parts) nl1 = parts := split_join (S := []) tl_nl (by decide +kernel) hne hp
theorem join_cons {y p q : Str} {r : List Str} : Txt.join y (p :: q :: r) = p ++ (y ++ Txt.join y (q :: r)) := by
  refine ext_tl ?_
  rw [join_eq, tl_join, tl_append, tl_append, join_eq, tl_join]
  rfl
theorem join_one {y p : Str} : Txt.join y [p] = p := by
  refine ext_tl ?_
  rw [join_eq, tl_join]
  rfl
theorem app_emp (x : Str) : x ++ emp = x := ext_tl (by rw [tl_append, tl_emp, List.append_nil])
theorem emp_app (x : Str) : emp ++ x = x := ext_tl (by rw [tl_append, tl_emp, List.nil_append])
theorem app_as (x y z : Str) : x ++ y ++ z = x ++ (y ++ z) := ext_tl (by simp only [tl_append, List.append_assoc])
theorem join_sp (x : Str) : Txt.join sp1 (Txt.split x sp1) = x := by rw [join_eq]; exact StrLaws.join_split x sp1
theorem free_sp (x : Str) : ∀ p ∈ Txt.split x sp1, 32 ∉ tl p := by
  rw [sp_is]
  exact StrLaws.split_free x 32
theorem split_ne (x y : Str) : Txt.split x y ≠ [] := fun h => by
  have := PyProof.Rows.split_pos x y
  rw [h] at this
  simp at this
/-- the words of a line -/
def wdsE (l : Str) : List Str := (Txt.split l sp1).filter fun w => !decide (w = emp)
theorem wds_join {ws : List Str} (hne : ws ≠ []) (hp : ∀ p ∈ ws, 32 ∉ tl p) (h : ∀ p ∈ ws, p ≠ emp) : wdsE (Txt.join sp1 ws) = ws := by
  unfold wdsE
  rw [split_sp hne hp]
  exact List.filter_eq_self.mpr fun w hw => by simpa using h w hw
theorem wds_emp : wdsE emp = [] := by decide +kernel
/-- a word ahead -/
theorem wds_cons {w x : Str} (hw : 32 ∉ tl w) : wdsE (w ++ (sp1 ++ x)) = if w = emp then wdsE x else w :: wdsE x := by
  have hx := join_sp x
  cases hs : Txt.split x sp1 with
  | nil => exact absurd hs (split_ne x sp1)
  | cons q r =>
    rw [hs] at hx
    have e : w ++ (sp1 ++ x) = Txt.join sp1 (w :: q :: r) := by rw [join_cons, hx]
    have hf := free_sp x
    rw [hs] at hf
    unfold wdsE
    rw [e, split_sp (by simp) (by
      intro p hp
      rcases List.mem_cons.mp hp with rfl | hp
      · exact hw
      · exact hf p hp), hs]
    by_cases h : w = emp
    · subst h; simp
    · rw [List.filter_cons]; simp [h]
theorem wds_sp (x : Str) : wdsE (sp1 ++ x) = wdsE x := by
  have := wds_cons (w := emp) (x := x) (by rw [tl_emp]; simp)
  rw [emp_app] at this
  simpa using this
theorem join_snoc {y : Str} : ∀ {ps : List Str}, ps ≠ [] → Txt.join y (ps ++ [emp]) = Txt.join y ps ++ y
  | [], h => absurd rfl h
  | [p], _ => by
    rw [List.cons_append, List.nil_append, join_cons, join_one, join_one, app_emp]
  | p :: q :: r, _ => by
    have ih := join_snoc (y := y) (ps := q :: r) (by simp)
    rw [List.cons_append, List.cons_append, join_cons, join_cons]
    rw [List.cons_append] at ih
    rw [ih, app_as, app_as]
theorem wds_sp_end (x : Str) : wdsE (x ++ sp1) = wdsE x := by
  have e : x ++ sp1 = Txt.join sp1 (Txt.split x sp1 ++ [emp]) := by rw [join_snoc (split_ne x sp1), join_sp]
  unfold wdsE
  rw [e, split_sp (by simp) (by
    intro p hp
    rcases List.mem_append.mp hp with hp | hp
    · exact free_sp x p hp
    · simp at hp; subst hp; rw [tl_emp]; simp)]
  rw [List.filter_append]
  simp
theorem mk_cons (c : Nat) (l : List Nat) : (⟨(c :: l).toArray⟩ : Str) = ⟨#[c]⟩ ++ ⟨l.toArray⟩ := ext_tl (by rw [tl_append]; simp [tl])
theorem wds_pre : ∀ (l : List Nat) (x : Str), (∀ c ∈ l, c = 32) → wdsE (⟨l.toArray⟩ ++ x) = wdsE x
  | [], x, _ => by
    have : (⟨([] : List Nat).toArray⟩ : Str) = emp := ext_tl (by rw [tl_emp])
    rw [this, emp_app]
  | c :: l, x, h => by
    obtain rfl : c = 32 := h c (by simp)
    rw [mk_cons, ← sp_is, app_as, wds_sp, wds_pre l x fun c hc => h c (List.mem_cons_of_mem _ hc)]
theorem wds_post : ∀ (l : List Nat) (x : Str), (∀ c ∈ l, c = 32) → wdsE (x ++ ⟨l.toArray⟩) = wdsE x
  | [], x, _ => by
    have : (⟨([] : List Nat).toArray⟩ : Str) = emp := ext_tl (by rw [tl_emp])
    rw [this, app_emp]
  | c :: l, x, h => by
    obtain rfl : c = 32 := h c (by simp)
    rw [mk_cons, ← sp_is, ← app_as, wds_post l (x ++ sp1) fun c hc => h c (List.mem_cons_of_mem _ hc), wds_sp_end]
theorem goes_sp {c : Nat} (h : sp1.cps.contains c = true) : c = 32 := by
  rw [sp_is] at h
  simpa using h
/-- stripping of spaces takes spaces from the ends -/
theorem strip_parts (x : Str) : ∃ a b : List Nat, (∀ c ∈ a, c = 32) ∧ (∀ c ∈ b, c = 32) ∧ x = ⟨a.toArray⟩ ++ (Txt.stripChars x sp1 ++ ⟨b.toArray⟩) := by
  have e := PyProof.Rows.stripBy_eq sp1.cps.contains true true x
  obtain ⟨h1, h2, h3⟩ := PyProof.Rows.lo_facts sp1.cps.contains x
  generalize hlo : stripLo sp1.cps.contains true x = lo at e h1 h2 h3
  obtain ⟨g1, g2, g3, g4⟩ := PyProof.Rows.hi_facts sp1.cps.contains x lo h1
  generalize hhi : stripHi sp1.cps.contains true x lo = hi at e g1 g2 g3 g4
  have hl : x.length = (tl x).length := len_tl x
  refine ⟨(tl x).take lo, (tl x).drop hi, ?_, ?_, ?_⟩
  · intro c hc
    obtain ⟨k, hk, rfl⟩ := List.mem_iff_getElem.mp hc
    rw [List.length_take] at hk
    have := goes_sp (h2 k (by omega))
    rw [List.getElem_take]
    rw [← PyProof.Rows.getD_list, List.getD_eq_getElem?_getD, List.getElem?_eq_getElem (by show k < (tl x).length; omega)] at this
    exact this
  · intro c hc
    obtain ⟨k, hk, rfl⟩ := List.mem_iff_getElem.mp hc
    rw [List.length_drop] at hk
    have := goes_sp (g3 (hi + k) (by omega) (by omega))
    rw [List.getElem_drop]
    rw [← PyProof.Rows.getD_list, List.getD_eq_getElem?_getD, List.getElem?_eq_getElem (by show hi + k < (tl x).length; omega)] at this
    exact this
  · refine ext_tl ?_
    show tl x = _
    rw [tl_append, tl_append]
    show tl x = (tl x).take lo ++ (tl (Txt.stripBy sp1.cps.contains true true x) ++ (tl x).drop hi)
    rw [e]
    show tl x = (tl x).take lo ++ ((PySem.Builtin.Str.strSub x lo hi).cps.toList ++ (tl x).drop hi)
    rw [StrLaws.strSub_toList]
    have e1 : ((tl x).drop lo).take (hi - lo) ++ (tl x).drop hi = (tl x).drop lo := by
      have := List.take_append_drop (hi - lo) ((tl x).drop lo)
      rw [List.drop_drop, show lo + (hi - lo) = hi by omega] at this
      exact this
    rw [show x.cps.toList = tl x from rfl, e1, List.take_append_drop]
theorem wds_strip (x : Str) : wdsE (Txt.stripChars x sp1) = wdsE x := by
  obtain ⟨a, b, ha, hb, e⟩ := strip_parts x
  have : wdsE x = wdsE (⟨a.toArray⟩ ++ (Txt.stripChars x sp1 ++ ⟨b.toArray⟩)) := by rw [← e]
  rw [this, wds_pre a _ ha, wds_post b _ hb]
theorem strip_mem {x : Str} {c : Nat} (h : c ∈ tl (Txt.stripChars x sp1)) : c ∈ tl x := by
  obtain ⟨a, b, ha, hb, e⟩ := strip_parts x
  rw [e, tl_append, tl_append]
  exact List.mem_append_right _ (List.mem_append_left _ h)
theorem join_mem {y : Str} {c : Nat} : ∀ {ps : List Str} {p : Str}, p ∈ ps → c ∈ tl p → c ∈ tl (Txt.join y ps)
  | [q], p, hp, hc => by
    simp at hp; subst hp
    rw [join_one]; exact hc
  | q :: q2 :: r, p, hp, hc => by
    rw [join_cons, tl_append, tl_append]
    rcases List.mem_cons.mp hp with rfl | hp
    · exact List.mem_append_left _ hc
    · exact List.mem_append_right _ (List.mem_append_right _ (join_mem hp hc))
theorem mem_join {y : Str} {c : Nat} : ∀ {ps : List Str}, c ∈ tl (Txt.join y ps) → c ∈ tl y ∨ ∃ p ∈ ps, c ∈ tl p
  | [], h => by
    have : tl (Txt.join y []) = [] := by rw [join_eq]; rfl
    rw [this] at h; cases h
  | [q], h => by
    rw [join_one] at h
    exact .inr ⟨q, by simp, h⟩
  | q :: q2 :: r, h => by
    rw [join_cons, tl_append, tl_append] at h
    rcases List.mem_append.mp h with h | h
    · exact .inr ⟨q, by simp, h⟩
    · rcases List.mem_append.mp h with h | h
      · exact .inl h
      · rcases mem_join h with h | ⟨p, hp, h⟩
        · exact .inl h
        · exact .inr ⟨p, List.mem_cons_of_mem _ hp, h⟩
/-- no newline within -/
def Flat1 (x : Str) : Prop := 10 ∉ tl x
theorem flat_join {ws : List Str} (h : ∀ w ∈ ws, Flat1 w) : Flat1 (Txt.join sp1 ws) := fun hc => by
  rcases mem_join hc with hc | ⟨p, hp, hc⟩
  · rw [tl_sp] at hc; simp at hc
  · exact h p hp hc
theorem flat_split {x : Str} (h : Flat1 x) : ∀ w ∈ Txt.split x sp1, Flat1 w := fun w hw hc => h (by
  have := join_mem (y := sp1) hw hc
  rwa [join_sp] at this)
theorem flat_app {x y : Str} (hx : Flat1 x) (hy : Flat1 y) : Flat1 (x ++ y) := fun h => by
  rw [tl_append] at h
  rcases List.mem_append.mp h with h | h
  · exact hx h
  · exact hy h
theorem flat_strip {x : Str} (h : Flat1 x) : Flat1 (Txt.stripChars x sp1) := fun hc => h (strip_mem hc)
theorem len_join (y : Str) (ws : List Str) : (Txt.join y ws).length ≤ (ws.map (·.length)).sum + ws.length * y.length := by rw [join_eq]; exact StrLaws.join_length_le y ws
end Eng
local macro_rules | `(tactic| walk_at "cd") => `(tactic| first
  | assumption
  | omega
  | (apply decide_eq_true; first | assumption | omega | (simp only [List.length_map]; omega))
  | (apply Bool.eq_false_iff.mp; apply decide_eq_false; first | assumption | omega | (simp only [List.length_map]; omega)))
local macro_rules | `(tactic| walk_at "lk") => `(tactic| first
  | assumption
  | (apply Eng.lk_self; (repeat rw [List.length_set]); first | assumption | (apply Eng.lk_lt; assumption))
  | (apply Eng.lk_ne (by first | assumption | (apply Ne.symm; assumption)); walk_at "lk"))
local macro_rules | `(tactic| walk_at "ev1") => `(tactic| first
  | with_reducible exact Eng.x_cst
  | ((with_reducible apply Eng.x_var); with_unfolding_all rfl)
  | ((with_reducible apply Eng.x_glb); with_unfolding_all rfl)
  | with_reducible exact Eng.settle_val
  | with_reducible exact Eng.settle_fresh
  | exact Eng.settle_val
  | with_reducible apply Eng.x_idx
  | with_reducible apply Eng.x_cmp
  | with_reducible apply Eng.x_bin
  | with_reducible apply Eng.x_bf
  | with_reducible apply Eng.x_not
  | ((with_reducible apply Eng.x_isi); (walk_at "ev1"); (walk_at "ev1"); rfl)
  | with_reducible apply Eng.x_and
  | with_reducible apply Eng.x_or
  | with_reducible apply Eng.x_chain
  | with_reducible apply Eng.x_chain2
  | with_reducible apply Eng.x_ite
  | with_reducible apply Eng.x_tup
  | with_reducible apply Eng.x_lst
  | with_reducible apply Eng.x_slc
  | with_reducible apply Eng.x_bm
  | with_reducible exact Eng.o_none
  | with_reducible apply Eng.o_some
  | with_reducible exact Eng.es_nil
  | with_reducible apply Eng.es_cons
  | with_reducible exact Eng.xs_nil
  | with_reducible apply Eng.xs_cons
  | with_reducible exact Eng.ks_nil
  | with_reducible exact Eng.sx_nil
  | with_reducible apply Eng.sx_one
  | with_reducible apply Eng.sx_star
  | ((with_reducible apply Eng.x_lstS); focus skip)
  | with_reducible apply Eng.i_seq
  | ((with_reducible apply Eng.i_rng1); focus skip)
  | with_reducible apply Eng.ks_cons
  | with_reducible apply Eng.x_call
  | with_reducible exact Eng.c_lt
  | with_reducible exact Eng.c_le
  | with_reducible exact Eng.c_gt
  | with_reducible exact Eng.c_ge
  | with_reducible exact Eng.c_eq_int
  | with_reducible exact Eng.c_ne_int
  | with_reducible exact Eng.b_add
  | with_reducible exact Eng.b_sub
  | with_reducible exact Eng.f_int
  | ((with_reducible apply Eng.b_mul); decide)
  | ((with_reducible apply Eng.b_mod); first | decide | assumption)
  | ((with_reducible apply Eng.b_fdiv); first | decide | assumption)
  | ((with_reducible apply Eng.b_pow); decide)
  | ((with_reducible apply Eng.ix_seq); (with_reducible apply Eng.q_obj); walk_at "lk"; first | assumption | rfl)
  | ((with_reducible apply Eng.f_len_seq); (with_reducible apply Eng.q_obj); walk_at "lk")
  | ((with_reducible apply Eng.set_lst); walk_at "lk"; rfl)
  | exact Eng.ss_nil
  | with_reducible exact Eng.g_nil
  | with_reducible apply Eng.ss_ret
  | with_reducible apply Eng.ss_if
  | ((with_reducible apply Eng.ss_asg); focus skip)
  | (with_reducible apply Eng.ss_nx; with_reducible apply Eng.s_sub)
  | (with_reducible apply Eng.ss_nx; with_reducible apply Eng.s_expr)
  | with_reducible apply Eng.s_sub
  | with_reducible apply Eng.s_expr
  | with_reducible apply Eng.s_ret
  | with_reducible apply Eng.s_if
  | (with_reducible show Eng.bindP _ _ _ = some _; with_unfolding_all rfl)
  | (rw [List.cons_append])
  | (rw [List.nil_append])
  | (rw [if_pos (by walk_at "cd")])
  | (rw [if_neg (by walk_at "cd")]))
local macro_rules | `(tactic| walk_at "ev") => `(tactic| repeat walk_at "ev1")
namespace K24
open Eng
/-- the law's draws: the script, the place, the number in hand, the seed -/
abbrev rowO (l : Nat) (i a s : Int) : O := .lst [.obj l, .int i, .int a, .int s]

/-- the row's state: within the script, nothing below nought -/
structure RowV (ns : List Int) (i a s : Int) : Prop where
  i0 : 0 ≤ i
  il : i ≤ ns.length
  a0 : 0 ≤ a
  s0 : 0 ≤ s
theorem pick1 (n : Nat) (st : Store) (r l : Nat) (i a s m : Int) (ns : List Int) (V : RowV ns i a s) (hr : st[r]? = some (rowO l i a s)) (hl : st[l]? = some (.lst (ns.map .int))) (hrl : r ≠ l) :
    ∃ c i' a' s', RowV ns i' a' s' ∧ evS prg (callF prg WH n) WH (f__law_pick.body.getD 0 .pass) [some (.obj r), some (.int m), none, none] st = .nx [some (.obj r), some (.int m), c, none] (st.set r (rowO l i' a' s')) := by
  obtain ⟨v1, v2, v3, v4⟩ := V
  by_cases ha : a = 0
  · by_cases hi : i < ns.length
    · have hat : L2.atI (ns.map D.int) i = some (.int (ns[i.toNat]'(by omega))) := by
        have : (ns.map D.int)[i.toNat]? = some (.int (ns[i.toNat]'(by omega))) := by
          rw [List.getElem?_map, List.getElem?_eq_getElem]; rfl
        have h := atI_nat this
        rwa [Int.toNat_of_nonneg v1] at h
      generalize (ns[i.toNat]'(by omega)) = c at hat
      by_cases hc : (10 : Int) ^ (18 : Int).toNat ≤ c
      · have hc0 : (0 : Int) ≤ (10 : Int) ^ (18 : Int).toNat := by decide
        refine ⟨some (.int c), i + 1, c, s, ⟨by omega, by omega, by omega, v4⟩, ?_⟩
        rw [show st.set r (rowO l (i + 1) c s) = (st.set r (rowO l (i + 1) a s)).set r (rowO l (i + 1) c s) from (List.set_set ..).symm]
        show evS prg (callF prg WH n) WH (.sif _ _ _) _ _ = _
        walk_at "ev"
      · refine ⟨some (.int c), i + 1, a, (s * 48271 + c * 69621 + 11) % 2147483647, ⟨by omega, by omega, by omega, by omega⟩, ?_⟩
        rw [show st.set r (rowO l (i + 1) a ((s * 48271 + c * 69621 + 11) % 2147483647)) = (st.set r (rowO l (i + 1) a s)).set r (rowO l (i + 1) a ((s * 48271 + c * 69621 + 11) % 2147483647)) from (List.set_set ..).symm]
        show evS prg (callF prg WH n) WH (.sif _ _ _) _ _ = _
        walk_at "ev"
    · refine ⟨none, i, a, (s * 48271 + 7) % 2147483647, ⟨v1, v2, v3, by omega⟩, ?_⟩
      show evS prg (callF prg WH n) WH (.sif _ _ _) _ _ = _
      walk_at "ev"
  · refine ⟨none, i, a, s, ⟨v1, v2, v3, v4⟩, ?_⟩
    rw [set_id hr]
    show evS prg (callF prg WH n) WH (.sif _ _ _) _ _ = _
    walk_at "ev"
theorem pick2 (n : Nat) (st : Store) (r l : Nat) (i a s m : Int) (ns : List Int) (c : Option D) (V : RowV ns i a s) (hr : st[r]? = some (rowO l i a s)) (hm : 0 < m ∧ m < 1073741824) :
    ∃ v i' a' s', RowV ns i' a' s' ∧ 0 ≤ v ∧ v < m ∧ evSs prg (callF prg WH n) WH (f__law_pick.body.drop 1) [some (.obj r), some (.int m), c, none] st = .rt (.int v) (st.set r (rowO l i' a' s')) := by
  obtain ⟨v1, v2, v3, v4⟩ := V
  have hm0 := hm.1
  by_cases ha : 0 < a
  · refine ⟨a % m, i, a / m, s, ⟨v1, v2, Int.ediv_nonneg v3 (by omega), v4⟩, Int.emod_nonneg _ (by omega), Int.emod_lt_of_pos _ hm0, ?_⟩
    show evSs prg (callF prg WH n) WH [.sif _ _ _, _] _ _ = _
    walk_at "ev"
  · refine ⟨(s * 16807) % 2147483629 % m, i, a, s, ⟨v1, v2, v3, v4⟩, Int.emod_nonneg _ (by omega), Int.emod_lt_of_pos _ hm0, ?_⟩
    rw [set_id hr]
    show evSs prg (callF prg WH n) WH [.sif _ _ _, _] _ _ = _
    walk_at "ev"
/-- the draws' row stands at r, the script at l -/
structure Row (ns : List Int) (r l : Nat) (st : Store) : Prop where
  at_ : ∃ i a s, RowV ns i a s ∧ st[r]? = some (rowO l i a s)
  ls : st[l]? = some (.lst (ns.map .int))
  ne : r ≠ l
theorem pick {ns : List Int} {r l : Nat} {st : Store} (n : Nat) (R : Row ns r l st) (m : Int) (hm : 0 < m ∧ m < 1073741824) :
    ∃ v i a s, 0 ≤ v ∧ v < m ∧ RowV ns i a s ∧ callF prg WH (n + 1) "_law_pick" [.obj r, .int m] st = .ok (.int v) (st.set r (rowO l i a s)) := by
  obtain ⟨⟨i, a, s, V, hr⟩, hl, hne⟩ := R
  obtain ⟨c, i1, a1, s1, V1, e1⟩ := pick1 n st r l i a s m ns V hr hl hne
  obtain ⟨v, i2, a2, s2, V2, h1, h2, e2⟩ := pick2 n (st.set r (rowO l i1 a1 s1)) r l i1 a1 s1 m ns c V1 (lk_self (lk_lt hr)) hm
  refine ⟨v, i2, a2, s2, h1, h2, V2, ?_⟩
  refine call_set (nw := []) (fd := f__law_pick) rfl rfl rfl ?_ rfl ?_
  · rw [List.append_nil]
    rw [List.set_set] at e2
    exact ss_nx e1 e2
  · have := lk_lt hl
    simpa [O.und, D.unds, D.und] using this
end K24
namespace K24
open Eng PySem
def isRT : RS → Bool
  | .rt (.bl true) _ => true
  | _ => false
theorem isRT_ok {r : RS} (h : isRT r = true) : ∃ st, r = .rt (.bl true) st := by
  unfold isRT at h
  split at h
  · exact ⟨_, rfl⟩
  · cases h
/-- the law behind its draw -/
abbrev rest (v : Int) (sc : D) (X Y : O) : RS := evSs prg (callF prg WH 40) WH (f_law.body.drop 2) [some sc, none, some (.obj 1), some (.int v), some (.obj 2), none, none] [X, Y, .lst []]
theorem r0 (sc : D) (X Y : O) : isRT (rest 0 sc X Y) = true := by kernel_rfl
theorem r1 (sc : D) (X Y : O) : isRT (rest 1 sc X Y) = true := by kernel_rfl
theorem r2 (sc : D) (X Y : O) : isRT (rest 2 sc X Y) = true := by kernel_rfl
theorem r3 (sc : D) (X Y : O) : isRT (rest 3 sc X Y) = true := by kernel_rfl
theorem r4 (sc : D) (X Y : O) : isRT (rest 4 sc X Y) = true := by kernel_rfl
theorem r5 (sc : D) (X Y : O) : isRT (rest 5 sc X Y) = true := by kernel_rfl
theorem r6 (sc : D) (X Y : O) : isRT (rest 6 sc X Y) = true := by kernel_rfl
theorem r7 (sc : D) (X Y : O) : isRT (rest 7 sc X Y) = true := by kernel_rfl
theorem r8 (sc : D) (X Y : O) : isRT (rest 8 sc X Y) = true := by kernel_rfl
theorem r9 (sc : D) (X Y : O) : isRT (rest 9 sc X Y) = true := by kernel_rfl
theorem r10 (sc : D) (X Y : O) : isRT (rest 10 sc X Y) = true := by kernel_rfl
theorem r_all (v : Int) (h0 : 0 ≤ v) (h1 : v < 11) (sc : D) (X Y : O) : ∃ st, rest v sc X Y = .rt (.bl true) st := by
  have : v = 0 ∨ v = 1 ∨ v = 2 ∨ v = 3 ∨ v = 4 ∨ v = 5 ∨ v = 6 ∨ v = 7 ∨ v = 8 ∨ v = 9 ∨ v = 10 := by omega
  rcases this with rfl | rfl | rfl | rfl | rfl | rfl | rfl | rfl | rfl | rfl | rfl
  · exact isRT_ok (r0 sc X Y)
  · exact isRT_ok (r1 sc X Y)
  · exact isRT_ok (r2 sc X Y)
  · exact isRT_ok (r3 sc X Y)
  · exact isRT_ok (r4 sc X Y)
  · exact isRT_ok (r5 sc X Y)
  · exact isRT_ok (r6 sc X Y)
  · exact isRT_ok (r7 sc X Y)
  · exact isRT_ok (r8 sc X Y)
  · exact isRT_ok (r9 sc X Y)
  · exact isRT_ok (r10 sc X Y)
theorem plain (ns : List Int) (h : ns.length ≤ 63) : ∃ st, callF prg WH (FU + 1) "law" [.rol (ns.map .int)] [] = .ok (.bl true) st := by
  have R : Row ns 1 0 [.lst (ns.map .int), rowO 0 0 0 7] := ⟨⟨0, 0, 7, ⟨by decide, by omega, by decide, by decide⟩, rfl⟩, rfl, by decide⟩
  have hdr : callF prg WH 40 "_law_draws" [.rol (ns.map .int)] [] = .ok (.obj 1) [.lst (ns.map .int), rowO 0 0 0 7] := by
    refine call_keep (fd := f__law_draws) rfl rfl rfl ?_
    show evSs prg (callF prg WH 39) WH [_] [some (.rol (ns.map .int))] [] = _
    apply ss_ret
    · apply x_lst
      apply es_cons (x_bf (x_var rfl) (f_list (w := (ns.map .int, .free)) rfl)) settle_fresh
      exact es_cons x_cst settle_val (es_cons x_cst settle_val (es_cons x_cst settle_val es_nil))
    · exact settle_fresh
  obtain ⟨v, i, a, s, h1, h2, V, e⟩ := pick (r := 1) (l := 0) 39 R 11 (by decide)
  obtain ⟨st, er⟩ := r_all v h1 h2 (.rol (ns.map .int)) (.lst (ns.map .int)) (rowO 0 i a s)
  refine ⟨st, call_keep (fd := f_law) rfl rfl rfl ?_⟩
  have f1 : evS prg (callF prg WH 40) WH (.asg (.nm 2) (.call "_law_draws" [(.var 0)])) [some (.rol (ns.map .int)), none, none, none, none, none, none] [] = .nx [some (.rol (ns.map .int)), none, some (.obj 1), none, none, none, none] [.lst (ns.map .int), rowO 0 0 0 7] :=
    s_asg (x_call (es_cons (x_var rfl) settle_val es_nil) hdr) settle_val rfl
  have f2 : evS prg (callF prg WH 40) WH (.par [3, 4] [(.call "_law_pick" [(.var 2), (.cst (.int 11))]), (.lst [])]) [some (.rol (ns.map .int)), none, some (.obj 1), none, none, none, none] [.lst (ns.map .int), rowO 0 0 0 7] = .nx [some (.rol (ns.map .int)), none, some (.obj 1), some (.int v), some (.obj 2), none, none] [.lst (ns.map .int), rowO 0 i a s, .lst []] := by
    refine s_par (es_cons (x_call (es_cons (x_var rfl) settle_val (es_cons x_cst settle_val es_nil)) e) settle_val (es_cons (x_lst es_nil) settle_fresh es_nil)) rfl
  exact ss_nx f1 (ss_nx f2 er)
end K24
theorem PySem.Challenge.cw_onechosen_k24_errors_apart_holds : PySem.Challenge.rw_onechosen_k24_errors_apart.Holds := by
  exact k24_law_end K24.plain
