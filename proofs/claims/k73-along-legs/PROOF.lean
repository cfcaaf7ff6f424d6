import PyProof.Rows.All
import HandS.ForMost
import HandS.ForExc
import HandS.Flow
import HandS.TupAny
import HandS.TupMul
import HandS.StrMore
import HandS.IsInst
import HandS.Deep
import HandS.Strs
import HandS.Walk
import HandS.Conv
import HandS.HeadHook2
import HandS.HeadHook3
import HandS.HeadHook4
import HandS.Defaults
import PySem.Challenge.RW_eachplace_k73_along_legs
import HandS.NoneIn
import HandS.Iter
import HandS.Small
import HandS.Replace
import HandS.Zip
import HandS.More
import HandS.HeadWalk
import KE.GoesEnum
import HandS.Lambda
import HandS.Head0
import HandS.Head1
import HandS.Head2
import HandS.HeadEnd
import HandS.HeadHook1
import HandS.WordsExc
set_option Elab.async false
set_option linter.all false
set_option maxRecDepth 100000
set_option maxHeartbeats 4000000
/-! TL0: values as trees, a heap of mutable objects alone, a small syntax and its readings. -/
namespace Tr
open PySem

/-- a value: tuples are trees, lists, dicts, instances are addresses -/
inductive D where
  | non | bl (b : Bool) | int (i : Int) | str (x : List Nat) | tup (xs : List D) | wtup (xs : List D) | rol (xs : List D) | ref (a : Addr)
abbrev DK := Sum Int (List Nat)
/-- what stands at an address -/
inductive TO where
  | lst (xs : List D)
  | dic (kvs : List (DK × D))
  | ins (c : Nat) (fs : List (List Nat × D))
  | dnk (lk : Option Obj) (kvs : List (Option DK × D))
/-- where classes stand, and the program and the world that keys are hashed in -/
structure Wd where
  f : Nat → Addr
  P : Program
  w : World
abbrev TH := Addr → Option TO
def upd (T : TH) (a : Addr) (o : TO) : TH := fun b => if b = a then some o else T b
theorem upd_same {T : TH} {a : Addr} {o : TO} : upd T a o a = some o := by unfold upd; rw [if_pos rfl]
theorem upd_ne {T : TH} {a b : Addr} {o : TO} (h : b ≠ a) : upd T a o b = T b := by unfold upd; rw [if_neg h]
theorem upd_upd {T : TH} {a : Addr} {o u : TO} : upd (upd T a o) a u = upd T a u := by
  funext b; unfold upd; split <;> rfl
/-- all of T stands in T' -/
def Le (T T' : TH) : Prop := ∀ a o, T a = some o → T' a = some o
abbrev Env := List (Option D)
abbrev Kd := D → TH → Prop
abbrev XE := Nat → TH → Prop
abbrev RE := XE → Env → TH → Kd → Prop
abbrev szL : Nat := 16777216

/-! ### equality -/
mutual
def toPy : D → PyData
  | .non => .none
  | .bl b => .bool b
  | .int i => .int i
  | .str x => .str ⟨x.toArray⟩
  | .tup xs => .tuple (toPys xs)
  | .wtup xs => .tuple (toPys xs)
  | .rol xs => .list (toPys xs)
  | .ref _ => .dict []
def toPys : List D → List PyData
  | [] => []
  | d :: ds => toPy d :: toPys ds
end
def toPyT (T : TH) : D → PyData
  | .ref a => (match T a with
    | some (.lst ds) => .list (toPys ds)
    | _ => .dict [])
  | d => toPy d
def lay (T : TH) (d : D) : Prop := (toPyT T d).canLay0 = true
def shal (T : TH) (x y : D) : Prop := (toPyT T x).depth ≤ 64 ∨ (toPyT T y).depth ≤ 64
def deq (T : TH) (x y : D) : Bool := PyData.eqv (toPyT T x) (toPyT T y)
def eqR (x y : D) (T : TH) (Q : Bool → Prop) : Prop := match x, y with
  | .str a, .str b => Q (decide (a = b))
  | .int a, .int b => Q (decide (a = b))
  | .bl a, .bl b => Q (decide (a = b))
  | x, y => lay T x ∧ lay T y ∧ shal T x y ∧ Q (deq T x y)
def flat : D → Bool
  | .non => true | .bl _ => true | .int _ => true | .str _ => true | _ => false
def eqF : D → D → Bool
  | .non, .non => true
  | .bl a, .bl b => a == b
  | .bl a, .int b => (if a then 1 else 0) == b
  | .int a, .bl b => a == (if b then 1 else 0)
  | .int a, .int b => decide (a = b)
  | .str a, .str b => decide (a = b)
  | _, _ => false
def inF (x : D) (ys : List D) : Bool := ys.any fun y => eqF y x

/-! ### operators by values -/
inductive Bin | add | sub | mul | fdiv | mod | pow
  deriving DecidableEq
inductive Cm | eq | ne | lt | le | gt | ge | in_ | nin | is_ | isn
  deriving DecidableEq
inductive Blt | len | int_ | str_ | tuple | list | max | min | sorted | abs | all_ | any_ | sum_
  deriving DecidableEq
inductive Bm | append | extend | pop | sindex | lindex | tindex | join | split | dgetD
  deriving DecidableEq
inductive Ty | str | int | bool | tuple | list | dict | none
  deriving DecidableEq

def binR : Bin → D → D → TH → Kd → Prop
  | .add, x, y, T, Q => (match x, y with
    | .int i, .int j => Q (.int (i + j)) T
    | .str a, .str b => a.length + b.length ≤ szL ∧ Q (.str (a ++ b)) T
    | .tup a, .tup b => a.length + b.length ≤ szL ∧ Q (.tup (a ++ b)) T
    | .ref a, .ref b => (match T a, T b with
      | some (.lst xs), some (.lst ys) => xs.length + ys.length ≤ szL ∧ ∀ p, T p = none → Q (.ref p) (upd T p (.lst (xs ++ ys)))
      | _, _ => False)
    | _, _ => False)
  | .sub, x, y, T, Q => (match x, y with
    | .int i, .int j => Q (.int (i - j)) T
    | _, _ => False)
  | .mul, x, y, T, Q => (match x, y with
    | .int i, .int j => L2.CMul i j ∧ Q (.int (i * j)) T
    | .tup a, .int k => a ≠ [] ∧ 2 ≤ k ∧ k ≤ 1000 ∧ a.length ≤ 1000 ∧ Q (.tup (List.replicate k.toNat a).flatten) T
    | .ref a, .int k => (match T a with
      | some (.lst xs) => -(2 ^ 63) ≤ k ∧ k < 2 ^ 63 ∧ xs.length * k.toNat ≤ szL ∧ ∀ p, T p = none → Q (.ref p) (upd T p (.lst (List.replicate k.toNat xs).flatten))
      | _ => False)
    | _, _ => False)
  | .fdiv, x, y, T, Q => (match x, y with
    | .int i, .int j => (j ≠ 0 ∧ j.natAbs < 1073741824) ∧ Q (.int (i.fdiv j)) T
    | _, _ => False)
  | .mod, x, y, T, Q => (match x, y with
    | .int i, .int j => j ≠ 0 ∧ Q (.int (i.fmod j)) T
    | _, _ => False)
  | .pow, x, y, T, Q => (match x, y with
    | .int i, .int j => (0 ≤ j ∧ j ≤ 1000000 ∧ i.natAbs < 2 ^ 64) ∧ Q (.int (i ^ j.toNat)) T
    | _, _ => False)
def dkOf : D → Option DK
  | .int i => some (.inl i)
  | .str x => some (.inr x)
  | _ => none
def nkOf : D → Option (Option DK)
  | .non => some none
  | .int i => some (some (.inl i))
  | .str x => some (some (.inr x))
  | _ => none
def nkD : Option DK → D
  | none => .non
  | some (.inl i) => .int i
  | some (.inr x) => .str x
def dget {κ : Type} [DecidableEq κ] (k : κ) : List (κ × D) → Option D
  | [] => none
  | (k', d) :: r => if k' = k then some d else dget k r
def dput {κ : Type} [DecidableEq κ] (k : κ) (d : D) (kvs : List (κ × D)) : List (κ × D) :=
  if (kvs.any fun kv => decide (kv.1 = k)) = true then kvs.map (fun kv => if kv.1 = k then (kv.1, d) else kv) else kvs ++ [(k, d)]
def inR (x y : D) (T : TH) (Q : Bool → Prop) : Prop := match y with
  | .tup ys => flat x = true ∧ ys.all flat = true ∧ Q (inF x ys)
  | .ref a => (match T a with
    | some (.lst ys) => (flat x = true ∧ ys.all flat = true ∧ Q (inF x ys))
    | some (.dic kvs) => ∃ k, dkOf x = some k ∧ Q (dget k kvs).isSome
    | _ => False)
  | .str ys => (match x with
    | .str [c] => Q (decide (c ∈ ys))
    | _ => False)
  | _ => False
def ltStr (a b : List Nat) : Bool := decide (a < b)
def cmpR : Cm → D → D → TH → (Bool → Prop) → Prop
  | .eq, x, y, T, Q => eqR x y T Q
  | .ne, x, y, T, Q => eqR x y T fun b => Q (!b)
  | .lt, x, y, _, Q => (match x, y with
    | .int i, .int j => Q (decide (i < j))
    | .str a, .str b => Q (ltStr a b)
    | _, _ => False)
  | .le, x, y, _, Q => (match x, y with
    | .int i, .int j => Q (decide (i ≤ j))
    | _, _ => False)
  | .gt, x, y, _, Q => (match x, y with
    | .int i, .int j => Q (decide (j < i))
    | _, _ => False)
  | .ge, x, y, _, Q => (match x, y with
    | .int i, .int j => Q (decide (j ≤ i))
    | _, _ => False)
  | .in_, x, y, T, Q => inR x y T Q
  | .nin, x, y, T, Q => inR x y T fun b => Q (!b)
  | .is_, x, y, _, Q => (match y with
    | .non => (match x with | .non => Q true | _ => Q false)
    | _ => False)
  | .isn, x, y, _, Q => (match y with
    | .non => (match x with | .non => Q false | _ => Q true)
    | _ => False)
def truR (x : D) (T : TH) (Q : Bool → Prop) : Prop := match x with
  | .non => Q false
  | .bl b => Q b
  | .int i => Q (!decide (i = 0))
  | .str y => y.length ≤ szL ∧ Q (!y.isEmpty)
  | .tup xs => Q (!xs.isEmpty)
  | .wtup xs => Q (!xs.isEmpty)
  | .rol xs => Q (!xs.isEmpty)
  | .ref a => (match T a with
    | some (.lst xs) => Q (!xs.isEmpty)
    | some (.dic kvs) => Q (!kvs.isEmpty)
    | _ => False)
def ixR (x i : D) (T : TH) (Q : D → Prop) : Prop := match x, i with
  | .tup xs, .int i => ∃ v, L2.atI xs i = some v ∧ Q v
  | .rol xs, .int i => ∃ v, L2.atI xs i = some v ∧ Q v
  | .str xs, .int i => xs.length ≤ szL ∧ ∃ c, L2.atI xs i = some c ∧ Q (.str [c])
  | .ref a, i => (match T a with
    | some (.lst xs) => ∃ j v, i = .int j ∧ L2.atI xs j = some v ∧ Q v
    | some (.dic kvs) => ∃ k v, dkOf i = some k ∧ dget k kvs = some v ∧ Q v
    | some (.dnk _ kvs) => ∃ k v, nkOf i = some k ∧ dget k kvs = some v ∧ Q v
    | _ => False)
  | _, _ => False
def cut {α : Type} (xs : List α) (lo hi : Option Int) : List α := (xs.drop (HT.sIx xs.length 0 lo)).take (HT.sIx xs.length xs.length hi - HT.sIx xs.length 0 lo)
def slR (x : D) (lo hi : Option Int) (T : TH) (Q : Kd) : Prop := match x with
  | .tup xs => Q (.tup (cut xs lo hi)) T
  | .rol xs => ∀ p, T p = none → Q (.ref p) (upd T p (.lst (cut xs lo hi)))
  | .str xs => xs.length ≤ szL ∧ Q (.str (cut xs lo hi)) T
  | .ref a => (match T a with
    | some (.lst xs) => ∀ p, T p = none → Q (.ref p) (upd T p (.lst (cut xs lo hi)))
    | _ => False)
  | _ => False
def seqOf (T : TH) : D → Option (List D)
  | .tup xs => some xs
  | .wtup xs => some xs
  | .rol xs => some xs
  | .ref a => (match T a with
    | some (.lst xs) => some xs
    | _ => none)
  | _ => none
def strsOf : List D → Option (List (List Nat))
  | [] => some []
  | .str x :: r => (strsOf r).map (x :: ·)
  | _ :: _ => none
def blsOf : List D → Option (List Bool)
  | [] => some []
  | .bl x :: r => (blsOf r).map (x :: ·)
  | _ :: _ => none
def intsOf : List D → Option (List Int)
  | [] => some []
  | .int x :: r => (intsOf r).map (x :: ·)
  | _ :: _ => none
def numS (i : Int) : List Nat := TL.tl (PySem.Str.ofString (toString i))
def adjF : List Nat → List (List Nat) → Bool
  | _, [] => true
  | p, x :: r => !decide (x < p) && adjF x r
def adjS : List (List Nat) → Bool
  | [] => true
  | x :: r => adjF x r
def arg1 (f : D → Prop) (ds : List D) : Prop := match ds with | [x] => f x | _ => False
def arg2 (f : D → D → Prop) (ds : List D) : Prop := match ds with | [x, y] => f x y | _ => False
def arg0 (f : Prop) (ds : List D) : Prop := match ds with | [] => f | _ => False
def lstR (x : D) (T : TH) (f : List D → Prop) : Prop := match x with
  | .ref a => (match T a with | some (.lst xs) => f xs | _ => False)
  | _ => False
def lenR (x : D) (T : TH) (Q : Int → Prop) : Prop := match x with
  | .str x => x.length ≤ szL ∧ Q x.length
  | .tup xs => Q xs.length
  | .rol xs => Q xs.length
  | .ref a => (match T a with
    | some (.lst xs) => Q xs.length
    | some (.dic kvs) => Q kvs.length
    | _ => False)
  | _ => False
def intR (x : D) (Q : Int → Prop) : Prop := match x with
  | .int i => Q i
  | .bl b => Q (if b then 1 else 0)
  | _ => False
def isInt (x : D) (Q : Int → Prop) : Prop := match x with
  | .int i => Q i
  | _ => False
def isStr (x : D) (Q : List Nat → Prop) : Prop := match x with
  | .str i => Q i
  | _ => False
def tupR (x : D) (T : TH) (Q : List D → Prop) : Prop := match x with
  | .tup xs => Q xs
  | .ref a => (match T a with | some (.lst xs) => Q xs | _ => False)
  | _ => False
def bltR (f : Blt) (ds : List D) (T : TH) (Q : Kd) : Prop := match f with
  | .len => arg1 (fun x => lenR x T fun n => Q (.int n) T) ds
  | .int_ => arg1 (fun x => intR x fun n => Q (.int n) T) ds
  | .str_ => arg1 (fun x => isInt x fun i => i.natAbs.log2 < 1920 ∧ Q (.str (numS i)) T) ds
  | .tuple => arg1 (fun x => tupR x T fun xs => Q (.tup xs) T) ds
  | .list => arg1 (fun x => ∃ xs, seqOf T x = some xs ∧ ∀ p, T p = none → Q (.ref p) (upd T p (.lst xs))) ds
  | .max => arg2 (fun x y => isInt x fun i => isInt y fun j => Q (.int (if j > i then j else i)) T) ds
  | .min => arg2 (fun x y => isInt x fun i => isInt y fun j => Q (.int (if j < i then j else i)) T) ds
  | .abs => arg1 (fun x => isInt x fun i => Q (.int (if i < 0 then -i else i)) T) ds
  | .sorted => arg1 (fun x => lstR x T fun xs => ∃ ys, strsOf xs = some ys ∧ ys.length < 64 ∧ ∀ (p : Addr) (zs : List (List Nat)), T p = none → zs.Perm ys → adjS zs = true → Q (.ref p) (upd T p (.lst (zs.map D.str)))) ds
  | .all_ => arg1 (fun x => lstR x T fun xs => ∃ bs, blsOf xs = some bs ∧ Q (.bl (bs.all id)) T) ds
  | .any_ => arg1 (fun x => lstR x T fun xs => ∃ bs, blsOf xs = some bs ∧ Q (.bl (bs.any id)) T) ds
  | .sum_ => arg1 (fun x => lstR x T fun xs => ∃ ns, intsOf xs = some ns ∧ Q (.int ns.sum) T) ds
def idxF (y : D) : List D → Option Nat
  | [] => none
  | x :: r => if eqF x y then some 0 else (idxF y r).map (· + 1)
def bmR (m : Bm) (o : D) (ds : List D) (T : TH) (Q : Kd) : Prop := match m with
  | .append => arg1 (fun y => match o with
    | .ref a => (match T a with
      | some (.lst xs) => xs.length < szL ∧ Q .non (upd T a (.lst (xs ++ [y])))
      | _ => False)
    | _ => False) ds
  | .extend => arg1 (fun y => match o with
    | .ref a => (match T a with
      | some (.lst xs) => lstR y T fun ys => xs.length + ys.length ≤ szL ∧ Q .non (upd T a (.lst (xs ++ ys)))
      | _ => False)
    | _ => False) ds
  | .pop => arg0 (match o with
    | .ref a => (match T a with
      | some (.lst xs) => ∃ y, xs.getLast? = some y ∧ Q y (upd T a (.lst xs.dropLast))
      | _ => False)
    | _ => False) ds
  | .sindex => arg1 (fun y => isStr o fun xs => isStr y fun c => ∃ c', c = [c'] ∧ ∃ j, xs.idxOf? c' = some j ∧ Q (.int (j : Nat)) T) ds
  | .tindex => arg1 (fun y => isStr y fun z => match o with
    | .tup xs => ∃ ys j, strsOf xs = some ys ∧ ys.idxOf? z = some j ∧ Q (.int (j : Nat)) T
    | _ => False) ds
  | .lindex => arg1 (fun y => lstR o T fun xs => ∃ j, flat y = true ∧ xs.all flat = true ∧ idxF y xs = some j ∧ Q (.int (j : Nat)) T) ds
  | .join => arg1 (fun y => isStr o fun s => ∃ xs ys, seqOf T y = some xs ∧ strsOf xs = some ys ∧ (ys.map (·.length)).sum + ys.length * s.length ≤ szL ∧ Q (.str (TL.joinL s ys)) T) ds
  | .dgetD => arg2 (fun y z => match o with
    | .ref a => (match T a with
      | some (.dnk _ kvs) => ∃ k, nkOf y = some k ∧ Q ((dget k kvs).getD z) T
      | some (.dic kvs) => ∃ k, dkOf y = some k ∧ Q ((dget k kvs).getD z) T
      | _ => False)
    | _ => False) ds
  | .split => arg1 (fun y => isStr o fun s => isStr y fun c => ∃ c', c = [c'] ∧ c' < 256 ∧ s.length + 2 ≤ szL ∧ ∀ p, T p = none → Q (.ref p) (upd T p (.lst ((TL.spl [c'] 0 [] s).map D.str)))) ds
def isLst (x : D) (T : TH) : Prop := match x with
  | .ref a => ∃ xs, T a = some (.lst xs)
  | _ => False
def isDic (x : D) (T : TH) : Prop := match x with
  | .ref a => (match T a with
    | some (.dic _) => True
    | some (.dnk _ _) => True
    | _ => False)
  | _ => False
def bmT (m : Bm) (o : D) (T : TH) : Prop := match m with
  | .append => isLst o T
  | .extend => isLst o T
  | .pop => isLst o T
  | .lindex => isLst o T
  | .sindex => isStr o fun _ => True
  | .join => isStr o fun _ => True
  | .split => isStr o fun _ => True
  | .tindex => (match o with | .tup _ => True | _ => False)
  | .dgetD => isDic o T
def tyR (x : D) (T : TH) (Q : Ty → Prop) : Prop := match x with
  | .bl _ => Q .bool
  | .int _ => Q .int
  | .str _ => Q .str
  | .tup _ => Q .tuple
  | .wtup _ => Q .tuple
  | .rol _ => Q .list
  | .ref a => (match T a with
    | some (.lst _) => Q .list
    | some (.dic _) => Q .dict
    | _ => False)
  | .non => Q .none

/-! ### a small syntax -/
inductive Tg | nm (i : Nat) | tp (ts : List Tg)
mutual
inductive Ex where
  | var (i : Nat) | con (d : D) | glb (j : Nat)
  | tup (es : Exs) | lst (es : Exs) | dcl (ks vs : Exs)
  | bin (o : Bin) (a b : Ex) | neg (a : Ex)
  | cmp (o : Cm) (a b : Ex) | chn (o o' : Cm) (a b c : Ex)
  | and_ (a b : Ex) | or_ (a b : Ex) | not_ (a : Ex) | ite (c a b : Ex)
  | ix (a i : Ex) | sl (a : Ex) (lo hi : Op)
  | call (k : Nat) (es : Exs) | make (c k : Nat) (es : Exs) | meth (o : Ex) (k : Nat) (es : Exs)
  | blt (f : Blt) (es : Exs) | isi (a : Ex) (t : Ty) | bm (o : Ex) (m : Bm) (es : Exs)
  | fld (o : Ex) (f : List Nat)
  | lc (e : Ex) (tg : Tg) (it : Ito) (c : Op) (own : List Nat)
  | dcall (j : Nat) (key : Ex) (es : Exs)
  | dsp (ks : List (List Nat)) (vs : Exs) | dcn
  | opq
inductive Exs where
  | nil | cons (e : Ex) (es : Exs)
inductive Op where
  | no | so (e : Ex)
inductive Ito where
  | ex (e : Ex) | rng1 (e : Ex) | rng2 (a b : Ex) | enm (e : Ex) | zip (a b : Ex) | exd (e : Ex)
end
mutual
inductive Sm where
  | asg (tg : Tg) (e : Ex) | asgI (o i e : Ex) | asgF (o : Ex) (f : List Nat) (e : Ex)
  | aug (i : Nat) (o : Bin) (e : Ex)
  | expr (e : Ex) | ret (e : Ex) | retN
  | if_ (c : Ex) (a b : Sms) | whl (c : Ex) (b : Sms) | for_ (tg : Tg) (it : Ito) (b : Sms)
  | pass | brk | cont
  | raise (c : Nat)
  | try_ (b : Sms) (c : Nat) (h : Sms)
  | opq
inductive Sms where
  | nil | cons (s : Sm) (ss : Sms)
end

/-! ### readings -/
/-- a def's promise, at a rank (how deep its calls go): what it asks and gives -/
structure Spec where
  sp : Nat → List D → TH → Kd → XE → Prop
structure Ctx where
  G : Nat → Spec
  mc : Nat → Nat
  mn : Nat → List Nat
  fok : Nat → List Nat → Bool
  glb : Nat → D
  dt : Nat → List Nat → Option Nat
structure Sq where
  items : List D
  keep : TH → Prop
def setv (τ : Env) (i : Nat) (d : D) : Env := τ.set i (some d)
mutual
def bindT (tg : Tg) (d : D) (T : TH) (τ : Env) (k : Env → Prop) : Prop := match tg with
  | .nm i => k (setv τ i d)
  | .tp ts => ∃ ds, seqOf T d = some ds ∧ bindTs ts ds T τ k
def bindTs (ts : List Tg) (ds : List D) (T : TH) (τ : Env) (k : Env → Prop) : Prop := match ts with
  | [] => ds = [] ∧ k τ
  | t :: ts => ∃ d ds', ds = d :: ds' ∧ bindT t d T τ fun τ' => bindTs ts ds' T τ' k
end
def sqOf (d : D) (T : TH) (R : Sq → Prop) : Prop := match d with
  | .tup ds => R ⟨ds, fun _ => True⟩
  | .rol ds => R ⟨ds, fun _ => True⟩
  | .str x => R ⟨x.map fun c => .str [c], fun _ => True⟩
  | .ref a => (match T a with
    | some (.lst ds) => R ⟨ds, fun T' => T' a = some (.lst ds)⟩
    | _ => False)
  | _ => False
/-- what an enumerate, a zip takes: a list or a tuple -/
def sqOf2 (d : D) (T : TH) (R : Sq → Prop) : Prop := match d with
  | .tup ds => R ⟨ds, fun _ => True⟩
  | .rol ds => R ⟨ds, fun _ => True⟩
  | .ref a => (match T a with
    | some (.lst ds) => R ⟨ds, fun T' => T' a = some (.lst ds)⟩
    | _ => False)
  | _ => False
def kd : D → Bool
  | .tup _ => true
  | .wtup _ => true
  | _ => false
def enumD (k : Nat) : List D → List D
  | [] => []
  | d :: ds => .wtup [.int k, d] :: enumD (k + 1) ds
def zipD : List D → List D → List D
  | x :: xs, y :: ys => .wtup [x, y] :: zipD xs ys
  | _, _ => []
def wipe (τ : Env) : List Nat → Env
  | [] => τ
  | v :: vs => (wipe τ vs).set v none
def lcRun (step : D → TH → (TH → Prop) → Prop) (fin : TH → Prop) : List D → TH → Prop
  | [], T => fin T
  | d :: ds, T => step d T (lcRun step fin ds)
def forRun (step : D → Env → TH → (Env → TH → Prop) → Prop) (fin : Env → TH → Prop) : List D → Env → TH → Prop
  | [], τ, T => fin τ T
  | d :: ds, τ, T => step d τ T (forRun step fin ds)
def whRun (step : Env → TH → (Env → TH → Prop) → Prop) : Nat → Env → TH → Prop
  | 0, _, _ => False
  | n + 1, τ, T => step τ T (whRun step n)
def putF (f : List Nat) (v : D) : List (List Nat × D) → List (List Nat × D)
  | [] => [(f, v)]
  | (g, w) :: r => if g = f then (g, v) :: r else (g, w) :: putF f v r
def lookF (f : List Nat) : List (List Nat × D) → Option D
  | [] => none
  | (g, w) :: r => if g = f then some w else lookF f r
def nox : XE := fun _ _ => False
mutual
def rdE (C : Ctx) (r : Nat) (e : Ex) (X : XE) (τ : Env) (T : TH) (Q : Kd) : Prop := match e with
  | .var i => ∃ d, τ[i]? = some (some d) ∧ Q d T
  | .con d => Q d T
  | .glb j => Q (C.glb j) T
  | .tup es => rdEs C r es X τ T fun ds T1 => ds.length ≤ szL ∧ Q (.tup ds) T1
  | .lst es => rdEs C r es X τ T fun ds T1 => ds.length ≤ szL ∧ ∀ p, T1 p = none → Q (.ref p) (upd T1 p (.lst ds))
  | .dcl _ _ => ∀ p, T p = none → Q (.ref p) (upd T p (.dic []))
  | .bin o a b => rdE C r a X τ T fun x T1 => rdE C r b X τ T1 fun y T2 => binR o x y T2 Q
  | .neg a => rdE C r a X τ T fun x T1 => ∃ i, x = .int i ∧ Q (.int (-i)) T1
  | .cmp o a b => rdE C r a X τ T fun x T1 => rdE C r b X τ T1 fun y T2 => cmpR o x y T2 fun k => Q (.bl k) T2
  | .chn o o' a b c => rdE C r a X τ T fun x T1 => rdE C r b X τ T1 fun y T2 => cmpR o x y T2 fun k =>
      if k = true then rdE C r c X τ T2 fun z T3 => cmpR o' y z T3 fun k => Q (.bl k) T3 else Q (.bl false) T2
  | .and_ a b => rdE C r a X τ T fun x T1 => truR x T1 fun k => if k = true then rdE C r b X τ T1 Q else Q x T1
  | .or_ a b => rdE C r a X τ T fun x T1 => truR x T1 fun k => if k = true then Q x T1 else rdE C r b X τ T1 Q
  | .not_ a => rdE C r a X τ T fun x T1 => truR x T1 fun k => Q (.bl (!k)) T1
  | .ite c a b => rdT C r c X τ T fun k T1 => if k = true then rdE C r a X τ T1 Q else rdE C r b X τ T1 Q
  | .ix a i => rdE C r a X τ T fun x T1 => rdE C r i X τ T1 fun y T2 => ixR x y T2 fun v => Q v T2
  | .sl a lo hi => rdE C r a X τ T fun x T1 => rdO C r lo X τ T1 fun l T2 => rdO C r hi X τ T2 fun h T3 => slR x l h T3 Q
  | .call k es => rdEs C r es X τ T fun ds T1 => ∃ ρ, ρ < r ∧ (C.G k).sp ρ ds T1 Q X
  | .make c k es => rdEs C r es X τ T fun ds T1 => ∀ p, T1 p = none → ∃ ρ, ρ + 1 < r ∧
      (C.G k).sp ρ (.ref p :: ds) (upd T1 p (.ins c [])) (fun d T2 => d = .non ∧ Q (.ref p) T2) X
  | .meth o k es => rdE C r o X τ T fun x T1 => ∃ a fs, x = .ref a ∧ T1 a = some (.ins (C.mc k) fs) ∧ lookF (C.mn k) fs = none ∧
      rdEs C r es X τ T1 fun ds T2 => ∃ ρ, ρ < r ∧ (C.G k).sp ρ (x :: ds) T2 Q X
  | .blt f es => rdEs C r es X τ T fun ds T1 => bltR f ds T1 Q
  | .isi a t => rdE C r a X τ T fun x T1 => tyR x T1 fun u => Q (.bl (decide (u = t) || (decide (u = .bool) && decide (t = .int)))) T1
  | .bm o m es => rdE C r o X τ T fun x T1 => bmT m x T1 ∧ rdEs C r es X τ T1 fun ds T2 => bmR m x ds T2 Q
  | .fld o f => rdE C r o X τ T fun x T1 => ∃ a c fs d, x = .ref a ∧ T1 a = some (.ins c fs) ∧ C.fok c f = true ∧ lookF f fs = some d ∧ Q d T1
  | .lc e tg it c own => rdI C r it X τ T fun sq T1 => ∀ p, T1 p = none →
      sq.keep (upd T1 p (.lst [])) ∧ lcRun (fun d T k => bindT tg d T (wipe τ own) fun τ2 => rdC C r c τ2 T fun b T2 =>
        if b = true then rdE C r e nox τ2 T2 fun y T3 => ∃ acc, T3 p = some (.lst acc) ∧ acc.length < szL ∧ sq.keep (upd T3 p (.lst (acc ++ [y]))) ∧ k (upd T3 p (.lst (acc ++ [y])))
        else sq.keep T2 ∧ k T2) (fun T => Q (.ref p) T) sq.items (upd T1 p (.lst []))
  | .dcall j key es => rdE C r key X τ T fun x T1 => ∃ s k, x = .str s ∧ C.dt j s = some k ∧ rdEs C r es X τ T1 fun ds T2 => ∃ ρ, ρ < r ∧ (C.G k).sp ρ ds T2 Q X
  | .dsp ks vs => ∀ p, T p = none → rdEs C r vs X τ (upd T p (.dic [])) fun ds T1 => T1 p = some (.dic []) ∧ ks.Nodup ∧ Q (.ref p) (upd T1 p (.dic ((ks.map Sum.inr).zip ds)))
  | .dcn => ∀ p, T p = none → Q (.ref p) (upd T p (.dnk none []))
  | .opq => False
def rdT (C : Ctx) (r : Nat) (e : Ex) (X : XE) (τ : Env) (T : TH) (Q : Bool → TH → Prop) : Prop := match e with
  | .not_ a => rdT C r a X τ T fun k T1 => Q (!k) T1
  | .and_ a b => rdT C r a X τ T fun k T1 => if k = true then rdT C r b X τ T1 Q else Q false T1
  | .or_ a b => rdT C r a X τ T fun k T1 => if k = true then Q true T1 else rdT C r b X τ T1 Q
  | .cmp o a b => rdE C r a X τ T fun x T1 => rdE C r b X τ T1 fun y T2 => cmpR o x y T2 fun k => Q k T2
  | .chn o o' a b c => rdE C r a X τ T fun x T1 => rdE C r b X τ T1 fun y T2 => cmpR o x y T2 fun k =>
      if k = true then rdE C r c X τ T2 fun z T3 => cmpR o' y z T3 fun k => Q k T3 else Q false T2
  | .var i => ∃ d, τ[i]? = some (some d) ∧ truR d T fun k => Q k T
  | .con d => truR d T fun k => Q k T
  | .glb j => truR (C.glb j) T fun k => Q k T
  | .bin o a b => rdE C r a X τ T fun x T1 => rdE C r b X τ T1 fun y T2 => binR o x y T2 fun x T3 => truR x T3 fun k => Q k T3
  | .ix a i => rdE C r a X τ T fun x T1 => rdE C r i X τ T1 fun y T2 => ixR x y T2 fun v => truR v T2 fun k => Q k T2
  | .call k es => rdEs C r es X τ T fun ds T1 => ∃ ρ, ρ < r ∧ (C.G k).sp ρ ds T1 (fun x T2 => truR x T2 fun k => Q k T2) X
  | .meth o k es => rdE C r o X τ T fun x T1 => ∃ a fs, x = .ref a ∧ T1 a = some (.ins (C.mc k) fs) ∧ lookF (C.mn k) fs = none ∧
      rdEs C r es X τ T1 fun ds T2 => ∃ ρ, ρ < r ∧ (C.G k).sp ρ (x :: ds) T2 (fun x T2 => truR x T2 fun k => Q k T2) X
  | .blt f es => rdEs C r es X τ T fun ds T1 => bltR f ds T1 fun x T2 => truR x T2 fun k => Q k T2
  | .isi a t => rdE C r a X τ T fun x T1 => tyR x T1 fun u => Q (decide (u = t) || (decide (u = .bool) && decide (t = .int))) T1
  | .fld o f => rdE C r o X τ T fun x T1 => ∃ a c fs d, x = .ref a ∧ T1 a = some (.ins c fs) ∧ C.fok c f = true ∧ lookF f fs = some d ∧ truR d T1 fun k => Q k T1
  | .sl a lo hi => rdE C r a X τ T fun x T1 => rdO C r lo X τ T1 fun l T2 => rdO C r hi X τ T2 fun h T3 => slR x l h T3 fun x T2 => truR x T2 fun k => Q k T2
  | .bm o m es => rdE C r o X τ T fun x T1 => bmT m x T1 ∧ rdEs C r es X τ T1 fun ds T2 => bmR m x ds T2 fun x T2 => truR x T2 fun k => Q k T2
  | _ => False
def rdEs (C : Ctx) (r : Nat) (es : Exs) (X : XE) (τ : Env) (T : TH) (Q : List D → TH → Prop) : Prop := match es with
  | .nil => Q [] T
  | .cons e es => rdE C r e X τ T fun d T1 => rdEs C r es X τ T1 fun ds T2 => Q (d :: ds) T2
def rdO (C : Ctx) (r : Nat) (o : Op) (X : XE) (τ : Env) (T : TH) (Q : Option Int → TH → Prop) : Prop := match o with
  | .no => Q none T
  | .so e => rdE C r e X τ T fun d T1 => ∃ i, d = .int i ∧ Q (some i) T1
def rdC (C : Ctx) (r : Nat) (o : Op) (τ : Env) (T : TH) (Q : Bool → TH → Prop) : Prop := match o with
  | .no => Q true T
  | .so e => rdT C r e nox τ T Q
def rdI (C : Ctx) (r : Nat) (it : Ito) (X : XE) (τ : Env) (T : TH) (R : Sq → TH → Prop) : Prop := match it with
  | .ex e => rdE C r e X τ T fun d T1 => sqOf d T1 fun sq => R sq T1
  | .rng1 e => rdE C r e X τ T fun d T1 => ∃ j : Int, d = .int j ∧ -(2 ^ 62) ≤ j ∧ j < 2 ^ 62 ∧ R ⟨(List.range j.toNat).map fun i => .int (i : Nat), fun _ => True⟩ T1
  | .rng2 a b => rdE C r a X τ T fun x T1 => rdE C r b X τ T1 fun y T2 => ∃ i j : Int, x = .int i ∧ y = .int j ∧ (-(2 ^ 62) ≤ i ∧ i < 2 ^ 62 ∧ -(2 ^ 62) ≤ j ∧ j < 2 ^ 62) ∧
      R ⟨(List.range (j - i).toNat).map fun n => .int (i + (n : Nat)), fun _ => True⟩ T2
  | .enm e => rdE C r e X τ T fun d T1 => sqOf2 d T1 fun sq => R ⟨enumD 0 sq.items, sq.keep⟩ T1
  | .exd e => rdE C r e X τ T fun d T1 => ∃ a lk kvs, d = .ref a ∧ T1 a = some (.dnk lk kvs) ∧ ∀ o, R ⟨kvs.map fun kv => nkD kv.1, fun T' => T' a = some (.dnk (some o) kvs)⟩ (upd T1 a (.dnk (some o) kvs))
  | .zip a b => rdE C r a X τ T fun x T1 => rdE C r b X τ T1 fun y T2 => kd x = kd y ∧ sqOf2 x T2 fun sx => sqOf2 y T2 fun sy => R ⟨zipD sx.items sy.items, fun T => sx.keep T ∧ sy.keep T⟩ T2
end
structure TEnds where
  nx : Env → TH → Prop
  rt : Kd
  bk : Env → TH → Prop
  ct : Env → TH → Prop
  xe : Nat → Env → TH → Prop
mutual
def rdS (C : Ctx) (r : Nat) (s : Sm) (N : TEnds) (τ : Env) (T : TH) : Prop := match s with
  | .asg tg e => rdE C r e (fun c T => N.xe c τ T) τ T fun d T1 => bindT tg d T1 τ fun τ' => N.nx τ' T1
  | .asgI o i e => rdE C r e (fun c T => N.xe c τ T) τ T fun v T1 => rdE C r o (fun c T => N.xe c τ T) τ T1 fun x T2 => rdE C r i (fun c T => N.xe c τ T) τ T2 fun y T3 =>
      ∃ a, x = .ref a ∧ (match T3 a with
        | some (.lst xs) => ∃ k j, y = .int k ∧ L2.ixN xs.length k = some j ∧ N.nx τ (upd T3 a (.lst (xs.set j v)))
        | some (.dic kvs) => ∃ k, dkOf y = some k ∧ kvs.length < szL ∧ N.nx τ (upd T3 a (.dic (dput k v kvs)))
        | some (.dnk _ kvs) => ∃ k, nkOf y = some k ∧ kvs.length < szL ∧ N.nx τ (upd T3 a (.dnk none (dput k v kvs)))
        | _ => False)
  | .asgF o f e => rdE C r e (fun c T => N.xe c τ T) τ T fun v T1 => rdE C r o (fun c T => N.xe c τ T) τ T1 fun x T2 =>
      ∃ a c fs, x = .ref a ∧ T2 a = some (.ins c fs) ∧ C.fok c f = true ∧ fs.length < 1000 ∧ N.nx τ (upd T2 a (.ins c (putF f v fs)))
  | .aug i o e => ∃ x, τ[i]? = some (some x) ∧ rdE C r e (fun c T => N.xe c τ T) τ T fun y T1 => ∃ a b, x = .int a ∧ y = .int b ∧ (match o with
      | .add => N.nx (setv τ i (.int (a + b))) T1
      | .sub => N.nx (setv τ i (.int (a - b))) T1
      | _ => False)
  | .expr e => rdE C r e (fun c T => N.xe c τ T) τ T fun _ T1 => N.nx τ T1
  | .ret e => rdE C r e (fun c T => N.xe c τ T) τ T N.rt
  | .retN => N.rt .non T
  | .if_ c a b => rdT C r c (fun c T => N.xe c τ T) τ T fun k T1 => if k = true then rdSs C r a N τ T1 else rdSs C r b N τ T1
  | .whl c b => ∃ n, whRun (fun τ T k => rdT C r c (fun c T => N.xe c τ T) τ T fun b' T1 => if b' = true then rdSs C r b { N with nx := k, ct := k, bk := N.nx } τ T1 else N.nx τ T1) n τ T
  | .for_ tg it b => rdI C r it (fun c T => N.xe c τ T) τ T fun sq T1 => sq.keep T1 ∧ forRun (fun d τ T k => bindT tg d T τ fun τ' =>
      rdSs C r b { N with nx := fun τ T => sq.keep T ∧ k τ T, ct := fun τ T => sq.keep T ∧ k τ T, bk := N.nx } τ' T) N.nx sq.items τ T1
  | .pass => N.nx τ T
  | .brk => N.bk τ T
  | .cont => N.ct τ T
  | .raise c => N.xe c τ T
  | .opq => False
  | .try_ b c h => rdSs C r b { N with xe := fun c' τ T => if c' = c then rdSs C r h { N with xe := fun _ _ _ => False } τ T else False } τ T
def rdSs (C : Ctx) (r : Nat) (ss : Sms) (N : TEnds) (τ : Env) (T : TH) : Prop := match ss with
  | .nil => N.nx τ T
  | .cons s ss => rdS C r s { N with nx := fun τ T => rdSs C r ss N τ T } τ T
end
end Tr

/-! TD: programs by tables: what the head needs (early in the text: the head's own kernel work wants much memory). -/
namespace Tr
open PySem PySem.Spec PyProof.Rows L2
abbrev stS (x : List Nat) : Str := ⟨x.toArray⟩
structure Tb where
  fn : Nat → Option (Str × Nat)
  mt : Nat → Option (Str × Nat)
  mkc : Nat → Nat → Option (Str × Nat)
  free : Str → Bool
  gl : Nat → Option Str
  xc : Nat → Option Str
  gd : Nat → Option (Str × Nat)
structure Dfn where
  x : Str
  qual : Str
  st : Stmt
  N : List Str
  ps : List Str
  ir : Sms
/-- a program by its tables -/
structure Pg where
  n : Nat
  dfn : Nat → Dfn
  at_ : Nat → Str × Option Str
  tb : Tb
  clN : Nat → Str
  fokL : List (Nat × List Nat)
  fa : List He.Fa
def Pg.dd (p : Pg) (i : Nat) : He.DefD := ⟨p.at_ i, (p.dfn i).x, (p.dfn i).qual, defArgs (p.dfn i).st, defBody (p.dfn i).st, defScope (p.dfn i).st, [], []⟩
def Pg.dds (p : Pg) : List He.DefD := (List.range p.n).map p.dd
def Pg.fok (p : Pg) (c : Nat) (g : List Nat) : Bool := p.fokL.contains (c, g)
/-- a program by lists -/
structure Pl where
  dl : List Dfn
  d0 : Dfn
  atL : List (Str × Option Str)
  fnL : List (Option (Str × Nat))
  mtL : List (Option (Str × Nat))
  mkL : List ((Nat × Nat) × (Str × Nat))
  freeL : List Str
  glL : List (Str × D)
  gdL : List (Str × Nat × List Str × List (List Nat × Nat))
  clL : List Str
  fokL : List (Nat × List Nat)
  fa : List He.Fa
  mcL : List Nat
  mnL : List (List Nat)
def Pl.tb (l : Pl) : Tb := ⟨fun k => l.fnL.getD k none, fun k => l.mtL.getD k none, fun c k => (l.mkL.find? fun q => decide (q.1 = (c, k))).map (·.2), fun x => l.freeL.contains x, fun j => (l.glL[j]?).map (·.1), fun _ => none, fun j => (l.gdL[j]?).map fun t => (t.1, t.2.1)⟩
def Pl.pg (l : Pl) : Pg := ⟨l.dl.length, fun i => l.dl.getD i l.d0, fun i => l.atL.getD i (Str.empty, none), l.tb, fun c => l.clL.getD c Str.empty, l.fokL, l.fa⟩
mutual
def repB (K : PySem.W.Frag) (n : Nat) (d : D) (u : Value) : Bool := match d with
  | .non => (match u with | .none => true | _ => false)
  | .bl b => (match u with | .bool c => b == c | _ => false)
  | .int i => (match u with | .int j _ => decide (i = j) | _ => false)
  | .str x => (match u with | .str y _ => decide (stS x = y) | _ => false)
  | .tup ds => (match u with
    | .ref a => (match K.lookup a with
      | some ⟨.type c, none, .seq its _, _⟩ => decide (c = "tuple") && decide (its.size ≤ sizeLine) && repBs K n ds its.toList
      | _ => false)
    | _ => false)
  | _ => false
def repBs (K : PySem.W.Frag) (n : Nat) (ds : List D) (us : List Value) : Bool := match ds, us with
  | [], [] => true
  | d :: ds, u :: us => repB K n d u && repBs K n ds us
  | _, _ => false
end
def glB (K : PySem.W.Frag) (x : Str) (d : D) : Bool := match PySem.W.nsIn K mainGlobals x with
  | some (some u) => repB K 0 d u
  | _ => false
def Pl.tabs (l : Pl) : List He.Tab := l.gdL.map fun t => (fun K => He.ga K t.1, t.2.2.1)
def Pl.ex (l : Pl) (K : PySem.W.Frag) : Bool := (l.glL.all fun q => glB K q.1 q.2) && l.gdL.all fun t => He.valsB K (He.ga K t.1) (t.2.2.2.map fun q => (stS q.1, He.Dv.glo (l.pg.at_ q.2).1))
end Tr

set_option Elab.async false
set_option linter.all false
set_option maxRecDepth 100000
set_option maxHeartbeats 4000000
/-! G73: the text of k73 in the small syntax (printed by gen.py). -/
namespace T72
open Tr L2

/-- 0: heads_in(block) -/
def i_heads_in : Sms := (.cons (.asg (.nm 1) (.lst .nil)) (.cons (.for_ (.nm 2) (.ex (.var 0)) (.cons (.if_ (.cmp .eq (.ix (.var 2) (.con (.int 0))) (.con (.str [119, 104, 105, 108, 101]))) (.cons (.expr (.bm (.var 1) .append (.cons (.var 2) .nil))) (.cons (.expr (.bm (.var 1) .extend (.cons (.call 0 (.cons (.ix (.var 2) (.con (.int 3))) .nil)) .nil))) .nil)) (.cons (.if_ (.cmp .eq (.ix (.var 2) (.con (.int 0))) (.con (.str [105, 102]))) (.cons (.expr (.bm (.var 1) .extend (.cons (.call 0 (.cons (.ix (.var 2) (.con (.int 2))) .nil)) .nil))) (.cons (.expr (.bm (.var 1) .extend (.cons (.call 0 (.cons (.ix (.var 2) (.con (.int 3))) .nil)) .nil))) .nil)) .nil) .nil)) .nil)) (.cons (.ret (.var 1)) .nil)))
/-- 1: heads_of(program) -/
def i_heads_of : Sms := (.cons (.ret (.blt .tuple (.cons (.call 0 (.cons (.ix (.var 0) (.con (.int 2))) .nil)) .nil))) .nil)
/-- 2: Layout.__init__(self, program) -/
def i_Layout___init__ : Sms := (.cons (.asgF (.var 0) [114, 111, 119] (.lst .nil)) (.cons (.asgF (.var 0) [104, 101, 97, 100, 115, 95, 97, 116] (.lst .nil)) (.cons (.expr (.meth (.var 0) 3 (.cons (.ix (.var 1) (.con (.int 2))) .nil))) (.cons (.expr (.bm (.fld (.var 0) [114, 111, 119]) .append (.cons (.tup (.cons (.con (.str [101, 110, 100])) .nil)) .nil))) .nil))))
/-- 3: Layout.lay_block(self, block) -/
def i_Layout_lay_block : Sms := (.cons (.for_ (.nm 2) (.ex (.var 1)) (.cons (.if_ (.cmp .eq (.ix (.var 2) (.con (.int 0))) (.con (.str [105, 102]))) (.cons (.expr (.meth (.var 0) 4 (.cons (.var 2) .nil))) .nil) (.cons (.if_ (.cmp .eq (.ix (.var 2) (.con (.int 0))) (.con (.str [119, 104, 105, 108, 101]))) (.cons (.expr (.meth (.var 0) 5 (.cons (.var 2) .nil))) .nil) (.cons (.expr (.bm (.fld (.var 0) [114, 111, 119]) .append (.cons (.tup (.cons (.con (.str [100, 101, 101, 100])) (.cons (.var 2) .nil))) .nil))) .nil)) .nil)) .nil)) .nil)
/-- 4: Layout.lay_if(self, deed) -/
def i_Layout_lay_if : Sms := (.cons (.asg (.nm 2) (.blt .len (.cons (.fld (.var 0) [114, 111, 119]) .nil))) (.cons (.expr (.bm (.fld (.var 0) [114, 111, 119]) .append (.cons (.con .non) .nil))) (.cons (.expr (.meth (.var 0) 3 (.cons (.ix (.var 1) (.con (.int 2))) .nil))) (.cons (.asg (.nm 3) (.blt .len (.cons (.fld (.var 0) [114, 111, 119]) .nil))) (.cons (.expr (.bm (.fld (.var 0) [114, 111, 119]) .append (.cons (.con .non) .nil))) (.cons (.asgI (.fld (.var 0) [114, 111, 119]) (.var 2) (.tup (.cons (.con (.str [105, 102])) (.cons (.ix (.var 1) (.con (.int 1))) (.cons (.blt .len (.cons (.fld (.var 0) [114, 111, 119]) .nil)) .nil))))) (.cons (.expr (.meth (.var 0) 3 (.cons (.ix (.var 1) (.con (.int 3))) .nil))) (.cons (.asgI (.fld (.var 0) [114, 111, 119]) (.var 3) (.tup (.cons (.con (.str [106, 117, 109, 112])) (.cons (.blt .len (.cons (.fld (.var 0) [114, 111, 119]) .nil)) .nil)))) .nil))))))))
/-- 5: Layout.lay_while(self, deed) -/
def i_Layout_lay_while : Sms := (.cons (.asg (.nm 2) (.blt .len (.cons (.fld (.var 0) [114, 111, 119]) .nil))) (.cons (.asg (.nm 3) (.blt .len (.cons (.fld (.var 0) [104, 101, 97, 100, 115, 95, 97, 116]) .nil))) (.cons (.expr (.bm (.fld (.var 0) [104, 101, 97, 100, 115, 95, 97, 116]) .append (.cons (.var 2) .nil))) (.cons (.expr (.bm (.fld (.var 0) [114, 111, 119]) .append (.cons (.con .non) .nil))) (.cons (.expr (.meth (.var 0) 3 (.cons (.ix (.var 1) (.con (.int 3))) .nil))) (.cons (.expr (.bm (.fld (.var 0) [114, 111, 119]) .append (.cons (.tup (.cons (.con (.str [106, 117, 109, 112])) (.cons (.var 2) .nil))) .nil))) (.cons (.asgI (.fld (.var 0) [114, 111, 119]) (.var 2) (.tup (.cons (.con (.str [119, 104, 105, 108, 101])) (.cons (.ix (.var 1) (.con (.int 1))) (.cons (.blt .len (.cons (.fld (.var 0) [114, 111, 119]) .nil)) (.cons (.var 3) .nil)))))) .nil)))))))
/-- 6: Layout.landed(self, at) -/
def i_Layout_landed : Sms := (.cons (.whl (.cmp .eq (.ix (.ix (.fld (.var 0) [114, 111, 119]) (.var 1)) (.con (.int 0))) (.con (.str [106, 117, 109, 112]))) (.cons (.asg (.nm 1) (.ix (.ix (.fld (.var 0) [114, 111, 119]) (.var 1)) (.con (.int 1)))) .nil)) (.cons (.ret (.var 1)) .nil))
/-- 7: _law_place(_law_cast, _law_standing_here, _law_spots, _law_name_here) -/
def i__law_place : Sms := (.cons (.if_ (.cmp .eq (.var 3) (.con (.str [101, 110, 100]))) (.cons (.ret (.blt .len (.cons (.ix (.ix (.var 1) (.con (.int 0))) (.con (.int 0))) .nil))) .nil) .nil) (.cons (.if_ (.cmp .in_ (.var 3) (.var 2)) (.cons (.ret (.ix (.var 2) (.var 3))) .nil) .nil) (.cons (.ret (.ix (.ix (.var 1) (.con (.int 1))) (.bm (.ix (.var 0) (.con (.int 1))) .tindex (.cons (.var 3) .nil)))) .nil)))
/-- 8: first_spot(layout, start) -/
def i_first_spot : Sms := (.cons (.if_ (.cmp .is_ (.var 1) (.con .non)) (.cons (.ret (.meth (.var 0) 6 (.cons (.con (.int 0)) .nil))) .nil) .nil) (.cons (.asg (.nm 2) (.ix (.fld (.var 0) [104, 101, 97, 100, 115, 95, 97, 116]) (.ix (.var 1) (.con (.int 0))))) (.cons (.if_ (.ix (.var 1) (.con (.int 1))) (.cons (.ret (.meth (.var 0) 6 (.cons (.bin .add (.var 2) (.con (.int 1))) .nil))) .nil) .nil) (.cons (.ret (.meth (.var 0) 6 (.cons (.ix (.ix (.fld (.var 0) [114, 111, 119]) (.var 2)) (.con (.int 2))) .nil))) .nil))))
/-- 9: _law_worth(_law_cast, _law_standing_here, _law_spots, _law_one) -/
def i__law_worth : Sms := (.cons (.asg (.tp [(.nm 5), (.nm 6)]) (.var 3)) (.cons (.if_ (.cmp .is_ (.var 5) (.con .non)) (.cons (.ret (.var 6)) .nil) .nil) (.cons (.if_ (.isi (.var 5) .str) (.cons (.ret (.bin .add (.var 6) (.ix (.ix (.var 1) (.con (.int 2))) (.bm (.ix (.var 0) (.con (.int 2))) .tindex (.cons (.var 5) .nil))))) .nil) .nil) (.cons (.asg (.nm 4) (.bin .add (.ix (.ix (.var 1) (.con (.int 0))) (.bm (.ix (.var 0) (.con (.int 0))) .tindex (.cons (.ix (.var 5) (.con (.int 0))) .nil))) (.tup (.cons (.con (.int 0)) .nil)))) (.cons (.ret (.bin .add (.var 6) (.ix (.var 4) (.call 7 (.cons (.var 0) (.cons (.var 1) (.cons (.var 2) (.cons (.ix (.var 5) (.con (.int 1))) .nil)))))))) .nil)))))
/-- 10: _law_at(_law_row, _law_k, _law_thing) -/
def i__law_at : Sms := (.cons (.ret (.bin .add (.bin .add (.sl (.var 0) .no (.so (.var 1))) (.tup (.cons (.var 2) .nil))) (.sl (.var 0) (.so (.bin .add (.var 1) (.con (.int 1)))) .no))) .nil)
/-- 11: _law_cell_at(_law_script, _law_k) -/
def i__law_cell_at : Sms := (.cons (.if_ (.cmp .lt (.var 1) (.blt .len (.cons (.var 0) .nil))) (.cons (.ret (.ix (.var 0) (.var 1))) .nil) .nil) (.cons (.ret (.con (.int 0))) .nil))
/-- 12: _law_deck(_law_cell) -/
def i__law_deck : Sms := (.cons (.if_ (.cmp .lt (.var 0) (.bin .pow (.con (.int 10)) (.con (.int 18)))) (.cons (.ret (.lst (.cons (.con (.int 0)) (.cons (.con (.int 0)) (.cons (.bin .mod (.var 0) (.con (.int 2147483647))) .nil))))) .nil) .nil) (.cons (.ret (.lst (.cons (.var 0) (.cons (.con (.int 0)) (.cons (.bin .mod (.var 0) (.con (.int 2147483647))) .nil))))) .nil))
/-- 13: _law_draw(_law_deck_here, _law_most) -/
def i__law_draw : Sms := (.cons (.if_ (.cmp .gt (.ix (.var 0) (.con (.int 0))) (.con (.int 0))) (.cons (.asg (.nm 3) (.bin .mod (.ix (.var 0) (.con (.int 0))) (.var 1))) (.cons (.asgI (.var 0) (.con (.int 0)) (.bin .fdiv (.ix (.var 0) (.con (.int 0))) (.var 1))) (.cons (.ret (.var 3)) .nil))) .nil) (.cons (.asgI (.var 0) (.con (.int 1)) (.bin .add (.ix (.var 0) (.con (.int 1))) (.con (.int 1)))) (.cons (.asg (.nm 2) (.bin .mod (.bin .mul (.bin .add (.ix (.var 0) (.con (.int 2))) (.bin .mul (.bin .mul (.con (.int 7919)) (.ix (.var 0) (.con (.int 1)))) (.ix (.var 0) (.con (.int 1))))) (.con (.int 48271))) (.con (.int 2147483647)))) (.cons (.ret (.bin .mod (.bin .fdiv (.bin .mod (.bin .mul (.var 2) (.bin .add (.var 2) (.con (.int 69621)))) (.con (.int 2147483629))) (.con (.int 8))) (.var 1))) .nil))))
/-- 14: _law_tongue() -/
def i__law_tongue : Sms := (.cons (.asg (.nm 0) (.con (.str [101, 110, 100, 32, 109, 111, 115, 116, 32, 108, 101, 115, 115, 32, 115, 97, 109, 101, 32, 117, 110, 108, 105, 107, 101, 32, 97, 104, 101, 97, 100, 32, 104, 101, 114, 101, 32, 110, 101, 120, 116, 32, 110, 111, 116, 32, 97, 110, 100, 32, 111, 114, 32, 105, 102, 32, 101, 97, 99, 104, 32, 112, 97, 105, 114, 115, 32, 110, 101, 120, 116, 115, 32, 108, 101, 97, 115, 116, 32, 109, 111, 114, 101, 32, 114, 111, 119, 32, 112, 108, 97, 99, 101, 32, 110, 117, 109, 98, 101, 114]))) (.cons (.asg (.nm 0) (.bin .add (.var 0) (.con (.str [32, 112, 117, 116, 32, 115, 119, 97, 112, 32, 115, 101, 116, 32, 115, 116, 97, 110, 100, 32, 98, 101, 103, 105, 110, 32, 103, 111, 32, 119, 104, 105, 108, 101, 32, 107, 101, 112, 116, 32, 98, 101, 104, 105, 110, 100, 32, 99, 104, 97, 110, 103, 101, 100, 32, 101, 120, 99, 104, 97, 110, 103, 101, 100, 32, 116, 117, 114, 110, 101, 100, 32, 109, 111, 118, 101, 100, 32, 102, 114, 111, 110, 116, 32, 98, 97, 99, 107])))) (.cons (.ret (.bm (.var 0) .split (.cons (.con (.str [32])) .nil))) .nil)))
/-- 15: _law_name(_law_deck_here) -/
def i__law_name : Sms := (.cons (.asg (.nm 1) (.con (.str [97, 98, 99, 100, 101, 102, 103, 104, 105, 106, 107, 108, 109, 110, 111, 112, 113, 114, 115, 116, 117, 118, 119, 120, 121, 122]))) (.cons (.asg (.nm 2) (.lst (.cons (.con (.str [97])) (.cons (.con (.str [98])) (.cons (.con (.str [105])) (.cons (.con (.str [106])) (.cons (.con (.str [97, 97])) (.cons (.con (.str [97, 98])) (.cons (.con (.str [101, 110, 100, 115])) (.cons (.con (.str [109, 111, 115, 116, 108, 121])) (.cons (.con (.str [114, 111, 119, 115])) (.cons (.con (.str [99])) (.cons (.con (.str [110, 101, 120, 116, 97])) (.cons (.con (.str [112, 108, 97, 99, 101, 100])) .nil)))))))))))))) (.cons (.asg (.nm 3) (.call 13 (.cons (.var 0) (.cons (.con (.int 18)) .nil)))) (.cons (.if_ (.cmp .lt (.var 3) (.con (.int 12))) (.cons (.ret (.ix (.var 2) (.var 3))) .nil) .nil) (.cons (.ret (.bm (.con (.str [])) .join (.cons (.lc (.ix (.var 1) (.call 13 (.cons (.var 0) (.cons (.con (.int 26)) .nil)))) (.nm 4) (.rng1 (.bin .add (.con (.int 1)) (.call 13 (.cons (.var 0) (.cons (.con (.int 8)) .nil))))) .no [4]) .nil))) .nil)))))
/-- 16: _law_names(_law_deck_here, _law_many) -/
def i__law_names : Sms := (.cons (.asg (.nm 2) (.con (.str [97, 98, 99, 100, 101, 102, 103, 104, 105, 106, 107, 108, 109, 110, 111, 112, 113, 114, 115, 116, 117, 118, 119, 120, 121, 122, 97]))) (.cons (.asg (.nm 3) (.bin .add (.call 14 .nil) (.lst (.cons (.con (.str [104, 111, 108, 100, 115])) (.cons (.con (.str [98, 114, 111, 107, 101, 110])) (.cons (.con (.str [121, 101, 115])) (.cons (.con (.str [110, 111])) (.cons (.con (.str [111, 107])) .nil)))))))) (.cons (.asg (.nm 4) (.lst .nil)) (.cons (.for_ (.nm 5) (.rng1 (.var 1)) (.cons (.asg (.nm 6) (.call 15 (.cons (.var 0) .nil))) (.cons (.whl (.or_ (.cmp .in_ (.var 6) (.var 4)) (.cmp .in_ (.var 6) (.var 3))) (.cons (.asg (.nm 6) (.bin .add (.ix (.var 2) (.bin .add (.con (.int 1)) (.bm (.var 2) .sindex (.cons (.ix (.var 6) (.con (.int 0))) .nil)))) (.sl (.var 6) (.so (.con (.int 1))) .no))) .nil)) (.cons (.expr (.bm (.var 4) .append (.cons (.var 6) .nil))) .nil)))) (.cons (.ret (.var 4)) .nil)))))
/-- 17: _law_world(_law_deck_here) -/
def i__law_world : Sms := (.cons (.asg (.nm 1) (.blt .int_ (.cons (.cmp .eq (.call 13 (.cons (.var 0) (.cons (.con (.int 8)) .nil))) (.con (.int 5))) .nil))) (.cons (.asg (.nm 2) (.bin .add (.ix (.lst (.cons (.con (.int 1)) (.cons (.con (.int 1)) (.cons (.con (.int 1)) (.cons (.con (.int 2)) .nil))))) (.call 13 (.cons (.var 0) (.cons (.con (.int 4)) .nil)))) (.var 1))) (.cons (.asg (.nm 3) (.bin .add (.ix (.lst (.cons (.con (.int 0)) (.cons (.con (.int 1)) (.cons (.con (.int 2)) (.cons (.con (.int 1)) .nil))))) (.call 13 (.cons (.var 0) (.cons (.con (.int 4)) .nil)))) (.bin .mul (.con (.int 2)) (.var 1)))) (.cons (.asg (.nm 4) (.bin .add (.ix (.lst (.cons (.con (.int 0)) (.cons (.con (.int 1)) (.cons (.con (.int 2)) (.cons (.con (.int 0)) .nil))))) (.call 13 (.cons (.var 0) (.cons (.con (.int 4)) .nil)))) (.bin .mul (.con (.int 2)) (.var 1)))) (.cons (.asg (.nm 5) (.call 16 (.cons (.var 0) (.cons (.bin .add (.bin .add (.bin .add (.bin .add (.var 2) (.var 3)) (.var 4)) (.con (.int 2))) (.bin .mul (.con (.int 2)) (.var 1))) .nil)))) (.cons (.asg (.nm 6) (.lst (.cons (.sl (.var 5) .no (.so (.var 2))) (.cons (.sl (.var 5) (.so (.var 2)) (.so (.bin .add (.var 2) (.var 3)))) (.cons (.sl (.var 5) (.so (.bin .add (.var 2) (.var 3))) (.so (.bin .add (.bin .add (.var 2) (.var 3)) (.var 4)))) .nil))))) (.cons (.ret (.tup (.cons (.blt .tuple (.cons (.lc (.blt .tuple (.cons (.blt .sorted (.cons (.var 7) .nil)) .nil)) (.nm 7) (.ex (.var 6)) .no [7]) .nil)) (.cons (.blt .tuple (.cons (.sl (.var 5) (.so (.bin .add (.bin .add (.var 2) (.var 3)) (.var 4))) .no) .nil)) .nil)))) .nil)))))))
/-- 18: _law_number(_law_deck_here) -/
def i__law_number : Sms := (.cons (.asg (.nm 1) (.call 13 (.cons (.var 0) (.cons (.con (.int 16)) .nil)))) (.cons (.if_ (.cmp .eq (.var 1) (.con (.int 15))) (.cons (.asg (.nm 2) (.bin .add (.bin .mul (.call 13 (.cons (.var 0) (.cons (.bin .pow (.con (.int 10)) (.con (.int 5))) .nil))) (.con (.int 9999))) (.call 13 (.cons (.var 0) (.cons (.bin .pow (.con (.int 10)) (.con (.int 4))) .nil))))) (.cons (.ret (.bin .mul (.var 2) (.ix (.lst (.cons (.con (.int 1)) (.cons (.con (.int (-1))) .nil))) (.call 13 (.cons (.var 0) (.cons (.con (.int 2)) .nil)))))) .nil)) .nil) (.cons (.ret (.ix (.lst (.cons (.con (.int 0)) (.cons (.con (.int 1)) (.cons (.con (.int (-1))) (.cons (.con (.int 2)) (.cons (.con (.int (-2))) (.cons (.con (.int 0)) (.cons (.con (.int 1)) (.cons (.con (.int 3)) (.cons (.con (.int (-3))) (.cons (.con (.int 0)) (.cons (.con (.int 1)) (.cons (.con (.int 2)) (.cons (.con (.int (-1))) (.cons (.con (.int 0)) (.cons (.con (.int 5)) .nil)))))))))))))))) (.var 1))) .nil)))
/-- 19: _law_spot(_law_deck_here, _law_cast, _law_bound) -/
def i__law_spot : Sms := (.cons (.asg (.nm 3) (.bin .add (.bin .add (.bin .add (.var 2) (.var 2)) (.ix (.var 1) (.con (.int 1)))) (.tup (.cons (.con (.str [101, 110, 100])) .nil)))) (.cons (.ret (.ix (.var 3) (.call 13 (.cons (.var 0) (.cons (.blt .len (.cons (.var 3) .nil)) .nil))))) .nil))
/-- 20: _law_sum(_law_deck_here, _law_cast, _law_bound) -/
def i__law_sum : Sms := (.cons (.asg (.nm 3) (.call 13 (.cons (.var 0) (.cons (.con (.int 6)) .nil)))) (.cons (.asg (.nm 4) (.ix (.lst (.cons (.con (.int 0)) (.cons (.con (.int 0)) (.cons (.con (.int 1)) (.cons (.con (.int (-1))) (.cons (.con (.int 0)) (.cons (.con (.int 2)) (.cons (.con (.int (-2))) (.cons (.con (.int 0)) .nil))))))))) (.call 13 (.cons (.var 0) (.cons (.con (.int 8)) .nil))))) (.cons (.if_ (.cmp .eq (.call 13 (.cons (.var 0) (.cons (.con (.int 8)) .nil))) (.con (.int 5))) (.cons (.asg (.nm 4) (.call 18 (.cons (.var 0) .nil))) .nil) .nil) (.cons (.if_ (.cmp .eq (.var 3) (.con (.int 0))) (.cons (.ret (.tup (.cons (.con .non) (.cons (.var 4) .nil)))) .nil) .nil) (.cons (.if_ (.and_ (.cmp .eq (.var 3) (.con (.int 1))) (.cmp .ne (.ix (.var 1) (.con (.int 2))) (.tup .nil))) (.cons (.ret (.tup (.cons (.ix (.ix (.var 1) (.con (.int 2))) (.call 13 (.cons (.var 0) (.cons (.blt .len (.cons (.ix (.var 1) (.con (.int 2))) .nil)) .nil)))) (.cons (.var 4) .nil)))) .nil) .nil) (.cons (.ret (.tup (.cons (.tup (.cons (.ix (.ix (.var 1) (.con (.int 0))) (.call 13 (.cons (.var 0) (.cons (.blt .len (.cons (.ix (.var 1) (.con (.int 0))) .nil)) .nil)))) (.cons (.call 19 (.cons (.var 0) (.cons (.var 1) (.cons (.var 2) .nil)))) .nil))) (.cons (.var 4) .nil)))) .nil))))))
/-- 21: _law_atom(_law_deck_here, _law_cast, _law_bound) -/
def i__law_atom : Sms := (.cons (.asg (.nm 3) (.ix (.lst (.cons (.con (.str [109, 111, 115, 116])) (.cons (.con (.str [108, 101, 115, 115])) (.cons (.con (.str [115, 97, 109, 101])) (.cons (.con (.str [117, 110, 108, 105, 107, 101])) (.cons (.con (.str [109, 111, 115, 116])) (.cons (.con (.str [108, 101, 115, 115])) (.cons (.con (.str [97, 104, 101, 97, 100])) (.cons (.con (.str [104, 101, 114, 101])) .nil))))))))) (.call 13 (.cons (.var 0) (.cons (.con (.int 8)) .nil))))) (.cons (.if_ (.cmp .in_ (.var 3) (.tup (.cons (.con (.str [97, 104, 101, 97, 100])) (.cons (.con (.str [104, 101, 114, 101])) .nil)))) (.cons (.ret (.tup (.cons (.var 3) (.cons (.call 19 (.cons (.var 0) (.cons (.var 1) (.cons (.var 2) .nil)))) (.cons (.call 19 (.cons (.var 0) (.cons (.var 1) (.cons (.var 2) .nil)))) .nil))))) .nil) .nil) (.cons (.ret (.tup (.cons (.var 3) (.cons (.call 20 (.cons (.var 0) (.cons (.var 1) (.cons (.var 2) .nil)))) (.cons (.call 20 (.cons (.var 0) (.cons (.var 1) (.cons (.var 2) .nil)))) .nil))))) .nil)))
/-- 22: _law_joined(_law_deck_here, _law_parts) -/
def i__law_joined : Sms := (.cons (.asg (.nm 2) (.call 13 (.cons (.var 0) (.cons (.con (.int 4)) .nil)))) (.cons (.if_ (.cmp .eq (.var 2) (.con (.int 0))) (.cons (.ret (.tup (.cons (.con (.str [97, 110, 100])) (.cons (.blt .tuple (.cons (.var 1) .nil)) .nil)))) .nil) .nil) (.cons (.if_ (.cmp .eq (.var 2) (.con (.int 1))) (.cons (.ret (.tup (.cons (.con (.str [105, 102])) (.cons (.ix (.var 1) (.con (.int 0))) (.cons (.ix (.var 1) (.con (.int 1))) .nil))))) .nil) .nil) (.cons (.ret (.tup (.cons (.con (.str [111, 114])) (.cons (.blt .tuple (.cons (.var 1) .nil)) .nil)))) .nil))))
/-- 23: _law_body(_law_deck_here, _law_cast, _law_bound, _law_room, _law_deep) -/
def i__law_body : Sms := (.cons (.asg (.nm 5) (.call 13 (.cons (.var 0) (.cons (.con (.int 8)) .nil)))) (.cons (.if_ (.or_ (.cmp .eq (.var 4) (.con (.int 0))) (.or_ (.cmp .lt (.var 3) (.con (.int 2))) (.cmp .lt (.var 5) (.con (.int 4))))) (.cons (.ret (.call 21 (.cons (.var 0) (.cons (.var 1) (.cons (.var 2) .nil))))) .nil) .nil) (.cons (.if_ (.cmp .eq (.var 5) (.con (.int 4))) (.cons (.ret (.tup (.cons (.con (.str [110, 111, 116])) (.cons (.call 23 (.cons (.var 0) (.cons (.var 1) (.cons (.var 2) (.cons (.var 3) (.cons (.bin .sub (.var 4) (.con (.int 1))) .nil)))))) .nil)))) .nil) .nil) (.cons (.if_ (.and_ (.cmp .eq (.var 5) (.con (.int 5))) (.cmp .eq (.call 13 (.cons (.var 0) (.cons (.con (.int 4)) .nil))) (.con (.int 1)))) (.cons (.ret (.ix (.lst (.cons (.tup (.cons (.con (.str [97, 110, 100])) (.cons (.tup .nil) .nil))) (.cons (.tup (.cons (.con (.str [111, 114])) (.cons (.tup .nil) .nil))) .nil))) (.call 13 (.cons (.var 0) (.cons (.con (.int 2)) .nil))))) .nil) .nil) (.cons (.asg (.nm 6) (.ix (.lst (.cons (.con (.int 2)) (.cons (.con (.int 2)) (.cons (.con (.int 3)) .nil)))) (.call 13 (.cons (.var 0) (.cons (.con (.int 3)) .nil))))) (.cons (.if_ (.cmp .lt (.var 3) (.con (.int 3))) (.cons (.asg (.nm 6) (.con (.int 2))) .nil) .nil) (.cons (.asg (.nm 7) (.lc (.call 23 (.cons (.var 0) (.cons (.var 1) (.cons (.var 2) (.cons (.bin .fdiv (.var 3) (.var 6)) (.cons (.bin .sub (.var 4) (.con (.int 1))) .nil)))))) (.nm 8) (.rng1 (.var 6)) .no [8])) (.cons (.ret (.call 22 (.cons (.var 0) (.cons (.var 7) .nil)))) .nil))))))))
/-- 24: _law_deed(_law_deck_here, _law_world_here, _law_left, _law_deep) -/
def i__law_deed : Sms := (.cons (.asg (.nm 4) (.ix (.var 1) (.con (.int 0)))) (.cons (.asg (.nm 5) (.bin .add (.lst (.cons (.con (.str [112, 117, 116])) (.cons (.con (.str [115, 119, 97, 112])) (.cons (.con (.str [112, 117, 116])) .nil)))) (.bin .mul (.lst (.cons (.con (.str [115, 101, 116])) .nil)) (.blt .int_ (.cons (.cmp .ne (.ix (.var 4) (.con (.int 2))) (.tup .nil)) .nil))))) (.cons (.asg (.nm 5) (.bin .add (.var 5) (.bin .mul (.lst (.cons (.con (.str [115, 116, 97, 110, 100])) (.cons (.con (.str [98, 101, 103, 105, 110])) (.cons (.con (.str [103, 111])) (.cons (.con (.str [103, 111])) .nil))))) (.blt .int_ (.cons (.cmp .ne (.ix (.var 4) (.con (.int 1))) (.tup .nil)) .nil))))) (.cons (.asg (.nm 5) (.bin .add (.bin .add (.var 5) (.bin .mul (.lst (.cons (.con (.str [105, 102])) .nil)) (.blt .int_ (.cons (.and_ (.cmp .gt (.ix (.var 2) (.con (.int 2))) (.con (.int 0))) (.cmp .gt (.var 3) (.con (.int 0)))) .nil)))) (.bin .mul (.lst (.cons (.con (.str [119, 104, 105, 108, 101])) .nil)) (.blt .int_ (.cons (.and_ (.cmp .gt (.ix (.var 2) (.con (.int 1))) (.con (.int 0))) (.cmp .gt (.var 3) (.con (.int 0)))) .nil))))) (.cons (.asg (.nm 6) (.ix (.var 5) (.call 13 (.cons (.var 0) (.cons (.blt .len (.cons (.var 5) .nil)) .nil))))) (.cons (.if_ (.cmp .in_ (.var 6) (.tup (.cons (.con (.str [112, 117, 116])) (.cons (.con (.str [115, 119, 97, 112])) .nil)))) (.cons (.asg (.nm 9) (.ix (.ix (.var 4) (.con (.int 0))) (.call 13 (.cons (.var 0) (.cons (.blt .len (.cons (.ix (.var 4) (.con (.int 0))) .nil)) .nil))))) (.cons (.asg (.nm 10) (.call 19 (.cons (.var 0) (.cons (.var 4) (.cons (.tup .nil) .nil))))) (.cons (.if_ (.cmp .eq (.var 6) (.con (.str [112, 117, 116]))) (.cons (.ret (.tup (.cons (.var 6) (.cons (.var 9) (.cons (.var 10) (.cons (.call 20 (.cons (.var 0) (.cons (.var 4) (.cons (.tup .nil) .nil)))) .nil)))))) .nil) .nil) (.cons (.ret (.tup (.cons (.var 6) (.cons (.var 9) (.cons (.var 10) (.cons (.call 19 (.cons (.var 0) (.cons (.var 4) (.cons (.tup .nil) .nil)))) .nil)))))) .nil)))) .nil) (.cons (.if_ (.cmp .eq (.var 6) (.con (.str [115, 101, 116]))) (.cons (.ret (.tup (.cons (.var 6) (.cons (.ix (.ix (.var 4) (.con (.int 2))) (.call 13 (.cons (.var 0) (.cons (.blt .len (.cons (.ix (.var 4) (.con (.int 2))) .nil)) .nil)))) (.cons (.call 20 (.cons (.var 0) (.cons (.var 4) (.cons (.tup .nil) .nil)))) .nil))))) .nil) .nil) (.cons (.if_ (.cmp .in_ (.var 6) (.tup (.cons (.con (.str [115, 116, 97, 110, 100])) (.cons (.con (.str [98, 101, 103, 105, 110])) (.cons (.con (.str [103, 111])) .nil))))) (.cons (.asg (.nm 11) (.ix (.ix (.var 4) (.con (.int 1))) (.call 13 (.cons (.var 0) (.cons (.blt .len (.cons (.ix (.var 4) (.con (.int 1))) .nil)) .nil))))) (.cons (.if_ (.cmp .eq (.var 6) (.con (.str [115, 116, 97, 110, 100]))) (.cons (.ret (.tup (.cons (.var 6) (.cons (.var 11) (.cons (.call 19 (.cons (.var 0) (.cons (.var 4) (.cons (.tup .nil) .nil)))) .nil))))) .nil) .nil) (.cons (.ret (.tup (.cons (.var 6) (.cons (.var 11) .nil)))) .nil))) .nil) (.cons (.asg (.nm 7) (.call 23 (.cons (.var 0) (.cons (.var 4) (.cons (.tup .nil) (.cons (.con (.int 3)) (.cons (.con (.int 2)) .nil))))))) (.cons (.if_ (.cmp .eq (.var 6) (.con (.str [105, 102]))) (.cons (.asgI (.var 2) (.con (.int 2)) (.bin .sub (.ix (.var 2) (.con (.int 2))) (.con (.int 1)))) (.cons (.asg (.nm 12) (.call 25 (.cons (.var 0) (.cons (.var 1) (.cons (.var 2) (.cons (.bin .sub (.var 3) (.con (.int 1))) .nil)))))) (.cons (.ret (.tup (.cons (.var 6) (.cons (.var 7) (.cons (.var 12) (.cons (.call 25 (.cons (.var 0) (.cons (.var 1) (.cons (.var 2) (.cons (.bin .sub (.var 3) (.con (.int 1))) .nil))))) .nil)))))) .nil))) .nil) (.cons (.asgI (.var 2) (.con (.int 1)) (.bin .sub (.ix (.var 2) (.con (.int 1))) (.con (.int 1)))) (.cons (.asg (.nm 8) (.ix (.lst (.cons (.tup (.cons (.con (.str [97, 110, 100])) (.cons (.tup .nil) .nil))) (.cons (.tup (.cons (.con (.str [111, 114])) (.cons (.tup .nil) .nil))) (.cons (.var 7) .nil)))) (.call 13 (.cons (.var 0) (.cons (.con (.int 3)) .nil))))) (.cons (.ret (.tup (.cons (.var 6) (.cons (.var 7) (.cons (.var 8) (.cons (.call 25 (.cons (.var 0) (.cons (.var 1) (.cons (.var 2) (.cons (.bin .sub (.var 3) (.con (.int 1))) .nil))))) .nil)))))) .nil)))))))))))))
/-- 25: _law_block(_law_deck_here, _law_world_here, _law_left, _law_deep) -/
def i__law_block : Sms := (.cons (.asg (.nm 4) (.lst .nil)) (.cons (.for_ (.nm 5) (.rng1 (.ix (.lst (.cons (.con (.int 1)) (.cons (.con (.int 2)) (.cons (.con (.int 3)) (.cons (.con (.int 0)) (.cons (.con (.int 4)) (.cons (.con (.int 5)) .nil))))))) (.call 13 (.cons (.var 0) (.cons (.con (.int 6)) .nil))))) (.cons (.if_ (.cmp .gt (.ix (.var 2) (.con (.int 0))) (.con (.int 0))) (.cons (.asgI (.var 2) (.con (.int 0)) (.bin .sub (.ix (.var 2) (.con (.int 0))) (.con (.int 1)))) (.cons (.expr (.bm (.var 4) .append (.cons (.call 24 (.cons (.var 0) (.cons (.var 1) (.cons (.var 2) (.cons (.var 3) .nil))))) .nil))) .nil)) .nil) .nil)) (.cons (.ret (.blt .tuple (.cons (.var 4) .nil))) .nil)))
/-- 26: _law_program(_law_deck_here, _law_deep) -/
def i__law_program : Sms := (.cons (.asg (.nm 2) (.call 17 (.cons (.var 0) .nil))) (.cons (.asg (.nm 3) (.ix (.lst (.cons (.lst (.cons (.con (.int 8)) (.cons (.con (.int 2)) (.cons (.con (.int 2)) .nil)))) (.cons (.lst (.cons (.con (.int 22)) (.cons (.con (.int 3)) (.cons (.con (.int 3)) .nil)))) .nil))) (.blt .int_ (.cons (.cmp .eq (.call 13 (.cons (.var 0) (.cons (.con (.int 8)) .nil))) (.con (.int 5))) .nil)))) (.cons (.asg (.nm 4) (.lst (.cons (.tup (.cons (.con (.str [97, 110, 100])) (.cons (.tup .nil) .nil))) (.cons (.tup (.cons (.con (.str [111, 114])) (.cons (.tup .nil) .nil))) (.cons (.call 23 (.cons (.var 0) (.cons (.ix (.var 2) (.con (.int 0))) (.cons (.tup .nil) (.cons (.con (.int 2)) (.cons (.con (.int 1)) .nil)))))) .nil))))) (.cons (.asg (.nm 5) (.ix (.var 4) (.call 13 (.cons (.var 0) (.cons (.con (.int 3)) .nil))))) (.cons (.asg (.nm 6) (.call 25 (.cons (.var 0) (.cons (.var 2) (.cons (.var 3) (.cons (.var 1) .nil)))))) (.cons (.ret (.tup (.cons (.ix (.var 2) (.con (.int 0))) (.cons (.var 5) (.cons (.var 6) (.cons (.ix (.var 4) (.call 13 (.cons (.var 0) (.cons (.con (.int 3)) .nil)))) .nil)))))) .nil))))))
/-- 27: length_of(standing) -/
def i_length_of : Sms := (.cons (.ret (.blt .len (.cons (.ix (.ix (.var 0) (.con (.int 0))) (.con (.int 0))) .nil))) .nil)
/-- 28: place_of(cast, standing, name) -/
def i_place_of : Sms := (.cons (.if_ (.cmp .eq (.var 2) (.glb 0)) (.cons (.ret (.call 27 (.cons (.var 1) .nil))) .nil) .nil) (.cons (.ret (.ix (.ix (.var 1) (.con (.int 1))) (.bm (.ix (.var 0) (.con (.int 1))) .tindex (.cons (.var 2) .nil)))) .nil))
/-- 29: number_at(cast, standing, row, place) -/
def i_number_at : Sms := (.cons (.if_ (.cmp .eq (.var 3) (.call 27 (.cons (.var 1) .nil))) (.cons (.ret (.con (.int 0))) .nil) .nil) (.cons (.ret (.ix (.ix (.ix (.var 1) (.con (.int 0))) (.bm (.ix (.var 0) (.con (.int 0))) .tindex (.cons (.var 2) .nil))) (.var 3))) .nil))
/-- 30: place_by(cast, standing, bound, name) -/
def i_place_by : Sms := (.cons (.if_ (.cmp .in_ (.var 3) (.var 2)) (.cons (.ret (.ix (.var 2) (.var 3))) .nil) .nil) (.cons (.ret (.call 28 (.cons (.var 0) (.cons (.var 1) (.cons (.var 3) .nil))))) .nil))
/-- 31: worth_by(cast, standing, bound, one) -/
def i_worth_by : Sms := (.cons (.asg (.tp [(.nm 4), (.nm 5)]) (.var 3)) (.cons (.if_ (.cmp .is_ (.var 4) (.con .non)) (.cons (.ret (.var 5)) .nil) .nil) (.cons (.if_ (.isi (.var 4) .str) (.cons (.ret (.bin .add (.var 5) (.ix (.ix (.var 1) (.con (.int 2))) (.bm (.ix (.var 0) (.con (.int 2))) .tindex (.cons (.var 4) .nil))))) .nil) .nil) (.cons (.ret (.bin .add (.var 5) (.call 29 (.cons (.var 0) (.cons (.var 1) (.cons (.ix (.var 4) (.con (.int 0))) (.cons (.call 30 (.cons (.var 0) (.cons (.var 1) (.cons (.var 2) (.cons (.ix (.var 4) (.con (.int 1))) .nil))))) .nil))))))) .nil))))
/-- 32: worth(cast, standing, one) -/
def i_worth : Sms := (.cons (.ret (.call 31 (.cons (.var 0) (.cons (.var 1) (.cons (.dcl .nil .nil) (.cons (.var 2) .nil)))))) .nil)
/-- 33: is_so(word, one, other) -/
def i_is_so : Sms := (.cons (.if_ (.cmp .eq (.var 0) (.con (.str [109, 111, 115, 116]))) (.cons (.ret (.cmp .le (.var 1) (.var 2))) .nil) .nil) (.cons (.if_ (.cmp .eq (.var 0) (.con (.str [108, 101, 115, 115]))) (.cons (.ret (.cmp .lt (.var 1) (.var 2))) .nil) .nil) (.cons (.if_ (.cmp .eq (.var 0) (.con (.str [115, 97, 109, 101]))) (.cons (.ret (.cmp .eq (.var 1) (.var 2))) .nil) .nil) (.cons (.if_ (.cmp .eq (.var 0) (.con (.str [117, 110, 108, 105, 107, 101]))) (.cons (.ret (.cmp .ne (.var 1) (.var 2))) .nil) .nil) (.cons (.if_ (.cmp .eq (.var 0) (.con (.str [108, 101, 97, 115, 116]))) (.cons (.ret (.cmp .ge (.var 1) (.var 2))) .nil) .nil) (.cons (.ret (.cmp .gt (.var 1) (.var 2))) .nil))))))
/-- 34: stand_so(word, one, other) -/
def i_stand_so : Sms := (.cons (.if_ (.cmp .eq (.var 0) (.con (.str [97, 104, 101, 97, 100]))) (.cons (.ret (.cmp .lt (.var 1) (.var 2))) .nil) .nil) (.cons (.if_ (.cmp .eq (.var 0) (.con (.str [104, 101, 114, 101]))) (.cons (.ret (.cmp .eq (.var 1) (.var 2))) .nil) .nil) (.cons (.ret (.cmp .eq (.bin .add (.var 1) (.con (.int 1))) (.var 2))) .nil)))
/-- 35: holds_by(cast, standing, bound, saying) -/
def i_holds_by : Sms := (.cons (.asg (.nm 4) (.ix (.var 3) (.con (.int 0)))) (.cons (.if_ (.cmp .eq (.var 4) (.con (.str [110, 111, 116]))) (.cons (.ret (.not_ (.call 35 (.cons (.var 0) (.cons (.var 1) (.cons (.var 2) (.cons (.ix (.var 3) (.con (.int 1))) .nil))))))) .nil) .nil) (.cons (.if_ (.cmp .eq (.var 4) (.con (.str [105, 102]))) (.cons (.ret (.or_ (.not_ (.call 35 (.cons (.var 0) (.cons (.var 1) (.cons (.var 2) (.cons (.ix (.var 3) (.con (.int 1))) .nil)))))) (.call 35 (.cons (.var 0) (.cons (.var 1) (.cons (.var 2) (.cons (.ix (.var 3) (.con (.int 2))) .nil))))))) .nil) .nil) (.cons (.if_ (.cmp .eq (.var 4) (.con (.str [97, 110, 100]))) (.cons (.ret (.blt .all_ (.cons (.lc (.call 35 (.cons (.var 0) (.cons (.var 1) (.cons (.var 2) (.cons (.var 7) .nil))))) (.nm 7) (.ex (.ix (.var 3) (.con (.int 1)))) .no [7]) .nil))) .nil) .nil) (.cons (.if_ (.cmp .eq (.var 4) (.con (.str [111, 114]))) (.cons (.ret (.blt .any_ (.cons (.lc (.call 35 (.cons (.var 0) (.cons (.var 1) (.cons (.var 2) (.cons (.var 7) .nil))))) (.nm 7) (.ex (.ix (.var 3) (.con (.int 1)))) .no [7]) .nil))) .nil) .nil) (.cons (.if_ (.cmp .eq (.var 4) (.con (.str [101, 97, 99, 104]))) (.cons (.ret .opq) .nil) .nil) (.cons (.if_ (.cmp .eq (.var 4) (.con (.str [112, 97, 105, 114, 115]))) (.cons (.ret .opq) .nil) .nil) (.cons (.if_ (.cmp .eq (.var 4) (.con (.str [110, 101, 120, 116, 115]))) (.cons (.ret .opq) .nil) .nil) (.cons (.if_ (.cmp .in_ (.var 4) (.tup (.cons (.con (.str [97, 104, 101, 97, 100])) (.cons (.con (.str [104, 101, 114, 101])) (.cons (.con (.str [110, 101, 120, 116])) .nil))))) (.cons (.asg (.tp [(.nm 5), (.nm 6)]) (.lc (.call 30 (.cons (.var 0) (.cons (.var 1) (.cons (.var 2) (.cons (.var 8) .nil))))) (.nm 8) (.ex (.sl (.var 3) (.so (.con (.int 1))) .no)) .no [8])) (.cons (.ret (.call 34 (.cons (.var 4) (.cons (.var 5) (.cons (.var 6) .nil))))) .nil)) .nil) (.cons (.asg (.tp [(.nm 5), (.nm 6)]) (.lc (.call 31 (.cons (.var 0) (.cons (.var 1) (.cons (.var 2) (.cons (.var 7) .nil))))) (.nm 7) (.ex (.sl (.var 3) (.so (.con (.int 1))) .no)) .no [7])) (.cons (.ret (.call 33 (.cons (.var 4) (.cons (.var 5) (.cons (.var 6) .nil))))) .nil)))))))))))
/-- 36: holds(cast, standing, saying) -/
def i_holds : Sms := (.cons (.ret (.call 35 (.cons (.var 0) (.cons (.var 1) (.cons (.dcl .nil .nil) (.cons (.var 2) .nil)))))) .nil)
/-- 37: with_number(row, place, number) -/
def i_with_number : Sms := (.cons (.ret (.bin .add (.bin .add (.sl (.var 0) .no (.so (.var 1))) (.tup (.cons (.var 2) .nil))) (.sl (.var 0) (.so (.bin .add (.var 1) (.con (.int 1)))) .no))) .nil)
/-- 38: with_row(cast, standing, name, row) -/
def i_with_row : Sms := (.cons (.asg (.nm 4) (.bm (.ix (.var 0) (.con (.int 0))) .tindex (.cons (.var 2) .nil))) (.cons (.ret (.bin .add (.tup (.cons (.bin .add (.bin .add (.sl (.ix (.var 1) (.con (.int 0))) .no (.so (.var 4))) (.tup (.cons (.var 3) .nil))) (.sl (.ix (.var 1) (.con (.int 0))) (.so (.bin .add (.var 4) (.con (.int 1)))) .no)) .nil)) (.sl (.var 1) (.so (.con (.int 1))) .no))) .nil))
/-- 39: changed(cast, standing, turning) -/
def i_changed : Sms := (.cons (.asg (.tp [(.nm 5), (.nm 6), (.nm 7), (.nm 8)]) (.var 2)) (.cons (.asg (.nm 3) (.call 28 (.cons (.var 0) (.cons (.var 1) (.cons (.var 7) .nil))))) (.cons (.if_ (.cmp .eq (.var 3) (.call 27 (.cons (.var 1) .nil))) (.cons (.ret (.var 1)) .nil) .nil) (.cons (.asg (.nm 4) (.ix (.ix (.var 1) (.con (.int 0))) (.bm (.ix (.var 0) (.con (.int 0))) .tindex (.cons (.var 6) .nil)))) (.cons (.ret (.call 38 (.cons (.var 0) (.cons (.var 1) (.cons (.var 6) (.cons (.call 37 (.cons (.var 4) (.cons (.var 3) (.cons (.call 32 (.cons (.var 0) (.cons (.var 1) (.cons (.var 8) .nil)))) .nil)))) .nil)))))) .nil)))))
/-- 40: exchanged(cast, standing, turning) -/
def i_exchanged : Sms := (.cons (.asg (.tp [(.nm 6), (.nm 7), (.nm 8), (.nm 9)]) (.var 2)) (.cons (.asg (.nm 3) (.call 28 (.cons (.var 0) (.cons (.var 1) (.cons (.var 8) .nil))))) (.cons (.asg (.nm 4) (.call 28 (.cons (.var 0) (.cons (.var 1) (.cons (.var 9) .nil))))) (.cons (.if_ (.cmp .in_ (.call 27 (.cons (.var 1) .nil)) (.tup (.cons (.var 3) (.cons (.var 4) .nil)))) (.cons (.ret (.var 1)) .nil) .nil) (.cons (.asg (.nm 5) (.ix (.ix (.var 1) (.con (.int 0))) (.bm (.ix (.var 0) (.con (.int 0))) .tindex (.cons (.var 7) .nil)))) (.cons (.ret (.call 38 (.cons (.var 0) (.cons (.var 1) (.cons (.var 7) (.cons (.call 37 (.cons (.call 37 (.cons (.var 5) (.cons (.var 3) (.cons (.ix (.var 5) (.var 4)) .nil)))) (.cons (.var 4) (.cons (.ix (.var 5) (.var 3)) .nil)))) .nil)))))) .nil))))))
/-- 41: turned(cast, standing, turning) -/
def i_turned : Sms := (.cons (.ret (.dcall 0 (.ix (.var 2) (.con (.int 0))) (.cons (.var 0) (.cons (.var 1) (.cons (.var 2) .nil))))) .nil)
/-- 42: with_one(row, k, thing) -/
def i_with_one : Sms := (.cons (.ret (.bin .add (.bin .add (.sl (.var 0) .no (.so (.var 1))) (.tup (.cons (.var 2) .nil))) (.sl (.var 0) (.so (.bin .add (.var 1) (.con (.int 1)))) .no))) .nil)
/-- 43: stood(cast, standing, name, place) -/
def i_stood : Sms := (.cons (.ret (.tup (.cons (.ix (.var 1) (.con (.int 0))) (.cons (.call 42 (.cons (.ix (.var 1) (.con (.int 1))) (.cons (.bm (.ix (.var 0) (.con (.int 1))) .tindex (.cons (.var 2) .nil)) (.cons (.var 3) .nil)))) (.cons (.ix (.var 1) (.con (.int 2))) .nil))))) .nil)
/-- 44: acted(cast, standing, deed) -/
def i_acted : Sms := (.cons (.asg (.nm 3) (.ix (.var 2) (.con (.int 0)))) (.cons (.if_ (.cmp .eq (.var 3) (.con (.str [112, 117, 116]))) (.cons (.ret (.call 41 (.cons (.var 0) (.cons (.var 1) (.cons (.bin .add (.tup (.cons (.con (.str [99, 104, 97, 110, 103, 101, 100])) .nil)) (.sl (.var 2) (.so (.con (.int 1))) .no)) .nil))))) .nil) .nil) (.cons (.if_ (.cmp .eq (.var 3) (.con (.str [115, 119, 97, 112]))) (.cons (.ret (.call 41 (.cons (.var 0) (.cons (.var 1) (.cons (.bin .add (.tup (.cons (.con (.str [101, 120, 99, 104, 97, 110, 103, 101, 100])) .nil)) (.sl (.var 2) (.so (.con (.int 1))) .no)) .nil))))) .nil) .nil) (.cons (.if_ (.cmp .eq (.var 3) (.con (.str [115, 101, 116]))) (.cons (.asg (.nm 5) (.call 32 (.cons (.var 0) (.cons (.var 1) (.cons (.ix (.var 2) (.con (.int 2))) .nil))))) (.cons (.ret (.tup (.cons (.ix (.var 1) (.con (.int 0))) (.cons (.ix (.var 1) (.con (.int 1))) (.cons (.call 42 (.cons (.ix (.var 1) (.con (.int 2))) (.cons (.bm (.ix (.var 0) (.con (.int 2))) .tindex (.cons (.ix (.var 2) (.con (.int 1))) .nil)) (.cons (.var 5) .nil)))) .nil))))) .nil)) .nil) (.cons (.if_ (.cmp .eq (.var 3) (.con (.str [115, 116, 97, 110, 100]))) (.cons (.ret (.call 43 (.cons (.var 0) (.cons (.var 1) (.cons (.ix (.var 2) (.con (.int 1))) (.cons (.call 28 (.cons (.var 0) (.cons (.var 1) (.cons (.ix (.var 2) (.con (.int 2))) .nil)))) .nil)))))) .nil) .nil) (.cons (.if_ (.cmp .eq (.var 3) (.con (.str [98, 101, 103, 105, 110]))) (.cons (.ret (.call 43 (.cons (.var 0) (.cons (.var 1) (.cons (.ix (.var 2) (.con (.int 1))) (.cons (.con (.int 0)) .nil)))))) .nil) .nil) (.cons (.asg (.nm 4) (.bin .add (.call 28 (.cons (.var 0) (.cons (.var 1) (.cons (.ix (.var 2) (.con (.int 1))) .nil)))) (.con (.int 1)))) (.cons (.ret (.call 43 (.cons (.var 0) (.cons (.var 1) (.cons (.ix (.var 2) (.con (.int 1))) (.cons (.blt .min (.cons (.var 4) (.cons (.call 27 (.cons (.var 1) .nil)) .nil))) .nil)))))) .nil))))))))
/-- 45: path_of(program, leg) -/
def i_path_of : Sms := (.cons (.asg (.nm 2) (.make 0 2 (.cons (.var 0) .nil))) (.cons (.asg (.tp [(.nm 6), (.nm 7), (.nm 8)]) (.var 1)) (.cons (.asg (.nm 3) (.lst .nil)) (.cons (.if_ (.cmp .isn (.var 6) (.con .non)) (.cons (.expr (.bm (.var 3) .append (.cons (.tup (.cons (.con (.str [97, 115, 107, 101, 100])) (.cons (.ix (.ix (.call 1 (.cons (.var 0) .nil)) (.ix (.var 6) (.con (.int 0)))) (.con (.int 1))) (.cons (.ix (.var 6) (.con (.int 1))) .nil)))) .nil))) .nil) .nil) (.cons (.asg (.nm 4) (.call 8 (.cons (.var 2) (.cons (.var 6) .nil)))) (.cons (.asg (.nm 5) (.con (.int 0))) (.cons (.whl (.cmp .in_ (.ix (.ix (.fld (.var 2) [114, 111, 119]) (.var 4)) (.con (.int 0))) (.tup (.cons (.con (.str [100, 101, 101, 100])) (.cons (.con (.str [105, 102])) .nil)))) (.cons (.asg (.nm 9) (.ix (.fld (.var 2) [114, 111, 119]) (.var 4))) (.cons (.if_ (.cmp .eq (.ix (.var 9) (.con (.int 0))) (.con (.str [100, 101, 101, 100]))) (.cons (.expr (.bm (.var 3) .append (.cons (.var 9) .nil))) (.cons (.asg (.nm 4) (.meth (.var 2) 6 (.cons (.bin .add (.var 4) (.con (.int 1))) .nil))) .nil)) (.cons (.expr (.bm (.var 3) .append (.cons (.tup (.cons (.con (.str [97, 115, 107, 101, 100])) (.cons (.ix (.var 9) (.con (.int 1))) (.cons (.ix (.var 7) (.var 5)) .nil)))) .nil))) (.cons (.asg (.nm 4) (.meth (.var 2) 6 (.cons (.ix (.lst (.cons (.ix (.var 9) (.con (.int 2))) (.cons (.bin .add (.var 4) (.con (.int 1))) .nil))) (.blt .int_ (.cons (.ix (.var 7) (.var 5)) .nil))) .nil))) (.cons (.aug 5 .add (.con (.int 1))) .nil)))) .nil))) (.cons (.ret (.var 3)) .nil))))))))
/-- 46: along(program, leg, standing) -/
def i_along : Sms := (.cons (.for_ (.nm 3) (.ex (.call 45 (.cons (.var 0) (.cons (.var 1) .nil)))) (.cons (.if_ (.cmp .eq (.ix (.var 3) (.con (.int 0))) (.con (.str [100, 101, 101, 100]))) (.cons (.asg (.nm 2) (.call 44 (.cons (.ix (.var 0) (.con (.int 0))) (.cons (.var 2) (.cons (.ix (.var 3) (.con (.int 1))) .nil))))) .nil) (.cons (.if_ (.cmp .ne (.call 36 (.cons (.ix (.var 0) (.con (.int 0))) (.cons (.var 2) (.cons (.ix (.var 3) (.con (.int 1))) .nil)))) (.ix (.var 3) (.con (.int 2)))) (.cons (.ret (.con .non)) .nil) .nil) .nil)) .nil)) (.cons (.ret (.var 2)) .nil))
/-- 47: _law_standing(_law_deck_here, _law_cast, _law_long) -/
def i__law_standing : Sms := (.cons (.asg (.nm 3) (.call 13 (.cons (.var 0) (.cons (.bin .add (.var 2) (.con (.int 1))) .nil)))) (.cons (.asg (.nm 4) (.blt .tuple (.cons (.lc (.blt .tuple (.cons (.lc (.call 18 (.cons (.var 0) .nil)) (.nm 9) (.rng1 (.var 3)) .no [9]) .nil)) (.nm 6) (.ex (.ix (.var 1) (.con (.int 0)))) .no [6]) .nil))) (.cons (.asg (.nm 5) (.blt .tuple (.cons (.lc (.call 13 (.cons (.var 0) (.cons (.bin .add (.var 3) (.con (.int 1))) .nil))) (.nm 7) (.ex (.ix (.var 1) (.con (.int 1)))) .no [7]) .nil))) (.cons (.ret (.tup (.cons (.var 4) (.cons (.var 5) (.cons (.blt .tuple (.cons (.lc (.call 18 (.cons (.var 0) .nil)) (.nm 8) (.ex (.ix (.var 1) (.con (.int 2)))) .no [8]) .nil)) .nil))))) .nil))))
/-- 48: _law_holds(_law_cast, _law_standing_here, _law_saying, _law_spots) -/
def i__law_holds : Sms := (.cons (.asg (.nm 4) (.ix (.var 2) (.con (.int 0)))) (.cons (.if_ (.cmp .in_ (.var 4) (.tup (.cons (.con (.str [109, 111, 115, 116])) (.cons (.con (.str [108, 101, 115, 115])) (.cons (.con (.str [115, 97, 109, 101])) (.cons (.con (.str [117, 110, 108, 105, 107, 101])) .nil)))))) (.cons (.asg (.tp [(.nm 8), (.nm 9)]) (.lc (.call 9 (.cons (.var 0) (.cons (.var 1) (.cons (.var 3) (.cons (.var 10) .nil))))) (.nm 10) (.ex (.sl (.var 2) (.so (.con (.int 1))) .no)) .no [10])) (.cons (.asg (.nm 7) (.dsp [[109, 111, 115, 116], [108, 101, 115, 115], [115, 97, 109, 101], [117, 110, 108, 105, 107, 101]] (.cons (.cmp .le (.var 8) (.var 9)) (.cons (.cmp .lt (.var 8) (.var 9)) (.cons (.cmp .eq (.var 8) (.var 9)) (.cons (.cmp .ne (.var 8) (.var 9)) .nil)))))) (.cons (.ret (.ix (.var 7) (.var 4))) .nil))) .nil) (.cons (.if_ (.cmp .in_ (.var 4) (.tup (.cons (.con (.str [97, 104, 101, 97, 100])) (.cons (.con (.str [104, 101, 114, 101])) .nil)))) (.cons (.asg (.tp [(.nm 8), (.nm 9)]) (.lc (.call 7 (.cons (.var 0) (.cons (.var 1) (.cons (.var 3) (.cons (.var 10) .nil))))) (.nm 10) (.ex (.sl (.var 2) (.so (.con (.int 1))) .no)) .no [10])) (.cons (.ret (.ix (.lst (.cons (.cmp .lt (.var 8) (.var 9)) (.cons (.cmp .eq (.var 8) (.var 9)) .nil))) (.blt .int_ (.cons (.cmp .eq (.var 4) (.con (.str [104, 101, 114, 101]))) .nil)))) .nil)) .nil) (.cons (.if_ (.cmp .eq (.var 4) (.con (.str [110, 111, 116]))) (.cons (.ret (.not_ (.call 48 (.cons (.var 0) (.cons (.var 1) (.cons (.ix (.var 2) (.con (.int 1))) (.cons (.var 3) .nil))))))) .nil) .nil) (.cons (.asg (.nm 5) (.ix (.var 2) (.con (.int 1)))) (.cons (.if_ (.cmp .eq (.var 4) (.con (.str [105, 102]))) (.cons (.asg (.nm 5) (.tup (.cons (.tup (.cons (.con (.str [110, 111, 116])) (.cons (.ix (.var 2) (.con (.int 1))) .nil))) (.cons (.ix (.var 2) (.con (.int 2))) .nil)))) .nil) .nil) (.cons (.asg (.nm 6) (.lc (.call 48 (.cons (.var 0) (.cons (.var 1) (.cons (.var 10) (.cons (.var 3) .nil))))) (.nm 10) (.ex (.var 5)) .no [10])) (.cons (.ret (.ite (.cmp .eq (.var 4) (.con (.str [97, 110, 100]))) (.cmp .nin (.con (.bl false)) (.var 6)) (.cmp .in_ (.con (.bl true)) (.var 6)))) .nil))))))))
/-- 49: _law_acted(_law_cast, _law_standing_here, _law_deed_here) -/
def i__law_acted : Sms := (.cons (.asg (.tp [(.nm 7), (.nm 8), (.nm 9)]) (.var 1)) (.cons (.asg (.nm 3) (.blt .len (.cons (.ix (.var 7) (.con (.int 0))) .nil))) (.cons (.if_ (.cmp .eq (.ix (.var 2) (.con (.int 0))) (.con (.str [115, 101, 116]))) (.cons (.asg (.nm 10) (.call 9 (.cons (.var 0) (.cons (.var 1) (.cons (.dcl .nil .nil) (.cons (.ix (.var 2) (.con (.int 2))) .nil)))))) (.cons (.ret (.tup (.cons (.var 7) (.cons (.var 8) (.cons (.call 10 (.cons (.var 9) (.cons (.bm (.ix (.var 0) (.con (.int 2))) .tindex (.cons (.ix (.var 2) (.con (.int 1))) .nil)) (.cons (.var 10) .nil)))) .nil))))) .nil)) .nil) (.cons (.if_ (.cmp .in_ (.ix (.var 2) (.con (.int 0))) (.tup (.cons (.con (.str [115, 116, 97, 110, 100])) (.cons (.con (.str [98, 101, 103, 105, 110])) (.cons (.con (.str [103, 111])) .nil))))) (.cons (.asg (.nm 4) (.bm (.ix (.var 0) (.con (.int 1))) .tindex (.cons (.ix (.var 2) (.con (.int 1))) .nil))) (.cons (.asg (.nm 11) (.bin .mul (.blt .min (.cons (.var 3) (.cons (.bin .add (.ix (.var 8) (.var 4)) (.con (.int 1))) .nil))) (.blt .int_ (.cons (.cmp .eq (.ix (.var 2) (.con (.int 0))) (.con (.str [103, 111]))) .nil)))) (.cons (.if_ (.cmp .eq (.ix (.var 2) (.con (.int 0))) (.con (.str [115, 116, 97, 110, 100]))) (.cons (.asg (.nm 11) (.call 7 (.cons (.var 0) (.cons (.var 1) (.cons (.dcl .nil .nil) (.cons (.ix (.var 2) (.con (.int 2))) .nil)))))) .nil) .nil) (.cons (.ret (.tup (.cons (.var 7) (.cons (.call 10 (.cons (.var 8) (.cons (.var 4) (.cons (.var 11) .nil)))) (.cons (.var 9) .nil))))) .nil)))) .nil) (.cons (.asg (.nm 4) (.bm (.ix (.var 0) (.con (.int 0))) .tindex (.cons (.ix (.var 2) (.con (.int 1))) .nil))) (.cons (.asg (.nm 5) (.ix (.var 7) (.var 4))) (.cons (.asg (.nm 6) (.call 7 (.cons (.var 0) (.cons (.var 1) (.cons (.dcl .nil .nil) (.cons (.ix (.var 2) (.con (.int 2))) .nil)))))) (.cons (.if_ (.and_ (.cmp .eq (.ix (.var 2) (.con (.int 0))) (.con (.str [112, 117, 116]))) (.cmp .lt (.var 6) (.var 3))) (.cons (.asg (.nm 5) (.call 10 (.cons (.var 5) (.cons (.var 6) (.cons (.call 9 (.cons (.var 0) (.cons (.var 1) (.cons (.dcl .nil .nil) (.cons (.ix (.var 2) (.con (.int 3))) .nil))))) .nil))))) .nil) .nil) (.cons (.if_ (.cmp .eq (.ix (.var 2) (.con (.int 0))) (.con (.str [115, 119, 97, 112]))) (.cons (.asg (.nm 12) (.call 7 (.cons (.var 0) (.cons (.var 1) (.cons (.dcl .nil .nil) (.cons (.ix (.var 2) (.con (.int 3))) .nil)))))) (.cons (.if_ (.and_ (.cmp .lt (.var 6) (.var 3)) (.cmp .lt (.var 12) (.var 3))) (.cons (.asg (.nm 5) (.call 10 (.cons (.call 10 (.cons (.var 5) (.cons (.var 6) (.cons (.ix (.var 5) (.var 12)) .nil)))) (.cons (.var 12) (.cons (.ix (.var 5) (.var 6)) .nil))))) .nil) .nil) .nil)) .nil) (.cons (.ret (.tup (.cons (.call 10 (.cons (.var 7) (.cons (.var 4) (.cons (.var 5) .nil)))) (.cons (.var 8) (.cons (.var 9) .nil))))) .nil))))))))))
/-- 50: _law_along(_law_cast, _law_path, _law_standing_here) -/
def i__law_along : Sms := (.cons (.for_ (.nm 3) (.ex (.var 1)) (.cons (.if_ (.cmp .eq (.ix (.var 3) (.con (.int 0))) (.con (.str [100, 101, 101, 100]))) (.cons (.asg (.nm 2) (.call 49 (.cons (.var 0) (.cons (.var 2) (.cons (.ix (.var 3) (.con (.int 1))) .nil))))) .nil) (.cons (.if_ (.cmp .ne (.call 48 (.cons (.var 0) (.cons (.var 2) (.cons (.ix (.var 3) (.con (.int 1))) (.cons (.dcl .nil .nil) .nil))))) (.ix (.var 3) (.con (.int 2)))) (.cons (.ret (.con .non)) .nil) .nil) .nil)) .nil)) (.cons (.ret (.var 2)) .nil))
/-- 51: _law_numbered(_law_block_here, _law_number_here) -/
def i__law_numbered : Sms := (.cons (.asg (.nm 2) (.lst .nil)) (.cons (.for_ (.nm 3) (.ex (.var 0)) (.cons (.if_ (.cmp .eq (.ix (.var 3) (.con (.int 0))) (.con (.str [105, 102]))) (.cons (.asg (.tp [(.nm 4), (.nm 1)]) (.call 51 (.cons (.ix (.var 3) (.con (.int 2))) (.cons (.var 1) .nil)))) (.cons (.asg (.tp [(.nm 5), (.nm 1)]) (.call 51 (.cons (.ix (.var 3) (.con (.int 3))) (.cons (.var 1) .nil)))) (.cons (.asg (.nm 3) (.tup (.cons (.ix (.var 3) (.con (.int 0))) (.cons (.ix (.var 3) (.con (.int 1))) (.cons (.var 4) (.cons (.var 5) .nil)))))) .nil))) .nil) (.cons (.if_ (.cmp .eq (.ix (.var 3) (.con (.int 0))) (.con (.str [119, 104, 105, 108, 101]))) (.cons (.asg (.tp [(.nm 6), (.nm 7)]) (.call 51 (.cons (.ix (.var 3) (.con (.int 3))) (.cons (.bin .add (.var 1) (.con (.int 1))) .nil)))) (.cons (.asg (.nm 3) (.tup (.cons (.ix (.var 3) (.con (.int 0))) (.cons (.ix (.var 3) (.con (.int 1))) (.cons (.ix (.var 3) (.con (.int 2))) (.cons (.var 6) (.cons (.var 1) .nil))))))) (.cons (.asg (.nm 1) (.var 7)) .nil))) .nil) (.cons (.expr (.bm (.var 2) .append (.cons (.var 3) .nil))) .nil)))) (.cons (.ret (.tup (.cons (.blt .tuple (.cons (.var 2) .nil)) (.cons (.var 1) .nil)))) .nil)))
/-- 52: _law_contexts(_law_block_here, _law_frames, _law_owner, _law_found) -/
def i__law_contexts : Sms := (.cons (.for_ (.tp [(.nm 4), (.nm 5)]) (.enm (.var 0)) (.cons (.if_ (.cmp .eq (.ix (.var 5) (.con (.int 0))) (.con (.str [119, 104, 105, 108, 101]))) (.cons (.asgI (.var 3) (.ix (.var 5) (.con (.int 4))) (.bin .add (.var 1) (.tup (.cons (.tup (.cons (.var 0) (.cons (.var 4) (.cons (.var 2) .nil)))) .nil)))) (.cons (.expr (.call 52 (.cons (.ix (.var 5) (.con (.int 3))) (.cons (.ix (.var 3) (.ix (.var 5) (.con (.int 4)))) (.cons (.ix (.var 5) (.con (.int 4))) (.cons (.var 3) .nil)))))) .nil)) .nil) (.cons (.if_ (.cmp .eq (.ix (.var 5) (.con (.int 0))) (.con (.str [105, 102]))) (.cons (.expr (.call 52 (.cons (.ix (.var 5) (.con (.int 2))) (.cons (.bin .add (.var 1) (.tup (.cons (.tup (.cons (.var 0) (.cons (.bin .add (.var 4) (.con (.int 1))) (.cons (.var 2) .nil)))) .nil))) (.cons (.con .non) (.cons (.var 3) .nil)))))) (.cons (.expr (.call 52 (.cons (.ix (.var 5) (.con (.int 3))) (.cons (.bin .add (.var 1) (.tup (.cons (.tup (.cons (.var 0) (.cons (.bin .add (.var 4) (.con (.int 1))) (.cons (.var 2) .nil)))) .nil))) (.cons (.con .non) (.cons (.var 3) .nil)))))) .nil)) .nil) .nil))) .nil)
/-- 53: _law_paths(_law_frames, _law_choices, _law_path) -/
def i__law_paths : Sms := (.cons (.asg (.nm 0) (.blt .list (.cons (.var 0) .nil))) (.cons (.whl (.cmp .ne (.var 0) (.lst .nil)) (.cons (.asg (.tp [(.nm 3), (.nm 4), (.nm 5)]) (.ix (.var 0) (.con (.int (-1))))) (.cons (.if_ (.cmp .eq (.var 4) (.blt .len (.cons (.var 3) .nil))) (.cons (.if_ (.cmp .isn (.var 5) (.con .non)) (.cons (.ret (.lst (.cons (.tup (.cons (.var 1) (.cons (.var 5) (.cons (.var 2) .nil)))) .nil))) .nil) .nil) (.cons (.expr (.bm (.var 0) .pop .nil)) .nil)) (.cons (.if_ (.cmp .eq (.ix (.ix (.var 3) (.var 4)) (.con (.int 0))) (.con (.str [119, 104, 105, 108, 101]))) (.cons (.ret (.lst (.cons (.tup (.cons (.var 1) (.cons (.ix (.ix (.var 3) (.var 4)) (.con (.int 4))) (.cons (.var 2) .nil)))) .nil))) .nil) (.cons (.if_ (.cmp .eq (.ix (.ix (.var 3) (.var 4)) (.con (.int 0))) (.con (.str [105, 102]))) (.cons (.asgI (.var 0) (.con (.int (-1))) (.tup (.cons (.var 3) (.cons (.bin .add (.var 4) (.con (.int 1))) (.cons (.var 5) .nil))))) (.cons (.asg (.nm 6) (.lst .nil)) (.cons (.for_ (.nm 7) (.ex (.tup (.cons (.con (.bl false)) (.cons (.con (.bl true)) .nil)))) (.cons (.asg (.nm 8) (.ix (.ix (.var 3) (.var 4)) (.bin .sub (.con (.int 3)) (.blt .int_ (.cons (.var 7) .nil))))) (.cons (.asg (.nm 9) (.tup (.cons (.con (.str [97, 115, 107, 101, 100])) (.cons (.ix (.ix (.var 3) (.var 4)) (.con (.int 1))) (.cons (.var 7) .nil))))) (.cons (.asg (.nm 6) (.bin .add (.var 6) (.call 53 (.cons (.bin .add (.var 0) (.lst (.cons (.tup (.cons (.var 8) (.cons (.con (.int 0)) (.cons (.con .non) .nil)))) .nil))) (.cons (.bin .add (.var 1) (.tup (.cons (.var 7) .nil))) (.cons (.bin .add (.var 2) (.tup (.cons (.var 9) .nil))) .nil)))))) .nil)))) (.cons (.ret (.var 6)) .nil)))) (.cons (.asgI (.var 0) (.con (.int (-1))) (.tup (.cons (.var 3) (.cons (.bin .add (.var 4) (.con (.int 1))) (.cons (.var 5) .nil))))) (.cons (.asg (.nm 2) (.bin .add (.var 2) (.tup (.cons (.tup (.cons (.con (.str [100, 101, 101, 100])) (.cons (.ix (.var 3) (.var 4)) .nil))) .nil)))) .nil))) .nil)) .nil)) .nil))) (.cons (.ret (.lst (.cons (.tup (.cons (.var 1) (.cons (.con .non) (.cons (.var 2) .nil)))) .nil))) .nil)))
/-- 54: _law_legs(_law_program_here) -/
def i__law_legs : Sms := (.cons (.asg (.nm 1) (.ix (.call 51 (.cons (.ix (.var 0) (.con (.int 2))) (.cons (.con (.int 0)) .nil))) (.con (.int 0)))) (.cons (.asg (.nm 2) (.dcl .nil .nil)) (.cons (.expr (.call 52 (.cons (.var 1) (.cons (.tup .nil) (.cons (.con .non) (.cons (.var 2) .nil)))))) (.cons (.asg (.nm 3) (.lc (.tup (.cons (.tup (.cons (.con .non) (.cons (.var 11) (.cons (.var 12) .nil)))) (.cons (.var 13) .nil))) (.tp [(.nm 11), (.nm 12), (.nm 13)]) (.ex (.call 53 (.cons (.lst (.cons (.tup (.cons (.var 1) (.cons (.con (.int 0)) (.cons (.con .non) .nil)))) .nil)) (.cons (.tup .nil) (.cons (.tup .nil) .nil))))) .no [11, 12, 13])) (.cons (.for_ (.nm 4) (.rng1 (.blt .len (.cons (.var 2) .nil))) (.cons (.asg (.tp [(.nm 8), (.nm 9), (.nm 10)]) (.ix (.ix (.var 2) (.var 4)) (.con (.int (-1))))) (.cons (.asg (.nm 5) (.ix (.ix (.var 8) (.var 9)) (.con (.int 1)))) (.cons (.asg (.nm 6) (.bin .add (.blt .list (.cons (.sl (.ix (.var 2) (.var 4)) .no (.so (.con (.int (-1))))) .nil)) (.lst (.cons (.tup (.cons (.var 8) (.cons (.bin .add (.var 9) (.con (.int 1))) (.cons (.var 10) .nil)))) .nil)))) (.cons (.for_ (.tp [(.nm 11), (.nm 12), (.nm 13)]) (.ex (.call 53 (.cons (.var 6) (.cons (.tup .nil) (.cons (.tup (.cons (.tup (.cons (.con (.str [97, 115, 107, 101, 100])) (.cons (.var 5) (.cons (.con (.bl false)) .nil)))) .nil)) .nil))))) (.cons (.expr (.bm (.var 3) .append (.cons (.tup (.cons (.tup (.cons (.tup (.cons (.var 4) (.cons (.con (.bl false)) .nil))) (.cons (.var 11) (.cons (.var 12) .nil)))) (.cons (.var 13) .nil))) .nil))) .nil)) (.cons (.asg (.nm 7) (.bin .add (.blt .list (.cons (.ix (.var 2) (.var 4)) .nil)) (.lst (.cons (.tup (.cons (.ix (.ix (.var 8) (.var 9)) (.con (.int 3))) (.cons (.con (.int 0)) (.cons (.var 4) .nil)))) .nil)))) (.cons (.for_ (.tp [(.nm 11), (.nm 12), (.nm 13)]) (.ex (.call 53 (.cons (.var 7) (.cons (.tup .nil) (.cons (.tup (.cons (.tup (.cons (.con (.str [97, 115, 107, 101, 100])) (.cons (.var 5) (.cons (.con (.bl true)) .nil)))) .nil)) .nil))))) (.cons (.expr (.bm (.var 3) .append (.cons (.tup (.cons (.tup (.cons (.tup (.cons (.var 4) (.cons (.con (.bl true)) .nil))) (.cons (.var 11) (.cons (.var 12) .nil)))) (.cons (.var 13) .nil))) .nil))) .nil)) .nil))))))) (.cons (.ret (.var 3)) .nil))))))
/-- 55: _law_whole(_law_thing) -/
def i__law_whole : Sms := (.cons (.if_ (.isi (.var 0) .tuple) (.cons (.ret (.cmp .eq (.lc (.var 1) (.nm 1) (.ex (.var 0)) (.so (.not_ (.call 55 (.cons (.var 1) .nil)))) [1]) (.lst .nil))) .nil) .nil) (.cons (.ret (.and_ (.isi (.var 0) .int) (.not_ (.isi (.var 0) .bool)))) .nil))
/-- 56: _law_great(_law_deck_here, _law_standing_here) -/
def i__law_great : Sms := (.cons (.asg (.tp [(.nm 3), (.nm 4), (.nm 5)]) (.var 1)) (.cons (.asg (.nm 2) (.lc (.blt .tuple (.cons (.lc (.bin .add (.bin .mul (.var 7) (.bin .pow (.con (.int 10)) (.con (.int 20)))) (.call 18 (.cons (.var 0) .nil))) (.nm 7) (.ex (.var 6)) .no [7]) .nil)) (.nm 6) (.ex (.bin .add (.var 3) (.tup (.cons (.var 5) .nil)))) .no [6])) (.cons (.ret (.tup (.cons (.blt .tuple (.cons (.sl (.var 2) .no (.so (.con (.int (-1))))) .nil)) (.cons (.var 4) (.cons (.ix (.var 2) (.con (.int (-1)))) .nil))))) .nil)))
/-- 57: _law_right(_law_program_here, _law_legs_here, _law_standing_here) -/
def i__law_right : Sms := (.cons (.asg (.nm 3) .dcn) (.cons (.for_ (.tp [(.nm 4), (.nm 5)]) (.ex (.var 1)) (.cons (.asg (.nm 6) (.call 50 (.cons (.ix (.var 0) (.con (.int 0))) (.cons (.var 5) (.cons (.var 2) .nil))))) (.cons (.asg (.nm 7) (.call 46 (.cons (.var 0) (.cons (.var 4) (.cons (.var 2) .nil))))) (.cons (.if_ (.or_ (.cmp .ne (.var 7) (.var 6)) (.and_ (.cmp .isn (.var 7) (.con .non)) (.not_ (.call 55 (.cons (.var 7) .nil))))) (.cons (.ret (.con (.bl false))) .nil) .nil) (.cons (.asg (.nm 8) (.ix (.or_ (.ix (.var 4) (.con (.int 0))) (.tup (.cons (.con .non) .nil))) (.con (.int 0)))) (.cons (.asgI (.var 3) (.var 8) (.bin .add (.bm (.var 3) .dgetD (.cons (.var 8) (.cons (.con (.int 0)) .nil))) (.blt .int_ (.cons (.cmp .isn (.var 6) (.con .non)) .nil)))) .nil)))))) (.cons (.ret (.cmp .eq (.lc (.var 8) (.nm 8) (.exd (.var 3)) (.so (.cmp .ne (.ix (.var 3) (.var 8)) (.con (.int 1)))) [8]) (.lst .nil))) .nil)))
/-- 58: law(_law_script) -/
def i_law : Sms := (.cons (.for_ (.nm 1) (.rng1 (.blt .max (.cons (.con (.int 1)) (.cons (.blt .min (.cons (.blt .len (.cons (.var 0) .nil)) (.cons (.con (.int 3)) .nil))) .nil)))) (.cons (.asg (.nm 2) (.call 12 (.cons (.call 11 (.cons (.var 0) (.cons (.var 1) .nil))) .nil))) (.cons (.asg (.nm 3) (.call 26 (.cons (.var 2) (.cons (.con (.int 3)) .nil)))) (.cons (.asg (.nm 4) (.call 54 (.cons (.var 3) .nil))) (.cons (.for_ (.nm 5) (.rng1 (.con (.int 3))) (.cons (.asg (.nm 6) (.call 47 (.cons (.var 2) (.cons (.ix (.var 3) (.con (.int 0))) (.cons (.ix (.lst (.cons (.con (.int 6)) (.cons (.con (.int 40)) .nil))) (.blt .int_ (.cons (.cmp .eq (.call 13 (.cons (.var 2) (.cons (.con (.int 8)) .nil))) (.con (.int 5))) .nil))) .nil))))) (.cons (.if_ (.cmp .eq (.call 13 (.cons (.var 2) (.cons (.con (.int 4)) .nil))) (.con (.int 1))) (.cons (.asg (.nm 6) (.call 56 (.cons (.var 2) (.cons (.var 6) .nil)))) .nil) .nil) (.cons (.if_ (.not_ (.call 57 (.cons (.var 3) (.cons (.var 4) (.cons (.var 6) .nil))))) (.cons (.ret (.con (.bl false))) .nil) .nil) .nil)))) .nil))))) (.cons (.ret (.con (.bl true))) .nil))
def top (i : Nat) : PySem.Stmt := PySem.Challenge.pw_eachplace_k73_along_legs.main.body.getD i (.Pass ⟨0, 0, 0, 0⟩)
def sub (s : PySem.Stmt) (j : Nat) : PySem.Stmt := match s with | .ClassDef _ _ _ b _ _ _ _ _ _ _ => b.getD j (.Pass ⟨0, 0, 0, 0⟩) | _ => .Pass ⟨0, 0, 0, 0⟩
def d_heads_in : Dfn := ⟨"heads_in", "heads_in", (top 18), ["block", "found", "deed"], ["block"], i_heads_in⟩
def d_heads_of : Dfn := ⟨"heads_of", "heads_of", (top 19), ["program"], ["program"], i_heads_of⟩
def d_Layout___init__ : Dfn := ⟨"__init__", "Layout.__init__", (sub (top 32) 0), ["self", "program"], ["self", "program"], i_Layout___init__⟩
def d_Layout_lay_block : Dfn := ⟨"lay_block", "Layout.lay_block", (sub (top 32) 1), ["self", "block", "deed"], ["self", "block"], i_Layout_lay_block⟩
def d_Layout_lay_if : Dfn := ⟨"lay_if", "Layout.lay_if", (sub (top 32) 2), ["self", "deed", "at", "jump"], ["self", "deed"], i_Layout_lay_if⟩
def d_Layout_lay_while : Dfn := ⟨"lay_while", "Layout.lay_while", (sub (top 32) 3), ["self", "deed", "at", "number"], ["self", "deed"], i_Layout_lay_while⟩
def d_Layout_landed : Dfn := ⟨"landed", "Layout.landed", (sub (top 32) 4), ["self", "at"], ["self", "at"], i_Layout_landed⟩
def d__law_place : Dfn := ⟨"_law_place", "_law_place", (top 55), ["_law_cast", "_law_standing_here", "_law_spots", "_law_name_here"], ["_law_cast", "_law_standing_here", "_law_spots", "_law_name_here"], i__law_place⟩
def d_first_spot : Dfn := ⟨"first_spot", "first_spot", (top 37), ["layout", "start", "at"], ["layout", "start"], i_first_spot⟩
def d__law_worth : Dfn := ⟨"_law_worth", "_law_worth", (top 56), ["_law_cast", "_law_standing_here", "_law_spots", "_law_one", "_law_row", "_law_base", "_law_more"], ["_law_cast", "_law_standing_here", "_law_spots", "_law_one"], i__law_worth⟩
def d__law_at : Dfn := ⟨"_law_at", "_law_at", (top 61), ["_law_row", "_law_k", "_law_thing"], ["_law_row", "_law_k", "_law_thing"], i__law_at⟩
def d__law_cell_at : Dfn := ⟨"_law_cell_at", "_law_cell_at", (top 41), ["_law_script", "_law_k"], ["_law_script", "_law_k"], i__law_cell_at⟩
def d__law_deck : Dfn := ⟨"_law_deck", "_law_deck", (top 42), ["_law_cell"], ["_law_cell"], i__law_deck⟩
def d__law_draw : Dfn := ⟨"_law_draw", "_law_draw", (top 43), ["_law_deck_here", "_law_most", "_law_mixed", "_law_found"], ["_law_deck_here", "_law_most"], i__law_draw⟩
def d__law_tongue : Dfn := ⟨"_law_tongue", "_law_tongue", (top 44), ["_law_words"], [], i__law_tongue⟩
def d__law_name : Dfn := ⟨"_law_name", "_law_name", (top 45), ["_law_deck_here", "_law_letters", "_law_some", "_law_way", "_law_k"], ["_law_deck_here"], i__law_name⟩
def d__law_names : Dfn := ⟨"_law_names", "_law_names", (top 46), ["_law_deck_here", "_law_many", "_law_letters", "_law_barred", "_law_found", "_law_k", "_law_name_here"], ["_law_deck_here", "_law_many"], i__law_names⟩
def d__law_world : Dfn := ⟨"_law_world", "_law_world", (top 47), ["_law_deck_here", "_law_great_here", "_law_rows", "_law_places", "_law_numbers", "_law_names_here", "_law_some", "_law_one"], ["_law_deck_here"], i__law_world⟩
def d__law_number : Dfn := ⟨"_law_number", "_law_number", (top 48), ["_law_deck_here", "_law_way", "_law_number_here"], ["_law_deck_here"], i__law_number⟩
def d__law_spot : Dfn := ⟨"_law_spot", "_law_spot", (top 49), ["_law_deck_here", "_law_cast", "_law_bound", "_law_spots"], ["_law_deck_here", "_law_cast", "_law_bound"], i__law_spot⟩
def d__law_sum : Dfn := ⟨"_law_sum", "_law_sum", (top 50), ["_law_deck_here", "_law_cast", "_law_bound", "_law_way", "_law_more"], ["_law_deck_here", "_law_cast", "_law_bound"], i__law_sum⟩
def d__law_atom : Dfn := ⟨"_law_atom", "_law_atom", (top 51), ["_law_deck_here", "_law_cast", "_law_bound", "_law_word"], ["_law_deck_here", "_law_cast", "_law_bound"], i__law_atom⟩
def d__law_joined : Dfn := ⟨"_law_joined", "_law_joined", (top 52), ["_law_deck_here", "_law_parts", "_law_way"], ["_law_deck_here", "_law_parts"], i__law_joined⟩
def d__law_body : Dfn := ⟨"_law_body", "_law_body", (top 53), ["_law_deck_here", "_law_cast", "_law_bound", "_law_room", "_law_deep", "_law_way", "_law_many", "_law_parts", "_law_k"], ["_law_deck_here", "_law_cast", "_law_bound", "_law_room", "_law_deep"], i__law_body⟩
def d__law_deed : Dfn := ⟨"_law_deed", "_law_deed", (top 58), ["_law_deck_here", "_law_world_here", "_law_left", "_law_deep", "_law_cast", "_law_some", "_law_word", "_law_query", "_law_kept", "_law_row", "_law_spot_here", "_law_place_here", "_law_one"], ["_law_deck_here", "_law_world_here", "_law_left", "_law_deep"], i__law_deed⟩
def d__law_block : Dfn := ⟨"_law_block", "_law_block", (top 59), ["_law_deck_here", "_law_world_here", "_law_left", "_law_deep", "_law_found", "_law_k"], ["_law_deck_here", "_law_world_here", "_law_left", "_law_deep"], i__law_block⟩
def d__law_program : Dfn := ⟨"_law_program", "_law_program", (top 60), ["_law_deck_here", "_law_deep", "_law_world_here", "_law_left", "_law_some", "_law_first", "_law_block_here"], ["_law_deck_here", "_law_deep"], i__law_program⟩
def d_length_of : Dfn := ⟨"length_of", "length_of", (top 2), ["standing"], ["standing"], i_length_of⟩
def d_place_of : Dfn := ⟨"place_of", "place_of", (top 3), ["cast", "standing", "name"], ["cast", "standing", "name"], i_place_of⟩
def d_number_at : Dfn := ⟨"number_at", "number_at", (top 4), ["cast", "standing", "row", "place"], ["cast", "standing", "row", "place"], i_number_at⟩
def d_place_by : Dfn := ⟨"place_by", "place_by", (top 6), ["cast", "standing", "bound", "name"], ["cast", "standing", "bound", "name"], i_place_by⟩
def d_worth_by : Dfn := ⟨"worth_by", "worth_by", (top 7), ["cast", "standing", "bound", "one", "base", "more"], ["cast", "standing", "bound", "one"], i_worth_by⟩
def d_worth : Dfn := ⟨"worth", "worth", (top 8), ["cast", "standing", "one"], ["cast", "standing", "one"], i_worth⟩
def d_is_so : Dfn := ⟨"is_so", "is_so", (top 10), ["word", "one", "other"], ["word", "one", "other"], i_is_so⟩
def d_stand_so : Dfn := ⟨"stand_so", "stand_so", (top 11), ["word", "one", "other"], ["word", "one", "other"], i_stand_so⟩
def d_holds_by : Dfn := ⟨"holds_by", "holds_by", (top 15), ["cast", "standing", "bound", "saying", "word", "one", "other", "part", "name"], ["cast", "standing", "bound", "saying"], i_holds_by⟩
def d_holds : Dfn := ⟨"holds", "holds", (top 16), ["cast", "standing", "saying"], ["cast", "standing", "saying"], i_holds⟩
def d_with_number : Dfn := ⟨"with_number", "with_number", (top 21), ["row", "place", "number"], ["row", "place", "number"], i_with_number⟩
def d_with_row : Dfn := ⟨"with_row", "with_row", (top 22), ["cast", "standing", "name", "row", "at"], ["cast", "standing", "name", "row"], i_with_row⟩
def d_changed : Dfn := ⟨"changed", "changed", (top 23), ["cast", "standing", "turning", "place", "row", "word", "name", "where", "one"], ["cast", "standing", "turning"], i_changed⟩
def d_exchanged : Dfn := ⟨"exchanged", "exchanged", (top 24), ["cast", "standing", "turning", "place", "other", "row", "word", "name", "where", "there"], ["cast", "standing", "turning"], i_exchanged⟩
def d_turned : Dfn := ⟨"turned", "turned", (top 30), ["cast", "standing", "turning"], ["cast", "standing", "turning"], i_turned⟩
def d_with_one : Dfn := ⟨"with_one", "with_one", (top 33), ["row", "k", "thing"], ["row", "k", "thing"], i_with_one⟩
def d_stood : Dfn := ⟨"stood", "stood", (top 34), ["cast", "standing", "name", "place"], ["cast", "standing", "name", "place"], i_stood⟩
def d_acted : Dfn := ⟨"acted", "acted", (top 35), ["cast", "standing", "deed", "word", "beyond", "number"], ["cast", "standing", "deed"], i_acted⟩
def d_path_of : Dfn := ⟨"path_of", "path_of", (top 38), ["program", "leg", "layout", "path", "at", "passed", "start", "choices", "goal", "spot"], ["program", "leg"], i_path_of⟩
def d_along : Dfn := ⟨"along", "along", (top 39), ["program", "leg", "standing", "step"], ["program", "leg", "standing"], i_along⟩
def d__law_standing : Dfn := ⟨"_law_standing", "_law_standing", (top 54), ["_law_deck_here", "_law_cast", "_law_long", "_law_many", "_law_rows", "_law_places", "_law_row", "_law_place_here", "_law_number_here", "_law_k"], ["_law_deck_here", "_law_cast", "_law_long"], i__law_standing⟩
def d__law_holds : Dfn := ⟨"_law_holds", "_law_holds", (top 57), ["_law_cast", "_law_standing_here", "_law_saying", "_law_spots", "_law_word", "_law_some", "_law_found", "_law_truths", "_law_one", "_law_other", "_law_part"], ["_law_cast", "_law_standing_here", "_law_saying", "_law_spots"], i__law_holds⟩
def d__law_acted : Dfn := ⟨"_law_acted", "_law_acted", (top 62), ["_law_cast", "_law_standing_here", "_law_deed_here", "_law_many", "_law_k", "_law_row", "_law_one", "_law_rows", "_law_places", "_law_numbers", "_law_number_here", "_law_there", "_law_other"], ["_law_cast", "_law_standing_here", "_law_deed_here"], i__law_acted⟩
def d__law_along : Dfn := ⟨"_law_along", "_law_along", (top 67), ["_law_cast", "_law_path", "_law_standing_here", "_law_step"], ["_law_cast", "_law_path", "_law_standing_here"], i__law_along⟩
def d__law_numbered : Dfn := ⟨"_law_numbered", "_law_numbered", (top 63), ["_law_block_here", "_law_number_here", "_law_found", "_law_deed_here", "_law_one", "_law_other", "_law_inner", "_law_after"], ["_law_block_here", "_law_number_here"], i__law_numbered⟩
def d__law_contexts : Dfn := ⟨"_law_contexts", "_law_contexts", (top 64), ["_law_block_here", "_law_frames", "_law_owner", "_law_found", "_law_at_here", "_law_deed_here"], ["_law_block_here", "_law_frames", "_law_owner", "_law_found"], i__law_contexts⟩
def d__law_paths : Dfn := ⟨"_law_paths", "_law_paths", (top 65), ["_law_frames", "_law_choices", "_law_path", "_law_block_here", "_law_at_here", "_law_owner", "_law_found", "_law_truth", "_law_inner", "_law_query"], ["_law_frames", "_law_choices", "_law_path"], i__law_paths⟩
def d__law_legs : Dfn := ⟨"_law_legs", "_law_legs", (top 66), ["_law_program_here", "_law_block_here", "_law_found", "_law_legs_here", "_law_head", "_law_query", "_law_past", "_law_within", "_law_inner", "_law_at_here", "_law_owner", "_law_choices", "_law_goal", "_law_path"], ["_law_program_here"], i__law_legs⟩
def d__law_whole : Dfn := ⟨"_law_whole", "_law_whole", (top 68), ["_law_thing", "_law_one"], ["_law_thing"], i__law_whole⟩
def d__law_great : Dfn := ⟨"_law_great", "_law_great", (top 69), ["_law_deck_here", "_law_standing_here", "_law_great_here", "_law_rows", "_law_places", "_law_numbers", "_law_row", "_law_number_here"], ["_law_deck_here", "_law_standing_here"], i__law_great⟩
def d__law_right : Dfn := ⟨"_law_right", "_law_right", (top 70), ["_law_program_here", "_law_legs_here", "_law_standing_here", "_law_gone", "_law_leg", "_law_path", "_law_due", "_law_found", "_law_head"], ["_law_program_here", "_law_legs_here", "_law_standing_here"], i__law_right⟩
def d_law : Dfn := ⟨"law", "law", (top 71), ["_law_script", "_law_k", "_law_deck_here", "_law_program_here", "_law_legs_here", "_law_turn", "_law_standing_here"], ["_law_script"], i_law⟩
def dl : List Dfn := [d_heads_in, d_heads_of, d_Layout___init__, d_Layout_lay_block, d_Layout_lay_if, d_Layout_lay_while, d_Layout_landed, d__law_place, d_first_spot, d__law_worth, d__law_at, d__law_cell_at, d__law_deck, d__law_draw, d__law_tongue, d__law_name, d__law_names, d__law_world, d__law_number, d__law_spot, d__law_sum, d__law_atom, d__law_joined, d__law_body, d__law_deed, d__law_block, d__law_program, d_length_of, d_place_of, d_number_at, d_place_by, d_worth_by, d_worth, d_is_so, d_stand_so, d_holds_by, d_holds, d_with_number, d_with_row, d_changed, d_exchanged, d_turned, d_with_one, d_stood, d_acted, d_path_of, d_along, d__law_standing, d__law_holds, d__law_acted, d__law_along, d__law_numbered, d__law_contexts, d__law_paths, d__law_legs, d__law_whole, d__law_great, d__law_right, d_law]
def atL : List (PySem.Str × Option PySem.Str) := [(("heads_in" : PySem.Str), none), (("heads_of" : PySem.Str), none), (("Layout" : PySem.Str), some ("__init__" : PySem.Str)), (("Layout" : PySem.Str), some ("lay_block" : PySem.Str)), (("Layout" : PySem.Str), some ("lay_if" : PySem.Str)), (("Layout" : PySem.Str), some ("lay_while" : PySem.Str)), (("Layout" : PySem.Str), some ("landed" : PySem.Str)), (("_law_place" : PySem.Str), none), (("first_spot" : PySem.Str), none), (("_law_worth" : PySem.Str), none), (("_law_at" : PySem.Str), none), (("_law_cell_at" : PySem.Str), none), (("_law_deck" : PySem.Str), none), (("_law_draw" : PySem.Str), none), (("_law_tongue" : PySem.Str), none), (("_law_name" : PySem.Str), none), (("_law_names" : PySem.Str), none), (("_law_world" : PySem.Str), none), (("_law_number" : PySem.Str), none), (("_law_spot" : PySem.Str), none), (("_law_sum" : PySem.Str), none), (("_law_atom" : PySem.Str), none), (("_law_joined" : PySem.Str), none), (("_law_body" : PySem.Str), none), (("_law_deed" : PySem.Str), none), (("_law_block" : PySem.Str), none), (("_law_program" : PySem.Str), none), (("length_of" : PySem.Str), none), (("place_of" : PySem.Str), none), (("number_at" : PySem.Str), none), (("place_by" : PySem.Str), none), (("worth_by" : PySem.Str), none), (("worth" : PySem.Str), none), (("is_so" : PySem.Str), none), (("stand_so" : PySem.Str), none), (("holds_by" : PySem.Str), none), (("holds" : PySem.Str), none), (("with_number" : PySem.Str), none), (("with_row" : PySem.Str), none), (("changed" : PySem.Str), none), (("exchanged" : PySem.Str), none), (("turned" : PySem.Str), none), (("with_one" : PySem.Str), none), (("stood" : PySem.Str), none), (("acted" : PySem.Str), none), (("path_of" : PySem.Str), none), (("along" : PySem.Str), none), (("_law_standing" : PySem.Str), none), (("_law_holds" : PySem.Str), none), (("_law_acted" : PySem.Str), none), (("_law_along" : PySem.Str), none), (("_law_numbered" : PySem.Str), none), (("_law_contexts" : PySem.Str), none), (("_law_paths" : PySem.Str), none), (("_law_legs" : PySem.Str), none), (("_law_whole" : PySem.Str), none), (("_law_great" : PySem.Str), none), (("_law_right" : PySem.Str), none), (("law" : PySem.Str), none)]
def fnL : List (Option (PySem.Str × Nat)) := [some (("heads_in" : PySem.Str), (1 : Nat)), some (("heads_of" : PySem.Str), (1 : Nat)), none, none, none, none, none, some (("_law_place" : PySem.Str), (4 : Nat)), some (("first_spot" : PySem.Str), (2 : Nat)), some (("_law_worth" : PySem.Str), (4 : Nat)), some (("_law_at" : PySem.Str), (3 : Nat)), some (("_law_cell_at" : PySem.Str), (2 : Nat)), some (("_law_deck" : PySem.Str), (1 : Nat)), some (("_law_draw" : PySem.Str), (2 : Nat)), some (("_law_tongue" : PySem.Str), (0 : Nat)), some (("_law_name" : PySem.Str), (1 : Nat)), some (("_law_names" : PySem.Str), (2 : Nat)), some (("_law_world" : PySem.Str), (1 : Nat)), some (("_law_number" : PySem.Str), (1 : Nat)), some (("_law_spot" : PySem.Str), (3 : Nat)), some (("_law_sum" : PySem.Str), (3 : Nat)), some (("_law_atom" : PySem.Str), (3 : Nat)), some (("_law_joined" : PySem.Str), (2 : Nat)), some (("_law_body" : PySem.Str), (5 : Nat)), some (("_law_deed" : PySem.Str), (4 : Nat)), some (("_law_block" : PySem.Str), (4 : Nat)), some (("_law_program" : PySem.Str), (2 : Nat)), some (("length_of" : PySem.Str), (1 : Nat)), some (("place_of" : PySem.Str), (3 : Nat)), some (("number_at" : PySem.Str), (4 : Nat)), some (("place_by" : PySem.Str), (4 : Nat)), some (("worth_by" : PySem.Str), (4 : Nat)), some (("worth" : PySem.Str), (3 : Nat)), some (("is_so" : PySem.Str), (3 : Nat)), some (("stand_so" : PySem.Str), (3 : Nat)), some (("holds_by" : PySem.Str), (4 : Nat)), some (("holds" : PySem.Str), (3 : Nat)), some (("with_number" : PySem.Str), (3 : Nat)), some (("with_row" : PySem.Str), (4 : Nat)), some (("changed" : PySem.Str), (3 : Nat)), some (("exchanged" : PySem.Str), (3 : Nat)), some (("turned" : PySem.Str), (3 : Nat)), some (("with_one" : PySem.Str), (3 : Nat)), some (("stood" : PySem.Str), (4 : Nat)), some (("acted" : PySem.Str), (3 : Nat)), some (("path_of" : PySem.Str), (2 : Nat)), some (("along" : PySem.Str), (3 : Nat)), some (("_law_standing" : PySem.Str), (3 : Nat)), some (("_law_holds" : PySem.Str), (4 : Nat)), some (("_law_acted" : PySem.Str), (3 : Nat)), some (("_law_along" : PySem.Str), (3 : Nat)), some (("_law_numbered" : PySem.Str), (2 : Nat)), some (("_law_contexts" : PySem.Str), (4 : Nat)), some (("_law_paths" : PySem.Str), (3 : Nat)), some (("_law_legs" : PySem.Str), (1 : Nat)), some (("_law_whole" : PySem.Str), (1 : Nat)), some (("_law_great" : PySem.Str), (2 : Nat)), some (("_law_right" : PySem.Str), (3 : Nat)), some (("law" : PySem.Str), (1 : Nat))]
def mtL : List (Option (PySem.Str × Nat)) := [none, none, none, some (("lay_block" : PySem.Str), (2 : Nat)), some (("lay_if" : PySem.Str), (2 : Nat)), some (("lay_while" : PySem.Str), (2 : Nat)), some (("landed" : PySem.Str), (2 : Nat)), none, none, none, none, none, none, none, none, none, none, none, none, none, none, none, none, none, none, none, none, none, none, none, none, none, none, none, none, none, none, none, none, none, none, none, none, none, none, none, none, none, none, none, none, none, none, none, none, none, none, none, none]
def mkL : List ((Nat × Nat) × (PySem.Str × Nat)) := [((0, 2), (("Layout" : PySem.Str), 2))]
def freeL : List PySem.Str := [("all" : PySem.Str), ("any" : PySem.Str), ("bool" : PySem.Str), ("enumerate" : PySem.Str), ("int" : PySem.Str), ("isinstance" : PySem.Str), ("len" : PySem.Str), ("list" : PySem.Str), ("max" : PySem.Str), ("min" : PySem.Str), ("range" : PySem.Str), ("sorted" : PySem.Str), ("str" : PySem.Str), ("tuple" : PySem.Str)]
def glL : List (PySem.Str × D) := [(("END" : PySem.Str), (.str [101, 110, 100]))]
def gdL : List (PySem.Str × Nat × List PySem.Str × List (List Nat × Nat)) := [(("TURNS" : PySem.Str), 3, [("changed" : PySem.Str), ("exchanged" : PySem.Str), ("turned" : PySem.Str), ("moved" : PySem.Str), ("front" : PySem.Str), ("back" : PySem.Str)], [([99, 104, 97, 110, 103, 101, 100], 39), ([101, 120, 99, 104, 97, 110, 103, 101, 100], 40)])]
def clL : List PySem.Str := [("Layout" : PySem.Str)]
def fokL : List (Nat × List Nat) := [(0, [104, 101, 97, 100, 115, 95, 97, 116]), (0, [114, 111, 119])]
def fa : List He.Fa := [.free ("all" : PySem.Str),
  .free ("any" : PySem.Str),
  .free ("bool" : PySem.Str),
  .free ("enumerate" : PySem.Str),
  .free ("int" : PySem.Str),
  .free ("isinstance" : PySem.Str),
  .free ("len" : PySem.Str),
  .free ("list" : PySem.Str),
  .free ("max" : PySem.Str),
  .free ("min" : PySem.Str),
  .free ("range" : PySem.Str),
  .free ("sorted" : PySem.Str),
  .free ("str" : PySem.Str),
  .free ("tuple" : PySem.Str),
  .glo ("heads_in" : PySem.Str),
  .glo ("heads_of" : PySem.Str),
  .glo ("_law_place" : PySem.Str),
  .glo ("first_spot" : PySem.Str),
  .glo ("_law_worth" : PySem.Str),
  .glo ("_law_at" : PySem.Str),
  .glo ("_law_cell_at" : PySem.Str),
  .glo ("_law_deck" : PySem.Str),
  .glo ("_law_draw" : PySem.Str),
  .glo ("_law_tongue" : PySem.Str),
  .glo ("_law_name" : PySem.Str),
  .glo ("_law_names" : PySem.Str),
  .glo ("_law_world" : PySem.Str),
  .glo ("_law_number" : PySem.Str),
  .glo ("_law_spot" : PySem.Str),
  .glo ("_law_sum" : PySem.Str),
  .glo ("_law_atom" : PySem.Str),
  .glo ("_law_joined" : PySem.Str),
  .glo ("_law_body" : PySem.Str),
  .glo ("_law_deed" : PySem.Str),
  .glo ("_law_block" : PySem.Str),
  .glo ("_law_program" : PySem.Str),
  .glo ("length_of" : PySem.Str),
  .glo ("place_of" : PySem.Str),
  .glo ("number_at" : PySem.Str),
  .glo ("place_by" : PySem.Str),
  .glo ("worth_by" : PySem.Str),
  .glo ("worth" : PySem.Str),
  .glo ("is_so" : PySem.Str),
  .glo ("stand_so" : PySem.Str),
  .glo ("holds_by" : PySem.Str),
  .glo ("holds" : PySem.Str),
  .glo ("with_number" : PySem.Str),
  .glo ("with_row" : PySem.Str),
  .glo ("changed" : PySem.Str),
  .glo ("exchanged" : PySem.Str),
  .glo ("turned" : PySem.Str),
  .glo ("with_one" : PySem.Str),
  .glo ("stood" : PySem.Str),
  .glo ("acted" : PySem.Str),
  .glo ("path_of" : PySem.Str),
  .glo ("along" : PySem.Str),
  .glo ("_law_standing" : PySem.Str),
  .glo ("_law_holds" : PySem.Str),
  .glo ("_law_acted" : PySem.Str),
  .glo ("_law_along" : PySem.Str),
  .glo ("_law_numbered" : PySem.Str),
  .glo ("_law_contexts" : PySem.Str),
  .glo ("_law_paths" : PySem.Str),
  .glo ("_law_legs" : PySem.Str),
  .glo ("_law_whole" : PySem.Str),
  .glo ("_law_great" : PySem.Str),
  .glo ("_law_right" : PySem.Str),
  .glo ("law" : PySem.Str),
  .glo ("Layout" : PySem.Str),
  .glo ("TURNS" : PySem.Str),
  .cls ("Layout" : PySem.Str),
  .mkr ("Layout" : PySem.Str),
  .meth ("Layout" : PySem.Str) ("lay_block" : PySem.Str),
  .meth ("Layout" : PySem.Str) ("lay_if" : PySem.Str),
  .meth ("Layout" : PySem.Str) ("lay_while" : PySem.Str),
  .meth ("Layout" : PySem.Str) ("landed" : PySem.Str),
  .noat ("Layout" : PySem.Str) ("heads_at" : PySem.Str),
  .noat ("Layout" : PySem.Str) ("row" : PySem.Str)]
def mcL : List Nat := [0, 0, 0, 0, 0, 0, 0, 0, 0, 0, 0, 0, 0, 0, 0, 0, 0, 0, 0, 0, 0, 0, 0, 0, 0, 0, 0, 0, 0, 0, 0, 0, 0, 0, 0, 0, 0, 0, 0, 0, 0, 0, 0, 0, 0, 0, 0, 0, 0, 0, 0, 0, 0, 0, 0, 0, 0, 0, 0]
def mnL : List (List Nat) := [[], [], [95, 95, 105, 110, 105, 116, 95, 95], [108, 97, 121, 95, 98, 108, 111, 99, 107], [108, 97, 121, 95, 105, 102], [108, 97, 121, 95, 119, 104, 105, 108, 101], [108, 97, 110, 100, 101, 100], [], [], [], [], [], [], [], [], [], [], [], [], [], [], [], [], [], [], [], [], [], [], [], [], [], [], [], [], [], [], [], [], [], [], [], [], [], [], [], [], [], [], [], [], [], [], [], [], [], [], [], []]
def pl : Pl := ⟨dl, d_heads_in, atL, fnL, mtL, mkL, freeL, glL, gdL, clL, fokL, fa, mcL, mnL⟩
open PySem L2 in
theorem binds {K : PySem.W.Frag} : ∀ i, i < pl.pg.n → ∀ f fd, FunD K (pl.pg.dfn i).x (pl.pg.dfn i).qual (defArgs (pl.pg.dfn i).st) (defBody (pl.pg.dfn i).st) (defScope (pl.pg.dfn i).st) [] [] f fd → Binds K fd (pl.pg.dfn i).ps []
  | 0, _, _, _, F => FunD.bindsN F fun _ _ _ _ _ _ us hl => match us, hl with | [_], _ => rfl
  | 1, _, _, _, F => FunD.bindsN F fun _ _ _ _ _ _ us hl => match us, hl with | [_], _ => rfl
  | 2, _, _, _, F => FunD.bindsN F fun _ _ _ _ _ _ us hl => match us, hl with | [_, _], _ => rfl
  | 3, _, _, _, F => FunD.bindsN F fun _ _ _ _ _ _ us hl => match us, hl with | [_, _], _ => rfl
  | 4, _, _, _, F => FunD.bindsN F fun _ _ _ _ _ _ us hl => match us, hl with | [_, _], _ => rfl
  | 5, _, _, _, F => FunD.bindsN F fun _ _ _ _ _ _ us hl => match us, hl with | [_, _], _ => rfl
  | 6, _, _, _, F => FunD.bindsN F fun _ _ _ _ _ _ us hl => match us, hl with | [_, _], _ => rfl
  | 7, _, _, _, F => FunD.bindsN F fun _ _ _ _ _ _ us hl => match us, hl with | [_, _, _, _], _ => rfl
  | 8, _, _, _, F => FunD.bindsN F fun _ _ _ _ _ _ us hl => match us, hl with | [_, _], _ => rfl
  | 9, _, _, _, F => FunD.bindsN F fun _ _ _ _ _ _ us hl => match us, hl with | [_, _, _, _], _ => rfl
  | 10, _, _, _, F => FunD.bindsN F fun _ _ _ _ _ _ us hl => match us, hl with | [_, _, _], _ => rfl
  | 11, _, _, _, F => FunD.bindsN F fun _ _ _ _ _ _ us hl => match us, hl with | [_, _], _ => rfl
  | 12, _, _, _, F => FunD.bindsN F fun _ _ _ _ _ _ us hl => match us, hl with | [_], _ => rfl
  | 13, _, _, _, F => FunD.bindsN F fun _ _ _ _ _ _ us hl => match us, hl with | [_, _], _ => rfl
  | 14, _, _, _, F => FunD.bindsN F fun _ _ _ _ _ _ us hl => match us, hl with | [], _ => rfl
  | 15, _, _, _, F => FunD.bindsN F fun _ _ _ _ _ _ us hl => match us, hl with | [_], _ => rfl
  | 16, _, _, _, F => FunD.bindsN F fun _ _ _ _ _ _ us hl => match us, hl with | [_, _], _ => rfl
  | 17, _, _, _, F => FunD.bindsN F fun _ _ _ _ _ _ us hl => match us, hl with | [_], _ => rfl
  | 18, _, _, _, F => FunD.bindsN F fun _ _ _ _ _ _ us hl => match us, hl with | [_], _ => rfl
  | 19, _, _, _, F => FunD.bindsN F fun _ _ _ _ _ _ us hl => match us, hl with | [_, _, _], _ => rfl
  | 20, _, _, _, F => FunD.bindsN F fun _ _ _ _ _ _ us hl => match us, hl with | [_, _, _], _ => rfl
  | 21, _, _, _, F => FunD.bindsN F fun _ _ _ _ _ _ us hl => match us, hl with | [_, _, _], _ => rfl
  | 22, _, _, _, F => FunD.bindsN F fun _ _ _ _ _ _ us hl => match us, hl with | [_, _], _ => rfl
  | 23, _, _, _, F => FunD.bindsN F fun _ _ _ _ _ _ us hl => match us, hl with | [_, _, _, _, _], _ => rfl
  | 24, _, _, _, F => FunD.bindsN F fun _ _ _ _ _ _ us hl => match us, hl with | [_, _, _, _], _ => rfl
  | 25, _, _, _, F => FunD.bindsN F fun _ _ _ _ _ _ us hl => match us, hl with | [_, _, _, _], _ => rfl
  | 26, _, _, _, F => FunD.bindsN F fun _ _ _ _ _ _ us hl => match us, hl with | [_, _], _ => rfl
  | 27, _, _, _, F => FunD.bindsN F fun _ _ _ _ _ _ us hl => match us, hl with | [_], _ => rfl
  | 28, _, _, _, F => FunD.bindsN F fun _ _ _ _ _ _ us hl => match us, hl with | [_, _, _], _ => rfl
  | 29, _, _, _, F => FunD.bindsN F fun _ _ _ _ _ _ us hl => match us, hl with | [_, _, _, _], _ => rfl
  | 30, _, _, _, F => FunD.bindsN F fun _ _ _ _ _ _ us hl => match us, hl with | [_, _, _, _], _ => rfl
  | 31, _, _, _, F => FunD.bindsN F fun _ _ _ _ _ _ us hl => match us, hl with | [_, _, _, _], _ => rfl
  | 32, _, _, _, F => FunD.bindsN F fun _ _ _ _ _ _ us hl => match us, hl with | [_, _, _], _ => rfl
  | 33, _, _, _, F => FunD.bindsN F fun _ _ _ _ _ _ us hl => match us, hl with | [_, _, _], _ => rfl
  | 34, _, _, _, F => FunD.bindsN F fun _ _ _ _ _ _ us hl => match us, hl with | [_, _, _], _ => rfl
  | 35, _, _, _, F => FunD.bindsN F fun _ _ _ _ _ _ us hl => match us, hl with | [_, _, _, _], _ => rfl
  | 36, _, _, _, F => FunD.bindsN F fun _ _ _ _ _ _ us hl => match us, hl with | [_, _, _], _ => rfl
  | 37, _, _, _, F => FunD.bindsN F fun _ _ _ _ _ _ us hl => match us, hl with | [_, _, _], _ => rfl
  | 38, _, _, _, F => FunD.bindsN F fun _ _ _ _ _ _ us hl => match us, hl with | [_, _, _, _], _ => rfl
  | 39, _, _, _, F => FunD.bindsN F fun _ _ _ _ _ _ us hl => match us, hl with | [_, _, _], _ => rfl
  | 40, _, _, _, F => FunD.bindsN F fun _ _ _ _ _ _ us hl => match us, hl with | [_, _, _], _ => rfl
  | 41, _, _, _, F => FunD.bindsN F fun _ _ _ _ _ _ us hl => match us, hl with | [_, _, _], _ => rfl
  | 42, _, _, _, F => FunD.bindsN F fun _ _ _ _ _ _ us hl => match us, hl with | [_, _, _], _ => rfl
  | 43, _, _, _, F => FunD.bindsN F fun _ _ _ _ _ _ us hl => match us, hl with | [_, _, _, _], _ => rfl
  | 44, _, _, _, F => FunD.bindsN F fun _ _ _ _ _ _ us hl => match us, hl with | [_, _, _], _ => rfl
  | 45, _, _, _, F => FunD.bindsN F fun _ _ _ _ _ _ us hl => match us, hl with | [_, _], _ => rfl
  | 46, _, _, _, F => FunD.bindsN F fun _ _ _ _ _ _ us hl => match us, hl with | [_, _, _], _ => rfl
  | 47, _, _, _, F => FunD.bindsN F fun _ _ _ _ _ _ us hl => match us, hl with | [_, _, _], _ => rfl
  | 48, _, _, _, F => FunD.bindsN F fun _ _ _ _ _ _ us hl => match us, hl with | [_, _, _, _], _ => rfl
  | 49, _, _, _, F => FunD.bindsN F fun _ _ _ _ _ _ us hl => match us, hl with | [_, _, _], _ => rfl
  | 50, _, _, _, F => FunD.bindsN F fun _ _ _ _ _ _ us hl => match us, hl with | [_, _, _], _ => rfl
  | 51, _, _, _, F => FunD.bindsN F fun _ _ _ _ _ _ us hl => match us, hl with | [_, _], _ => rfl
  | 52, _, _, _, F => FunD.bindsN F fun _ _ _ _ _ _ us hl => match us, hl with | [_, _, _, _], _ => rfl
  | 53, _, _, _, F => FunD.bindsN F fun _ _ _ _ _ _ us hl => match us, hl with | [_, _, _], _ => rfl
  | 54, _, _, _, F => FunD.bindsN F fun _ _ _ _ _ _ us hl => match us, hl with | [_], _ => rfl
  | 55, _, _, _, F => FunD.bindsN F fun _ _ _ _ _ _ us hl => match us, hl with | [_], _ => rfl
  | 56, _, _, _, F => FunD.bindsN F fun _ _ _ _ _ _ us hl => match us, hl with | [_, _], _ => rfl
  | 57, _, _, _, F => FunD.bindsN F fun _ _ _ _ _ _ us hl => match us, hl with | [_, _, _], _ => rfl
  | 58, _, _, _, F => FunD.bindsN F fun _ _ _ _ _ _ us hl => match us, hl with | [_], _ => rfl
  | n + 59, h, _, _, _ => absurd h (Nat.not_lt.mpr (Nat.le_add_left 59 n))
def lawTop : Nat := 71
def loose0 : List PySem.Str := [("length_of" : PySem.Str), ("place_of" : PySem.Str), ("number_at" : PySem.Str), ("place_by" : PySem.Str), ("worth_by" : PySem.Str), ("worth" : PySem.Str), ("is_so" : PySem.Str), ("stand_so" : PySem.Str), ("holds_each" : PySem.Str), ("holds_in_pairs" : PySem.Str), ("holds_nexts" : PySem.Str), ("holds_by" : PySem.Str), ("holds" : PySem.Str), ("heads_in" : PySem.Str), ("heads_of" : PySem.Str), ("with_number" : PySem.Str), ("with_row" : PySem.Str), ("changed" : PySem.Str), ("exchanged" : PySem.Str), ("turned_about" : PySem.Str), ("moved" : PySem.Str), ("front" : PySem.Str), ("back" : PySem.Str), ("turned" : PySem.Str), ("with_one" : PySem.Str), ("stood" : PySem.Str), ("acted" : PySem.Str), ("first_spot" : PySem.Str), ("path_of" : PySem.Str), ("along" : PySem.Str)]
def loose1 : List PySem.Str := [("_law_cell_at" : PySem.Str), ("_law_deck" : PySem.Str), ("_law_draw" : PySem.Str), ("_law_tongue" : PySem.Str), ("_law_name" : PySem.Str), ("_law_names" : PySem.Str), ("_law_world" : PySem.Str), ("_law_number" : PySem.Str), ("_law_spot" : PySem.Str), ("_law_sum" : PySem.Str), ("_law_atom" : PySem.Str), ("_law_joined" : PySem.Str), ("_law_body" : PySem.Str), ("_law_standing" : PySem.Str), ("_law_place" : PySem.Str), ("_law_worth" : PySem.Str), ("_law_holds" : PySem.Str), ("_law_deed" : PySem.Str), ("_law_block" : PySem.Str), ("_law_program" : PySem.Str), ("_law_at" : PySem.Str), ("_law_acted" : PySem.Str), ("_law_numbered" : PySem.Str), ("_law_contexts" : PySem.Str), ("_law_paths" : PySem.Str), ("_law_legs" : PySem.Str), ("_law_along" : PySem.Str), ("_law_whole" : PySem.Str), ("_law_great" : PySem.Str), ("_law_right" : PySem.Str)]
def loose2 : List PySem.Str := [("Layout" : PySem.Str), ("END" : PySem.Str), ("TURNS" : PySem.Str)]
def loose : List PySem.Str := loose0 ++ loose1 ++ loose2
end T72

set_option Elab.async false
set_option linter.all false
set_option maxRecDepth 100000
set_option maxHeartbeats 0
/-! H73: the head of k73. -/
namespace T72
open Tr L2 PySem
abbrev R : PySem.W.OpenRow := PySem.W.OpenLaw.row PySem.Challenge.rw_eachplace_k73_along_legs
abbrev hk : PySem.W.Hook := He.hookX 6 pl.pg.fa pl.pg.dds pl.tabs [] pl.ex
def ob (s : PySem.W.SharedT) : He.AlX := He.obsX 6 pl.pg.fa pl.pg.dds pl.tabs [] pl.ex (HandSHeadRun.getT s)
theorem ob_eq (s : PySem.W.SharedT) : ob s = hk.obs s.abs := He.obsX_eq (HandSHeadRun.getT_eq s)
theorem runF (w : World) : HandSHeadRun.RunEq R (PySem.W.view R.prog [lawTop]) hk ob 3000 loose (w.withFollow "special-get-raises" false) := by
  intro os
  kernel_rfl
theorem runT (w : World) : HandSHeadRun.RunEq R (PySem.W.view R.prog [lawTop]) hk ob 3000 loose (w.withFollow "special-get-raises" true) := by
  intro os
  kernel_rfl
theorem run (w : World) : HandSHeadRun.RunEq R (PySem.W.view R.prog [lawTop]) hk ob 3000 loose w :=
  PySem.W.byRow2 "special-get-raises" (P := fun w => HandSHeadRun.RunEq R (PySem.W.view R.prog [lawTop]) hk ob 3000 loose w) runF runT w
end T72

set_option Elab.async false
set_option linter.all false
set_option maxRecDepth 100000
set_option maxHeartbeats 4000000
/-! TF: tuples whose object is known (it has no dict of its own): as the layer's rules, but for what is laid. -/
namespace Tr
open PySem PySem.Spec PyProof.Rows L2
section
variable {X : Cx} {pins : List (Addr × Obj)} {σ : L2.St} {H : Hp} {s : Shared}
abbrev tupO (its : List Value) : Obj := { cls := .type "tuple", data := .seq its.toArray }
theorem frz_ok {P : Program} {w : World} {H : Hp} {h : Heap} {a : Addr} {xs : List V} {its : List Value} (e : h.get? a = some (tupO its)) (z : xs.length ≤ sizeLine) (r : Vals xs its) : ObjOk P w H h a (.frz (tupO its) (.tup xs)) :=
  ⟨e, z, its, r, ⟨_, e, rfl, _, rfl⟩⟩
def rNewT (xs : List V) (H : Hp) (Q : VK) : Prop := ∀ p o, H p = none → o.dict = none → Q (.ref p) (L2.upd H p (.frz o (.tup xs)))
theorem laidT {its : List Value} {xs : List V} {Q : VK} (I : Inv X pins σ H s) (r : Vals xs its) (z : xs.length ≤ sizeLine) (q : rNewT xs H Q) :
    EP X pins σ Q (.ref s.heap.objs.size) { s with heap := s.heap.push (tupO its) } :=
  ⟨.ref s.heap.objs.size, L2.upd H s.heap.objs.size (.frz (tupO its) (.tup xs)), I.laid (t' := s.toks) (fun b ob q => Heap.get?_push_of_some _ q) (Nat.le_refl _) (frz_ok (Heap.get?_push_size _ rfl) z r), rfl, q _ _ (I.hok.fresh (Nat.le_refl _)) rfl⟩
def tTupF (t : TA) : TE := fun σ H Q => t σ H fun xs H1 => xs.length ≤ sizeLine ∧ rNewT xs H1 Q
theorem pe_tupF {es : List Expr} {t : TA} {pos : Pos} {x1} (h : PA X es t) : PE X (.Tuple es x1 pos) (tTupF t) := by
  refine ⟨fun pins s σ H Q I hq => ?_⟩
  exact wpAny_Tuple_spliced (thn (h.run pos pins s σ H _ I hq) fun us s1 ⟨xs, H1, I1, r, z, q⟩ => ⟨by rw [← r.length]; exact z, laidT I1 r z q⟩)
/-- t + u -/
def rCatF (K : PySem.W.Frag) : R2 := fun x y H Q => ∃ a b xs ys, x = .ref a ∧ y = .ref b ∧ SqT K H a xs ∧ SqT K H b ys ∧ xs.length + ys.length ≤ sizeLine ∧
  (xs = [] → Q (.ref b) H) ∧ (xs ≠ [] → ys = [] → Q (.ref a) H) ∧ (xs ≠ [] → ys ≠ [] → rNewT (xs ++ ys) H Q)
theorem op_catF : OpR X (binaryOp .Add) (rCatF X.K) := by
  intro pins s σ H x y v u Q I rx ry h
  obtain ⟨a, b, xs, ys, rfl, rfl, ha, hb, hz, q0, q1, q2⟩ := h
  by_cases hx : xs = []
  · subst hx
    cases rx
    cases ry
    obtain ⟨its, r1, p1, _⟩ := I.tuple ha
    obtain ⟨its2, r2, p2, _⟩ := I.tuple hb
    cases r1
    exact cat_tup0 p1 p2 ⟨.ref b, H, I, rfl, q0 rfl⟩
  · cases rx
    cases ry
    obtain ⟨its, r1, p1, _⟩ := I.tuple ha
    obtain ⟨its2, r2, p2, _⟩ := I.tuple hb
    exact HT.cat_tup p1 p2 (fun z => hx (r1.nil_iff.mp z)) (fun z => ⟨.ref a, H, I, rfl, q1 hx (r2.nil_iff.mp z)⟩)
      (fun z => laidT I (r1.append r2) (by rw [List.length_append]; exact hz) (q2 hx (fun w => z (r2.nil_iff.mpr w)))) (by rw [← r1.length, ← r2.length]; exact hz)
/-- t[lo:hi] -/
def rSlF (K : PySem.W.Frag) : V → Option Int → Option Int → Hp → VK → Prop := fun x lo hi H Q => ∃ a xs, x = .ref a ∧ SqT K H a xs ∧
  (HT.sIx xs.length 0 lo = 0 ∧ HT.sIx xs.length xs.length hi = xs.length → Q (.ref a) H) ∧ (¬ (HT.sIx xs.length 0 lo = 0 ∧ HT.sIx xs.length xs.length hi = xs.length) → rNewT (cutV xs lo hi) H Q)
theorem sl_tupF : SlR X (rSlF X.K) := by
  intro pins s σ H x v vl vu lo hi sl Q I rx hs pl pu h
  obtain ⟨a, xs, rfl, hx, q1, q2⟩ := h
  cases rx
  obtain ⟨its, r, ht, hz⟩ := I.tuple hx
  have hlen : its.toArray.size = xs.length := by rw [List.size_toArray]; exact r.length.symm
  refine ⟨"tuple", _, PyProof.Rows.slot_tuple_getitem.lookup, ht.typeIs, ?_⟩
  by_cases hw : HT.sIx xs.length 0 lo = 0 ∧ HT.sIx xs.length xs.length hi = xs.length
  · exact getItem_tuple_whole ht hs pl pu (by rw [hlen]; exact hw) ⟨.ref a, H, I, rfl, q1 hw⟩
  · refine HT.getItem_tuple_cut ht hs pl pu (by rw [hlen]; exact hw) ?_ (by rw [hlen]; exact hz)
    rw [hlen]
    exact laidT I ((r.drop (HT.sIx xs.length 0 lo)).take (HT.sIx xs.length xs.length hi - HT.sIx xs.length 0 lo)) (Nat.le_trans (cutV_length xs lo hi) hz) (q2 hw)
/-- tuple(list), tuple(tuple) -/
theorem call_tupleF : CallR X (.type "tuple") (fun xs H Q => ∃ p ys, xs = [.ref p] ∧ ((SqL X.K H p ys ∧ rNewT ys H Q) ∨ (SqT X.K H p ys ∧ Q (.ref p) H))) := by
  intro pins s σ H xs us Q I r h
  obtain ⟨p, ys, rfl, h⟩ := h
  obtain ⟨u, rfl, rx⟩ := vals1 r
  cases rx
  rcases h with ⟨hq, q⟩ | ⟨hq, q⟩
  · obtain ⟨its, r', pl, hz⟩ := I.list hq
    have hlen := r'.length
    refine call_tuple_list pl.isList (fun h' kp => ?_) (by simp only [List.size_toArray] <;> omega)
    have I1 : Inv X pins σ H { s with heap := h' } := I.kept (t' := s.toks) kp
    exact laidT I1 r' hz q
  · obtain ⟨its, r', pl, hz⟩ := I.tuple hq
    exact call_tuple_same pl ⟨.ref p, H, I, rfl, q⟩
/-- t * n -/
def rRepF (K : PySem.W.Frag) : R2 := fun x y H Q => ∃ l k xs, x = .ref l ∧ y = .int k ∧ SqT K H l xs ∧ xs ≠ [] ∧ 2 ≤ k ∧ k ≤ 1000 ∧ xs.length ≤ 1000 ∧ rNewT (List.replicate k.toNat xs).flatten H Q
theorem op_repF : OpR X (binaryOp .Mult) (rRepF X.K) := by
  intro pins s σ H x y v u Q I rx ry h
  obtain ⟨l, k, xs, rfl, rfl, hT, hne, h1, h2, hz, q⟩ := h
  cases rx
  obtain ⟨t, rfl⟩ := ry
  obtain ⟨its, r, ⟨⟨cls, dd, data, sl⟩, ho, hc, n, hd⟩, hs⟩ := I.tuple hT
  simp only at hc hd
  subst hc hd
  have hle : its.length = xs.length := r.length.symm
  have hn : its ≠ [] := fun e => hne (by
    rw [e] at hle
    exact List.eq_nil_of_length_eq_zero hle.symm)
  have hi : its.toArray.isEmpty = false := by
    cases its with
    | nil => exact absurd rfl hn
    | cons a b => rfl
  have hsz0 : its.toArray.size = xs.length := by rw [List.size_toArray, hle]
  have hm : ((its.toArray.size : Nat) : Int) * k ≤ 1000000 := by
    rw [hsz0]
    have a1 : ((xs.length : Nat) : Int) * k ≤ 1000 * k := Int.mul_le_mul_of_nonneg_right (by omega) (by omega)
    omega
  have flen : (List.replicate k.toNat its).flatten.length ≤ sizeLine := by
    rw [PyProof.Rows.lm_len_rep_flat, hle, sizeLine_eq]
    have a1 : k.toNat * xs.length ≤ 1000 * 1000 := Nat.mul_le_mul (by omega) hz
    omega
  have c0 : (decide (k < -(2 ^ 63)) || decide (k ≥ 2 ^ 63)) = false := by
    rw [decide_eq_false (by omega), decide_eq_false (by omega)] <;> rfl
  have c1 : (its.toArray.isEmpty || k == 1) = false := by
    rw [hi, Bool.false_or]
    exact beq_eq_false_iff_ne.mpr (by omega)
  have c2 : (decide (k ≤ 0) || its.toArray.isEmpty) = false := by
    rw [hi, Bool.or_false]
    exact decide_eq_false (by omega)
  have c4 : Builtin.Tuple.tupleTooMany (((its.toArray.size : Nat) : Int) * k) = false := by
    unfold Builtin.Tuple.tupleTooMany
    rw [sizeLine_eq]
    exact decide_eq_false (by omega)
  refine wpAny_binaryOp_repeat_ref (T := "tuple") (U := "int") (by decide) ⟨_, ho, rfl⟩ (fun s' => typeIs_int s' k t) noFill_tuple_mul F.fills_int_mul F.slot_int_rmul repeat_tuple F.slot_int_index.lookup
    (call_meets F.slot_int_rmul (typeIs_int s k t) F.entry_int_rmul (F.args_int_rmul_2 _ _) (int_rmul_tuple k t l its.toArray n dd sl)
      ⟨ho, rfl, ⟨_, ho, rfl⟩, call_meets F.slot_tuple_mul ⟨_, ho, rfl⟩ F.entry_tuple_mul (F.args_tuple_mul_2 _ _) (tuple_mulW l its.toArray n dd sl k t c0 c1 c2 (by omega) c4 (by rw [size_rep, List.size_toArray]; exact flen)) ⟨ho, ?_⟩⟩)
  rw [size_rep]
  have rr : Vals (List.replicate k.toNat xs).flatten (List.replicate k.toNat its).flatten := Vals.rep r _
  exact laidT I rr (by rw [rr.length]; exact flen) q
/-- o.m(..), o a tuple whose object is known -/
def tyF (K : PySem.W.Frag) (x : V) (H : Hp) : Prop := ∃ p, x = .ref p ∧ ((∃ o xs, H p = some (.frz o (.tup xs)) ∧ o.dict = none) ∨ ∃ o, K.lookup p = some o ∧ o.cls = .type "tuple" ∧ o.dict = none)
variable {o e : Expr} {es : List Expr} {to : TE} {t : TA} {name : Str} {apos cpos : Pos} {id : String} {r : V → List V → Hp → VK → Prop}
theorem pe_bmF (pa : PlainAttrs "tuple") (slot : Slot "tuple" name id) (hty : typeOf (.builtin id) = pure (.type "method_descriptor")) (hm : MtR X id r) (ho : PE X o to) (ha : PA X (e :: es) t)
    (hbase : attributeBase o name X.env (eval o X.env) = eval o X.env := by rfl)
    (hfew : ((backTo cpos (starEach (e :: es) X.env)).all (fun x => !x.1) && (backToKw cpos (keywordEach [] X.env)).all (fun x => x.1.isSome)
      && decide ((e :: es).length + ([] : List Keyword).length + (if ([] : List Keyword).isEmpty then 0 else 1) < 30)) = true := by rfl)
    (hline : (apos.endLine == cpos.line) = true := by rfl) (hs : starEach (e :: es) X.env = (false, eval e X.env) :: starEach es X.env := by rfl) (hplain : (backTo cpos (starEach es X.env)).any (·.1) = false := by rfl) :
    PE X (.Call (.Attribute o name apos) (e :: es) [] cpos) (fun σ H Q => to σ H fun x H1 => tyF X.K x H1 ∧ t σ H1 fun xs H2 => r x xs H2 Q) := by
  refine ⟨fun pins s σ H Q I h => ?_⟩
  refine wpAny_Call_method_late hbase hfew hline rfl (thn (ho.run pins s σ H _ I h) fun v s1 ⟨x, H1, I1, r1, ty, q1⟩ => ?_)
  have hh : s1.TypeIs v "tuple" ∧ ∀ a, v = .ref a → ∃ ob, s1.heap.get? a = some ob ∧ ob.dict = none := by
    obtain ⟨p, ex, ty⟩ := ty
    subst ex
    cases r1
    rcases ty with ⟨ob, xs, e1, e2⟩ | ⟨ob, e1, e2, e3⟩
    · obtain ⟨g, _, its, _, o', g', hc, _⟩ := I1.hok p _ e1
      rw [g] at g'; cases g'
      exact ⟨⟨ob, g, hc⟩, fun a q => by cases q; exact ⟨ob, g, e2⟩⟩
    · have g := I1.kIn p ob e1
      exact ⟨⟨ob, g, e2⟩, fun a q => by cases q; exact ⟨ob, g, e3⟩⟩
  obtain ⟨h1, h2⟩ := hh
  refine ⟨"tuple", id, pa, slot, hty, h1, h2, ?_⟩
  have hA := ha.run cpos pins s1 σ H1 _ I1 q1
  rw [hs] at hA ⊢
  refine Calls.callWith_builtin (by show (false || (backTo cpos (starEach es X.env)).any (·.1)) = false; rw [hplain] <;> rfl) (Calls.evalArgs_plain ?_)
  exact thn hA fun us s2 ⟨vs, H2, I2, r2, q2⟩ => hm pins s2 σ H2 x vs v us Q I2 r1 r2 q2
end
end Tr

/-! TL1: what the trees stand for; operators. -/
namespace Tr
open PySem PySem.Spec PyProof.Rows L2

theorem stS_inj {a b : List Nat} (h : stS a = stS b) : a = b := by
  have := congrArg (fun s : Str => s.cps.toList) h
  simpa using this
theorem stS_len (a : List Nat) : (stS a).length = a.length := by simp [Str.length]
theorem stS_app (a b : List Nat) : stS a ++ stS b = stS (a ++ b) := by
  apply Str.ext'
  show a.toArray ++ b.toArray = (a ++ b).toArray
  simp
/-- a list that never changes -/
def RoL (K : PySem.W.Frag) (H : Hp) (a : Addr) (vs : List V) : Prop := SqL K H a vs ∧ ((∃ o, H a = some (.frz o (.lst vs))) ∨ ∀ H', SqL K H' a vs)
/-- a tuple without a dict of its own -/
def Tk (K : PySem.W.Frag) (H : Hp) (a : Addr) (vs : List V) : Prop := (∃ o, H a = some (.frz o (.tup vs)) ∧ o.dict = none) ∨
  ∃ (o : Obj) (its : Array Value) (n : Nat), K.lookup a = some o ∧ o.cls = .type "tuple" ∧ o.dict = none ∧ o.data = .seq its n ∧ its.size ≤ sizeLine ∧ Vals vs its.toList
theorem Tk.sq {K H a vs} (h : Tk K H a vs) : SqT K H a vs := by
  rcases h with ⟨o, h, _⟩ | ⟨o, its, n, h1, h2, _, h3, h4, h5⟩
  · exact .inl (.inr ⟨o, h⟩)
  · exact .inr ⟨o, its, n, h1, h2, h3, h4, h5⟩
theorem Tk.ty {K H a vs} (h : Tk K H a vs) : tyF K (.ref a) H := by
  rcases h with ⟨o, h, d⟩ | ⟨o, its, n, h1, h2, d, _⟩
  · exact ⟨a, rfl, .inl ⟨o, vs, h, d⟩⟩
  · exact ⟨a, rfl, .inr ⟨o, h1, h2, d⟩⟩
mutual
def Rep (K : PySem.W.Frag) (H : Hp) (d : D) (v : V) : Prop := match d with
  | .non => v = .non
  | .bl b => v = .bl b
  | .int i => v = .int i
  | .str x => v = .str (stS x)
  | .tup ds => ∃ a vs, v = .ref a ∧ Tk K H a vs ∧ Reps K H ds vs
  | .wtup ds => ∃ a vs, v = .ref a ∧ SqT K H a vs ∧ Reps K H ds vs
  | .rol ds => ∃ a vs, v = .ref a ∧ RoL K H a vs ∧ Reps K H ds vs
  | .ref a => v = .ref a
def Reps (K : PySem.W.Frag) (H : Hp) (ds : List D) (vs : List V) : Prop := match ds with
  | [] => vs = []
  | d :: ds => ∃ v vs', vs = v :: vs' ∧ Rep K H d v ∧ Reps K H ds vs'
end
/-- tuples and frozen lists stay -/
structure Ext (K : PySem.W.Frag) (H H' : Hp) : Prop where
  t : ∀ a vs, SqT K H a vs → SqT K H' a vs
  k : ∀ a vs, Tk K H a vs → Tk K H' a vs
  l : ∀ a vs, RoL K H a vs → RoL K H' a vs
theorem Ext.refl {K H} : Ext K H H := ⟨fun _ _ h => h, fun _ _ h => h, fun _ _ h => h⟩
theorem Ext.trans {K H H1 H2} (a : Ext K H H1) (b : Ext K H1 H2) : Ext K H H2 := ⟨fun p vs h => b.t p vs (a.t p vs h), fun p vs h => b.k p vs (a.k p vs h), fun p vs h => b.l p vs (a.l p vs h)⟩
mutual
theorem Rep.mono {K H H'} (e : Ext K H H') : ∀ (d : D) {v : V}, Rep K H d v → Rep K H' d v
  | .non, _, h => h
  | .bl _, _, h => h
  | .int _, _, h => h
  | .str _, _, h => h
  | .ref _, _, h => h
  | .tup ds, _, ⟨a, vs, h1, h2, h3⟩ => ⟨a, vs, h1, e.k _ _ h2, Reps.mono e ds h3⟩
  | .wtup ds, _, ⟨a, vs, h1, h2, h3⟩ => ⟨a, vs, h1, e.t _ _ h2, Reps.mono e ds h3⟩
  | .rol ds, _, ⟨a, vs, h1, h2, h3⟩ => ⟨a, vs, h1, e.l _ _ h2, Reps.mono e ds h3⟩
theorem Reps.mono {K H H'} (e : Ext K H H') : ∀ (ds : List D) {vs : List V}, Reps K H ds vs → Reps K H' ds vs
  | [], _, h => h
  | d :: ds, _, ⟨v, vs', h1, h2, h3⟩ => ⟨v, vs', h1, Rep.mono e d h2, Reps.mono e ds h3⟩
end
section
variable {K : PySem.W.Frag} {H H' : Hp}
theorem Reps.len : ∀ {ds : List D} {vs : List V}, Reps K H ds vs → vs.length = ds.length
  | [], _, h => by cases (show _ = [] from h); rfl
  | d :: ds, _, ⟨v, vs', h1, h2, h3⟩ => by subst h1; simp [Reps.len h3]
theorem Reps.cons {d : D} {ds : List D} {v : V} {vs : List V} (h : Rep K H d v) (hs : Reps K H ds vs) : Reps K H (d :: ds) (v :: vs) := ⟨v, vs, rfl, h, hs⟩
theorem Reps.nil : Reps K H [] [] := rfl
theorem Reps.app : ∀ {ds es : List D} {vs ws : List V}, Reps K H ds vs → Reps K H es ws → Reps K H (ds ++ es) (vs ++ ws)
  | [], _, _, _, h, h' => by cases (show _ = [] from h); exact h'
  | d :: ds, _, _, _, ⟨v, vs', h1, h2, h3⟩, h' => by subst h1; exact ⟨v, _, rfl, h2, Reps.app h3 h'⟩
theorem Reps.get : ∀ {ds : List D} {vs : List V} {i : Nat} {d : D}, Reps K H ds vs → ds[i]? = some d → ∃ v, vs[i]? = some v ∧ Rep K H d v
  | [], _, _, _, _, e => by simp at e
  | d :: ds, _, 0, _, ⟨v, vs', h1, h2, h3⟩, e => by subst h1; simp at e; subst e; exact ⟨v, rfl, h2⟩
  | d :: ds, _, i + 1, _, ⟨v, vs', h1, h2, h3⟩, e => by
    subst h1
    obtain ⟨w, a, b⟩ := Reps.get (i := i) h3 (by simpa using e)
    exact ⟨w, by simpa using a, b⟩
theorem Reps.getV : ∀ {ds : List D} {vs : List V} {i : Nat} {v : V}, Reps K H ds vs → vs[i]? = some v → ∃ d, ds[i]? = some d ∧ Rep K H d v
  | [], _, _, _, h, e => by cases (show _ = [] from h); simp at e
  | d :: ds, _, 0, _, ⟨v, vs', h1, h2, h3⟩, e => by subst h1; simp at e; subst e; exact ⟨d, rfl, h2⟩
  | d :: ds, _, i + 1, _, ⟨v, vs', h1, h2, h3⟩, e => by
    subst h1
    obtain ⟨w, a, b⟩ := Reps.getV (i := i) h3 (by simpa using e)
    exact ⟨w, by simpa using a, b⟩
theorem Reps.set : ∀ {ds : List D} {vs : List V} {d : D} {v : V} (i : Nat), Rep K H d v → Reps K H ds vs → Reps K H (ds.set i d) (vs.set i v)
  | [], _, _, _, _, _, h => by cases (show _ = [] from h); exact rfl
  | _ :: ds, _, d, v, 0, r, ⟨w, vs', h1, h2, h3⟩ => by subst h1; exact ⟨v, vs', rfl, r, h3⟩
  | _ :: ds, _, d, v, i + 1, r, ⟨w, vs', h1, h2, h3⟩ => by subst h1; exact ⟨w, _, rfl, h2, Reps.set i r h3⟩
theorem Reps.take : ∀ {ds : List D} {vs : List V} (n : Nat), Reps K H ds vs → Reps K H (ds.take n) (vs.take n)
  | _, _, 0, _ => by simp; exact rfl
  | [], _, n + 1, h => by cases (show _ = [] from h); exact rfl
  | d :: ds, _, n + 1, ⟨w, vs', h1, h2, h3⟩ => by subst h1; exact ⟨w, _, rfl, h2, Reps.take n h3⟩
theorem Reps.drop : ∀ {ds : List D} {vs : List V} (n : Nat), Reps K H ds vs → Reps K H (ds.drop n) (vs.drop n)
  | _, _, 0, h => h
  | [], _, n + 1, h => by cases (show _ = [] from h); exact rfl
  | d :: ds, _, n + 1, ⟨w, vs', h1, h2, h3⟩ => by subst h1; exact Reps.drop n h3
theorem Reps.dropLast {ds : List D} {vs : List V} (h : Reps K H ds vs) : Reps K H ds.dropLast vs.dropLast := by
  rw [List.dropLast_eq_take, List.dropLast_eq_take, h.len]; exact h.take _
theorem Reps.flatten {ds : List D} {vs : List V} (h : Reps K H ds vs) : ∀ n : Nat, Reps K H (List.replicate n ds).flatten (List.replicate n vs).flatten
  | 0 => rfl
  | n + 1 => by rw [List.replicate_succ, List.replicate_succ, List.flatten_cons, List.flatten_cons]; exact h.app (Reps.flatten h n)
theorem Reps.strs : ∀ {ds : List D} {vs : List V} {xs : List (List Nat)}, Reps K H ds vs → strsOf ds = some xs → vs = (xs.map stS).map V.str
  | [], _, xs, h, e => by cases (show _ = [] from h); cases e; rfl
  | .str x :: ds, _, xs, ⟨v, vs', h1, h2, h3⟩, e => by
    subst h1
    have e' : (strsOf ds).map (x :: ·) = some xs := e
    cases q : strsOf ds with
    | none => rw [q] at e'; cases e'
    | some ys => rw [q] at e'; cases e'; rw [Reps.strs h3 q, show v = .str (stS x) from h2]; rfl
  | .non :: _, _, _, _, e => by cases e
  | .bl _ :: _, _, _, _, e => by cases e
  | .int _ :: _, _, _, _, e => by cases e
  | .tup _ :: _, _, _, _, e => by cases e
  | .wtup _ :: _, _, _, _, e => by cases e
  | .rol _ :: _, _, _, _, e => by cases e
  | .ref _ :: _, _, _, _, e => by cases e
theorem Reps.bls : ∀ {ds : List D} {vs : List V} {xs : List Bool}, Reps K H ds vs → blsOf ds = some xs → vs = xs.map V.bl
  | [], _, xs, h, e => by cases (show _ = [] from h); cases e; rfl
  | .bl x :: ds, _, xs, ⟨v, vs', h1, h2, h3⟩, e => by
    subst h1
    have e' : (blsOf ds).map (x :: ·) = some xs := e
    cases q : blsOf ds with
    | none => rw [q] at e'; cases e'
    | some ys => rw [q] at e'; cases e'; rw [Reps.bls h3 q, show v = .bl x from h2]; rfl
  | .non :: _, _, _, _, e => by cases e
  | .str _ :: _, _, _, _, e => by cases e
  | .int _ :: _, _, _, _, e => by cases e
  | .tup _ :: _, _, _, _, e => by cases e
  | .wtup _ :: _, _, _, _, e => by cases e
  | .rol _ :: _, _, _, _, e => by cases e
  | .ref _ :: _, _, _, _, e => by cases e
theorem Reps.ints : ∀ {ds : List D} {vs : List V} {xs : List Int}, Reps K H ds vs → intsOf ds = some xs → vs = xs.map V.int
  | [], _, xs, h, e => by cases (show _ = [] from h); cases e; rfl
  | .int x :: ds, _, xs, ⟨v, vs', h1, h2, h3⟩, e => by
    subst h1
    have e' : (intsOf ds).map (x :: ·) = some xs := e
    cases q : intsOf ds with
    | none => rw [q] at e'; cases e'
    | some ys => rw [q] at e'; cases e'; rw [Reps.ints h3 q, show v = .int x from h2]; rfl
  | .non :: _, _, _, _, e => by cases e
  | .str _ :: _, _, _, _, e => by cases e
  | .bl _ :: _, _, _, _, e => by cases e
  | .tup _ :: _, _, _, _, e => by cases e
  | .wtup _ :: _, _, _, _, e => by cases e
  | .rol _ :: _, _, _, _, e => by cases e
  | .ref _ :: _, _, _, _, e => by cases e
theorem Reps.of_strs : ∀ (xs : List (List Nat)), Reps K H (xs.map D.str) ((xs.map stS).map V.str)
  | [] => rfl
  | x :: xs => ⟨_, _, rfl, rfl, Reps.of_strs xs⟩
end

/-! ### the heap -/
def kdk : DK → Key
  | .inl i => .inl i
  | .inr x => .inr (stS x)
theorem kdk_inj {a b : DK} (h : kdk a = kdk b) : a = b := by
  cases a <;> cases b <;> simp only [kdk] at h
  · cases h; rfl
  · cases h
  · cases h
  · rename_i x y; have : stS x = stS y := Sum.inr.inj h; rw [stS_inj this]
def KReps (K : PySem.W.Frag) (H : Hp) : List (DK × D) → List (Key × V) → Prop
  | [], ws => ws = []
  | (k, d) :: r, ws => ∃ v ws', ws = (kdk k, v) :: ws' ∧ Rep K H d v ∧ KReps K H r ws'
def FReps (K : PySem.W.Frag) (H : Hp) : List (List Nat × D) → List (Str × V) → Prop
  | [], ws => ws = []
  | (k, d) :: r, ws => ∃ v ws', ws = (stS k, v) :: ws' ∧ Rep K H d v ∧ FReps K H r ws'
def NReps (K : PySem.W.Frag) (H : Hp) : List (Option DK × D) → List (Option Key × V) → Prop
  | [], ws => ws = []
  | (k, d) :: r, ws => ∃ v ws', ws = (k.map kdk, v) :: ws' ∧ Rep K H d v ∧ NReps K H r ws'
theorem NReps.mono {K H H'} (e : Ext K H H') : ∀ {ds : List (Option DK × D)} {vs : List (Option Key × V)}, NReps K H ds vs → NReps K H' ds vs
  | [], _, h => h
  | (_, d) :: ds, _, ⟨v, vs', h1, h2, h3⟩ => ⟨v, vs', h1, Rep.mono e d h2, NReps.mono e h3⟩
/-- a dict at a, None among its keys; its own object, if it is locked -/
def NOk (cl : Wd) (h : Heap) (a : Addr) (lk : Option Obj) (ws : List (Option Key × V)) : Prop :=
  ws.length ≤ sizeLine ∧ (a == sysModules) = false ∧ (∃ vs, KV ws vs ∧ h.DictOf (noneKind cl.P cl.w) a vs) ∧ ∀ o, lk = some o → h.get? a = some o
theorem NOk.stay {cl : Wd} {h h' : Heap} {a : Addr} {lk : Option Obj} {ws : List (Option Key × V)} (x : NOk cl h a lk ws) (k : ∀ o, h.get? a = some o → h'.get? a = some o) : NOk cl h' a lk ws := by
  obtain ⟨z, y, ⟨vs, r, o, es, ep, e, c⟩, l⟩ := x
  exact ⟨z, y, ⟨vs, r, o, es, ep, k _ e, c⟩, fun o e => k _ (l o e)⟩
theorem NOk.at {cl : Wd} {h : Heap} {a : Addr} {lk : Option Obj} {ws : List (Option Key × V)} (x : NOk cl h a lk ws) : ∃ o, h.get? a = some o := by
  obtain ⟨z, y, ⟨vs, r, o, es, ep, e, c⟩, l⟩ := x
  exact ⟨o, e⟩
theorem KReps.mono {K H H'} (e : Ext K H H') : ∀ {ds : List (DK × D)} {vs : List (Key × V)}, KReps K H ds vs → KReps K H' ds vs
  | [], _, h => h
  | (_, d) :: ds, _, ⟨v, vs', h1, h2, h3⟩ => ⟨v, vs', h1, Rep.mono e d h2, KReps.mono e h3⟩
theorem FReps.mono {K H H'} (e : Ext K H H') : ∀ {ds : List (List Nat × D)} {vs : List (Str × V)}, FReps K H ds vs → FReps K H' ds vs
  | [], _, h => h
  | (_, d) :: ds, _, ⟨v, vs', h1, h2, h3⟩ => ⟨v, vs', h1, Rep.mono e d h2, FReps.mono e h3⟩
def ORep (K : PySem.W.Frag) (cl : Wd) (H : Hp) (a : Addr) : TO → Prop
  | .lst ds => ∃ vs, H a = some (.lst vs) ∧ Reps K H ds vs
  | .dic kvs => ∃ ws, H a = some (.dK ws) ∧ KReps K H kvs ws
  | .ins c fs => ∃ dx ws, H a = some (.ins (cl.f c) dx ws) ∧ FReps K H fs ws
  | .dnk lk kvs => ∃ φ ws, H a = some (.ext φ) ∧ NReps K H kvs ws ∧ ∀ h, φ h → NOk cl h a lk ws
def HRep (K : PySem.W.Frag) (cl : Wd) (H : Hp) (T : TH) : Prop := ∀ a o, T a = some o → ORep K cl H a o
section
variable {K : PySem.W.Frag} {cl : Wd} {H H' : Hp} {T T' : TH} {a p : Addr} {o : TO}
theorem ORep.at (h : ORep K cl H a o) : ∃ u, H a = some u := by
  cases o with
  | lst ds => obtain ⟨vs, h, _⟩ := h; exact ⟨_, h⟩
  | dic ds => obtain ⟨vs, h, _⟩ := h; exact ⟨_, h⟩
  | ins c fs => obtain ⟨dx, ws, h, _⟩ := h; exact ⟨_, h⟩
  | dnk lk kvs => obtain ⟨φ, ws, h, _⟩ := h; exact ⟨_, h⟩
theorem HRep.free (h : HRep K cl H T) (hp : H p = none) : T p = none := by
  cases q : T p with
  | none => rfl
  | some o => obtain ⟨u, e⟩ := (h p o q).at; rw [hp] at e; cases e
theorem HRep.le (h : HRep K cl H T) (l : Le T' T) : HRep K cl H T' := fun a o e => h a o (l a o e)
theorem Le.refl {T : TH} : Le T T := fun _ _ h => h
theorem Le.trans {T T1 T2 : TH} (a : Le T T1) (b : Le T1 T2) : Le T T2 := fun p o h => b p o (a p o h)
/-- something new, untracked before -/
theorem ext_new {u : HO} (hp : H p = none) : Ext K H (L2.upd H p u) := by
  have ne : ∀ {b : Addr} {w : HO}, H b = some w → b ≠ p := fun h e => by rw [e, hp] at h; cases h
  have rd : ∀ {b : Addr} {w : HO}, Rd H b w → Rd (L2.upd H p u) b w := fun {b w} h => by
    rcases h with h | ⟨o, h⟩
    · exact .inl (by rw [L2.upd_ne (ne h)]; exact h)
    · exact .inr ⟨o, by rw [L2.upd_ne (ne h)]; exact h⟩
  refine ⟨fun b vs h => ?_, fun b vs h => ?_, fun b vs h => ?_⟩
  · rcases h with h | h
    · exact .inl (rd h)
    · exact .inr h
  · rcases h with ⟨o, h, d⟩ | h
    · exact .inl ⟨o, by rw [L2.upd_ne (ne h)]; exact h, d⟩
    · exact .inr h
  · obtain ⟨h1, h2⟩ := h
    refine ⟨?_, ?_⟩
    · rcases h1 with h | h
      · exact .inl (rd h)
      · exact .inr h
    · rcases h2 with ⟨o, h⟩ | h
      · exact .inl ⟨o, by rw [L2.upd_ne (ne h)]; exact h⟩
      · exact .inr h
/-- a mutable object changes -/
theorem ext_put {u : HO} (hm : Mut (H p)) : Ext K H (L2.upd H p u) := by
  have net : ∀ {b : Addr} {w : List V}, H b = some (.tup w) → b ≠ p := fun h e => by subst e; rw [h] at hm; exact hm
  have nef : ∀ {b : Addr} {o : Obj} {w : HO}, H b = some (.frz o w) → b ≠ p := fun h e => by subst e; rw [h] at hm; exact hm
  refine ⟨fun b vs h => ?_, fun b vs h => ?_, fun b vs h => ?_⟩
  · rcases h with (h | ⟨o, h⟩) | h
    · exact .inl (.inl (by rw [L2.upd_ne (net h)]; exact h))
    · exact .inl (.inr ⟨o, by rw [L2.upd_ne (nef h)]; exact h⟩)
    · exact .inr h
  · rcases h with ⟨o, h, d⟩ | h
    · exact .inl ⟨o, by rw [L2.upd_ne (nef h)]; exact h, d⟩
    · exact .inr h
  · obtain ⟨h1, h2⟩ := h
    rcases h2 with ⟨o, h⟩ | h
    · have h' : L2.upd H p u b = some (.frz o (.lst vs)) := by rw [L2.upd_ne (nef h)]; exact h
      exact ⟨.inl (.inr ⟨o, h'⟩), .inl ⟨o, h'⟩⟩
    · exact ⟨h _, .inr h⟩
theorem ORep.mono_ne {u : HO} (h : ORep K cl H a o) (e : Ext K H (L2.upd H p u)) (ne : a ≠ p) : ORep K cl (L2.upd H p u) a o := by
  cases o with
  | lst ds => obtain ⟨vs, h1, h2⟩ := h; exact ⟨vs, by rw [L2.upd_ne ne]; exact h1, Reps.mono e _ h2⟩
  | dic ds => obtain ⟨vs, h1, h2⟩ := h; exact ⟨vs, by rw [L2.upd_ne ne]; exact h1, h2.mono e⟩
  | ins c fs => obtain ⟨dx, ws, h1, h2⟩ := h; exact ⟨dx, ws, by rw [L2.upd_ne ne]; exact h1, h2.mono e⟩
  | dnk lk kvs => obtain ⟨φ, ws, h1, h2, h3⟩ := h; exact ⟨φ, ws, by rw [L2.upd_ne ne]; exact h1, h2.mono e, h3⟩
theorem HRep.set {u : HO} (h : HRep K cl H T) (e : Ext K H (L2.upd H p u)) (n : ORep K cl (L2.upd H p u) p o) : HRep K cl (L2.upd H p u) (upd T p o) := fun b w q => by
  by_cases hb : b = p
  · subst hb; rw [upd_same] at q; cases q; exact n
  · rw [upd_ne hb] at q; exact (h b w q).mono_ne e hb
/-- a heap grows by what T does not tell -/
theorem HRep.skip {u : HO} (h : HRep K cl H T) (hp : H p = none) : HRep K cl (L2.upd H p u) T := fun b w q => by
  obtain ⟨z, hz⟩ := (h b w q).at
  exact (h b w q).mono_ne (ext_new hp) (fun e => by rw [e, hp] at hz; cases hz)
theorem HRep.newL {ds : List D} {vs : List V} (h : HRep K cl H T) (hp : H p = none) (r : Reps K H ds vs) : HRep K cl (L2.upd H p (.lst vs)) (upd T p (.lst ds)) :=
  h.set (ext_new hp) ⟨vs, L2.upd_same, Reps.mono (ext_new hp) _ r⟩
theorem HRep.putL {ds ds' : List D} {vs vs' : List V} (h : HRep K cl H T) (hp : H p = some (.lst vs)) (r : Reps K H ds' vs') : HRep K cl (L2.upd H p (.lst vs')) (upd T p (.lst ds')) :=
  have e : Ext K H (L2.upd H p (.lst vs')) := ext_put (by rw [hp]; exact True.intro)
  h.set e ⟨vs', L2.upd_same, Reps.mono e _ r⟩
theorem HRep.lst {ds : List D} (h : HRep K cl H T) (e : T a = some (.lst ds)) : ∃ vs, H a = some (.lst vs) ∧ Reps K H ds vs := h a _ e
end
/-- a new tuple -/
theorem rep_tup {K : PySem.W.Frag} {H : Hp} {p : Addr} {o : Obj} {ds : List D} {vs : List V} (hp : H p = none) (hd : o.dict = none) (r : Reps K H ds vs) : Rep K (L2.upd H p (.frz o (.tup vs))) (.tup ds) (.ref p) :=
  ⟨p, vs, rfl, .inl ⟨o, L2.upd_same, hd⟩, Reps.mono (ext_new hp) _ r⟩
/-! ### what is wanted -/
def KOk (K : PySem.W.Frag) (cl : Wd) (H : Hp) (q : Kd) (Q : VK) : Prop := ∀ d v H' T', Ext K H H' → HRep K cl H' T' → Rep K H' d v → q d T' → Q v H'
theorem KOk.mono {K cl H H1 q Q} (h : KOk K cl H q Q) (e : Ext K H H1) : KOk K cl H1 q Q := fun d v H' T' e' => h d v H' T' (e.trans e')
theorem KOk.here {K cl H q Q T d v} (h : KOk K cl H q Q) (R : HRep K cl H T) (r : Rep K H d v) (x : q d T) : Q v H := h d v H T .refl R r x
theorem KOk.tup {K cl H q Q} {T : TH} {ds : List D} {vs : List V} (h : KOk K cl H q Q) (R : HRep K cl H T) (r : Reps K H ds vs) (x : q (.tup ds) T) : rNewT vs H Q := fun p o hp hd =>
  h _ _ _ T (ext_new hp) (R.skip hp) (rep_tup hp hd r) x
theorem KOk.lst {K cl H q Q} {T : TH} {ds : List D} {vs : List V} {p : Addr} (h : KOk K cl H q Q) (R : HRep K cl H T) (r : Reps K H ds vs) (x : ∀ p, T p = none → q (.ref p) (upd T p (.lst ds))) (hp : H p = none) : Q (.ref p) (L2.upd H p (.lst vs)) :=
  h (.ref p) _ _ _ (ext_new hp) (R.newL hp r) rfl (x p (R.free hp))
theorem KOk.put {K cl H q Q} {T : TH} {ds' : List D} {vs vs' : List V} {p : Addr} {d : D} {v : V} (h : KOk K cl H q Q) (R : HRep K cl H T) (hp : H p = some (.lst vs)) (r : Reps K H ds' vs') (rd : Rep K H d v) (x : q d (upd T p (.lst ds'))) : Q v (L2.upd H p (.lst vs')) :=
  have e : Ext K H (L2.upd H p (.lst vs')) := ext_put (by rw [hp]; exact True.intro)
  h _ _ _ _ e (R.putL (ds := ds') hp r) (Rep.mono e _ rd) x
end Tr

/-! TN: dicts with None, ints, texts as keys. -/
namespace Tr
open PySem PySem.Spec PyProof.Rows L2
def nkV : Option Key → V
  | none => .non
  | some k => kV k
theorem nkV_is {P : Program} {w : World} {k : Option Key} {u : Value} (r : L2.RelV (nkV k) u) : (noneKind P w).is k u = true := by
  cases k with
  | none => cases (show u = Value.none from r); rfl
  | some k => exact kV_is (P := P) (w := w) r
theorem nkV_of {k : Option Key} {u : Value} (h : nkIs k u = true) : L2.RelV (nkV k) u := by
  cases k with
  | none => exact nk_none h
  | some k => exact relV_key h
theorem nk_rep {K : PySem.W.Frag} {H : Hp} {d : D} {x : V} {k : Option DK} (r : Rep K H d x) (h : nkOf d = some k) : x = nkV (k.map kdk) := by
  cases d <;> simp only [nkOf, Option.some.injEq, reduceCtorEq] at h
  · subst h; exact r
  · subst h; exact r
  · subst h; exact r
theorem nkD_rep {K : PySem.W.Frag} {H : Hp} (k : Option DK) : Rep K H (nkD k) (nkV (k.map kdk)) := by
  cases k with
  | none => rfl
  | some k => cases k <;> rfl
theorem nmap_inj {a b : Option DK} (h : a.map kdk = b.map kdk) : a = b := by
  cases a <;> cases b <;> simp only [Option.map_none, Option.map_some, reduceCtorEq] at h
  · rfl
  · rw [kdk_inj (Option.some.inj h)]
theorem nget_rep {K : PySem.W.Frag} {H : Hp} (k : Option DK) : ∀ {kvs : List (Option DK × D)} {ws : List (Option Key × V)}, NReps K H kvs ws →
    (∀ d, dget k kvs = some d → ∃ v, valV ws (k.map kdk) = some v ∧ Rep K H d v) ∧ (dget k kvs = none → valV ws (k.map kdk) = none)
  | [], _, h => by cases (show _ = [] from h); exact ⟨fun d e => (by cases e), fun _ => rfl⟩
  | (k', d) :: r, _, ⟨v, ws', h1, h2, h3⟩ => by
    subst h1
    have ih := nget_rep k h3
    by_cases hk : k' = k
    · subst hk
      refine ⟨fun d' e => ?_, fun e => ?_⟩
      · rw [dget, if_pos rfl] at e; cases e
        exact ⟨v, by rw [valV_pos rfl], h2⟩
      · rw [dget, if_pos rfl] at e; cases e
    · have hk' : ¬ (k'.map kdk, v).1 = k.map kdk := fun e => hk (nmap_inj e)
      rw [dget, if_neg hk, valV_neg hk']
      exact ih
theorem nreps_any {K : PySem.W.Frag} {H : Hp} {k : Option DK} : ∀ {fs : List (Option DK × D)} {ws : List (Option Key × V)}, NReps K H fs ws → (ws.any fun kv => decide (kv.1 = k.map kdk)) = (fs.any fun kv => decide (kv.1 = k))
  | [], _, h => by cases (show _ = [] from h); rfl
  | (g, w) :: fs, _, ⟨u, ws, e, ru, rs⟩ => by
    subst e
    rw [List.any_cons, List.any_cons, nreps_any rs]
    congr 1
    exact decide_eq_decide.mpr ⟨fun e => nmap_inj e, fun e => congrArg (Option.map kdk) e⟩
theorem nreps_map {K : PySem.W.Frag} {H : Hp} {k : Option DK} {d : D} {v : V} (rv : Rep K H d v) : ∀ {fs : List (Option DK × D)} {ws : List (Option Key × V)}, NReps K H fs ws → NReps K H (fs.map (fun kv => if kv.1 = k then (kv.1, d) else kv)) (ws.map (fun kv => if kv.1 = k.map kdk then (kv.1, v) else kv))
  | [], _, h => by cases (show _ = [] from h); rfl
  | (g, w) :: fs, _, ⟨u, ws, e, ru, rs⟩ => by
    subst e
    rw [List.map_cons, List.map_cons]
    by_cases hg : g = k
    · rw [if_pos hg, if_pos (congrArg (Option.map kdk) hg)]
      exact ⟨v, _, rfl, rv, nreps_map rv rs⟩
    · rw [if_neg hg, if_neg (fun e => hg (nmap_inj e))]
      exact ⟨u, _, rfl, ru, nreps_map rv rs⟩
theorem nreps_app {K : PySem.W.Frag} {H : Hp} {k : Option DK} {d : D} {v : V} (rv : Rep K H d v) : ∀ {fs : List (Option DK × D)} {ws : List (Option Key × V)}, NReps K H fs ws → NReps K H (fs ++ [(k, d)]) (ws ++ [(k.map kdk, v)])
  | [], _, h => by cases (show _ = [] from h); exact ⟨v, [], rfl, rv, rfl⟩
  | (g, w) :: fs, _, ⟨u, ws, e, ru, rs⟩ => by subst e; exact ⟨u, _, rfl, ru, nreps_app rv rs⟩
theorem nreps_put {K : PySem.W.Frag} {H : Hp} {k : Option DK} {d : D} {v : V} {fs : List (Option DK × D)} {ws : List (Option Key × V)} (rv : Rep K H d v) (r : NReps K H fs ws) : NReps K H (dput k d fs) (putK ws (k.map kdk) v) := by
  unfold dput putK
  rw [nreps_any r]
  split
  · exact nreps_map rv r
  · exact nreps_app rv r
theorem nreps_len {K : PySem.W.Frag} {H : Hp} : ∀ {fs : List (Option DK × D)} {ws : List (Option Key × V)}, NReps K H fs ws → ws.length = fs.length
  | [], _, h => by cases (show _ = [] from h); rfl
  | (g, w) :: fs, _, ⟨u, ws, e, ru, rs⟩ => by subst e; simp [nreps_len rs]
theorem nreps_key {K : PySem.W.Frag} {H : Hp} : ∀ {fs : List (Option DK × D)} {ws : List (Option Key × V)}, NReps K H fs ws → ws.map (·.1) = fs.map fun kv => kv.1.map kdk
  | [], _, h => by cases (show _ = [] from h); rfl
  | (g, w) :: fs, _, ⟨u, ws, e, ru, rs⟩ => by subst e; simp [nreps_key rs]
theorem pairs_get {P : Program} {w : World} {κ : Type} [DecidableEq κ] {knd : PySem.KeyKind P w κ} {es : List DictEntry} {vs : List (κ × Value)} (h : Pairs knd es vs) : ∀ {i : Nat} {k : κ} {u : Value}, vs[i]? = some (k, u) → ∃ en, es[i]? = some en ∧ knd.is k en.key = true := by
  induction h with
  | nil => intro i k u e; simp at e
  | @cons e kv es kvs h1 h2 _ ih =>
    intro i k u q
    cases i with
    | zero => simp at q; exact ⟨e, rfl, by rw [q] at h1; exact h1⟩
    | succ j => simp only [List.getElem?_cons_succ] at q ⊢; exact ih q
/-- what stands there -/
def NPhi (cl : Wd) (a : Addr) (lk : Option Obj) (ws : List (Option Key × V)) : Heap → Prop := fun h => NOk cl h a lk ws
theorem nobj_ok {P : Program} {w : World} {H : Hp} {h : Heap} {cl : Wd} {a : Addr} {lk : Option Obj} {ws : List (Option Key × V)} (x : NOk cl h a lk ws) : ObjOk P w H h a (.ext (NPhi cl a lk ws)) :=
  ⟨x, x.at, fun h1 h2 y k => NOk.stay y k⟩
/-- the dict at a -/
def NAt (cl : Wd) (H : Hp) (a : Addr) (lk : Option Obj) (ws : List (Option Key × V)) : Prop := ∃ φ, H a = some (.ext φ) ∧ ∀ h, φ h → NOk cl h a lk ws
theorem NAt.new {cl : Wd} {H : Hp} {a : Addr} {lk : Option Obj} {ws : List (Option Key × V)} : NAt cl (L2.upd H a (.ext (NPhi cl a lk ws))) a lk ws := ⟨_, L2.upd_same, fun _ h => h⟩
structure Gh (X : Cx) (cl : Wd) : Prop where
  P : cl.P = X.prog
  w : cl.w = X.w
section
variable {X : Cx} {pins : List (Addr × Obj)} {σ : L2.St} {H : Hp} {s : Shared} {a : Addr} {lk : Option Obj} {ws : List (Option Key × V)} {cl : Wd}
theorem NAt.ok (n : NAt cl H a lk ws) (I : Inv X pins σ H s) : NOk cl s.heap a lk ws := by
  obtain ⟨φ, e, f⟩ := n
  obtain ⟨p, _⟩ := I.hok a _ e
  exact f _ p
theorem NAt.dict (g : Gh X cl) (n : NAt cl H a lk ws) (I : Inv X pins σ H s) : ws.length ≤ sizeLine ∧ (a == sysModules) = false ∧ (∃ vs, KV ws vs ∧ s.heap.DictOf (noneKind X.prog X.w) a vs) ∧ ∀ o, lk = some o → s.heap.get? a = some o := by
  have := n.ok I
  unfold NOk at this
  rw [g.P, g.w] at this
  exact this
theorem NAt.mut (n : NAt cl H a lk ws) : Mut (H a) := by
  obtain ⟨φ, e, _⟩ := n
  rw [e]; exact True.intro
/-- d[k] -/
def rIxN (cl : Wd) : R2 := fun x y H Q => ∃ a lk ws k v, x = .ref a ∧ y = nkV k ∧ NAt cl H a lk ws ∧ valV ws k = some v ∧ Q v H
theorem ix_dictN (g : Gh X cl) : IxR X (rIxN cl) := by
  intro value slice pins s σ H x y v u Q I rx ry h hs
  obtain ⟨a, lk, ws, k, z, rfl, rfl, n, hv, q⟩ := h
  cases rx
  obtain ⟨_, _, ⟨vs, r, dd⟩, _⟩ := n.dict g I
  have hT : s.TypeIs (.ref a) "dict" := dd.typeIs
  unfold subscriptTail
  refine wpAny_bind ?_
  rw [getitemInPython_of_ne hT.not_modules]
  refine wpAny_bind (wpAny_specialOf hT PySem.F.slot_dict_getitem.lookup ?_)
  obtain ⟨w', hw, rw'⟩ := RelO.some_of (v := z) (o := valueAt vs k) (by rw [← hv]; exact r.val k)
  have fin : wpAny (model X.prog X.w) X.A (subscripted slice false (.ref a) u) (fun r s₃ => wpAny (model X.prog X.w) X.A (letTemporaryGo value (.ref a) r >>= fun _ => pure r) (EP X pins σ Q) X.xe s₃) X.xe s := by
    rw [hs]
    refine wpAny_operating (wpAny_getItem_of (nkV_is ry) dd.mapOf hw (wpAny_bind (wpAny_letTemporaryGo (wpAny_pure ⟨z, H, I.tok _, rw', q⟩))))
  first
    | exact wpAny_pure (wpAny_bind fin)
    | exact wpAny_bind (wpAny_pure (wpAny_bind fin))
    | exact wpAny_bind fin
/-- d[k] = v -/
def tSetN (cl : Wd) : TSet := fun o i v H Q => ∃ a lk ws k, o = .ref a ∧ i = nkV k ∧ NAt cl H a lk ws ∧ ws.length < sizeLine ∧ Q (L2.upd H a (.ext (NPhi cl a none (putK ws k v))))
theorem set_dictN (g : Gh X cl) : PSet X (tSetN cl) := by
  intro pins s σ H o i v ov iv u Q I ro ri rv h
  obtain ⟨a, lk, ws, k, rfl, rfl, n, hl, q⟩ := h
  cases ro
  obtain ⟨z, y, ⟨vs, r, dd⟩, _⟩ := n.dict g I
  have hz : vs.length ≤ sizeLine := by rw [← Paired.length r]; exact z
  refine wpAny_setItem_pairs (hsz := hz) (nkV_is ri) dd fun h' dd' hs => ⟨_, ?_, q⟩
  have he : ∃ q, h'.get? a = some q := let ⟨q, _, _, hq, _⟩ := dd'; ⟨q, hq⟩
  have hlen := length_putK ws k v
  refine d_write I n.mut hs he (nobj_ok ⟨by omega, y, ⟨_, r.put k rv, ?_⟩, fun o e => nomatch e⟩)
  rw [g.P, g.w]
  exact dd'
/-- {}, to be such a dict -/
def tDNewN (cl : Wd) : TE := fun _ H Q => ∀ p, H p = none → Q (.ref p) (L2.upd H p (.ext (NPhi cl p none [])))
theorem pe_dnewN {pos : Pos} : PE X (.Dict [] [] pos) (tDNewN cl) := ⟨fun pins s σ H Q I h =>
  wpAny_Dict_empty ⟨.ref s.heap.objs.size, _, I.laid (a := s.heap.objs.size) (o := .ext (NPhi cl s.heap.objs.size none [])) (t' := s.toks) (fun _ _ q => Heap.get?_push_of_some _ q) (Nat.le_refl _)
    (nobj_ok ⟨Nat.zero_le _, beq_eq_false_iff_ne.mpr (Ne.symm (Nat.ne_of_lt I.big)), ⟨[], .nil, Heap.DictOf.new s.heap⟩, fun o e => nomatch e⟩), rfl, h _ (I.hok.fresh (Nat.le_refl _))⟩⟩
/-- k in d -/
theorem in_dictN (g : Gh X cl) {A : Around} {E : Value → Shared → Prop} {k : Option Key} {u : Value} {Q : Value → Shared → Prop} (n : NAt cl H a lk ws) (I : Inv X pins σ H s) (ry : L2.RelV (nkV k) u) (h : ∀ s', Inv X pins σ H s' → Q (.bool (valV ws k).isSome) s') :
    wpAny (model X.prog X.w) A (compareOp .In u (.ref a)) Q E s := by
  obtain ⟨z, y, ⟨vs, r, dd⟩, _⟩ := n.dict g I
  refine wpAny_in_of (nkV_is ry) y dd.mapOf ?_
  rw [← (r.val k).isSome_eq]
  exact h _ (I.tok _)
theorem notin_dictN (g : Gh X cl) {A : Around} {E : Value → Shared → Prop} {k : Option Key} {u : Value} {Q : Value → Shared → Prop} (n : NAt cl H a lk ws) (I : Inv X pins σ H s) (ry : L2.RelV (nkV k) u) (h : ∀ s', Inv X pins σ H s' → Q (.bool (!(valV ws k).isSome)) s') :
    wpAny (model X.prog X.w) A (compareOp .NotIn u (.ref a)) Q E s := by
  obtain ⟨z, y, ⟨vs, r, dd⟩, _⟩ := n.dict g I
  refine wpAny_notIn_of (nkV_is ry) y dd.mapOf ?_
  rw [← (r.val k).isSome_eq]
  exact h _ (I.tok _)
/-- d.get(k, x) -/
def rGetN (cl : Wd) : V → List V → Hp → VK → Prop := fun x vs H Q => ∃ a lk ws k z, x = .ref a ∧ vs = [nkV k, z] ∧ NAt cl H a lk ws ∧ Q ((valV ws k).getD z) H
theorem mt_getN (g : Gh X cl) : MtR X "dict.get" (rGetN cl) := by
  intro pins s σ H x xs v us Q I rx rs h
  obtain ⟨a, lk, ws, k, z, rfl, rfl, n, q⟩ := h
  cases rx
  cases rs with
  | cons r1 rs => cases rs with
    | cons r2 rs =>
      cases rs
      obtain ⟨_, y, ⟨vs, r, dd⟩, _⟩ := n.dict g I
      refine call_meetsIn PySem.F.slot_dict_get dd.typeIs PySem.F.entry_dict_get (PySem.F.args_dict_get_3 _ _ _) (meets_dict_get_default (noneKind X.prog X.w) a (nkV_is r1) y _) ⟨_, dd.mapOf, _, H, I.tok _, (r.val k).getD r2, q⟩
def rGetK : V → List V → Hp → VK → Prop := fun x vs H Q => ∃ a kvs k z, x = .ref a ∧ vs = [kV k, z] ∧ H a = some (.dK kvs) ∧ Q ((valV kvs k).getD z) H
theorem mt_getK (hu : X.A.units + 1 < cLine) : MtR X "dict.get" rGetK := by
  intro pins s σ H x xs v us Q I rx rs h
  obtain ⟨a, kvs, k, z, rfl, rfl, n, q⟩ := h
  cases rx
  cases rs with
  | cons r1 rs => cases rs with
    | cons r2 rs =>
      cases rs
      exact d_get2 hu I (DGet.k n) r1 r2 fun w' s' I' rw' => ⟨_, H, I', rw', q⟩
/-- a dict, of either kind -/
def tyN2 (cl : Wd) (x : V) (H : Hp) : Prop := ∃ a, x = .ref a ∧ ((∃ kvs, H a = some (.dK kvs)) ∨ ∃ lk ws, NAt cl H a lk ws)
variable {o e : Expr} {es : List Expr} {to : TE} {t : TA} {name : Str} {apos cpos : Pos} {id : String} {r : V → List V → Hp → VK → Prop}
theorem pe_bmN (gh : Gh X cl) (pa : PlainAttrs "dict") (slot : Slot "dict" name id) (hty : typeOf (.builtin id) = pure (.type "method_descriptor")) (hm : MtR X id r) (ho : PE X o to) (ha : PA X (e :: es) t)
    (hbase : attributeBase o name X.env (eval o X.env) = eval o X.env := by rfl)
    (hfew : ((backTo cpos (starEach (e :: es) X.env)).all (fun x => !x.1) && (backToKw cpos (keywordEach [] X.env)).all (fun x => x.1.isSome)
      && decide ((e :: es).length + ([] : List Keyword).length + (if ([] : List Keyword).isEmpty then 0 else 1) < 30)) = true := by rfl)
    (hline : (apos.endLine == cpos.line) = true := by rfl) (hs : starEach (e :: es) X.env = (false, eval e X.env) :: starEach es X.env := by rfl) (hplain : (backTo cpos (starEach es X.env)).any (·.1) = false := by rfl) :
    PE X (.Call (.Attribute o name apos) (e :: es) [] cpos) (fun σ H Q => to σ H fun x H1 => tyN2 cl x H1 ∧ t σ H1 fun xs H2 => r x xs H2 Q) := by
  refine ⟨fun pins s σ H Q I h => ?_⟩
  refine wpAny_Call_method_late hbase hfew hline rfl (thn (ho.run pins s σ H _ I h) fun v s1 ⟨x, H1, I1, r1, ty, q1⟩ => ?_)
  have hh : s1.TypeIs v "dict" ∧ ∀ a, v = .ref a → ∃ ob, s1.heap.get? a = some ob ∧ ob.dict = none := by
    obtain ⟨p, ex, ty⟩ := ty
    subst ex
    cases r1
    rcases ty with ⟨kvs, e1⟩ | ⟨lk, ws, n⟩
    · obtain ⟨_, hd, vs, _, dd⟩ := dk_of I1.hok e1
      refine ⟨dd.typeIs, fun a q => ?_⟩
      cases q
      obtain ⟨ob, _, _, h1, h2, _⟩ := dd
      exact ⟨ob, h1, h2.2.1⟩
    · obtain ⟨_, hd, ⟨vs, _, dd⟩, _⟩ := n.dict gh I1
      refine ⟨dd.typeIs, fun a q => ?_⟩
      cases q
      obtain ⟨ob, _, _, h1, h2, _⟩ := dd
      exact ⟨ob, h1, h2.2.1⟩
  obtain ⟨h1, h2⟩ := hh
  refine ⟨"dict", id, pa, slot, hty, h1, h2, ?_⟩
  have hA := ha.run cpos pins s1 σ H1 _ I1 q1
  rw [hs] at hA ⊢
  refine Calls.callWith_builtin (by show (false || (backTo cpos (starEach es X.env)).any (·.1)) = false; rw [hplain] <;> rfl) (Calls.evalArgs_plain ?_)
  exact thn hA fun us s2 ⟨vs, H2, I2, r2, q2⟩ => hm pins s2 σ H2 x vs v us Q I2 r1 r2 q2
/-! ### for k in d -/
/-- d is locked: its object is o -/
def LkAt (H : Hp) (d : Addr) (o : Obj) : Prop := ∃ φ, H d = some (.ext φ) ∧ ∀ h, φ h → h.get? d = some o
def Itn (d : Addr) (o : Obj) (ks : List (Option Key)) : It :=
  ⟨fun i H => LkAt H d o ∧ i < ks.length, fun i H x H' => H' = H ∧ ∃ k, ks[i]? = some k ∧ x = nkV k, fun i H => LkAt H d o ∧ ks.length ≤ i⟩
theorem lkAt (n : NAt cl H a (some o') ws) : LkAt H a o' := by
  obtain ⟨φ, e, f⟩ := n
  exact ⟨φ, e, fun h p => (f h p).2.2.2 _ rfl⟩
theorem LkAt.get {d : Addr} {o : Obj} (h : LkAt H d o) (I : Inv X pins σ H s) : s.heap.get? d = some o := by
  obtain ⟨φ, e, f⟩ := h
  exact f _ (I.hok d _ e).1
theorem turn_keysN {P : Program} {w : World} {K : PySem.W.Frag} {tg : Expr} {d : Addr} {o : Obj} {es : Array DictEntry} {ep : Nat} {ks : List (Option Key)} (it : Addr) (hod : o.data = .dict es ep) (hsz : es.size = ks.length)
    (hk : ∀ (i : Nat) k, ks[i]? = some k → ∃ en : DictEntry, es[i]? = some en ∧ L2.RelV (nkV k) en.key) : Turn P w K tg (Itn d o ks) [it] it (fun i h => h.IsKeyIter it d i ks.length ep) where
  mem := by simp
  obj := fun i h st b hb => by
    have e : b = it := by simpa using hb
    subst e
    obtain ⟨oi, e, c, dd⟩ := st
    exact ⟨oi, e, fun v z => by rw [dd] at z; cases z⟩
  keep := fun i h h' st k => st.at fun oi e => k it (by simp) oi e
  item := by
    intro X hP hw hK hc i pins s σ H E I hf st hg
    subst hP hw hK
    obtain ⟨hd, hi⟩ := hg
    obtain ⟨f0, f1, f2, f3, f4, f5⟩ := hf it (by simp)
    have hgd := hd.get I
    obtain ⟨en, hen, hkey⟩ := hk i _ (List.getElem?_eq_getElem hi)
    refine next_key_item st hgd hod hsz hen fun h' st' sb => ?_
    have I1 : Inv X pins σ H { s with heap := h' } := I.turned (t' := s.toks) (fun b ob hb e => (sb.2 b hb).trans e) f0 f1 f3 f4 f5
    obtain ⟨oi, e, c, dd⟩ := id st'
    exact ⟨en.key, rfl, go_of (s := { s with heap := h' }) e c dd (by decide) ⟨nkV ks[i], H, I1, hkey, ⟨rfl, _, List.getElem?_eq_getElem hi, rfl⟩, st', fun b hb => (hf b hb).1⟩⟩
  done := by
    intro X hP hw hK hc i pins s σ H E I hf st hg
    subst hP hw hK
    obtain ⟨hd, hi⟩ := hg
    obtain ⟨f0, f1, f2, f3, f4, f5⟩ := hf it (by simp)
    exact next_key_end (I.ok.hd hc) st (hd.get I) hod hsz hi fun h' eb => ⟨rfl, I.turned (t' := s.toks) (fun b ob hb e => eb b ob hb e) f0 f1 f3 f4 f5⟩
  self := fun A i s Q E st h => by
    refine wpAny_pyIter_slot st.typeIs F.slot_dict_keyiterator_iter (wpAny_call_entry F.slot_dict_keyiterator_iter st.typeIs F.entry_dict_keyiterator_iter ?_ (F.args_dict_keyiterator_iter_1 _))
    show wpAny _ _ (ret (.ref it)) _ _ s
    exact wpAny_pure ⟨_, rfl, "dict_keyiterator", _, st.typeIs, F.slot_dict_keyiterator_next.lookup, h⟩
/-- the dict is locked from here on, till it is written again -/
theorem Inv.lockN (g : Gh X cl) (I : Inv X pins σ H s) (n : NAt cl H a lk ws) : ∃ o, s.heap.get? a = some o ∧ Inv X pins σ (L2.upd H a (.ext (NPhi cl a (some o) ws))) s := by
  have x := n.ok I
  obtain ⟨o, e⟩ := x.at
  obtain ⟨z, y, dd, _⟩ := x
  have new : NOk cl s.heap a (some o) ws := ⟨z, y, dd, fun o' q => by cases q; exact e⟩
  exact ⟨o, e, I.write (x := a) (e := a) (t' := s.toks) (h' := s.heap) n.mut (.inl rfl) (fun b v _ q => q) ⟨o, e⟩ (nobj_ok new)⟩
def iKeysN (cl : Wd) (td : TE) : TI := fun σ H R => td σ H fun x H1 => ∃ a lk ws, x = .ref a ∧ NAt cl H1 a lk ws ∧ ∀ o, R (Itn a o (ws.map (·.1))) (L2.upd H1 a (.ext (NPhi cl a (some o) ws)))
theorem pi_keysN (g : Gh X cl) {tg e : Expr} {td : TE} (he : PE X e td) : PI X tg e (iKeysN cl td) := by
  refine ⟨fun pins s σ H R I h => ?_⟩
  refine thn (he.run pins s σ H _ I h) fun u s1 ⟨x, H1, I1, rx, a, lk, ws, ex, n, q⟩ => ?_
  subst ex
  obtain rfl : u = Value.ref a := rx
  obtain ⟨_, y, ⟨vs, r, dd⟩, _⟩ := n.dict g I1
  obtain ⟨o, ho, I2⟩ := Inv.lockN g I1 n
  obtain ⟨o', es, ep, ho', hx, hdt, h3, h4, h5⟩ := id dd
  rw [ho] at ho'
  cases ho'
  have hl : es.size = (ws.map (·.1)).length := by
    have l1 := h4.length
    have l2 : ws.length = vs.length := Paired.length r
    rw [Array.length_toList] at l1
    rw [List.length_map]; omega
  refine iter_keys y ho hx hdt (pi_one (tk := s1.toks) I2 _ (turn_keysN _ hdt hl fun i k hk => ?_) ⟨_, Heap.get?_push_size _ rfl, rfl, ?_⟩ (q o))
  · rw [List.getElem?_map, Option.map_eq_some_iff] at hk
    obtain ⟨⟨k', v⟩, hk, rfl⟩ := hk
    obtain ⟨u, hu, ru⟩ := kv_get r hk
    obtain ⟨en, he, hi⟩ := pairs_get h4 hu
    exact ⟨en, by rw [← Array.getElem?_toList]; exact he, nkV_of hi⟩
  · rw [← hl] <;> rfl
end
end Tr

/-! TL2: operators, subscripts, calls of built-ins by trees. -/
namespace Tr
open PySem PySem.Spec PyProof.Rows L2

section
variable {X : Cx} {cl : Wd}
/-- two values by trees -/
def l2 (K : PySem.W.Frag) (cl : Wd) (f : D → D → TH → Kd → Prop) : R2 := fun x y H Q => ∃ d e T q, Rep K H d x ∧ Rep K H e y ∧ HRep K cl H T ∧ f d e T q ∧ KOk K cl H q Q
theorem szl {n : Nat} (h : n ≤ szL) : n ≤ sizeLine := by rw [sizeLine_eq]; exact h
theorem op_ok_add : OpR X (binaryOp .Add) (l2 X.K cl (binR .add)) := by
  intro pins s σ H x y v u Q I rx ry h
  obtain ⟨d, e, T, q, rd, re, R, h, k⟩ := h
  cases d <;> cases e <;> simp only [binR] at h
  case int.int i j =>
    cases (show x = .int i from rd); cases (show y = .int j from re)
    exact op_add pins s σ H _ _ v u Q I rx ry ⟨i, j, rfl, rfl, k.here R (d := .int (i + j)) rfl h⟩
  case str.str a b =>
    cases (show x = .str (stS a) from rd); cases (show y = .str (stS b) from re)
    exact op_add_str pins s σ H _ _ v u Q I rx ry ⟨stS a, stS b, rfl, rfl, by rw [stS_len, stS_len]; exact szl h.1, by rw [stS_app]; exact k.here R (d := .str (a ++ b)) rfl h.2⟩
  case tup.tup a b =>
    obtain ⟨p, vs, rfl, hp, r1⟩ := rd
    obtain ⟨p', ws, rfl, hp', r2⟩ := re
    obtain ⟨hz, h⟩ := h
    refine op_catF pins s σ H _ _ v u Q I rx ry ⟨p, p', vs, ws, rfl, rfl, hp.sq, hp'.sq, by rw [r1.len, r2.len]; exact szl hz, fun z => ?_, fun _ z => ?_, fun _ _ => k.tup R (r1.app r2) h⟩
    · subst z
      have ea : a = [] := List.eq_nil_of_length_eq_zero (by have := r1.len; simpa using this.symm)
      subst ea
      exact k.here R (d := .tup ([] ++ b)) ⟨p', ws, rfl, hp', r2⟩ h
    · subst z
      have eb : b = [] := List.eq_nil_of_length_eq_zero (by have := r2.len; simpa using this.symm)
      subst eb
      exact k.here R (d := .tup (a ++ [])) ⟨p, vs, rfl, hp, by simpa using r1⟩ h
  case ref.ref a b =>
    cases (show x = .ref a from rd); cases (show y = .ref b from re)
    split at h
    · rename_i xs ys e1 e2
      obtain ⟨hz, h⟩ := h
      obtain ⟨vs, h1, r1⟩ := R.lst e1
      obtain ⟨ws, h2, r2⟩ := R.lst e2
      exact op_cat pins s σ H _ _ v u Q I rx ry ⟨a, b, vs, ws, rfl, rfl, h1, h2, by rw [r1.len, r2.len]; exact szl hz, fun p hp => k.lst R (r1.app r2) h hp⟩
    · exact h.elim
theorem op_ok_sub : OpR X (binaryOp .Sub) (l2 X.K cl (binR .sub)) := by
  intro pins s σ H x y v u Q I rx ry h
  obtain ⟨d, e, T, q, rd, re, R, h, k⟩ := h
  cases d <;> cases e <;> simp only [binR] at h
  case int.int i j =>
    cases (show x = .int i from rd); cases (show y = .int j from re)
    exact op_sub pins s σ H _ _ v u Q I rx ry ⟨i, j, rfl, rfl, k.here R (d := .int (i - j)) rfl h⟩
theorem op_ok_mul : OpR X (binaryOp .Mult) (l2 X.K cl (binR .mul)) := by
  intro pins s σ H x y v u Q I rx ry h
  obtain ⟨d, e, T, q, rd, re, R, h, k⟩ := h
  cases d <;> cases e <;> simp only [binR] at h
  case int.int i j =>
    cases (show x = .int i from rd); cases (show y = .int j from re)
    exact op_mul pins s σ H _ _ v u Q I rx ry ⟨i, j, rfl, rfl, h.1, k.here R (d := .int (i * j)) rfl h.2⟩
  case tup.int a n =>
    obtain ⟨p, vs, rfl, hp, r1⟩ := rd
    cases (show y = .int n from re)
    obtain ⟨h0, h1, h2, h3, h⟩ := h
    refine op_repF pins s σ H _ _ v u Q I rx ry ⟨p, n, vs, rfl, rfl, hp.sq, fun z => h0 ?_, h1, h2, by rw [r1.len]; exact h3, k.tup R (r1.flatten _) h⟩
    subst z
    exact List.eq_nil_of_length_eq_zero (by have := r1.len; simpa using this.symm)
  case ref.int a n =>
    cases (show x = .ref a from rd); cases (show y = .int n from re)
    split at h
    · rename_i xs e1
      obtain ⟨h1, h2, h3, h⟩ := h
      obtain ⟨vs, e1, r1⟩ := R.lst e1
      exact op_rep pins s σ H _ _ v u Q I rx ry ⟨a, n, vs, rfl, rfl, e1, h1, h2, by rw [r1.len]; exact szl h3, fun p hp => k.lst R (r1.flatten _) h hp⟩
    · exact h.elim
theorem op_ok_fdiv : OpR X (binaryOp .FloorDiv) (l2 X.K cl (binR .fdiv)) := by
  intro pins s σ H x y v u Q I rx ry h
  obtain ⟨d, e, T, q, rd, re, R, h, k⟩ := h
  cases d <;> cases e <;> simp only [binR] at h
  case int.int i j =>
    cases (show x = .int i from rd); cases (show y = .int j from re)
    exact op_fdivN pins s σ H _ _ v u Q I rx ry ⟨i, j, rfl, rfl, h.1, k.here R (d := .int (i.fdiv j)) rfl h.2⟩
theorem op_ok_mod : OpR X (binaryOp .Mod) (l2 X.K cl (binR .mod)) := by
  intro pins s σ H x y v u Q I rx ry h
  obtain ⟨d, e, T, q, rd, re, R, h, k⟩ := h
  cases d <;> cases e <;> simp only [binR] at h
  case int.int i j =>
    cases (show x = .int i from rd); cases (show y = .int j from re)
    exact op_modN pins s σ H _ _ v u Q I rx ry ⟨i, j, rfl, rfl, h.1, k.here R (d := .int (i.fmod j)) rfl h.2⟩
theorem op_ok_pow : OpR X (binaryOp .Pow) (l2 X.K cl (binR .pow)) := by
  intro pins s σ H x y v u Q I rx ry h
  obtain ⟨d, e, T, q, rd, re, R, h, k⟩ := h
  cases d <;> cases e <;> simp only [binR] at h
  case int.int i j =>
    cases (show x = .int i from rd); cases (show y = .int j from re)
    exact op_pow pins s σ H _ _ v u Q I rx ry ⟨i, j, rfl, rfl, h.1, k.here R (d := .int (i ^ j.toNat)) rfl h.2⟩
def opB : Bin → Operator
  | .add => .Add | .sub => .Sub | .mul => .Mult | .fdiv => .FloorDiv | .mod => .Mod | .pow => .Pow
theorem op_ok (o : Bin) : OpR X (binaryOp (opB o)) (l2 X.K cl (binR o)) := by
  cases o
  · exact op_ok_add
  · exact op_ok_sub
  · exact op_ok_mul
  · exact op_ok_fdiv
  · exact op_ok_mod
  · exact op_ok_pow

/-! ### equality -/
mutual
theorem dp_of {K : PySem.W.Frag} {H : Hp} : ∀ (d : D) {v : V}, Rep K H d v → (toPy d).canLay0 = true → Dp K H v (toPy d)
  | .non, _, h, _ => by cases (show _ = V.non from h); exact .non
  | .bl b, _, h, _ => by cases (show _ = V.bl b from h); exact .bl b
  | .int i, _, h, _ => by cases (show _ = V.int i from h); exact .int i
  | .str x, _, h, _ => by cases (show _ = V.str (stS x) from h); exact .str _
  | .wtup ds, _, ⟨a, vs, h1, h2, h3⟩, c => by subst h1; exact .tup h2 (dps_of ds h3 (by simpa [toPy, PyData.canLay0] using c))
  | .tup ds, _, ⟨a, vs, h1, h2, h3⟩, c => by subst h1; exact .tup h2.sq (dps_of ds h3 (by simpa [toPy, PyData.canLay0] using c))
  | .rol ds, _, ⟨a, vs, h1, h2, h3⟩, c => by subst h1; exact .lst h2.1 (dps_of ds h3 (by simpa [toPy, PyData.canLay0] using c))
  | .ref a, _, _, c => by simp [toPy, PyData.canLay0] at c
theorem dps_of {K : PySem.W.Frag} {H : Hp} : ∀ (ds : List D) {vs : List V}, Reps K H ds vs → PyData.canLayAll0 (toPys ds) = true → DpAll K H vs (toPys ds)
  | [], _, h, _ => by cases (show _ = [] from h); exact .nil
  | d :: ds, _, ⟨v, vs', h1, h2, h3⟩, c => by
    subst h1
    have c' : (toPy d).canLay0 = true ∧ PyData.canLayAll0 (toPys ds) = true := by simpa [toPys, PyData.canLayAll0] using c
    exact .cons (dp_of d h2 c'.1) (dps_of ds h3 c'.2)
end
theorem dpT_of {K : PySem.W.Frag} {H : Hp} {T : TH} {d : D} {v : V} (R : HRep K cl H T) (r : Rep K H d v) (c : lay T d) : Dp K H v (toPyT T d) := by
  have c0 : (toPyT T d).canLay0 = true := c
  cases d with
  | ref a =>
    cases (show v = V.ref a from r)
    simp only [toPyT] at c0 ⊢
    split at c0
    · rename_i ds e
      obtain ⟨vs, h1, h2⟩ := R.lst e
      exact .lst (SqL.of h1) (dps_of ds h2 (by simpa [PyData.canLay0] using c0))
    · simp [PyData.canLay0] at c0
  | _ => exact dp_of _ r c0
/-- a comparison by trees -/
def l2b (K : PySem.W.Frag) (cl : Wd) (f : D → D → TH → (Bool → Prop) → Prop) : R2 := l2 K cl fun d e T q => f d e T fun b => q (.bl b) T
theorem bl_here {K : PySem.W.Frag} {H : Hp} {T : TH} {q : Kd} {Q : VK} {b : Bool} (k : KOk K cl H q Q) (R : HRep K cl H T) (h : q (.bl b) T) : Q (.bl b) H := k.here R (d := .bl b) rfl h
theorem dec_strS {a b : List Nat} : decide (V.str (stS a) = V.str (stS b)) = decide (a = b) := by
  by_cases h : a = b
  · subst h; simp
  · rw [decide_eq_false h, decide_eq_false]
    intro e; injection e with e; exact h (stS_inj e)
theorem dec_intV {a b : Int} : decide (V.int a = V.int b) = decide (a = b) := by
  by_cases h : a = b
  · subst h; simp
  · rw [decide_eq_false h, decide_eq_false]
    intro e; injection e with e; exact h e
theorem dec_blV {a b : Bool} : decide (V.bl a = V.bl b) = decide (a = b) := by cases a <;> cases b <;> decide
theorem shal_room {T : TH} {d e : D} {A : Around} (h : shal T d e) (hu : A.units + 64 < cLine) : A.units + min (toPyT T d).depth (toPyT T e).depth < cLine := by
  rcases h with h | h
  · exact Nat.lt_of_le_of_lt (Nat.add_le_add_left (Nat.le_trans (Nat.min_le_left _ _) h) _) hu
  · exact Nat.lt_of_le_of_lt (Nat.add_le_add_left (Nat.le_trans (Nat.min_le_right _ _) h) _) hu
theorem op_ok_eq (hu : X.A.units + 64 < cLine) : OpR X (compareOp .Eq) (l2b X.K cl (cmpR .eq)) := by
  intro pins s σ H x y v u Q I rx ry h
  obtain ⟨d, e, T, q, rd, re, R, h, k⟩ := h
  have deep : ∀ d e, Rep X.K H d x → Rep X.K H e y → (lay T d ∧ lay T e ∧ shal T d e ∧ q (.bl (deq T d e)) T) → wpAny (model X.prog X.w) X.A (compareOp .Eq v u) (EP X pins σ Q) X.xe s := fun d e rd re h => by
    obtain ⟨_, r1⟩ := Dp.reads I _ x v (dpT_of R rd h.1) rx
    obtain ⟨_, r2⟩ := Dp.reads I _ y u (dpT_of R re h.2.1) ry
    exact SeqAt.compareEq_reads r1 r2 h.1 h.2.1 (shal_room h.2.2.1 hu) ⟨.bl _, H, I, rfl, bl_here k R h.2.2.2⟩
  cases d <;> cases e <;> simp only [cmpR, eqR] at h <;> first
    | exact deep _ _ rd re h
    | skip
  case bl.bl a b =>
    cases (show x = .bl a from rd); cases (show y = .bl b from re)
    exact op_eq pins s σ H _ _ v u Q I rx ry ⟨rfl, by rw [dec_blV]; exact bl_here k R h⟩
  case int.int a b =>
    cases (show x = .int a from rd); cases (show y = .int b from re)
    exact op_eq pins s σ H _ _ v u Q I rx ry ⟨rfl, by rw [dec_intV]; exact bl_here k R h⟩
  case str.str a b =>
    cases (show x = .str (stS a) from rd); cases (show y = .str (stS b) from re)
    exact op_eq pins s σ H _ _ v u Q I rx ry ⟨rfl, by rw [dec_strS]; exact bl_here k R h⟩
theorem op_ok_ne (hu : X.A.units + 64 < cLine) : OpR X (compareOp .NotEq) (l2b X.K cl (cmpR .ne)) := by
  intro pins s σ H x y v u Q I rx ry h
  obtain ⟨d, e, T, q, rd, re, R, h, k⟩ := h
  have deep : ∀ d e, Rep X.K H d x → Rep X.K H e y → (lay T d ∧ lay T e ∧ shal T d e ∧ q (.bl (!deq T d e)) T) → wpAny (model X.prog X.w) X.A (compareOp .NotEq v u) (EP X pins σ Q) X.xe s := fun d e rd re h => by
    obtain ⟨_, r1⟩ := Dp.reads I _ x v (dpT_of R rd h.1) rx
    obtain ⟨_, r2⟩ := Dp.reads I _ y u (dpT_of R re h.2.1) ry
    exact SeqAt.compareNe_reads r1 r2 h.1 h.2.1 (shal_room h.2.2.1 hu) ⟨.bl _, H, I, rfl, bl_here k R h.2.2.2⟩
  cases d <;> cases e <;> simp only [cmpR, eqR] at h <;> first
    | exact deep _ _ rd re h
    | skip
  case bl.bl a b =>
    cases (show x = .bl a from rd); cases (show y = .bl b from re)
    exact op_ne pins s σ H _ _ v u Q I rx ry ⟨rfl, by rw [dec_blV]; exact bl_here k R h⟩
  case int.int a b =>
    cases (show x = .int a from rd); cases (show y = .int b from re)
    exact op_ne pins s σ H _ _ v u Q I rx ry ⟨rfl, by rw [dec_intV]; exact bl_here k R h⟩
  case str.str a b =>
    cases (show x = .str (stS a) from rd); cases (show y = .str (stS b) from re)
    exact op_ne pins s σ H _ _ v u Q I rx ry ⟨rfl, by rw [dec_strS]; exact bl_here k R h⟩
theorem op_ok_lt : OpR X (compareOp .Lt) (l2b X.K cl (cmpR .lt)) := by
  intro pins s σ H x y v u Q I rx ry h
  obtain ⟨d, e, T, q, rd, re, R, h, k⟩ := h
  cases d <;> cases e <;> simp only [cmpR] at h
  case int.int i j =>
    cases (show x = .int i from rd); cases (show y = .int j from re)
    exact op_lt pins s σ H _ _ v u Q I rx ry ⟨i, j, rfl, rfl, bl_here k R h⟩
  case str.str a b =>
    cases (show x = .str (stS a) from rd); cases (show y = .str (stS b) from re)
    exact op_lt_str pins s σ H _ _ v u Q I rx ry ⟨_, _, rfl, rfl, bl_here k R h⟩
theorem op_ok_le : OpR X (compareOp .LtE) (l2b X.K cl (cmpR .le)) := by
  intro pins s σ H x y v u Q I rx ry h
  obtain ⟨d, e, T, q, rd, re, R, h, k⟩ := h
  cases d <;> cases e <;> simp only [cmpR] at h
  case int.int i j =>
    cases (show x = .int i from rd); cases (show y = .int j from re)
    exact op_le pins s σ H _ _ v u Q I rx ry ⟨i, j, rfl, rfl, bl_here k R h⟩
theorem op_ok_gt : OpR X (compareOp .Gt) (l2b X.K cl (cmpR .gt)) := by
  intro pins s σ H x y v u Q I rx ry h
  obtain ⟨d, e, T, q, rd, re, R, h, k⟩ := h
  cases d <;> cases e <;> simp only [cmpR] at h
  case int.int i j =>
    cases (show x = .int i from rd); cases (show y = .int j from re)
    exact op_gt pins s σ H _ _ v u Q I rx ry ⟨i, j, rfl, rfl, bl_here k R h⟩
theorem op_ok_ge : OpR X (compareOp .GtE) (l2b X.K cl (cmpR .ge)) := by
  intro pins s σ H x y v u Q I rx ry h
  obtain ⟨d, e, T, q, rd, re, R, h, k⟩ := h
  cases d <;> cases e <;> simp only [cmpR] at h
  case int.int i j =>
    cases (show x = .int i from rd); cases (show y = .int j from re)
    exact op_ge pins s σ H _ _ v u Q I rx ry ⟨i, j, rfl, rfl, bl_here k R h⟩
/-- is None -/
theorem rep_non {K : PySem.W.Frag} {H : Hp} {d : D} {x : V} (r : Rep K H d x) : decide (x = V.non) = (match d with | .non => true | _ => false) := by
  cases d with
  | non => cases (show x = _ from r); rfl
  | bl b => cases (show x = _ from r); rfl
  | int b => cases (show x = _ from r); rfl
  | str b => cases (show x = _ from r); rfl
  | ref b => cases (show x = _ from r); rfl
  | tup b => obtain ⟨a, vs, rfl, _⟩ := r; rfl
  | wtup b => obtain ⟨a, vs, rfl, _⟩ := r; rfl
  | rol b => obtain ⟨a, vs, rfl, _⟩ := r; rfl
theorem op_ok_is : OpR X (compareOp .Is) (l2b X.K cl (cmpR .is_)) := by
  intro pins s σ H x y v u Q I rx ry h
  obtain ⟨d, e, T, q, rd, re, R, h, k⟩ := h
  cases e <;> simp only [cmpR] at h
  cases (show y = _ from re)
  refine op_isN pins s σ H _ _ v u Q I rx ry ⟨rfl, ?_⟩
  rw [rep_non rd]
  cases d <;> exact bl_here k R h
theorem op_ok_isn : OpR X (compareOp .IsNot) (l2b X.K cl (cmpR .isn)) := by
  intro pins s σ H x y v u Q I rx ry h
  obtain ⟨d, e, T, q, rd, re, R, h, k⟩ := h
  cases e <;> simp only [cmpR] at h
  cases (show y = _ from re)
  refine op_notN pins s σ H _ _ v u Q I rx ry ⟨rfl, ?_⟩
  rw [rep_non rd]
  cases d <;> exact bl_here k R h
/-! ### in -/
theorem flat_rep {K : PySem.W.Frag} {H : Hp} {d : D} {x : V} (r : Rep K H d x) (f : flat d = true) : flatV x = true := by
  cases d <;> first | (cases (show x = _ from r); rfl) | (cases f)
theorem eq_rep {K : PySem.W.Frag} {H : Hp} {d e : D} {x y : V} (r : Rep K H d x) (r' : Rep K H e y) (f : flat d = true) (f' : flat e = true) : eqV x y = eqF d e := by
  cases d <;> first | (cases (show x = _ from r)) | (cases f)
  all_goals (cases e <;> first | (cases (show y = _ from r')) | (cases f'))
  all_goals (first
    | rfl
    | (show (_ == _) = decide (_ = _); rw [Bool.eq_iff_iff]; simp; done)
    | (show (stS _ == stS _) = decide (_ = _); rw [Bool.eq_iff_iff]; simp only [beq_iff_eq, decide_eq_true_eq]; exact ⟨stS_inj, fun e => by rw [e]⟩))
theorem flats_rep {K : PySem.W.Frag} {H : Hp} : ∀ {ds : List D} {vs : List V}, Reps K H ds vs → ds.all flat = true → vs.all flatV = true
  | [], _, h, _ => by cases (show _ = [] from h); rfl
  | d :: ds, _, ⟨v, vs', h1, h2, h3⟩, f => by
    subst h1
    rw [List.all_cons, Bool.and_eq_true] at f ⊢
    exact ⟨flat_rep h2 f.1, flats_rep h3 f.2⟩
theorem in_rep {K : PySem.W.Frag} {H : Hp} {d : D} {x : V} (r : Rep K H d x) (f : flat d = true) : ∀ {ds : List D} {vs : List V}, Reps K H ds vs → ds.all flat = true → inV x vs = inF d ds
  | [], _, h, _ => by cases (show _ = [] from h); rfl
  | e :: ds, _, ⟨v, vs', h1, h2, h3⟩, g => by
    subst h1
    rw [List.all_cons, Bool.and_eq_true] at g
    have ih := in_rep r f h3 g.2
    unfold inV inF at ih ⊢
    rw [List.any_cons, List.any_cons, ih, eq_rep h2 r g.1 f]
theorem dk_rep {K : PySem.W.Frag} {H : Hp} {d : D} {x : V} {k : DK} (r : Rep K H d x) (h : dkOf d = some k) : x = kV (kdk k) := by
  cases d <;> simp only [dkOf, Option.some.injEq, reduceCtorEq] at h
  · subst h; exact r
  · subst h; exact r
theorem dget_rep {K : PySem.W.Frag} {H : Hp} (k : DK) : ∀ {kvs : List (DK × D)} {ws : List (Key × V)}, KReps K H kvs ws →
    (∀ d, dget k kvs = some d → ∃ v, valV ws (kdk k) = some v ∧ Rep K H d v) ∧ (dget k kvs = none → valV ws (kdk k) = none)
  | [], _, h => by cases (show _ = [] from h); exact ⟨fun d e => (by cases e), fun _ => rfl⟩
  | (k', d) :: r, _, ⟨v, ws', h1, h2, h3⟩ => by
    subst h1
    have ih := dget_rep k h3
    by_cases hk : k' = k
    · subst hk
      refine ⟨fun d' e => ?_, fun e => ?_⟩
      · rw [dget, if_pos rfl] at e; cases e
        exact ⟨v, by rw [valV_pos rfl], h2⟩
      · rw [dget, if_pos rfl] at e; cases e
    · have hk' : ¬ (kdk k', v).1 = kdk k := fun e => hk (kdk_inj e)
      rw [dget, if_neg hk, valV_neg hk']
      exact ih
theorem dget_some {K : PySem.W.Frag} {H : Hp} {k : DK} {kvs : List (DK × D)} {ws : List (Key × V)} (r : KReps K H kvs ws) : (valV ws (kdk k)).isSome = (dget k kvs).isSome := by
  have h := dget_rep k r
  cases e : dget k kvs with
  | none => rw [h.2 e]; rfl
  | some d => obtain ⟨v, hv, _⟩ := h.1 d e; rw [hv]; rfl
theorem op_ok_in (hu : X.A.units + 64 < cLine) : OpR X (compareOp .In) (l2b X.K cl (cmpR .in_)) := by
  intro pins s σ H x y v u Q I rx ry h
  obtain ⟨d, e, T, q, rd, re, R, h, k⟩ := h
  cases e <;> simp only [cmpR, inR] at h
  case tup ys =>
    obtain ⟨p, vs, rfl, hp, r⟩ := re
    exact op_in_seq pins s σ H _ _ v u Q I rx ry ⟨p, vs, rfl, .inr hp.sq, flat_rep rd h.1, flats_rep r h.2.1, by rw [if_neg (by decide), in_rep rd h.1 r h.2.1]; exact bl_here k R h.2.2⟩
  case ref a =>
    cases (show y = .ref a from re)
    split at h
    · rename_i ys e1
      obtain ⟨vs, h1, r⟩ := R.lst e1
      exact op_in_seq pins s σ H _ _ v u Q I rx ry ⟨a, vs, rfl, .inl (SqL.of h1), flat_rep rd h.1, flats_rep r h.2.1, by rw [if_neg (by decide), in_rep rd h.1 r h.2.1]; exact bl_here k R h.2.2⟩
    · rename_i kvs e1
      obtain ⟨kk, hk, h⟩ := h
      obtain ⟨ws, h1, r⟩ := R a _ e1
      have ex := dk_rep rd hk
      subst ex
      cases ry
      refine d_in (by omega) I (DGet.k h1) rx fun s' I' => ⟨.bl _, H, I', rfl, ?_⟩
      rw [dget_some r]
      exact bl_here k R h
    · exact h.elim
  case str ys =>
    cases (show y = .str (stS ys) from re)
    split at h
    · rename_i c
      cases (show x = .str (stS [c]) from rd)
      exact op_in_sign pins s σ H _ _ v u Q I rx ry ⟨c, stS ys, rfl, rfl, bl_here k R h⟩
    · exact h.elim
theorem op_ok_nin (hu : X.A.units + 64 < cLine) : OpR X (compareOp .NotIn) (l2b X.K cl (cmpR .nin)) := by
  intro pins s σ H x y v u Q I rx ry h
  obtain ⟨d, e, T, q, rd, re, R, h, k⟩ := h
  cases e <;> simp only [cmpR, inR] at h
  case tup ys =>
    obtain ⟨p, vs, rfl, hp, r⟩ := re
    exact op_notIn_seq pins s σ H _ _ v u Q I rx ry ⟨p, vs, rfl, .inr hp.sq, flat_rep rd h.1, flats_rep r h.2.1, by rw [if_pos rfl, in_rep rd h.1 r h.2.1]; exact bl_here k R h.2.2⟩
  case ref a =>
    cases (show y = .ref a from re)
    split at h
    · rename_i ys e1
      obtain ⟨vs, h1, r⟩ := R.lst e1
      exact op_notIn_seq pins s σ H _ _ v u Q I rx ry ⟨a, vs, rfl, .inl (SqL.of h1), flat_rep rd h.1, flats_rep r h.2.1, by rw [if_pos rfl, in_rep rd h.1 r h.2.1]; exact bl_here k R h.2.2⟩
    · rename_i kvs e1
      obtain ⟨kk, hk, h⟩ := h
      obtain ⟨ws, h1, r⟩ := R a _ e1
      have ex := dk_rep rd hk
      subst ex
      cases ry
      refine d_notIn (by omega) I (DGet.k h1) rx fun s' I' => ⟨.bl _, H, I', rfl, ?_⟩
      rw [dget_some r]
      exact bl_here k R h
    · exact h.elim
  case str ys =>
    cases (show y = .str (stS ys) from re)
    split at h
    · rename_i c
      cases (show x = .str (stS [c]) from rd)
      exact op_notIn_sign pins s σ H _ _ v u Q I rx ry ⟨c, stS ys, rfl, rfl, bl_here k R h⟩
    · exact h.elim
def opC : Cm → CmpOp
  | .eq => .Eq | .ne => .NotEq | .lt => .Lt | .le => .LtE | .gt => .Gt | .ge => .GtE | .in_ => .In | .nin => .NotIn | .is_ => .Is | .isn => .IsNot
theorem cm_ok (hu : X.A.units + 64 < cLine) (o : Cm) : OpR X (compareOp (opC o)) (l2b X.K cl (cmpR o)) := by
  cases o
  · exact op_ok_eq hu
  · exact op_ok_ne hu
  · exact op_ok_lt
  · exact op_ok_le
  · exact op_ok_gt
  · exact op_ok_ge
  · exact op_ok_in hu
  · exact op_ok_nin hu
  · exact op_ok_is
  · exact op_ok_isn
/-! ### truth -/
theorem tru_rep {K : PySem.W.Frag} {H : Hp} {T : TH} {d : D} {x : V} {p : Bool → Prop} (R : HRep K cl H T) (r : Rep K H d x) (h : truR d T p) : ∃ k, TruV K x H k ∧ p k := by
  cases d with
  | non => cases (show x = _ from r); exact ⟨false, rfl, h⟩
  | bl b => cases (show x = _ from r); exact ⟨b, rfl, h⟩
  | int i =>
    cases (show x = _ from r)
    have e : (i != 0) = !decide (i = 0) := by rw [Bool.eq_iff_iff]; simp
    refine ⟨_, rfl, ?_⟩
    rw [e]; exact h
  | str y =>
    cases (show x = _ from r)
    refine ⟨!y.isEmpty, ⟨by rw [stS_len]; exact szl h.1, ?_⟩, h.2⟩
    rw [stS_len]
    cases y with
    | nil => rfl
    | cons a b => simp only [List.isEmpty_cons, Bool.not_false, List.length_cons]; symm; rw [bne_iff_ne]; omega
  | tup xs =>
    obtain ⟨a, vs, rfl, h2, h3⟩ := r
    refine ⟨!xs.isEmpty, .inr (.inl ⟨vs, h2.sq, ?_⟩), h⟩
    have := h3.len
    cases xs <;> cases vs <;> simp_all
  | wtup xs =>
    obtain ⟨a, vs, rfl, h2, h3⟩ := r
    refine ⟨!xs.isEmpty, .inr (.inl ⟨vs, h2, ?_⟩), h⟩
    have := h3.len
    cases xs <;> cases vs <;> simp_all
  | rol xs =>
    obtain ⟨a, vs, rfl, h2, h3⟩ := r
    refine ⟨!xs.isEmpty, .inl ⟨vs, h2.1, ?_⟩, h⟩
    have := h3.len
    cases xs <;> cases vs <;> simp_all
  | ref a =>
    cases (show x = _ from r)
    simp only [truR] at h
    split at h
    · rename_i xs e
      obtain ⟨vs, h1, h3⟩ := R.lst e
      refine ⟨!xs.isEmpty, .inl ⟨vs, SqL.of h1, ?_⟩, h⟩
      have := h3.len
      cases xs <;> cases vs <;> simp_all
    · rename_i kvs e
      obtain ⟨ws, h1, h3⟩ := R a _ e
      refine ⟨!kvs.isEmpty, .inr (.inr ⟨ws, h1, ?_⟩), h⟩
      cases kvs with
      | nil => cases (show ws = [] from h3); rfl
      | cons kv r => obtain ⟨v, ws', e, _⟩ := h3; subst e; rfl
    · exact h.elim
/-! ### subscripts -/
theorem atI_rep {K : PySem.W.Frag} {H : Hp} {ds : List D} {vs : List V} {i : Int} {d : D} (r : Reps K H ds vs) (h : atI ds i = some d) : ∃ v, atI vs i = some v ∧ Rep K H d v := by
  unfold atI at h ⊢
  rw [r.len]
  cases e : ixN ds.length i with
  | none => rw [e] at h; cases h
  | some j =>
    rw [e] at h
    exact r.get (i := j) h
def rIxDk : R2 := fun x y H Q => ∃ a v, x = .ref a ∧ DGet H a y (some v) ∧ Q v H
theorem ix_dict (hu : X.A.units + 1 < cLine) : IxR X rIxDk := by
  intro value slice pins s σ H x y v u Q I rx ry h hs
  obtain ⟨a, z, rfl, g, q⟩ := h
  cases rx
  have hT := dict_typeIs I g
  unfold subscriptTail
  refine wpAny_bind ?_
  rw [getitemInPython_of_ne hT.not_modules]
  refine wpAny_bind (wpAny_specialOf hT PySem.F.slot_dict_getitem.lookup ?_)
  have fin : wpAny (model X.prog X.w) X.A (subscripted slice false (.ref a) u) (fun r s₃ => wpAny (model X.prog X.w) X.A (letTemporaryGo value (.ref a) r >>= fun _ => pure r) (EP X pins σ Q) X.xe s₃) X.xe s := by
    rw [hs]
    refine wpAny_operating (d_getItem hu I g ry fun w' s3 I3 rw' => wpAny_bind (wpAny_letTemporaryGo (wpAny_pure ⟨z, H, I3, rw', q⟩)))
  first
    | exact wpAny_pure (wpAny_bind fin)
    | exact wpAny_bind (wpAny_pure (wpAny_bind fin))
    | exact wpAny_bind fin
theorem ix_ok (hu : X.A.units + 64 < cLine) (gh : Gh X cl) : IxR X (l2 X.K cl fun d e T q => ixR d e T fun v => q v T) := by
  intro value slice pins s σ H x y v u Q I rx ry h hs
  obtain ⟨d, e, T, q, rd, re, R, h, k⟩ := h
  cases d with
  | tup xs =>
    cases e <;> simp only [ixR] at h
    rename_i i
    cases (show y = _ from re)
    obtain ⟨p, vs, rfl, hp, r⟩ := rd
    obtain ⟨z, h1, h2⟩ := h
    obtain ⟨w', h3, h4⟩ := atI_rep r h1
    exact ix_tup value slice pins s σ H _ _ v u Q I rx ry ⟨p, vs, i, w', rfl, rfl, hp.sq, h3, k.here R h4 h2⟩ hs
  | rol xs =>
    cases e <;> simp only [ixR] at h
    rename_i i
    cases (show y = _ from re)
    obtain ⟨p, vs, rfl, hp, r⟩ := rd
    obtain ⟨z, h1, h2⟩ := h
    obtain ⟨w', h3, h4⟩ := atI_rep r h1
    exact ix_list value slice pins s σ H _ _ v u Q I rx ry ⟨p, vs, i, w', rfl, rfl, hp.1, h3, k.here R h4 h2⟩ hs
  | str xs =>
    cases e <;> simp only [ixR] at h
    rename_i i
    cases (show y = _ from re)
    cases (show x = _ from rd)
    obtain ⟨hz, c, h1, h2⟩ := h
    exact ix_str value slice pins s σ H _ _ v u Q I rx ry ⟨stS xs, i, c, rfl, rfl, by rw [stS_len]; exact szl hz, h1, k.here R (d := .str [c]) rfl h2⟩ hs
  | ref a =>
    cases (show x = _ from rd)
    simp only [ixR] at h
    split at h
    · rename_i xs e1
      obtain ⟨j, z, rfl, h1, h2⟩ := h
      cases (show y = _ from re)
      obtain ⟨vs, e2, r⟩ := R.lst e1
      obtain ⟨w', h3, h4⟩ := atI_rep r h1
      exact ix_list value slice pins s σ H _ _ v u Q I rx ry ⟨a, vs, j, w', rfl, rfl, SqL.of e2, h3, k.here R h4 h2⟩ hs
    · rename_i kvs e1
      obtain ⟨kk, z, hk, h1, h2⟩ := h
      obtain ⟨ws, e2, r⟩ := R a _ e1
      obtain ⟨w', h3, h4⟩ := (dget_rep kk r).1 z h1
      have ex := dk_rep re hk
      subst ex
      exact ix_dict (by omega) value slice pins s σ H _ _ v u Q I rx ry ⟨a, w', rfl, by rw [← h3]; exact DGet.k e2, k.here R h4 h2⟩ hs
    · rename_i lk kvs e1
      obtain ⟨kk, z, hk, h1, h2⟩ := h
      obtain ⟨φ, ws, e2, r, f⟩ := R a _ e1
      obtain ⟨w', h3, h4⟩ := (nget_rep kk r).1 z h1
      have ex := nk_rep re hk
      subst ex
      exact ix_dictN gh value slice pins s σ H _ _ v u Q I rx ry ⟨a, lk, ws, _, w', rfl, rfl, ⟨φ, e2, f⟩, h3, k.here R h4 h2⟩ hs
    · exact h.elim
  | non => exact False.elim h
  | bl b => exact False.elim h
  | int i => exact False.elim h
  | wtup xs => exact False.elim h
theorem cut_rep {K : PySem.W.Frag} {H : Hp} {ds : List D} {vs : List V} (r : Reps K H ds vs) (lo hi : Option Int) : Reps K H (cut ds lo hi) (cutV vs lo hi) := by
  unfold cut cutV
  rw [r.len]
  exact (r.drop _).take _
def l1s (K : PySem.W.Frag) (cl : Wd) : V → Option Int → Option Int → Hp → VK → Prop := fun x lo hi H Q => ∃ d T q, Rep K H d x ∧ HRep K cl H T ∧ slR d lo hi T q ∧ KOk K cl H q Q
theorem sl_ok : SlR X (l1s X.K cl) := by
  intro pins s σ H x v vl vu lo hi sl Q I rx hs pl pu h
  obtain ⟨d, T, q, rd, R, h, k⟩ := h
  cases d with
  | tup xs =>
    obtain ⟨p, vs, rfl, hp, r⟩ := rd
    simp only [slR] at h
    refine sl_tupF pins s σ H _ v vl vu lo hi sl Q I rx hs pl pu ⟨p, vs, rfl, hp.sq, fun z => ?_, fun _ => k.tup R (cut_rep r lo hi) h⟩
    have e : cut xs lo hi = xs := by
      unfold cut
      rw [r.len] at z
      rw [z.1, z.2]; simp
    rw [e] at h
    exact k.here R (d := .tup xs) ⟨p, vs, rfl, hp, r⟩ h
  | rol xs =>
    obtain ⟨p, vs, rfl, hp, r⟩ := rd
    exact sl_list pins s σ H _ v vl vu lo hi sl Q I rx hs pl pu ⟨p, vs, rfl, hp.1, fun t ht => k.lst R (cut_rep r lo hi) h ht⟩
  | str xs =>
    cases (show x = _ from rd)
    refine sl_str pins s σ H _ v vl vu lo hi sl Q I rx hs pl pu ⟨stS xs, rfl, by rw [stS_len]; exact szl h.1, ?_⟩
    have e : cutS (stS xs) lo hi = stS (cut xs lo hi) := by
      unfold cutS cut
      rw [stS_len]
    rw [e]
    exact k.here R (d := .str (cut xs lo hi)) rfl h.2
  | ref a =>
    cases (show x = _ from rd)
    simp only [slR] at h
    split at h
    · rename_i xs e1
      obtain ⟨vs, e2, r⟩ := R.lst e1
      exact sl_list pins s σ H _ v vl vu lo hi sl Q I rx hs pl pu ⟨a, vs, rfl, SqL.of e2, fun t ht => k.lst R (cut_rep r lo hi) h ht⟩
    · exact h.elim
  | non => exact False.elim h
  | bl b => exact False.elim h
  | int i => exact False.elim h
  | wtup xs => exact False.elim h
end
end Tr

/-! TL3: calls of built-ins and of their methods by trees. -/
namespace Tr
open PySem PySem.Spec PyProof.Rows L2
section
variable {X : Cx} {cl : Wd}
def lC (K : PySem.W.Frag) (cl : Wd) (f : List D → TH → Kd → Prop) : List V → Hp → VK → Prop := fun vs H Q => ∃ ds T q, Reps K H ds vs ∧ HRep K cl H T ∧ f ds T q ∧ KOk K cl H q Q
theorem reps1 {K : PySem.W.Frag} {H : Hp} {d : D} {vs : List V} (h : Reps K H [d] vs) : ∃ v, vs = [v] ∧ Rep K H d v := by
  obtain ⟨v, vs', e, r, h⟩ := h
  cases (show vs' = [] from h)
  exact ⟨v, e, r⟩
theorem reps2 {K : PySem.W.Frag} {H : Hp} {d e : D} {vs : List V} (h : Reps K H [d, e] vs) : ∃ v w, vs = [v, w] ∧ Rep K H d v ∧ Rep K H e w := by
  obtain ⟨v, vs', e1, r, h⟩ := h
  obtain ⟨w, e2, r2⟩ := reps1 h
  subst e2
  exact ⟨v, w, e1, r, r2⟩
theorem seq_rep {K : PySem.W.Frag} {H : Hp} {T : TH} {d : D} {v : V} {xs : List D} (R : HRep K cl H T) (r : Rep K H d v) (h : seqOf T d = some xs) : ∃ a vs, v = .ref a ∧ (SqL K H a vs ∨ SqT K H a vs) ∧ Reps K H xs vs := by
  cases d with
  | tup ys => cases h; obtain ⟨a, vs, e, h1, h2⟩ := r; exact ⟨a, vs, e, .inr h1.sq, h2⟩
  | wtup ys => cases h; obtain ⟨a, vs, e, h1, h2⟩ := r; exact ⟨a, vs, e, .inr h1, h2⟩
  | rol ys => cases h; obtain ⟨a, vs, e, h1, h2⟩ := r; exact ⟨a, vs, e, .inl h1.1, h2⟩
  | ref a =>
    simp only [seqOf] at h
    split at h
    · rename_i ys e
      cases h
      obtain ⟨vs, h1, h2⟩ := R.lst e
      exact ⟨a, vs, r, .inl (SqL.of h1), h2⟩
    · cases h
  | non => cases h
  | bl _ => cases h
  | int _ => cases h
  | str _ => cases h
theorem kreps_len {K : PySem.W.Frag} {H : Hp} : ∀ {kvs : List (DK × D)} {ws : List (Key × V)}, KReps K H kvs ws → ws.length = kvs.length
  | [], _, h => by cases (show _ = [] from h); rfl
  | (k, d) :: r, _, ⟨v, ws', e, _, h⟩ => by subst e; simp [kreps_len h]
theorem call_lenDk : CallR X (.builtin "len") (fun xs H Q => ∃ a kvs, xs = [.ref a] ∧ H a = some (.dK kvs) ∧ Q (.int kvs.length) H) := by
  intro pins s σ H xs us Q I r h
  obtain ⟨a, kvs, rfl, e, q⟩ := h
  obtain ⟨u, rfl, ru⟩ := vals1 r
  cases ru
  exact d_len I (.inl e) fun t s' I' => ⟨.int kvs.length, H, I', ⟨t, rfl⟩, q⟩
theorem arg1_inv {f : D → Prop} {ds : List D} (h : arg1 f ds) : ∃ x, ds = [x] ∧ f x := by
  match ds, h with
  | [x], h => exact ⟨x, rfl, h⟩
  | [], h => exact h.elim
  | _ :: _ :: _, h => exact h.elim
theorem arg2_inv {f : D → D → Prop} {ds : List D} (h : arg2 f ds) : ∃ x y, ds = [x, y] ∧ f x y := by
  match ds, h with
  | [x, y], h => exact ⟨x, y, rfl, h⟩
  | [], h => exact h.elim
  | [_], h => exact h.elim
  | _ :: _ :: _ :: _, h => exact h.elim
theorem arg0_inv {f : Prop} {ds : List D} (h : arg0 f ds) : ds = [] ∧ f := by
  match ds, h with
  | [], h => exact ⟨rfl, h⟩
  | _ :: _, h => exact h.elim
theorem lstR_inv {x : D} {T : TH} {f : List D → Prop} (h : lstR x T f) : ∃ a xs, x = .ref a ∧ T a = some (.lst xs) ∧ f xs := by
  unfold lstR at h
  split at h
  · rename_i a
    split at h
    · rename_i xs e; exact ⟨a, xs, rfl, e, h⟩
    · exact h.elim
  · exact h.elim
theorem isInt_inv {x : D} {f : Int → Prop} (h : isInt x f) : ∃ i, x = .int i ∧ f i := by
  unfold isInt at h
  split at h
  · exact ⟨_, rfl, h⟩
  · exact h.elim
theorem isStr_inv {x : D} {f : List Nat → Prop} (h : isStr x f) : ∃ i, x = .str i ∧ f i := by
  unfold isStr at h
  split at h
  · exact ⟨_, rfl, h⟩
  · exact h.elim
theorem blt_len : CallR X (.builtin "len") (lC X.K cl (bltR .len)) := by
  intro pins s σ H vs us Q I r h
  obtain ⟨ds, T, q, rs, R, h, k⟩ := h
  obtain ⟨x, rfl, h⟩ := arg1_inv h
  obtain ⟨v, rfl, rv⟩ := reps1 rs
  cases x with
  | str x =>
    cases (show v = _ from rv)
    exact call_len_str pins s σ H _ us Q I r ⟨stS x, rfl, by rw [stS_len]; exact szl h.1, by rw [stS_len]; exact k.here R (d := .int x.length) rfl h.2⟩
  | tup x =>
    obtain ⟨a, vs, rfl, h1, h2⟩ := rv
    exact call_len_seq pins s σ H _ us Q I r ⟨a, vs, rfl, .inr h1.sq, by rw [h2.len]; exact k.here R (d := .int x.length) rfl h⟩
  | rol x =>
    obtain ⟨a, vs, rfl, h1, h2⟩ := rv
    exact call_len_seq pins s σ H _ us Q I r ⟨a, vs, rfl, .inl h1.1, by rw [h2.len]; exact k.here R (d := .int x.length) rfl h⟩
  | ref a =>
    cases (show v = _ from rv)
    change lenR (.ref a) T (fun n => q (.int n) T) at h
    simp only [lenR] at h
    cases e : T a with
    | none => rw [e] at h; exact h.elim
    | some o =>
      rw [e] at h
      cases o with
      | lst xs =>
        obtain ⟨vs, h1, h2⟩ := R.lst e
        exact call_len_seq pins s σ H _ us Q I r ⟨a, vs, rfl, .inl (SqL.of h1), by rw [h2.len]; exact k.here R (d := .int xs.length) rfl h⟩
      | dic kvs =>
        obtain ⟨ws, h1, h2⟩ := R a _ e
        exact call_lenDk pins s σ H _ us Q I r ⟨a, ws, rfl, h1, by rw [kreps_len h2]; exact k.here R (d := .int kvs.length) rfl h⟩
      | ins c fs => exact h.elim
      | dnk _ _ => exact h.elim
  | non => exact False.elim h
  | bl _ => exact False.elim h
  | int _ => exact False.elim h
  | wtup _ => exact False.elim h
theorem blt_int : CallR X (.type "int") (lC X.K cl (bltR .int_)) := by
  intro pins s σ H vs us Q I r h
  obtain ⟨ds, T, q, rs, R, h, k⟩ := h
  obtain ⟨x, rfl, h⟩ := arg1_inv h
  obtain ⟨v, rfl, rv⟩ := reps1 rs
  cases x with
  | int x =>
    cases (show v = _ from rv)
    exact call_int1 pins s σ H _ us Q I r (.inl ⟨x, rfl, k.here R (d := .int x) rfl h⟩)
  | bl x =>
    cases (show v = _ from rv)
    exact call_int1 pins s σ H _ us Q I r (.inr ⟨x, rfl, k.here R (d := .int (if x then 1 else 0)) rfl h⟩)
  | _ => exact False.elim h
theorem blt_str : CallR X (.type "str") (lC X.K cl (bltR .str_)) := by
  intro pins s σ H vs us Q I r h
  obtain ⟨ds, T, q, rs, R, h, k⟩ := h
  obtain ⟨x, rfl, h⟩ := arg1_inv h
  obtain ⟨i, rfl, h⟩ := isInt_inv h
  obtain ⟨v, rfl, rv⟩ := reps1 rs
  cases (show v = _ from rv)
  refine call_str_int pins s σ H _ us Q I r ⟨i, rfl, h.1, ?_⟩
  exact k.here R (d := .str (numS i)) (by show V.str _ = V.str _; rw [show stS (numS i) = PySem.Str.ofString (toString i) from TL.mk_tl _]) h.2
theorem blt_tuple : CallR X (.type "tuple") (lC X.K cl (bltR .tuple)) := by
  intro pins s σ H vs us Q I r h
  obtain ⟨ds, T, q, rs, R, h, k⟩ := h
  obtain ⟨x, rfl, h⟩ := arg1_inv h
  obtain ⟨v, rfl, rv⟩ := reps1 rs
  cases x with
  | tup x =>
    have rv' := rv
    obtain ⟨a, vs, rfl, h1, h2⟩ := rv
    exact call_tupleF pins s σ H _ us Q I r ⟨a, vs, rfl, .inr ⟨h1.sq, k.here R (d := .tup x) rv' h⟩⟩
  | ref a =>
    cases (show v = _ from rv)
    change tupR (.ref a) T (fun xs => q (.tup xs) T) at h
    simp only [tupR] at h
    cases e : T a with
    | none => rw [e] at h; exact h.elim
    | some o =>
      rw [e] at h
      cases o with
      | lst xs =>
        obtain ⟨vs, h1, h2⟩ := R.lst e
        exact call_tupleF pins s σ H _ us Q I r ⟨a, vs, rfl, .inl ⟨SqL.of h1, k.tup R h2 h⟩⟩
      | _ => exact h.elim
  | _ => exact False.elim h
theorem blt_list : CallR X (.type "list") (lC X.K cl (bltR .list)) := by
  intro pins s σ H vs us Q I r h
  obtain ⟨ds, T, q, rs, R, h, k⟩ := h
  obtain ⟨x, rfl, xs, h1, h2⟩ := arg1_inv h
  obtain ⟨v, rfl, rv⟩ := reps1 rs
  obtain ⟨a, vs, rfl, h3, h4⟩ := seq_rep R rv h1
  exact call_list_of pins s σ H _ us Q I r ⟨a, vs, rfl, h3, fun l hl => k.lst R h4 h2 hl⟩
theorem blt_max (hc : X.calm = true) : CallR X (.builtin "max") (lC X.K cl (bltR .max)) := by
  intro pins s σ H vs us Q I r h
  obtain ⟨ds, T, q, rs, R, h, k⟩ := h
  obtain ⟨x, y, rfl, h⟩ := arg2_inv h
  obtain ⟨i, rfl, h⟩ := isInt_inv h
  obtain ⟨j, rfl, h⟩ := isInt_inv h
  obtain ⟨v, w, rfl, rv, rw'⟩ := reps2 rs
  cases (show v = _ from rv); cases (show w = _ from rw')
  exact call_max2 hc pins s σ H _ us Q I r ⟨i, j, rfl, k.here R (d := .int (if j > i then j else i)) rfl h⟩
theorem blt_min (hc : X.calm = true) : CallR X (.builtin "min") (lC X.K cl (bltR .min)) := by
  intro pins s σ H vs us Q I r h
  obtain ⟨ds, T, q, rs, R, h, k⟩ := h
  obtain ⟨x, y, rfl, h⟩ := arg2_inv h
  obtain ⟨i, rfl, h⟩ := isInt_inv h
  obtain ⟨j, rfl, h⟩ := isInt_inv h
  obtain ⟨v, w, rfl, rv, rw'⟩ := reps2 rs
  cases (show v = _ from rv); cases (show w = _ from rw')
  exact call_min2 hc pins s σ H _ us Q I r ⟨i, j, rfl, k.here R (d := .int (if j < i then j else i)) rfl h⟩
theorem blt_abs : CallR X (.builtin "abs") (lC X.K cl (bltR .abs)) := by
  intro pins s σ H vs us Q I r h
  obtain ⟨ds, T, q, rs, R, h, k⟩ := h
  obtain ⟨x, rfl, h⟩ := arg1_inv h
  obtain ⟨i, rfl, h⟩ := isInt_inv h
  obtain ⟨v, rfl, rv⟩ := reps1 rs
  cases (show v = _ from rv)
  exact call_abs pins s σ H _ us Q I r ⟨i, rfl, k.here R (d := .int (if i < 0 then -i else i)) rfl h⟩
theorem adjF_of : ∀ (p : List Nat) (zs : List (List Nat)), risingS (stS p) (zs.map stS) = adjF p zs
  | _, [] => rfl
  | p, x :: r => by
    show (!PySem.Spec.ltCps (stS x).cps.toList (stS p).cps.toList && risingS (stS x) (r.map stS)) = _
    rw [adjF_of x r]
    show (!PySem.Spec.ltCps x p && adjF x r) = (!decide (x < p) && adjF x r)
    rw [PyProof.Rows.ltCps_eq]
theorem adjS_of : ∀ zs : List (List Nat), sortedS (zs.map stS) = adjS zs
  | [] => rfl
  | x :: r => adjF_of x r
theorem unS : ∀ ys : List Str, ys = (ys.map fun y => y.cps.toList).map stS
  | [] => rfl
  | y :: ys => by rw [List.map_cons, List.map_cons, ← unS ys]
theorem blt_sorted : CallR X (.builtin "sorted") (lC X.K cl (bltR .sorted)) := by
  intro pins s σ H vs us Q I r h
  obtain ⟨ds, T, q, rs, R, h, k⟩ := h
  obtain ⟨x, rfl, h⟩ := arg1_inv h
  obtain ⟨a, xs, rfl, e, ys, h1, h2, h3⟩ := lstR_inv h
  obtain ⟨v, rfl, rv⟩ := reps1 rs
  cases (show v = _ from rv)
  obtain ⟨ws, h4, h5⟩ := R.lst e
  have ew := h5.strs h1
  subst ew
  refine cr_sortedS pins s σ H _ us Q I r ⟨a, ys.map stS, rfl, SqL.of h4, by rw [List.length_map]; exact h2, fun zs p hp hs hn => ?_⟩
  have ez := unS zs
  generalize hz : (zs.map fun y => y.cps.toList) = z0 at ez
  subst ez
  have hp' : z0.Perm ys := by
    have := hp.map (fun y : Str => y.cps.toList)
    simpa [List.map_map, Function.comp_def] using this
  rw [adjS_of] at hs
  exact k.lst R (Reps.of_strs z0) (fun p hp => h3 p z0 hp hp' hs) hn
theorem blt_all (hc : X.calm = true) : CallR X (.builtin "all") (lC X.K cl (bltR .all_)) := by
  intro pins s σ H vs us Q I r h
  obtain ⟨ds, T, q, rs, R, h, k⟩ := h
  obtain ⟨x, rfl, h⟩ := arg1_inv h
  obtain ⟨a, xs, rfl, e, bs, h1, h2⟩ := lstR_inv h
  obtain ⟨v, rfl, rv⟩ := reps1 rs
  cases (show v = _ from rv)
  obtain ⟨ws, h4, h5⟩ := R.lst e
  have ew := h5.bls h1
  subst ew
  exact cr_all hc pins s σ H _ us Q I r ⟨a, bs, rfl, SqL.of h4, bl_here k R h2⟩
theorem blt_any (hc : X.calm = true) : CallR X (.builtin "any") (lC X.K cl (bltR .any_)) := by
  intro pins s σ H vs us Q I r h
  obtain ⟨ds, T, q, rs, R, h, k⟩ := h
  obtain ⟨x, rfl, h⟩ := arg1_inv h
  obtain ⟨a, xs, rfl, e, bs, h1, h2⟩ := lstR_inv h
  obtain ⟨v, rfl, rv⟩ := reps1 rs
  cases (show v = _ from rv)
  obtain ⟨ws, h4, h5⟩ := R.lst e
  have ew := h5.bls h1
  subst ew
  exact cr_any hc pins s σ H _ us Q I r ⟨a, bs, rfl, SqL.of h4, bl_here k R h2⟩
theorem blt_sum (hc : X.calm = true) : CallR X (.builtin "sum") (lC X.K cl (bltR .sum_)) := by
  intro pins s σ H vs us Q I r h
  obtain ⟨ds, T, q, rs, R, h, k⟩ := h
  obtain ⟨x, rfl, h⟩ := arg1_inv h
  obtain ⟨a, xs, rfl, e, bs, h1, h2⟩ := lstR_inv h
  obtain ⟨v, rfl, rv⟩ := reps1 rs
  cases (show v = _ from rv)
  obtain ⟨ws, h4, h5⟩ := R.lst e
  have ew := h5.ints h1
  subst ew
  exact cr_sum hc pins s σ H _ us Q I r ⟨a, bs, rfl, SqL.of h4, k.here R (d := .int bs.sum) rfl h2⟩
end
end Tr

/-! TL3: calls of built-ins and of their methods by trees. -/
namespace Tr
open PySem PySem.Spec PyProof.Rows L2
section
variable {X : Cx} {cl : Wd}
/-! ### isinstance -/
def tyN : Ty → String
  | .str => "str" | .int => "int" | .bool => "bool" | .tuple => "tuple" | .list => "list" | .dict => "dict" | .none => "NoneType"
theorem ro_list {K : PySem.W.Frag} {H : Hp} {a : Addr} {vs : List V} (h : RoL K H a vs) : TyX K H (.ref a) (.type "list") := by
  rcases h.2 with ⟨o, h⟩ | h
  · exact .base (.frz h)
  · rcases h (fun _ => none) with (z | ⟨o, z⟩) | ⟨o, its, n, h1, h2, _⟩
    · cases z
    · cases z
    · exact .kList h1 h2
theorem sq_tup {K : PySem.W.Frag} {H : Hp} {a : Addr} {vs : List V} (h : SqT K H a vs) : TyX K H (.ref a) (.type "tuple") := by
  rcases h with (h | ⟨o, h⟩) | ⟨o, its, n, h1, h2, _⟩
  · exact .base (.tup h)
  · exact .fTuple h
  · exact .kTuple h1 h2
theorem ty_rep {K : PySem.W.Frag} {H : Hp} {T : TH} {d : D} {x : V} {p : Ty → Prop} (R : HRep K cl H T) (r : Rep K H d x) (h : tyR d T p) : ∃ u, TyX K H x (.type (tyN u)) ∧ p u := by
  cases d with
  | non => cases (show x = _ from r); exact ⟨.none, .base .non, h⟩
  | bl b => cases (show x = _ from r); exact ⟨.bool, .base (.bl b), h⟩
  | int i => cases (show x = _ from r); exact ⟨.int, .base (.int i), h⟩
  | str i => cases (show x = _ from r); exact ⟨.str, .base (.str _), h⟩
  | tup b => obtain ⟨a, vs, rfl, h1, _⟩ := r; exact ⟨.tuple, sq_tup h1.sq, h⟩
  | wtup b => obtain ⟨a, vs, rfl, h1, _⟩ := r; exact ⟨.tuple, sq_tup h1, h⟩
  | rol b => obtain ⟨a, vs, rfl, h1, _⟩ := r; exact ⟨.list, ro_list h1, h⟩
  | ref a =>
    cases (show x = _ from r)
    simp only [tyR] at h
    cases e : T a with
    | none => rw [e] at h; exact h.elim
    | some o =>
      rw [e] at h
      cases o with
      | lst xs =>
        obtain ⟨vs, h1, _⟩ := R.lst e
        exact ⟨.list, .base (.lst h1), h⟩
      | dic xs =>
        obtain ⟨vs, h1, _⟩ := R a _ e
        exact ⟨.dict, .base (.dK h1), h⟩
      | ins _ _ => exact h.elim
      | dnk _ _ => exact h.elim
theorem kit_tys (u t : Ty) : kitB (tyN u) (tyN t) = some (decide (u = t) || (decide (u = .bool) && decide (t = .int))) := by
  cases u <;> cases t <;> decide +kernel
theorem isi_ok (t : Ty) : CallR X (.builtin "isinstance") (fun xs H Q => ∃ d x T q, xs = [x, .ty (tyN t)] ∧ Rep X.K H d x ∧ HRep X.K cl H T ∧ tyR d T (fun u => q (.bl (decide (u = t) || (decide (u = .bool) && decide (t = .int)))) T) ∧ KOk X.K cl H q Q) := by
  intro pins s σ H vs us Q I r h
  obtain ⟨d, x, T, q, rfl, rd, R, h, k⟩ := h
  obtain ⟨u, hu, h⟩ := ty_rep R rd h
  exact call_isi pins s σ H _ us Q I r ⟨x, .ty (tyN t), _, _, _, rfl, .ty _, hu, kit_ty (kit_tys u t), bl_here k R h⟩
end
end Tr

/-! TL3: calls of built-ins and of their methods by trees. -/
namespace Tr
open PySem PySem.Spec PyProof.Rows L2
section
variable {X : Cx} {cl : Wd}
/-! ### methods of lists, texts, tuples -/
def lM (K : PySem.W.Frag) (cl : Wd) (f : D → List D → TH → Kd → Prop) : V → List V → Hp → VK → Prop := fun x vs H Q => ∃ d ds T q, Rep K H d x ∧ Reps K H ds vs ∧ HRep K cl H T ∧ f d ds T q ∧ KOk K cl H q Q
/-- a list at the receiver -/
def lsA (x : D) (T : TH) (f : Addr → List D → Prop) : Prop := match x with
  | .ref a => (match T a with
    | some (.lst xs) => f a xs
    | _ => False)
  | _ => False
theorem lsA_inv {x : D} {T : TH} {f : Addr → List D → Prop} (h : lsA x T f) : ∃ a xs, x = .ref a ∧ T a = some (.lst xs) ∧ f a xs := by
  cases x with
  | ref a =>
    simp only [lsA] at h
    cases e : T a with
    | none => rw [e] at h; exact h.elim
    | some o =>
      rw [e] at h
      cases o with
      | lst xs => exact ⟨a, xs, rfl, e, h⟩
      | _ => exact h.elim
  | _ => exact False.elim h
theorem mt_ok_append : MtR X "list.append" (lM X.K cl (bmR .append)) := by
  intro pins s σ H x xs v us Q I rx rs h
  obtain ⟨d, ds, T, q, rd, rds, R, h, k⟩ := h
  obtain ⟨y, rfl, h⟩ := arg1_inv h
  obtain ⟨z, rfl, rz⟩ := reps1 rds
  obtain ⟨a, ys, rfl, e, h⟩ := lsA_inv (f := fun a xs => xs.length < szL ∧ q .non (upd T a (.lst (xs ++ [y])))) h
  cases (show x = _ from rd)
  obtain ⟨ws, h1, h2⟩ := R.lst e
  exact mt_append pins s σ H _ _ v us Q I rx rs ⟨a, ws, z, rfl, rfl, h1, by rw [h2.len]; exact Nat.lt_of_lt_of_le h.1 (szl (Nat.le_refl _)), k.put R h1 (h2.app (.cons rz .nil)) (d := .non) rfl h.2⟩
theorem mt_ok_extend : MtR X "list.extend" (lM X.K cl (bmR .extend)) := by
  intro pins s σ H x xs v us Q I rx rs h
  obtain ⟨d, ds, T, q, rd, rds, R, h, k⟩ := h
  obtain ⟨y, rfl, h⟩ := arg1_inv h
  obtain ⟨z, rfl, rz⟩ := reps1 rds
  obtain ⟨a, ys, rfl, e, h⟩ := lsA_inv (f := fun a xs => lstR y T fun ys => xs.length + ys.length ≤ szL ∧ q .non (upd T a (.lst (xs ++ ys)))) h
  cases (show x = _ from rd)
  obtain ⟨b, zs, rfl, e', h⟩ := lstR_inv h
  cases (show z = _ from rz)
  obtain ⟨ws, h1, h2⟩ := R.lst e
  obtain ⟨ws', h1', h2'⟩ := R.lst e'
  exact mt_extend pins s σ H _ _ v us Q I rx rs ⟨a, b, ws, ws', rfl, rfl, h1, h1', by rw [h2.len, h2'.len]; exact szl h.1, k.put R h1 (h2.app h2') (d := .non) rfl h.2⟩
theorem mt_ok_pop : MtR X "list.pop" (lM X.K cl (bmR .pop)) := by
  intro pins s σ H x xs v us Q I rx rs h
  obtain ⟨d, ds, T, q, rd, rds, R, h, k⟩ := h
  obtain ⟨rfl, h⟩ := arg0_inv h
  cases (show xs = [] from rds)
  obtain ⟨a, ys, rfl, e, y, hy, h⟩ := lsA_inv (f := fun a xs => ∃ y, xs.getLast? = some y ∧ q y (upd T a (.lst xs.dropLast))) h
  cases (show x = _ from rd)
  obtain ⟨ws, h1, h2⟩ := R.lst e
  rw [List.getLast?_eq_getElem?] at hy
  obtain ⟨z, hz, rz⟩ := h2.get hy
  exact mt_pop pins s σ H _ _ v us Q I rx rs ⟨a, ws, z, rfl, rfl, h1, by rw [h2.len]; exact hz, k.put R h1 h2.dropLast rz h⟩
theorem idxF_rep {K : PySem.W.Frag} {H : Hp} {y : D} {v : V} (ry : Rep K H y v) (fy : flat y = true) : ∀ {xs : List D} {vs : List V} {j : Nat}, Reps K H xs vs → xs.all flat = true → idxF y xs = some j →
    ∃ z, vs[j]? = some z ∧ eqV z v = true ∧ ∀ (m : Nat) z', m < j → vs[m]? = some z' → eqV z' v = false
  | [], _, _, h, _, e => by cases e
  | x :: xs, _, j, ⟨w, vs', h1, h2, h3⟩, f, e => by
    subst h1
    rw [List.all_cons, Bool.and_eq_true] at f
    have q := eq_rep h2 ry f.1 fy
    by_cases hx : eqF x y = true
    · rw [idxF, if_pos hx] at e
      cases e
      exact ⟨w, rfl, by rw [q]; exact hx, fun m z' hm _ => absurd hm (Nat.not_lt_zero _)⟩
    · rw [idxF, if_neg hx] at e
      obtain ⟨i, hi, e2⟩ := Option.map_eq_some_iff.mp e
      subst e2
      obtain ⟨z, z1, z2, z3⟩ := idxF_rep ry fy h3 f.2 hi
      refine ⟨z, by simpa using z1, z2, fun m z' hm hz => ?_⟩
      cases m with
      | zero =>
        have ez : w = z' := by simpa using hz
        rw [← ez, q]
        exact Bool.eq_false_iff.mpr hx
      | succ m => exact z3 m z' (by omega) (by simpa using hz)
theorem mt_ok_lindex : MtR X "list.index" (lM X.K cl (bmR .lindex)) := by
  intro pins s σ H x xs v us Q I rx rs h
  obtain ⟨d, ds, T, q, rd, rds, R, h, k⟩ := h
  obtain ⟨y, rfl, h⟩ := arg1_inv h
  obtain ⟨z, rfl, rz⟩ := reps1 rds
  obtain ⟨a, ys, rfl, e, j, f1, f2, hj, h⟩ := lstR_inv h
  cases (show x = _ from rd)
  obtain ⟨ws, h1, h2⟩ := R.lst e
  obtain ⟨w, z1, z2, z3⟩ := idxF_rep rz f1 h2 f2 hj
  exact mt_index pins s σ H _ _ v us Q I rx rs ⟨a, ws, z, j, w, rfl, rfl, SqL.of h1, flat_rep rz f1, flats_rep h2 f2, z1, z2, z3, k.here R (d := .int (j : Nat)) rfl h⟩
theorem idxOf_spec {z : List Nat} : ∀ {ys : List (List Nat)} {j : Nat}, ys.idxOf? z = some j → (ys.map stS)[j]? = some (stS z) ∧ ∀ m, m < j → (ys.map stS)[m]? ≠ some (stS z)
  | [], j, h => by simp at h
  | y :: ys, j, h => by
    rw [List.idxOf?_cons] at h
    by_cases hy : (y == z) = true
    · rw [if_pos hy] at h
      cases h
      have e : y = z := by simpa using hy
      subst e
      exact ⟨rfl, fun m hm => absurd hm (Nat.not_lt_zero _)⟩
    · rw [if_neg hy] at h
      obtain ⟨i, hi, e⟩ := Option.map_eq_some_iff.mp h
      subst e
      obtain ⟨h1, h2⟩ := idxOf_spec hi
      refine ⟨by simpa using h1, fun m hm => ?_⟩
      cases m with
      | zero =>
        intro e
        have e' : stS y = stS z := by simpa using e
        exact hy (by simp [stS_inj e'])
      | succ m => simpa using h2 m (by omega)
theorem mt_ok_tindex : MtR X "tuple.index" (lM X.K cl (bmR .tindex)) := by
  intro pins s σ H x xs v us Q I rx rs h
  obtain ⟨d, ds, T, q, rd, rds, R, h, k⟩ := h
  obtain ⟨y, rfl, h⟩ := arg1_inv h
  obtain ⟨z, rfl, h⟩ := isStr_inv h
  obtain ⟨w, rfl, rz⟩ := reps1 rds
  cases (show w = _ from rz)
  cases d with
  | tup ys =>
    obtain ⟨a, vs, rfl, h1, h2⟩ := rd
    obtain ⟨zs, j, e1, e2, h⟩ := h
    have ew := h2.strs e1
    subst ew
    obtain ⟨i1, i2⟩ := idxOf_spec e2
    exact mt_tup_index pins s σ H _ _ v us Q I rx rs ⟨a, zs.map stS, stS z, j, rfl, rfl, h1.sq, i1, i2, k.here R (d := .int (j : Nat)) rfl h⟩
  | _ => exact False.elim h
theorem joins_ok {s : List Nat} {ys : List (List Nat)} : Txt.join (stS s) (ys.map stS) = stS (TL.joinL s ys) := by
  apply TL.ext_tl
  rw [TL.join_eq, TL.tl_join]
  simp [List.map_map, Function.comp_def, TL.tl]
theorem mt_ok_join : MtR X "str.join" (lM X.K cl (bmR .join)) := by
  intro pins s σ H x xs v us Q I rx rs h
  obtain ⟨d, ds, T, q, rd, rds, R, h, k⟩ := h
  obtain ⟨y, rfl, h⟩ := arg1_inv h
  obtain ⟨z, rfl, h⟩ := isStr_inv h
  cases (show x = _ from rd)
  obtain ⟨w, rfl, rz⟩ := reps1 rds
  obtain ⟨ws, ys, e1, e2, hz, h⟩ := h
  obtain ⟨a, vs, rfl, h1, h2⟩ := seq_rep R rz e1
  have ew := h2.strs e2
  subst ew
  refine mt_join pins s σ H _ _ v us Q I rx rs ⟨stS z, a, ys.map stS, rfl, rfl, h1, ?_, ?_⟩
  · rw [List.map_map, List.length_map, stS_len]
    rw [show ((fun x : Str => x.length) ∘ stS) = fun y : List Nat => y.length from funext fun y => stS_len y]
    exact hz
  · rw [joins_ok]
    exact k.here R (d := .str (TL.joinL z ys)) rfl h
theorem mt_ok_split : MtR X "str.split" (lM X.K cl (bmR .split)) := by
  intro pins s σ H x xs v us Q I rx rs h
  obtain ⟨d, ds, T, q, rd, rds, R, h, k⟩ := h
  obtain ⟨y, rfl, h⟩ := arg1_inv h
  obtain ⟨z, rfl, h⟩ := isStr_inv h
  obtain ⟨_, rfl, c, rfl, hc, hz, h⟩ := isStr_inv h
  cases (show x = _ from rd)
  obtain ⟨w, rfl, rz⟩ := reps1 rds
  cases (show w = _ from rz)
  refine mt_split pins s σ H _ _ v us Q I rx rs ⟨stS z, stS [c], rfl, rfl, rfl, by rw [stS_len]; exact szl hz, fun p hp => ?_⟩
  have e := TL.split_spl (stS z) (stS [c]) (by simp [TL.tl]) (TL.kind_ok (by simpa using hc))
  have e2 : Txt.split (stS z) (stS [c]) = (TL.spl [c] 0 [] z).map stS := by
    apply TL.map_tl_inj
    rw [e, List.map_map]
    simp [Function.comp_def, TL.tl]
  rw [e2]
  exact k.lst R (Reps.of_strs _) h hp
end
end Tr

/-! TL3: calls of built-ins and of their methods by trees. -/
namespace Tr
open PySem PySem.Spec PyProof.Rows L2
section
variable {X : Cx} {cl : Wd}
/-- the first place of a sign -/
theorem occ_pass (x y : Str) (hi : Nat) : ∀ (l : List Nat) (st : Array Nat × Nat), st.fst.size = 1 → (forIn l st (PySem.StrLaws.occBody x y hi 1)).run.fst = st.fst
  | [], st, h => rfl
  | a :: l, st, h => by
    rw [List.forIn_cons]
    unfold PySem.StrLaws.occBody
    rw [if_neg (by omega)]
    exact occ_pass x y hi l _ h
theorem occ_first {x : List Nat} {c : Nat} (m cur i : Nat) (hm : cur + m = x.length + 1) (hi : x[i]? = some c) (hci : cur ≤ i) (hno : ∀ k, k < i → x[k]? ≠ some c) (lo : Nat) (hlo : lo ≤ cur) :
    (forIn (List.range' cur m) ((#[], lo) : Array Nat × Nat) (PySem.StrLaws.occBody (stS x) (stS [c]) x.length 1)).run.fst = #[i] := by
  have hl : i < x.length := (List.getElem?_eq_some_iff.mp hi).1
  induction m generalizing cur with
  | zero => omega
  | succ m ih =>
    rw [List.range'_succ, List.forIn_cons]
    unfold PySem.StrLaws.occBody
    have sub : (cur + (stS [c]).length ≤ (stS x).length ∧ PySem.Builtin.Str.subAt (stS x) (stS [c]) cur = true) ↔ x[cur]? = some c := PySem.StrLaws.subAt_one (stS x) c cur
    by_cases hc : cur = i
    · subst hc
      have sb := sub.mpr hi
      rw [if_pos ⟨⟨⟨by simp, by omega⟩, by have := sb.1; rw [stS_len x] at this; exact this⟩, sb.2⟩]
      exact occ_pass _ _ _ _ _ rfl
    · rw [if_neg (fun z => hno cur (by omega) (sub.mp ⟨by rw [stS_len x]; exact z.1.2, z.2⟩))]
      exact ih (cur + 1) (by omega) (by omega) (by omega)
theorem idxN_spec {c : Nat} : ∀ {z : List Nat} {j : Nat}, z.idxOf? c = some j → z[j]? = some c ∧ ∀ m, m < j → z[m]? ≠ some c
  | [], j, h => by simp at h
  | a :: r, j, h => by
    rw [List.idxOf?_cons] at h
    by_cases ha : (a == c) = true
    · rw [if_pos ha] at h
      cases h
      exact ⟨by simp at ha; simp [ha], fun m hm => absurd hm (Nat.not_lt_zero _)⟩
    · rw [if_neg ha] at h
      obtain ⟨i, hi, e⟩ := Option.map_eq_some_iff.mp h
      subst e
      obtain ⟨h1, h2⟩ := idxN_spec hi
      refine ⟨by simpa using h1, fun m hm => ?_⟩
      cases m with
      | zero => intro e; simp at e; exact ha (by simp [e])
      | succ m => simpa using h2 m (by omega)
theorem mt_ok_sindex : MtR X "str.index" (lM X.K cl (bmR .sindex)) := by
  intro pins s σ H x xs v us Q I rx rs h
  obtain ⟨d, ds, T, q, rd, rds, R, h, k⟩ := h
  obtain ⟨y, rfl, h⟩ := arg1_inv h
  obtain ⟨z, rfl, h⟩ := isStr_inv h
  obtain ⟨_, rfl, c, rfl, j, hj, h⟩ := isStr_inv h
  cases (show x = _ from rd)
  obtain ⟨w, rfl, rz⟩ := reps1 rds
  cases (show w = _ from rz)
  refine mt_sindex pins s σ H _ _ v us Q I rx rs ⟨stS z, stS [c], j, [], rfl, rfl, ?_, k.here R (d := .int (j : Nat)) rfl h⟩
  have hs := idxN_spec hj
  rw [PySem.StrLaws.occ_eq, stS_len, Nat.sub_zero, occ_first (z.length + 1) 0 j (by omega) hs.1 (Nat.zero_le _) hs.2 0 (Nat.le_refl _)]
end
end Tr

set_option Elab.async false
set_option linter.all false
set_option maxRecDepth 100000
set_option maxHeartbeats 4000000
/-! TL4: what is wanted of expressions, targets, iterables; the tables; the look that a text is what the small syntax says. -/
namespace Tr
open PySem PySem.Spec PyProof.Rows L2

/-! ### slots -/
def Cor (K : PySem.W.Frag) (H : Hp) (σ : L2.St) (τ : Env) : Prop := τ.length ≤ σ.length ∧ ∀ (i : Nat) (d : D), τ[i]? = some (some d) → ∃ v, σ[i]? = some (some v) ∧ Rep K H d v
theorem Cor.mono {K H H' σ τ} (h : Cor K H σ τ) (e : Ext K H H') : Cor K H' σ τ := ⟨h.1, fun i d q => let ⟨v, a, b⟩ := h.2 i d q; ⟨v, a, Rep.mono e d b⟩⟩
theorem Cor.set {K H σ τ} {i : Nat} {d : D} {v : V} (h : Cor K H σ τ) (r : Rep K H d v) : Cor K H (σ.set i (some v)) (setv τ i d) := by
  refine ⟨by unfold setv; rw [List.length_set, List.length_set]; exact h.1, fun j e q => ?_⟩
  unfold setv at q
  by_cases hj : i = j
  · subst hj
    have hi : i < τ.length := by
      have := (List.getElem?_eq_some_iff.mp q).1
      simpa using this
    rw [List.getElem?_set_self hi] at q
    cases q
    exact ⟨v, List.getElem?_set_self (Nat.lt_of_lt_of_le hi h.1), r⟩
  · rw [List.getElem?_set_ne hj] at q ⊢
    exact h.2 j e q
theorem wipe_len (τ : Env) : ∀ vs, (wipe τ vs).length = τ.length
  | [] => rfl
  | v :: vs => by unfold wipe; rw [List.length_set, wipe_len τ vs]
theorem wipe_in {τ : Env} {i : Nat} {d : D} : ∀ {vs : List Nat}, (wipe τ vs)[i]? = some (some d) → τ[i]? = some (some d) ∧ i ∉ vs
  | [], h => ⟨h, by simp⟩
  | v :: vs, h => by
    unfold wipe at h
    by_cases hi : v = i
    · subst hi
      by_cases hv : v < (wipe τ vs).length
      · rw [List.getElem?_set_self hv] at h; cases h
      · rw [List.getElem?_eq_none (by simpa using hv)] at h; cases h
    · rw [List.getElem?_set_ne hi] at h
      obtain ⟨h1, h2⟩ := wipe_in h
      exact ⟨h1, by simp only [List.mem_cons, not_or]; exact ⟨fun e => hi e.symm, h2⟩⟩
theorem Cor.wipe {K H σ τ} (h : Cor K H σ τ) (vs : List Nat) : Cor K H (L2.wipe σ vs) (wipe τ vs) := by
  refine ⟨by rw [wipe_len, wipe_length]; exact h.1, fun i d q => ?_⟩
  obtain ⟨h1, h2⟩ := wipe_in q
  obtain ⟨v, a, b⟩ := h.2 i d h1
  exact ⟨v, by rw [wipe_out h2]; exact a, b⟩
/-- two frames that differ at these slots alone -/
def Agr (vs : List Nat) (σ σ' : L2.St) : Prop := σ'.length = σ.length ∧ ∀ (j : Nat), j ∉ vs → σ'[j]? = σ[j]?
theorem Agr.refl {vs σ} : Agr vs σ σ := ⟨rfl, fun _ _ => rfl⟩
theorem Agr.trans {vs σ σ1 σ2} (a : Agr vs σ σ1) (b : Agr vs σ1 σ2) : Agr vs σ σ2 := ⟨b.1.trans a.1, fun j h => (b.2 j h).trans (a.2 j h)⟩
theorem Agr.sub {vs ws σ σ1} (a : Agr vs σ σ1) (h : ∀ i ∈ vs, i ∈ ws) : Agr ws σ σ1 := ⟨a.1, fun j hj => a.2 j fun z => hj (h j z)⟩
theorem Agr.set {i : Nat} {σ : L2.St} {x : Option V} : Agr [i] σ (σ.set i x) := ⟨by simp, fun j h => List.getElem?_set_ne (fun e => h (by simp [e]))⟩
theorem wipe_get (σ : L2.St) {i : Nat} : ∀ {vs : List Nat}, i ∈ vs → i < σ.length → (L2.wipe σ vs)[i]? = some none
  | v :: vs, h, hi => by
    unfold L2.wipe
    by_cases e : v = i
    · subst e; rw [List.getElem?_set_self (by rw [wipe_length]; exact hi)]
    · rw [List.getElem?_set_ne e]
      rcases List.mem_cons.mp h with h | h
      · exact absurd h.symm e
      · exact wipe_get σ h hi
theorem Agr.wipe {vs : List Nat} {σ σ' : L2.St} (a : Agr vs (L2.wipe σ vs) σ') : L2.wipe σ' vs = L2.wipe σ vs := by
  apply List.ext_getElem?
  intro i
  by_cases hi : i ∈ vs
  · by_cases hl : i < σ.length
    · rw [wipe_get σ hi hl, wipe_get σ' hi (by rw [a.1, wipe_length]; exact hl)]
    · have e1 : σ'.length = σ.length := by rw [a.1, wipe_length]
      rw [List.getElem?_eq_none (by rw [wipe_length]; omega), List.getElem?_eq_none (by rw [wipe_length]; omega)]
  · rw [wipe_out hi, a.2 i hi]

/-! ### the readings, as the layer's -/
def XOk (K : PySem.W.Frag) (cl : Wd) (W : WX) (σ : L2.St) (H : Hp) (x : XE) : Prop := ∀ c H' T', Ext K H H' → HRep K cl H' T' → x c T' → W (.ref (cl.f c)) none σ H'
theorem XOk.mono {K cl W σ H H1 x} (h : XOk K cl W σ H x) (e : Ext K H H1) : XOk K cl W σ H1 x := fun c H' T' e' => h c H' T' (e.trans e')
def lE (K : PySem.W.Frag) (cl : Wd) (W : WX) (t : RE) : TE := fun σ H Q => ∃ τ T q x, Cor K H σ τ ∧ HRep K cl H T ∧ t x τ T q ∧ KOk K cl H q Q ∧ XOk K cl W σ H x
def lT (K : PySem.W.Frag) (cl : Wd) (W : WX) (t : XE → Env → TH → (Bool → TH → Prop) → Prop) : TT := fun σ H Q => ∃ τ T q x, Cor K H σ τ ∧ HRep K cl H T ∧ t x τ T q ∧
  (∀ b H' T', Ext K H H' → HRep K cl H' T' → q b T' → Q b H') ∧ XOk K cl W σ H x
def lA (K : PySem.W.Frag) (cl : Wd) (W : WX) (n : Nat) (t : XE → Env → TH → (List D → TH → Prop) → Prop) : TA := fun σ H Q => ∃ τ T q x, Cor K H σ τ ∧ HRep K cl H T ∧ t x τ T q ∧
  (∀ ds vs H' T', Ext K H H' → HRep K cl H' T' → Reps K H' ds vs → ds.length = n → q ds T' → Q vs H') ∧ XOk K cl W σ H x
def lO (K : PySem.W.Frag) (cl : Wd) (W : WX) (t : XE → Env → TH → (Option Int → TH → Prop) → Prop) : L2.TO := fun σ H Q => ∃ τ T q x, Cor K H σ τ ∧ HRep K cl H T ∧ t x τ T q ∧
  (∀ i H' T', Ext K H H' → HRep K cl H' T' → q i T' → Q i H') ∧ XOk K cl W σ H x
/-- what is walked -/
def JOk (K : PySem.W.Frag) (cl : Wd) (H0 : Hp) (J : It) (sq : Sq) : Prop := Walk J sq.items.length (fun H => Ext K H0 H ∧ ∃ T, HRep K cl H T ∧ sq.keep T)
  (fun i H x H' => Ext K H H' ∧ (∀ T, HRep K cl H T → HRep K cl H' T) ∧ ∃ d, sq.items[i]? = some d ∧ Rep K H' d x)
def lI (K : PySem.W.Frag) (cl : Wd) (W : WX) (t : XE → Env → TH → (Sq → TH → Prop) → Prop) : TI := fun σ H R => ∃ τ T r x, Cor K H σ τ ∧ HRep K cl H T ∧ t x τ T r ∧
  (∀ sq J H' T', Ext K H H' → HRep K cl H' T' → JOk K cl H' J sq → r sq T' → R J H') ∧ XOk K cl W σ H x
/-- a target: its slots -/
def lG (K : PySem.W.Frag) (cl : Wd) (vs : List Nat) (b : D → TH → Env → (Env → Prop) → Prop) : TG := fun v σ H Q => ∃ d τ T p, Rep K H d v ∧ Cor K H σ τ ∧ HRep K cl H T ∧ b d T τ p ∧
  (∀ σ' τ', Agr vs σ σ' → Cor K H σ' τ' → p τ' → Q σ' H)
def lGs (K : PySem.W.Frag) (cl : Wd) (vs : List Nat) (b : List D → TH → Env → (Env → Prop) → Prop) : TGs := fun ws σ H Q => ∃ ds τ T p, Reps K H ds ws ∧ Cor K H σ τ ∧ HRep K cl H T ∧ b ds T τ p ∧
  (∀ σ' τ', Agr vs σ σ' → Cor K H σ' τ' → p τ' → Q σ' H)
def lSp (K : PySem.W.Frag) (cl : Wd) (S : Spec) (L n : Nat) : Sp := fun vs H Q E => vs.length = n ∧ ∃ ds T q x ρ, Reps K H ds vs ∧ HRep K cl H T ∧ ρ + 1 < L ∧ S.sp ρ ds T q x ∧ KOk K cl H q Q ∧
  (∀ c H' T', Ext K H H' → HRep K cl H' T' → x c T' → E (.ref (cl.f c)) none H')

/-! ### readings may be changed for others -/
section
variable {X : Cx}
theorem PE.imp {e : Expr} {t t' : TE} (h : PE X e t) (f : ∀ σ H Q, t' σ H Q → t σ H Q) : PE X e t' := ⟨fun pins s σ H Q I hw => h.run pins s σ H Q I (f σ H Q hw)⟩
theorem PT.imp {e : Expr} {t t' : TT} (h : PT X e t) (f : ∀ σ H Q, t' σ H Q → t σ H Q) : PT X e t' := ⟨fun pins s σ H Q I hw => h.run pins s σ H Q I (f σ H Q hw)⟩
theorem PW.imp {e : Expr} {t t' : TT} (h : PW X e t) (f : ∀ σ H Q, t' σ H Q → t σ H Q) : PW X e t' := ⟨fun wh pins s σ H Q I hw => h.run wh pins s σ H Q I (f σ H Q hw)⟩
theorem PTs.imp {es : List Expr} {t t' : TT} (h : PTs X es t) (f : ∀ σ H Q, t' σ H Q → t σ H Q) : PTs X es t' := ⟨fun pins s σ H Q I hw => h.run pins s σ H Q I (f σ H Q hw)⟩
theorem PA.imp {es : List Expr} {t t' : TA} (h : PA X es t) (f : ∀ σ H Q, t' σ H Q → t σ H Q) : PA X es t' := ⟨fun pos pins s σ H Q I hw => h.run pos pins s σ H Q I (f σ H Q hw)⟩
theorem PO.imp {e : Option Expr} {t t' : L2.TO} (h : PO X e t) (f : ∀ σ H Q, t' σ H Q → t σ H Q) : PO X e t' := ⟨fun pins s σ H Q I hw => h.run pins s σ H Q I (f σ H Q hw)⟩
theorem PI.imp {tg e : Expr} {t t' : TI} (h : PI X tg e t) (f : ∀ σ H Q, t' σ H Q → t σ H Q) : PI X tg e t' := ⟨fun pins s σ H Q I hw => h.run pins s σ H Q I (f σ H Q hw)⟩
theorem PG.imp {e : Expr} {t t' : TG} (h : PG X e t) (f : ∀ v σ H Q, t' v σ H Q → t v σ H Q) : PG X e t' := ⟨fun pins s σ H v u Q I r hw => h.run pins s σ H v u Q I r (f v σ H Q hw)⟩
theorem PG.or {e : Expr} {t t' : TG} (h : PG X e t) (h' : PG X e t') : PG X e (fun v σ H Q => t v σ H Q ∨ t' v σ H Q) := ⟨fun pins s σ H v u Q I r hw => hw.elim (h.run pins s σ H v u Q I r) (h'.run pins s σ H v u Q I r)⟩
theorem PGs.imp {es : List Expr} {t t' : TGs} (h : PGs X es t) (f : ∀ v σ H Q, t' v σ H Q → t v σ H Q) : PGs X es t' := ⟨fun pins s σ H v u Q I r hw => h.run pins s σ H v u Q I r (f v σ H Q hw)⟩
theorem PS.imp {st : Stmt} {t t' : TS} (h : PS X st t) (f : ∀ D σ H, t' D σ H → t D σ H) : PS X st t' := ⟨fun pins s σ H D I hw => h.run pins s σ H D I (f D σ H hw)⟩
theorem PSs.imp {st : List Stmt} {t t' : TS} (h : PSs X st t) (f : ∀ D σ H, t' D σ H → t D σ H) : PSs X st t' := ⟨fun pins s σ H D I hw => h.run pins s σ H D I (f D σ H hw)⟩
end

/-! ### tables -/
/-- where code stands: its context, names, tables, promises -/
structure Sd (X : Cx) (W : WX) (sc : Scope) (N : List Str) (tb : Tb) (C : Ctx) (cl : Wd) (L : Nat) : Prop where
  calm : X.calm = true
  hN : X.N = N
  nd : N.Nodup
  hsc : X.env.scope = sc
  tk : Takes X W
  room : Room L X.A
  free : ∀ x, tb.free x = true → X.mg x = none
  gl : ∀ j x, tb.gl j = some x → ∃ u v, X.mg x = some u ∧ L2.RelV v u ∧ ∀ H, Rep X.K H (C.glb j) v
  fn : ∀ k x n, tb.fn k = some (x, n) → ∃ f fd ps, FnOk X.prog X.w X.K X.mg X.base (L2.CX X.prog X.w) L f fd ps (lSp X.K cl (C.G k) L n) ∧ X.mg x = some (.ref f) ∧ PySem.W.keepIn X.K (.ref f) = true ∧ Binds X.K fd ps []
  mt : ∀ k m n, tb.mt k = some (m, n) → m = stS (C.mn k) ∧ ∃ f fd ps, FnOk X.prog X.w X.K X.mg X.base (L2.CX X.prog X.w) L f fd ps (lSp X.K cl (C.G k) L n) ∧ Cls X.K (cl.f (C.mc k)) ∧ Meth X.K (cl.f (C.mc k)) m f ∧ Binds X.K fd ps []
  mkc : ∀ c k x n, tb.mkc c k = some (x, n) → ∃ f fd ps, (∀ L', L = L' + 1 → FnOk X.prog X.w X.K X.mg X.base (L2.CX X.prog X.w) L' f fd ps (lSp X.K cl (C.G k) L' n)) ∧ Mk X.K (cl.f c) f ∧ X.mg x = some (.ref (cl.f c)) ∧ Binds X.K fd ps []
  fld : ∀ c f, C.fok c f = true → Cls X.K (cl.f c) ∧ NoAttr X.K (cl.f c) (stS f)
  gh : Gh X cl
  gd : ∀ j y n, tb.gd j = some (y, n) → ∃ (a : Addr) (es : Array DictEntry) (m : Nat), X.mg y = some (.ref a) ∧ KDict X.K X.w a es m ∧ ∀ s k, C.dt j s = some k →
    ∃ f fd ps, PySem.W.nsIn X.K a (stS s) = some (some (.ref f)) ∧ FnOk X.prog X.w X.K X.mg X.base (L2.CX X.prog X.w) L f fd ps (lSp X.K cl (C.G k) L n) ∧ PySem.W.keepIn X.K (.ref f) = true ∧ Binds X.K fd ps []

/-! ### the look -/
def gls (sc : Scope) (x : Str) : Bool := match sc.names.lookup x with | some .globalImplicit => true | _ => false
def vis (sc : Scope) (x : Str) : Bool := match sc.names.lookup x with | some .local => true | some .cell => true | some .free => true | _ => false
def loc (sc : Scope) (x : Str) : Bool := match sc.names.lookup x with | some .local => true | some .cell => true | _ => false
def plainN (x : Str) : Bool := decide (x ≠ "__debug__") && decide (x ≠ "__classdict__") && decide (x ≠ "__name__")
def noSup : Expr → Bool
  | .Call (.Name _ _) [] [] _ => false
  | _ => true
def noStar : Expr → Bool
  | .Starred _ _ => false
  | _ => true
def noSlice : Expr → Bool
  | .Slice _ _ _ _ => false
  | _ => true
def noComp : Expr → Bool
  | .ListComp _ _ _ _ => false | .SetComp _ _ _ _ => false | .DictComp _ _ _ _ _ => false
  | _ => true
def noSet : Expr → Bool
  | .Set _ _ _ => false
  | _ => true
def bltN : Blt → String
  | .len => "len" | .int_ => "int" | .str_ => "str" | .tuple => "tuple" | .list => "list" | .max => "max" | .min => "min" | .sorted => "sorted" | .abs => "abs" | .all_ => "all" | .any_ => "any" | .sum_ => "sum"
def bmN : Bm → String
  | .append => "append" | .extend => "extend" | .pop => "pop" | .sindex => "index" | .lindex => "index" | .tindex => "index" | .join => "join" | .split => "split" | .dgetD => "get"
def mCon : D → Expr → Bool
  | .non, .Constant .none _ _ => true
  | .bl b, .Constant (.bool c) _ _ => b == c
  | .int i, .Constant (.int j) _ _ => decide (i = j)
  | .int i, .UnaryOp .USub (.Constant (.int j) _ _) _ => decide (i = -j)
  | .str x, .Constant (.str y) _ _ => decide (stS x = y)
  | _, _ => false
mutual
def mG (N : List Str) (sc : Scope) (fn : Str → Bool) : Tg → Expr → Bool
  | .nm i, .Name x _ => decide (N[i]? = some x) && loc sc x && (fn x || decide (sc.names.lookup x = some .local))
  | .tp ts, .Tuple es _ _ => mGs N sc fn ts es
  | _, _ => false
def mGs (N : List Str) (sc : Scope) (fn : Str → Bool) : List Tg → List Expr → Bool
  | [], [] => true
  | t :: ts, e :: es => noStar e && mG N sc fn t e && mGs N sc fn ts es
  | _, _ => false
end
mutual
def tgS : Tg → List Nat
  | .nm i => [i]
  | .tp ts => tgsS ts
def tgsS : List Tg → List Nat
  | [] => []
  | t :: ts => tgS t ++ tgsS ts
end
def mKs : List (List Nat) → List (Option Expr) → Bool
  | [], [] => true
  | k :: ks, some (.Constant (.str y) _ _) :: es => decide (stS k = y) && mKs ks es
  | _, _ => false
def exsLen : Exs → Nat
  | .nil => 0
  | .cons _ es => exsLen es + 1
mutual
def mE (tb : Tb) (N : List Str) (sc : Scope) (x : Ex) (e : Expr) : Bool := match x with
  | .var i => (match e with | .Name y _ => decide (N[i]? = some y) && vis sc y && plainN y | _ => false)
  | .con d => mCon d e
  | .glb j => (match e with | .Name y _ => decide (tb.gl j = some y) && gls sc y && plainN y | _ => false)
  | .tup es => (match e with | .Tuple xs _ _ => mEs tb N sc es xs | _ => false)
  | .lst es => (match e with | .List xs _ => mEs tb N sc es xs | _ => false)
  | .dcl ks vs => (match e with | .Dict [] [] _ => true | _ => false)
  | .bin o a b => (match e with | .BinOp l op r _ => decide (op = opB o) && mE tb N sc a l && mE tb N sc b r | _ => false)
  | .neg a => (match e with | .UnaryOp .USub l _ => mE tb N sc a l | _ => false)
  | .cmp o a b => (match e with | .Compare l [op] [r] _ => decide (op = opC o) && noSet r && mE tb N sc a l && mE tb N sc b r | _ => false)
  | .chn o o' a b c => (match e with | .Compare l [op, op'] [r, r'] _ => decide (op = opC o) && decide (op' = opC o') && noSet r' && mE tb N sc a l && mE tb N sc b r && mE tb N sc c r' | _ => false)
  | .and_ a b => (match e with | .BoolOp .And (l :: r :: rest) p => mE tb N sc a l && (match rest with | [] => mE tb N sc b r | _ :: _ => mE tb N sc b (.BoolOp .And (r :: rest) p)) | _ => false)
  | .or_ a b => (match e with | .BoolOp .Or (l :: r :: rest) p => mE tb N sc a l && (match rest with | [] => mE tb N sc b r | _ :: _ => mE tb N sc b (.BoolOp .Or (r :: rest) p)) | _ => false)
  | .not_ a => (match e with | .UnaryOp .Not l _ => mE tb N sc a l | _ => false)
  | .ite c a b => (match e with | .IfExp t l r _ => mE tb N sc c t && mE tb N sc a l && mE tb N sc b r | _ => false)
  | .ix a i => (match e with | .Subscript l r _ => noSlice r && mE tb N sc a l && mE tb N sc i r | _ => false)
  | .sl a lo hi => (match e with | .Subscript l (.Slice x y none _) _ => mE tb N sc a l && mO tb N sc lo x && mO tb N sc hi y | _ => false)
  | .call k es => (match e with | .Call (.Name y _) xs [] _ => decide (tb.fn k = some (y, exsLen es)) && gls sc y && plainN y && mEs tb N sc es xs | _ => false)
  | .make c k es => (match e with | .Call (.Name y _) xs [] _ => decide (tb.mkc c k = some (y, exsLen es + 1)) && gls sc y && plainN y && mEs tb N sc es xs | _ => false)
  | .meth o k es => (match e with | .Call (.Attribute l m ap) xs [] p => decide (tb.mt k = some (m, exsLen es + 1)) && decide (ap.endLine = p.line) && noSup l && mE tb N sc o l && mEs tb N sc es xs && decide (xs.length < 20) | _ => false)
  | .blt f es => (match e with | .Call (.Name y _) (l :: xs) [] _ => decide (y = (bltN f : Str)) && tb.free y && gls sc y && mEs tb N sc es (l :: xs) | _ => false)
  | .isi a t => (match e with | .Call (.Name y _) [l, .Name z _] [] _ => decide (y = ("isinstance" : Str)) && tb.free y && gls sc y && decide (z = (tyN t : Str)) && tb.free z && gls sc z && decide (t ≠ .none) && noStar l && mE tb N sc a l | _ => false)
  | .bm o m es => (match e with | .Call (.Attribute l n ap) xs [] p => decide (n = (bmN m : Str)) && decide (ap.endLine = p.line) && noSup l && mE tb N sc o l && mEs tb N sc es xs && decide (xs.length < 5) && decide ((m = .pop) ↔ (xs = [])) | _ => false)
  | .fld o f => (match e with | .Attribute l n _ => decide (n = stS f) && noSup l && mE tb N sc o l | _ => false)
  | .lc x tg it c own => (match e with
    | .ListComp el [⟨t, i, ifs, 0⟩] s p => (noSet i && mI tb N sc it t i) && blkC N sc s ((own.map fun j => (N.getD j Str.empty, j))) && mG N (relS s sc) (fun y => s.names.lookup y == some .cell) tg t &&
        ((tgS tg).all fun j => own.contains j) && mC tb N (relS s sc) c ifs && mE tb N (relS s sc) x el
    | _ => false)
  | .dsp ks vs => (match e with | .Dict xs ys _ => mKs ks xs && mEs tb N sc vs ys && decide (ks.length = exsLen vs) && decide (0 < ks.length ∧ ks.length ≤ 15) | _ => false)
  | .dcn => (match e with | .Dict [] [] _ => true | _ => false)
  | .dcall j kx es => (match e with
    | .Call (.Subscript (.Name y _) l _) (z :: xs) [] _ => decide (tb.gd j = some (y, exsLen es)) && gls sc y && plainN y && noSlice l && mE tb N sc kx l && mEs tb N sc es (z :: xs)
    | _ => false)
  | .opq => true
def mEs (tb : Tb) (N : List Str) (sc : Scope) (es : Exs) (xs : List Expr) : Bool := match es, xs with
  | .nil, [] => true
  | .cons e es, x :: xs => noStar x && mE tb N sc e x && mEs tb N sc es xs
  | _, _ => false
def mO (tb : Tb) (N : List Str) (sc : Scope) (o : Op) (x : Option Expr) : Bool := match o, x with
  | .no, none => true
  | .so e, some x => mE tb N sc e x
  | _, _ => false
def mC (tb : Tb) (N : List Str) (sc : Scope) (o : Op) (x : List Expr) : Bool := match o, x with
  | .no, [] => true
  | .so e, [x] => mE tb N sc e x
  | _, _ => false
def mI (tb : Tb) (N : List Str) (sc : Scope) (it : Ito) (tg : Expr) (x : Expr) : Bool := match it with
  | .ex e => mE tb N sc e x
  | .exd e => mE tb N sc e x
  | .rng1 a => (match x with | .Call (.Name y _) [l] [] _ => decide (y = ("range" : Str)) && tb.free y && gls sc y && noStar l && mE tb N sc a l | _ => false)
  | .rng2 a b => (match x with | .Call (.Name y _) [l, r] [] _ => decide (y = ("range" : Str)) && tb.free y && gls sc y && noStar l && noStar r && mE tb N sc a l && mE tb N sc b r | _ => false)
  | .enm a => (match x, tg with | .Call (.Name y _) [l] [] _, .Tuple _ _ _ => decide (y = ("enumerate" : Str)) && tb.free y && gls sc y && noStar l && mE tb N sc a l | _, _ => false)
  | .zip a b => (match x, tg with | .Call (.Name y _) [l, r] [] _, .Tuple _ _ _ => decide (y = ("zip" : Str)) && tb.free y && gls sc y && noStar l && noStar r && mE tb N sc a l && mE tb N sc b r | _, _ => false)
end
end Tr

/-! TL5: a text that is what the small syntax says keeps its reading (expressions). -/
namespace Tr
open PySem PySem.Spec PyProof.Rows L2

theorem band {a b : Bool} (h : (a && b) = true) : a = true ∧ b = true := Bool.and_eq_true_iff.mp h
section
variable {X : Cx} {W : WX} {sc : Scope} {N : List Str} {tb : Tb} {C : Ctx} {cl : Wd} {L r : Nat}
theorem vis_of {x : Str} (h : vis sc x = true) : Vis sc x := by
  unfold vis at h
  split at h
  · exact .inl (by assumption)
  · exact .inr (.inl (by assumption))
  · exact .inr (.inr (by assumption))
  · cases h
theorem loc_of {x : Str} (h : loc sc x = true) : Loc sc x := by
  unfold loc at h
  split at h
  · exact .inl (by assumption)
  · exact .inr (by assumption)
  · cases h
theorem gls_of (S : Sd X W sc N tb C cl L) {x : Str} (h : gls sc x = true) : Gl X x := by
  unfold gls at h
  split at h
  · rename_i q
    show X.env.scope.names.lookup x = _
    rw [S.hsc]; exact q
  · cases h
theorem plain_of {x : Str} (h : plainN x = true) : (x == ("__debug__" : Str)) = false ∧ (x == ("__classdict__" : Str)) = false ∧ x ≠ "__name__" := by
  unfold plainN at h
  obtain ⟨h1, h3⟩ := band h
  obtain ⟨h1, h2⟩ := band h1
  exact ⟨beq_eq_false_iff_ne.mpr (of_decide_eq_true h1), beq_eq_false_iff_ne.mpr (of_decide_eq_true h2), of_decide_eq_true h3⟩
theorem noStar_of {e : Expr} (h : noStar e = true) (es : List Expr) (env : PySem.Env) : starEach (e :: es) env = (false, eval e env) :: starEach es env := by
  cases e <;> first | rfl | cases h
theorem noSup_of {e : Expr} (h : noSup e = true) (f : Str) (env : PySem.Env) : attributeBase e f env (eval e env) = eval e env := by
  unfold attributeBase
  split
  · cases h
  · rfl
theorem noSlice_of {e : Expr} (h : noSlice e = true) : PlainIx e := by
  intro o i
  cases e <;> first | rfl | cases h
theorem noComp_of {e : Expr} (h : noComp e = true) (t : Option Expr) (l : Nat) (env : PySem.Env) : swapsWith e t l env = pure false := by
  cases e <;> first | rfl | cases h
theorem noSet_of {e : Expr} (h : noSet e = true) (op : CmpOp) : behindInMarks op e = false := by
  cases e <;> first | rfl | cases h
theorem noSetI_of {e : Expr} (h : noSet e = true) (env : PySem.Env) : ∀ x, foldedSetIterable e env x = pure x := by
  intro x
  cases e <;> first | rfl | cases h
/-- the units -/
theorem Sd.hu (S : Sd X W sc N tb C cl L) : X.A.units + 64 < cLine := S.room.units
/-- a block of a comprehension -/
theorem Sd.blk (S : Sd X W sc N tb C cl L) (s : Shared) (H : Hp) (scope : Scope) (c : Addr) (cs : List (Str × Addr)) (fp : List Addr) :
    Sd (X.blk s H scope (compEnvC scope cs c X.env) fp) (fun _ _ _ _ => False) (relS scope sc) N tb C cl L where
  calm := S.calm
  hN := S.hN
  nd := S.nd
  hsc := by
    show relS scope X.env.scope = _
    rw [S.hsc]
  tk := takes0
  room := S.room
  free := S.free
  gl := S.gl
  fn := S.fn
  mt := S.mt
  mkc := S.mkc
  fld := S.fld
  gh := ⟨S.gh.P, S.gh.w⟩
  gd := S.gd

theorem con_ok : ∀ {d : D} {e : Expr}, mCon d e = true → ∃ v, (∀ K H, Rep K H d v) ∧ PE X e (tC v) := by
  intro d e h
  unfold mCon at h
  split at h
  · exact ⟨.non, fun _ _ => rfl, pe_non⟩
  · rename_i b c _ _
    have e : b = c := by simpa using h
    subst e
    exact ⟨.bl b, fun _ _ => rfl, pe_bl⟩
  · rename_i i j _ _
    have e : i = j := of_decide_eq_true h
    subst e
    exact ⟨.int i, fun _ _ => rfl, pe_int⟩
  · rename_i i j _ _ _
    have e : i = -j := of_decide_eq_true h
    subst e
    exact ⟨.int (-j), fun _ _ => rfl, PE.imp (pe_un un_neg pe_int) fun σ H Q q => ⟨j, rfl, q⟩⟩
  · rename_i x y _ _
    have e : stS x = y := of_decide_eq_true h
    subst e
    exact ⟨.str (stS x), fun _ _ => rfl, pe_str⟩
  · cases h
theorem ix_get (S : Sd X W sc N tb C cl L) {i : Nat} {x : Str} (h : N[i]? = some x) : X.N[i]? = some x := by rw [S.hN]; exact h

/-! ### targets -/
mutual
theorem bindT_some {T : TH} : ∀ (t : Tg) {d : D} {τ : Env} {k : Env → Prop}, bindT t d T τ k → ∃ τ', k τ'
  | .nm i, _, _, _, h => ⟨_, h⟩
  | .tp ts, _, _, _, ⟨ds, _, h⟩ => bindTs_some ts h
theorem bindTs_some {T : TH} : ∀ (ts : List Tg) {ds : List D} {τ : Env} {k : Env → Prop}, bindTs ts ds T τ k → ∃ τ', k τ'
  | [], _, _, _, h => ⟨_, h.2⟩
  | t :: ts, _, _, _, ⟨d, ds', _, h⟩ => let ⟨_, h'⟩ := bindT_some t h; bindTs_some ts h'
end
mutual
theorem sG {fn : Str → Bool} (S : Sd X W sc N tb C cl L) (hfn : ∀ x, fn x = true → X.fn x = true) : ∀ (t : Tg) {e : Expr}, mG N sc fn t e = true → PG X e (lG X.K cl (tgS t) (bindT t))
  | .nm i, e, h => by
    cases e with
    | Name x pos =>
      obtain ⟨h1, h3⟩ := band (show (_ && _) = true from h)
      obtain ⟨h1, h2⟩ := band h1
      have hi : X.N[i]? = some x := ix_get S (of_decide_eq_true h1)
      have hl : Loc X.env.scope x := by rw [S.hsc]; exact loc_of h2
      have hf : X.fn x = true ∨ X.env.scope.names.lookup x = some .local := by
        rcases Bool.or_eq_true_iff.mp h3 with q | q
        · exact .inl (hfn x q)
        · exact .inr (by rw [S.hsc]; exact of_decide_eq_true q)
      refine PG.imp (pg_name (by rw [S.hN]; exact S.nd) hi hl hf) fun v σ H Q q => ?_
      obtain ⟨d, τ, T, p, rd, co, R, b, k⟩ := q
      exact k _ _ Agr.set (co.set rd) b
    | _ => cases h
  | .tp ts, e, h => by
    cases e with
    | Tuple es kk pos =>
      have hh : mGs N sc fn ts es = true := h
      have hs := sGs S hfn ts hh
      have hl : ∀ (ts : List Tg) (es : List Expr), mGs N sc fn ts es = true → (assignEach es X.env).length = ts.length ∧ (assignEach es X.env).findIdx? (·.1) = none := by
        intro ts
        induction ts with
        | nil => intro es h; cases es with
          | nil => exact ⟨rfl, rfl⟩
          | cons _ _ => cases h
        | cons t ts ih => intro es h; cases es with
          | nil => cases h
          | cons e es =>
            obtain ⟨h1, h3⟩ := band (show (_ && _) = true from h)
            obtain ⟨h1, h2⟩ := band h1
            obtain ⟨a, b⟩ := ih es h3
            have ea : assignEach (e :: es) X.env = (false, assign e X.env) :: assignEach es X.env := by cases e <;> first | rfl | cases h1
            rw [ea]
            refine ⟨by simp [a], ?_⟩
            rw [List.findIdx?_cons]
            simp [b]
      obtain ⟨l1, l2⟩ := hl ts es hh
      refine PG.imp (PG.or (pg_tup S.calm hs l1 l2) (pg_lst S.calm hs l1 l2)) fun v σ H Q q => ?_
      obtain ⟨d, τ, T, p, rd, co, R, ⟨ds, e1, b⟩, k⟩ := q
      obtain ⟨a, vs, rfl, hq, rs⟩ := seq_rep R rd e1
      have hlen : ∀ (ts : List Tg) (ds : List D) (τ : Env), bindTs ts ds T τ p → ds.length = ts.length := by
        intro ts
        induction ts with
        | nil => intro ds τ h; rw [h.1]; rfl
        | cons t ts ih =>
          intro ds τ h
          obtain ⟨d, ds', e, h⟩ := h
          subst e
          -- the inner binding keeps p's place
          have : ∃ τ', bindTs ts ds' T τ' p := bindT_some t h
          obtain ⟨τ', h⟩ := this
          simp [ih ds' τ' h]
      have hle : vs.length = ts.length := by rw [rs.len]; exact hlen ts ds τ b
      have fin : lGs X.K cl (tgsS ts) (bindTs ts) vs σ H Q := ⟨ds, τ, T, p, rs, co, R, b, k⟩
      rcases hq with hq | hq
      · exact .inr ⟨a, vs, rfl, hq, hle, fin⟩
      · exact .inl ⟨a, vs, rfl, hq, hle, fin⟩
    | _ => cases h
theorem sGs {fn : Str → Bool} (S : Sd X W sc N tb C cl L) (hfn : ∀ x, fn x = true → X.fn x = true) : ∀ (ts : List Tg) {es : List Expr}, mGs N sc fn ts es = true → PGs X es (lGs X.K cl (tgsS ts) (bindTs ts))
  | [], es, h => by
    cases es with
    | cons _ _ => cases h
    | nil =>
      refine PGs.imp pgs_nil fun vs σ H Q q => ?_
      obtain ⟨ds, τ, T, p, rs, co, R, ⟨e, b⟩, k⟩ := q
      subst e
      exact ⟨rs, k σ τ Agr.refl co b⟩
  | t :: ts, es, h => by
    cases es with
    | nil => cases h
    | cons e es =>
      obtain ⟨h1, h3⟩ := band (show (_ && _) = true from h)
      obtain ⟨h1, h2⟩ := band h1
      have ea : (assignEach (e :: es) X.env).map (·.2) = assign e X.env :: (assignEach es X.env).map (·.2) := by cases e <;> first | rfl | cases h1
      refine PGs.imp (pgs_cons (sG S hfn t h2) (sGs S hfn ts h3) ea) fun vs σ H Q q => ?_
      obtain ⟨ds, τ, T, p, rs, co, R, ⟨d, ds', e, b⟩, k⟩ := q
      subst e
      obtain ⟨v, vs', e, rd, rs'⟩ := rs
      subst e
      refine ⟨v, vs', rfl, d, τ, T, _, rd, co, R, b, fun σ' τ' ag co' b' => ?_⟩
      refine ⟨ds', τ', T, p, rs', co', R, b', fun σ2 τ2 ag2 co2 b2 => k σ2 τ2 ?_ co2 b2⟩
      exact (ag.sub fun i hi => by simp [tgsS, hi]).trans (ag2.sub fun i hi => by simp [tgsS, hi])
end
end
end Tr

/-! TL6: calls whose exceptions are wished for at the caller's slots; iterables. -/
namespace Tr
open PySem PySem.Spec PyProof.Rows L2
section
variable {X : Cx} {CX : CXT} {k : Nat} {f C : Addr} {fd : FuncData} {ps : List Str} {sp : Sp} {E : L2.St → XK} {x m : Str} {p pos apos : Pos} {e o : Expr} {es : List Expr} {ta : TE} {t : TA}
theorem pe_call0S (F : FnOk X.prog X.w X.K X.mg X.base CX k f fd ps sp) (hr : Room k X.A) (hg : Gl X x) (hm : X.mg x = some (.ref f)) (hk : PySem.W.keepIn X.K (.ref f) = true) (hb : Binds X.K fd ps []) (hx : ∀ σ, PassesAt CX X σ (E σ))
    (hdb : (x == ("__debug__" : Str)) = false) : PE X (.Call (.Name x p) [] [] pos) (tCallS sp E tNil) := by
  refine ⟨fun pins s σ H Q I h => ?_⟩
  refine wpAny_Call_Name_kw (ld_glob I hg hm ?_ hdb)
  exact PySem.W.callWith_K0 I.kIn hk (run_fnS (us := []) F hr hb (hx σ) I .nil h)
def tMethS (C : Addr) (m : Str) (sp : Sp) (E : L2.St → XK) (ta : TE) (t : TA) : TE := fun σ H Q => ta σ H fun x H1 => ∃ a dx fs, x = .ref a ∧ H1 a = some (.ins C dx fs) ∧ fs.lookup m = none ∧
  t σ H1 fun vs H2 => sp (x :: vs) H2 Q (E σ)
theorem meth_eq {args : List Expr} (hbase : attributeBase o m X.env (eval o X.env) = eval o X.env) (hf : methodCallForm (args.length + 0) (backTo pos (starEach args X.env)) (backToKw pos (keywordEach [] X.env)) = true) (hl : (apos.endLine == pos.line) = true) :
    eval (.Call (.Attribute o m apos) args [] pos) X.env = (do
      let ov ← eval o X.env
      standAt apos.atName
      let (f, first) ← holding [ov] (getMethod ov m (plainOf o X.env))
      callWith pos f first (backTo pos (starEach args X.env)) (backToKw pos (keywordEach [] X.env))) := by
  rw [arm_eval_Call, hbase]
  have e := fun ov => mcall_line (o := o) (m := m) (apos := apos) (pos := pos) (env := X.env) (ov := ov) hf hl
  simp only [List.length_nil] at e ⊢
  first
    | (simp only [e]; done)
    | (congr 1; funext ov; rw [e])
theorem pe_methA0 (he : PE X o ta) (c : Cls X.K C) (hm : Meth X.K C m f) (F : FnOk X.prog X.w X.K X.mg X.base CX k f fd ps sp) (hr : Room k X.A) (hb : Binds X.K fd ps []) (hx : ∀ σ, PassesAt CX X σ (E σ))
    (hbase : attributeBase o m X.env (eval o X.env) = eval o X.env) (hl : (apos.endLine == pos.line) = true) :
    PE X (.Call (.Attribute o m apos) [] [] pos) (tMethS C m sp E ta tNil) := by
  refine ⟨fun pins s σ H Q I h => ?_⟩
  refine PySem.W.methodCall_KW (pl := plainOf o X.env) (thn (he.run pins s σ H _ I h) fun u s1 ⟨x, H1, I1, rx, a, dx, fs, ex, ea, l, q⟩ => ?_) (meth_eq hbase rfl hl)
  subst ex
  obtain rfl : u = Value.ref a := rx
  refine getmeth_ok I1 ea c hm l ?_
  exact PySem.W.callWith_K0 (first := [.ref a]) I1.kIn hm.kp (run_fnS (us := [.ref a]) (vs := [.ref a]) F hr hb (hx σ) I1 (.cons rfl .nil) q)
theorem pe_methA (he : PE X o ta) (c : Cls X.K C) (hm : Meth X.K C m f) (F : FnOk X.prog X.w X.K X.mg X.base CX k f fd ps sp) (hr : Room k X.A) (hb : Binds X.K fd ps []) (hx : ∀ σ, PassesAt CX X σ (E σ)) (ha : PA X (e :: es) t)
    (hbase : attributeBase o m X.env (eval o X.env) = eval o X.env) (hf : methodCallForm ((e :: es).length + 0) (backTo pos (starEach (e :: es) X.env)) (backToKw pos (keywordEach [] X.env)) = true) (hl : (apos.endLine == pos.line) = true)
    (h1 : starEach (e :: es) X.env = (false, eval e X.env) :: starEach es X.env) (h2 : (backTo pos (starEach es X.env)).any (·.1) = false) :
    PE X (.Call (.Attribute o m apos) (e :: es) [] pos) (tMethS C m sp E ta t) := by
  refine ⟨fun pins s σ H Q I h => ?_⟩
  refine PySem.W.methodCall_KW (pl := plainOf o X.env) (thn (he.run pins s σ H _ I h) fun u s1 ⟨x, H1, I1, rx, a, dx, fs, ex, ea, l, q⟩ => ?_) (meth_eq hbase hf hl)
  subst ex
  obtain rfl : u = Value.ref a := rx
  refine getmeth_ok I1 ea c hm l ?_
  refine PySem.W.callWith_K (first := [.ref a]) (h₀ := X.base) I.ok.mod.kin hm.kp (thn (ha.run pos pins s1 σ H1 _ I1 q) fun us s2 ⟨vs, H2, I2, r, q2⟩ => ⟨I2.kIn, ?_⟩) h1 h2
  exact run_fnS (us := .ref a :: us) (vs := .ref a :: vs) F hr hb (hx σ) I2 (.cons rfl r) q2
def tMakeS (C : Addr) (sp : Sp) (E : L2.St → XK) (t : TA) : TE := fun σ H Q => t σ H fun vs H1 => ∀ x dx, H1 x = none → H1 dx = none → dx ≠ x →
  sp (.ref x :: vs) (L2.upd (L2.upd H1 dx (.own x)) x (.ins C dx [])) (fun v H2 => v = .non ∧ Q (.ref x) H2) (E σ)
theorem run_makeS {pins : List (Addr × Obj)} {σ : L2.St} {H : Hp} {s : Shared} {Q : VK} {us : List Value} {vs : List V} (M : Mk X.K C f) (F : FnOk X.prog X.w X.K X.mg X.base CX k f fd ps sp) (hr : Room (k + 1) X.A) (hb : Binds X.K fd ps [])
    (hx : PassesAt CX X σ (E σ)) (I : Inv X pins σ H s) (r : Vals vs us)
    (h : ∀ x dx, H x = none → H dx = none → dx ≠ x → sp (.ref x :: vs) (L2.upd (L2.upd H dx (.own x)) x (.ins C dx [])) (fun v H2 => v = .non ∧ Q (.ref x) H2) (E σ)) :
    wpAny (model X.prog X.w) X.A (call (.ref C) us) (EP X pins σ Q) X.xe s := by
  have hq := h (s.heap.objs.size + 1) s.heap.objs.size (I.hok.fresh (Nat.le_succ _)) (I.hok.fresh (Nat.le_refl _)) (Nat.ne_of_lt (Nat.lt_succ_self _))
  have I2 := Inv.made (C := C) I
  have r2 : Vals (V.ref (s.heap.objs.size + 1) :: vs) (Value.ref (s.heap.objs.size + 1) :: us) := .cons rfl r
  have hl : (Value.ref (s.heap.objs.size + 1) :: us).length = ps.length := by
    have e := r2.length
    rw [F.len _ _ _ _ hq] at e
    exact e.symm
  have b := hb { s with heap := (s.heap.push PySem.W.emptyDict).push (PySem.W.instObj C s.heap.objs.size) } (Value.ref (s.heap.objs.size + 1) :: us) I2.kIn (by rw [List.append_nil]; exact hl)
  rw [List.append_nil] at b
  refine wpAny_call (make_map (f := f) I.kIn M.makes M.init (beq_iff_eq.mp M.fn) (codeAny_mono (F.run _ X.stack _ _ ⟨Value.ref (s.heap.objs.size + 1) :: us, []⟩ (Value.ref (s.heap.objs.size + 1) :: us) _ _ (E σ) (hr.make C us [])
    (I2.env0.make C us []) b r2 hq) fun r s' hq' => ?_))
  cases r with
  | error e => exact hx pins _ _ e s' I2 hq'
  | ok fl =>
    cases fl with
    | ret u =>
      obtain ⟨v, H', I3, rv, ev, q3⟩ := I2.after hq'
      subst ev
      exact ⟨rv, ⟨V.ref (s.heap.objs.size + 1), H', I3, rfl, q3⟩⟩
    | next => exact False.elim hq'
    | brk => exact False.elim hq'
    | cont => exact False.elim hq'
theorem pe_makeS (M : Mk X.K C f) (F : FnOk X.prog X.w X.K X.mg X.base CX k f fd ps sp) (hr : Room (k + 1) X.A) (hg : Gl X x) (hm : X.mg x = some (.ref C)) (hb : Binds X.K fd ps []) (hx : ∀ σ, PassesAt CX X σ (E σ))
    (ha : PA X (e :: es) t) (hdb : (x == ("__debug__" : Str)) = false) (he : starEach (e :: es) X.env = (false, eval e X.env) :: starEach es X.env) (hpl : (backTo pos (starEach es X.env)).any (·.1) = false) :
    PE X (.Call (.Name x p) (e :: es) [] pos) (tMakeS C sp E t) := by
  refine ⟨fun pins s σ H Q I h => ?_⟩
  refine wpAny_Call_Name_kw (ld_glob I hg hm ?_ hdb)
  refine PySem.W.callWith_K (h₀ := X.base) I.ok.mod.kin M.kp (thn (ha.run pos pins s σ H _ I h) fun us s1 ⟨vs, H1, I1, r, q⟩ => ⟨I1.kIn, ?_⟩) he hpl
  exact run_makeS M F hr hb (hx σ) I1 r q
theorem pe_make0S (M : Mk X.K C f) (F : FnOk X.prog X.w X.K X.mg X.base CX k f fd ps sp) (hr : Room (k + 1) X.A) (hg : Gl X x) (hm : X.mg x = some (.ref C)) (hb : Binds X.K fd ps []) (hx : ∀ σ, PassesAt CX X σ (E σ))
    (hdb : (x == ("__debug__" : Str)) = false) : PE X (.Call (.Name x p) [] [] pos) (tMakeS C sp E tNil) := by
  refine ⟨fun pins s σ H Q I h => ?_⟩
  refine wpAny_Call_Name_kw (ld_glob I hg hm ?_ hdb)
  exact PySem.W.callWith_K0 I.kIn M.kp (run_makeS (us := []) M F hr hb (hx σ) I .nil h)
end
/-! ### what is walked -/
section
variable {X : Cx} {cl : Wd} {tg e : Expr}
theorem PI.run' {wi : TI} (h : PI X tg e wi) : True := True.intro
/-- a list, a tuple, a text, by its value -/
def iSeq (K : PySem.W.Frag) (te : TE) : TI := fun σ H R => te σ H fun x H1 => (∃ a xs, x = .ref a ∧ SqL K H1 a xs ∧ R (Itl K a) H1) ∨ (∃ a xs, x = .ref a ∧ SqT K H1 a xs ∧ R (Itt K a) H1) ∨ ∃ z, x = .str z ∧ R (Its z) H1
theorem pi_seq {te : TE} (hl : PE X e te) : PI X tg e (iSeq X.K te) := by
  refine ⟨fun pins s σ H R I h => ?_⟩
  refine thn (hl.run pins s σ H _ I h) fun v s1 ⟨x, H1, I1, r1, q1⟩ => ?_
  rcases q1 with ⟨a, xs, e, hq, q⟩ | ⟨a, xs, e, hq, q⟩ | ⟨z, e, q⟩
  · subst e
    cases r1
    obtain ⟨its, rv, p, hz⟩ := I1.list hq
    refine wpAny_pyIter_list p.isList ?_
    refine ⟨s1.heap.objs.size, [s1.heap.objs.size], _, _, H1, rfl, I1.kept (t' := s1.toks) fun b o e => Heap.get?_push_of_some _ e, turn_list a _, ⟨_, Heap.get?_push_size _ rfl, rfl, rfl⟩, fun b hb => ?_, q⟩
    have e : b = s1.heap.objs.size := by simpa using hb
    subst e
    exact I1.fpOk (Nat.le_refl _) (I1.hok.fresh (Nat.le_refl _))
  · subst e
    cases r1
    obtain ⟨its, rv, p, hz⟩ := I1.tuple hq
    refine wpAny_pyIter_tuple (show s1.heap.IsTuple a its.toArray from p) ?_
    refine ⟨s1.heap.objs.size, [s1.heap.objs.size], _, _, H1, rfl, I1.kept (t' := s1.toks) fun b o e => Heap.get?_push_of_some _ e, turn_tuple a _, ⟨_, Heap.get?_push_size _ rfl, rfl, rfl⟩, fun b hb => ?_, q⟩
    have e : b = s1.heap.objs.size := by simpa using hb
    subst e
    exact I1.fpOk (Nat.le_refl _) (I1.hok.fresh (Nat.le_refl _))
  · subst e
    obtain ⟨t, rfl⟩ := r1
    cases ha : z.cps.all (· < 128)
    · exact wpAny_pyIter_wide ha (pi_one (tk := s1.toks) I1 _ (turn_str _ z t "str_iterator" (.inr rfl)) ⟨_, Heap.get?_push_size _ rfl, rfl, rfl⟩ q)
    · exact wpAny_pyIter_ascii ha (pi_one (tk := s1.toks) I1 _ (turn_str _ z t "str_ascii_iterator" (.inl rfl)) ⟨_, Heap.get?_push_size _ rfl, rfl, rfl⟩ q)
/-- enumerate over a tuple -/
def IteT (K : PySem.W.Frag) (a : Addr) : It :=
  ⟨fun i H => ∃ (xs : List V) (x : V), SqT K H a xs ∧ xs[i]? = some x, fun i H v H' => ∃ T x, v = .ref T ∧ H T = none ∧ H' = L2.upd H T (.tup [.int (i : Nat), x]) ∧ ∀ xs, SqT K H a xs → xs[i]? = some x, fun i H => ∃ xs : List V, SqT K H a xs ∧ xs.length ≤ i⟩
theorem apart_it {h : Heap} {a it : Addr} {items : Array Value} {i : Nat} (h1 : h.IsTupleIter it a i) (h2 : h.IsTuple a items) : a ≠ it := by
  intro e
  subst e
  obtain ⟨o, e1, c1, _⟩ := h1
  obtain ⟨o2, e2, c2, _⟩ := h2
  rw [e1] at e2; cases e2
  rw [c1] at c2
  injection c2 with c2
  exact absurd c2 (by decide)
theorem apart_en {h : Heap} {a e it : Addr} {k : Int} {old : Value} {items : Array Value} (h1 : IsEnum h e it k old) (h2 : h.IsTuple a items) : e ≠ a := by
  intro q
  subst q
  obtain ⟨o2, e2, c2, _⟩ := h2
  have h1' : h.get? e = _ := h1
  rw [h1'] at e2; cases e2
  injection c2 with c2
  exact absurd c2 (by decide)
theorem turn_enumT {P : Program} {w : World} {K : PySem.W.Frag} {elts : List Expr} {kk : Nat} {tpos : Pos} (a e it : Addr) :
    Turn P w K (.Tuple elts kk tpos) (IteT K a) [e, it] e (fun i h => (∃ old, IsEnum h e it ((i : Nat) : Int) old) ∧ h.IsTupleIter it a i ∧ e ≠ it) where
  mem := by simp
  obj := fun i h st b hb => by
    obtain ⟨⟨old, he⟩, ⟨o, ho, hc, hd⟩, _⟩ := st
    have e' : b = e ∨ b = it := by simpa using hb
    rcases e' with z | z
    · rw [z]; exact ⟨_, he, fun v q => nomatch q⟩
    · rw [z]; exact ⟨o, ho, fun v q => by rw [hd] at q; cases q⟩
  keep := fun i h h' st k => let ⟨⟨old, he⟩, hi, hne⟩ := st; ⟨⟨old, k e (by simp) _ he⟩, hi.at fun o q => k it (by simp) o q, hne⟩
  item := by
    intro X hP hw hK hc i pins s σ H E I hf st hg
    subst hP hw hK
    obtain ⟨⟨old, he⟩, hit, hne⟩ := st
    obtain ⟨xs, x, hq, hx⟩ := hg
    obtain ⟨its, rv, p, hz⟩ := I.tuple hq
    obtain ⟨u, hu, ru⟩ := rv.get hx
    have hp : s.heap.IsTuple a its.toArray := p
    have hel : e < s.heap.objs.size := Heap.lt_size he
    have hil : it < s.heap.objs.size := by obtain ⟨_, q, _⟩ := hit; exact Heap.lt_size q
    have hlt : i < its.toArray.size := by
      have := (List.getElem?_eq_some_iff.mp hu).1
      simpa using this
    have hai := apart_it hit hp
    have hae := apart_en he hp
    have Dr := Draws.tuple (prog := X.prog) (w := X.w) (A := X.A.in1) (show X.A.in1.handled = none from I.ok.hd hc) it a hai its.toArray
    refine wpAny_pyNext_enum_itemD Dr he ⟨hit, hp⟩ hlt hne (by simp [hne, hae]) fun u' h' tk hP ho hit' hT hsz hk => ?_
    have eu : u' = u := by
      have h1 : its.toArray[i]? = some u' := hP
      rw [show its.toArray[i]? = its[i]? by simp, hu] at h1
      exact (Option.some.inj h1).symm
    subst eu
    refine ⟨_, rfl, wpAny_letOwnedTupleGo_enum (s := { s with heap := h', toks := tk + 1 }) ho fun h'' he' sb => ?_⟩
    have hT2 : h''.get? s.heap.objs.size = some { cls := .type "tuple", data := .seq #[.int i tk, u'] } := (sb.2 _ (Nat.ne_of_gt hel)).trans hT
    have new : ObjOk X.prog X.w (L2.upd H s.heap.objs.size (.tup [.int (i : Nat), x])) h'' s.heap.objs.size (.tup [.int (i : Nat), x]) :=
      ⟨by show 2 ≤ sizeLine; decide, [.int i tk, u'], .cons ⟨_, rfl⟩ (.cons ru .nil), ⟨_, hT2, rfl, _, rfl⟩⟩
    have I1 : Inv X pins σ (L2.upd H s.heap.objs.size (.tup [.int (i : Nat), x])) { s with heap := h'', toks := tk + 1 } :=
      I.turnedNew (ch := [e, it]) (fun b ob hb q => (sb.2 b (fun z => hb (by simp [z]))).trans (hk b ob (fun z => hb (by simp [z])) (fun z => hb (by simp [z])) q)) hf (Nat.le_refl _) new
    refine ⟨.ref s.heap.objs.size, _, I1, rfl, ⟨_, x, rfl, I.hok.fresh (Nat.le_refl _), rfl, fun ys hy => by rw [I.tuple_inj hy hq]; exact hx⟩, ⟨⟨u', ?_⟩, hit'.1.at fun o q => (sb.2 it (Ne.symm hne)).trans q, hne⟩, fun b hb => ?_⟩
    · have e1 : ((i + 1 : Nat) : Int) = (i : Int) + 1 := by omega
      rw [e1]; exact he'
    · have hb' : b < s.heap.objs.size := by
        have e' : b = e ∨ b = it := by simpa using hb
        rcases e' with z | z
        · rw [z]; exact hel
        · rw [z]; exact hil
      rw [L2.upd_ne (Nat.ne_of_lt hb')]
      exact (hf b hb).1
  done := by
    intro X hP hw hK hc i pins s σ H E I hf st hg
    subst hP hw hK
    obtain ⟨⟨old, he⟩, hit, hne⟩ := st
    obtain ⟨xs, hq, hx⟩ := hg
    obtain ⟨its, rv, p, hz⟩ := I.tuple hq
    have hp : s.heap.IsTuple a its.toArray := p
    obtain ⟨f0, f1, f2, f3, f4, f5⟩ := hf it (by simp)
    have hl := rv.length
    have hai := apart_it hit hp
    have hne2 : its.toArray[i]? = none := by simp; omega
    unfold pyNext
    have hT : s.TypeIs (.ref e) "enumerate" := ⟨_, he, rfl⟩
    refine wpAny_bind (wpAny_attempt (wpAny_callSpecial?_slot (name := Str.ofString "__next__") hT F.slot_enumerate_next
      (wpAny_call_entry F.slot_enumerate_next hT F.entry_enumerate_next ?_ (F.args_enumerate_next_1 _))))
    show wpAny _ _ (field (.ref e) 2 >>= _) _ _ _
    refine wpAny_bind (wpAny_field he rfl (x := .ref it) rfl ?_)
    refine wpAny_bind (wpAny_nextOf_tuple_end (show X.A.in1.in1.handled = none from I.ok.hd hc) hit hp hne2 fun h' x he' hx' => ?_)
    obtain ⟨o, ho, hc'⟩ := hx'
    refine wpAny_bind (wpAny_isInstance (T := "StopIteration") (b := true) ⟨o, ho, hc'⟩ isSubtype_stop ?_)
    exact wpAny_pure ⟨rfl, I.turned (t' := s.toks) (fun b o hb q => he' b o hb q) f0 f1 f3 f4 f5⟩
  self := fun A i s Q E st h => let ⟨⟨_, he⟩, _⟩ := st; wpAny_pyIter_enum he h
theorem meets_enumerate_new1 {v : Value} {o : Obj} {H : Heap → Prop} (B : Begins v o H) :
    Meets (Builtin.«enumerate.__new__» ⟨[.type "enumerate", v], []⟩) (fun _ R s => H s.heap ∧
      R (.ok (.ret (.ref (s.heap.push o).objs.size))) { s with heap := (s.heap.push o).push { cls := .type "enumerate", data := .fields #[.none, .bool false, .ref s.heap.objs.size, rawInt 0, .none, .none] } }) :=
  .of_wp fun prog w A R s h => by
    obtain ⟨hp, g, d, tk, os⟩ := s; obtain ⟨h1, h⟩ := h
    have hsub := sub_enumerate
    have q1 : ∀ {A' : Around} {E : Value → Shared → Prop} {Q : Value → Shared → Prop}, Q (.ref hp.objs.size) ⟨hp.push o, g, d, tk, os⟩ → wpAny (model prog w) A' (pyIter v) Q E ⟨hp, g, d, tk, os⟩ :=
      fun q => B.iter prog w _ _ ⟨hp, g, d, tk, os⟩ _ h1 q
    wp_walk using q1
    refine wpAny_stack_any fun st => wpAny_pure ?_
    split
    · rename_i c _ _ _ _ _
      cases (c == Value.type "enumerate")
      · wp_walk using q1
        exact ⟨_, rfl, h⟩
      · wp_walk using q1
        exact ⟨_, rfl, h⟩
    · wp_walk using q1
      exact ⟨_, rfl, h⟩
theorem call_enumerate_tup {prog : Program} {w : World} {A : Around} {E : Value → Shared → Prop} {s : Shared} {l : Addr} {items : Array Value} {Q : Value → Shared → Prop} (hL : s.heap.IsTuple l items)
    (h : ∀ h', IsEnum h' (s.heap.objs.size + 1) s.heap.objs.size 0 .none → h'.IsTupleIter s.heap.objs.size l 0 → h'.objs.size = s.heap.objs.size + 2 →
      (∀ b o, s.heap.get? b = some o → h'.get? b = some o) → Q (.ref (s.heap.objs.size + 1)) { s with heap := h' }) :
    wpAny (model prog w) A (call (.type "enumerate") [.ref l]) Q E s := by
  refine callType_new F.called_enumerate (by decide) (F.typeCall_enumerate_1 _) (F.newCall_enumerate_1 _) (fun obj => F.args_object_init_2 obj _) F.entry_enumerate_new
    (meets_enumerate_new1 (begins_tuple l items)) ⟨hL, ?_⟩
  have hz : (s.heap.push { cls := .type "tuple_iterator", data := .fields #[.ref l, .int 0 0] }).objs.size = s.heap.objs.size + 1 := Heap.size_push ..
  show _ ∧ _
  rw [hz]
  have he : IsEnum ((s.heap.push { cls := .type "tuple_iterator", data := .fields #[.ref l, .int 0 0] }).push
      { cls := .type "enumerate", data := .fields #[.none, .bool false, .ref s.heap.objs.size, rawInt 0, .none, .none] }) (s.heap.objs.size + 1) s.heap.objs.size 0 .none := by
    have := Heap.get?_push_size (s.heap.push { cls := .type "tuple_iterator", data := .fields #[.ref l, .int 0 0] })
      (o := { cls := .type "enumerate", data := .fields #[.none, .bool false, .ref s.heap.objs.size, rawInt 0, .none, .none] }) rfl
    rw [hz] at this; exact this
  refine ⟨⟨_, he, rfl⟩, h _ he ⟨_, Heap.get?_push_of_some _ (Heap.get?_push_size _ rfl), rfl, rfl⟩ (by rw [Heap.size_push, hz]) fun b o x => Heap.get?_push_of_some _ (Heap.get?_push_of_some _ x)⟩
def iEnum2 (K : PySem.W.Frag) (ta : TA) : TI := fun σ H R => ta σ H fun vs H1 => ∃ a xs, vs = [.ref a] ∧ ((SqL K H1 a xs ∧ R (Ite K a) H1) ∨ (SqT K H1 a xs ∧ R (IteT K a) H1))
theorem pi_enum2 {X : Cx} {e : Expr} {ta : TA} {p pos tpos : Pos} {elts : List Expr} {kk : Nat} (hg : Gl X "enumerate") (hm : X.mg "enumerate" = none) (ha : PA X [e] ta) (hs : starEach [e] X.env = [(false, eval e X.env)]) :
    PI X (.Tuple elts kk tpos) (.Call (.Name "enumerate" p) [e] [] pos) (iEnum2 X.K ta) := by
  refine ⟨fun pins s σ H R I h => ?_⟩
  refine Call_ (ld_blt I hg hm boot_enumerate (PyProof.Rows.callWith_type1 (thn (ha.run pos pins s σ H _ I h) fun us s1 ⟨vs, H1, I1, r1, q1⟩ => ?_) hs rfl))
  obtain ⟨a, xs, ex, q1⟩ := q1
  subst ex
  cases r1 with
  | cons r rr =>
    cases rr
    cases r
    have fr : ∀ b ∈ [s1.heap.objs.size + 1, s1.heap.objs.size], FpOk X pins H1 b := fun b hb => by
      have e' : b = s1.heap.objs.size + 1 ∨ b = s1.heap.objs.size := by simpa using hb
      have hle : s1.heap.objs.size ≤ b := by
        rcases e' with z | z
        · rw [z]; exact Nat.le_add_right _ _
        · rw [z]; exact Nat.le_refl _
      exact I1.fpOk hle (I1.hok.fresh hle)
    rcases q1 with ⟨hq, q⟩ | ⟨hq, q⟩
    · obtain ⟨its, rv, p', hz⟩ := I1.list hq
      refine call_enumerate_list p'.isList fun h' he hit hsz hk => wpAny_pyIter_enum he ?_
      have I2 : Inv X pins σ H1 { s1 with heap := h' } := I1.kept (t' := s1.toks) hk
      exact ⟨s1.heap.objs.size + 1, [s1.heap.objs.size + 1, s1.heap.objs.size], _, _, H1, rfl, I2, turn_enum a (s1.heap.objs.size + 1) s1.heap.objs.size, ⟨⟨.none, he⟩, hit, Nat.succ_ne_self _⟩, fr, q⟩
    · obtain ⟨its, rv, p', hz⟩ := I1.tuple hq
      refine call_enumerate_tup p' fun h' he hit hsz hk => wpAny_pyIter_enum he ?_
      have I2 : Inv X pins σ H1 { s1 with heap := h' } := I1.kept (t' := s1.toks) hk
      exact ⟨s1.heap.objs.size + 1, [s1.heap.objs.size + 1, s1.heap.objs.size], _, _, H1, rfl, I2, turn_enumT a (s1.heap.objs.size + 1) s1.heap.objs.size, ⟨⟨.none, he⟩, hit, Nat.succ_ne_self _⟩, fr, q⟩
end
end Tr

/-! TL6b: what is walked, by trees. -/
namespace Tr
open PySem PySem.Spec PyProof.Rows L2
section
variable {K : PySem.W.Frag} {cl : Wd} {H0 : Hp} {a b : Addr} {sq sx sy : Sq}
/-- while it is kept, a list stands at a -/
def SrcL (K : PySem.W.Frag) (cl : Wd) (H0 : Hp) (a : Addr) (sq : Sq) : Prop := ∀ H T, Ext K H0 H → HRep K cl H T → sq.keep T → ∃ vs, SqL K H a vs ∧ Reps K H sq.items vs
def SrcT (K : PySem.W.Frag) (cl : Wd) (H0 : Hp) (a : Addr) (sq : Sq) : Prop := ∀ H T, Ext K H0 H → HRep K cl H T → sq.keep T → ∃ vs, SqT K H a vs ∧ Reps K H sq.items vs
theorem src_lst {T : TH} {ds : List D} : SrcL K cl H0 a ⟨ds, fun T' => T' a = some (.lst ds)⟩ := fun H T e R k => by
  obtain ⟨vs, h, r⟩ := R.lst k
  exact ⟨vs, .inl (.inl h), r⟩
theorem src_rol {ds : List D} {vs : List V} (h : RoL K H0 a vs) (r : Reps K H0 ds vs) : SrcL K cl H0 a ⟨ds, fun _ => True⟩ := fun H T e R k => ⟨vs, (e.l _ _ h).1, Reps.mono e _ r⟩
theorem src_tup {ds : List D} {vs : List V} (h : SqT K H0 a vs) (r : Reps K H0 ds vs) : SrcT K cl H0 a ⟨ds, fun _ => True⟩ := fun H T e R k => ⟨vs, e.t _ _ h, Reps.mono e _ r⟩
theorem j_list (s : SrcL K cl H0 a sq) : JOk K cl H0 (Itl K a) sq := by
  refine ⟨fun i H hi g => ?_, fun H g => ?_, fun i H x H' hi g y => ?_⟩
  · obtain ⟨e, T, R, k⟩ := g
    obtain ⟨vs, h, r⟩ := s H T e R k
    obtain ⟨v, h2, _⟩ := r.get (List.getElem?_eq_getElem hi)
    exact ⟨vs, v, h, h2⟩
  · obtain ⟨e, T, R, k⟩ := g
    obtain ⟨vs, h, r⟩ := s H T e R k
    exact ⟨vs, h, Nat.le_of_eq r.len⟩
  · obtain ⟨rfl, y⟩ := y
    obtain ⟨e, T, R, k⟩ := g
    obtain ⟨vs, h, r⟩ := s H' T e R k
    obtain ⟨d, h1, h2⟩ := r.getV (y vs h)
    exact ⟨.refl, fun T h => h, d, h1, h2⟩
theorem j_tup (s : SrcT K cl H0 a sq) : JOk K cl H0 (Itt K a) sq := by
  refine ⟨fun i H hi g => ?_, fun H g => ?_, fun i H x H' hi g y => ?_⟩
  · obtain ⟨e, T, R, k⟩ := g
    obtain ⟨vs, h, r⟩ := s H T e R k
    obtain ⟨v, h2, _⟩ := r.get (List.getElem?_eq_getElem hi)
    exact ⟨vs, v, h, h2⟩
  · obtain ⟨e, T, R, k⟩ := g
    obtain ⟨vs, h, r⟩ := s H T e R k
    exact ⟨vs, h, Nat.le_of_eq r.len⟩
  · obtain ⟨rfl, y⟩ := y
    obtain ⟨e, T, R, k⟩ := g
    obtain ⟨vs, h, r⟩ := s H' T e R k
    obtain ⟨d, h1, h2⟩ := r.getV (y vs h)
    exact ⟨.refl, fun T h => h, d, h1, h2⟩
theorem j_str {x : List Nat} : JOk K cl H0 (Its (stS x)) ⟨x.map fun c => .str [c], fun _ => True⟩ := by
  have hz : (stS x).cps.size = (x.map fun c => D.str [c]).length := by simp [stS]
  refine ⟨fun i H hi g => ?_, fun H g => ?_, fun i H v H' hi g y => ?_⟩
  · show i < (stS x).cps.size
    rw [hz]; exact hi
  · show (stS x).cps.size ≤ _
    exact Nat.le_of_eq hz
  · obtain ⟨rfl, c, hc, e⟩ := y
    subst e
    refine ⟨.refl, fun T h => h, .str [c], ?_, rfl⟩
    have hc' : x[i]? = some c := by simpa [stS] using hc
    simp [hc']
theorem j_range {lo : Int} {n : Nat} : JOk K cl H0 (Itr lo n) ⟨(List.range n).map fun i => .int (lo + (i : Nat)), fun _ => True⟩ := by
  refine ⟨fun i H hi g => ?_, fun H g => ?_, fun i H v H' hi g y => ?_⟩
  · show i < n
    simpa using hi
  · show n ≤ _
    simp
  · obtain ⟨rfl, e⟩ := y
    have hi' : i < n := by simpa using hi
    subst e
    exact ⟨.refl, fun T h => h, .int (lo + (i : Nat)), by simp [hi'], rfl⟩
theorem enumD_get : ∀ (ds : List D) (k i : Nat), (enumD k ds)[i]? = ds[i]?.map fun d => .wtup [.int ((k + i : Nat) : Int), d]
  | [], k, i => by simp [enumD]
  | d :: ds, k, 0 => by simp [enumD]
  | d :: ds, k, i + 1 => by
    simp only [enumD, List.getElem?_cons_succ]
    rw [enumD_get ds (k + 1) i, show k + 1 + i = k + (i + 1) by omega]
theorem enumD_len : ∀ (ds : List D) (k : Nat), (enumD k ds).length = ds.length
  | [], _ => rfl
  | _ :: ds, k => by simp [enumD, enumD_len ds]
theorem zipD_get : ∀ (xs ys : List D) (i : Nat) (x y : D), xs[i]? = some x → ys[i]? = some y → (zipD xs ys)[i]? = some (.wtup [x, y])
  | x :: xs, y :: ys, 0, _, _, h1, h2 => by simp at h1 h2; subst h1 h2; simp [zipD]
  | x :: xs, y :: ys, i + 1, a, b, h1, h2 => by
    simp only [zipD, List.getElem?_cons_succ]
    exact zipD_get xs ys i a b (by simpa using h1) (by simpa using h2)
  | [], _, _, _, _, h1, _ => by simp at h1
  | _ :: _, [], _, _, _, _, h2 => by simp at h2
theorem zipD_len : ∀ (xs ys : List D), (zipD xs ys).length = min xs.length ys.length
  | x :: xs, y :: ys => by simp [zipD, zipD_len xs ys]
  | [], _ => by simp [zipD]
  | _ :: _, [] => by simp [zipD]
theorem rep_pair {H : Hp} {p : Addr} {x y : D} {v w : V} (hp : H p = none) (h1 : Rep K H x v) (h2 : Rep K H y w) : Rep K (L2.upd H p (.tup [v, w])) (.wtup [x, y]) (.ref p) :=
  ⟨p, [v, w], rfl, .inl (.inl L2.upd_same), Reps.cons (Rep.mono (ext_new hp) _ h1) (Reps.cons (Rep.mono (ext_new hp) _ h2) Reps.nil)⟩
theorem j_enumL (s : SrcL K cl H0 a sq) : JOk K cl H0 (Ite K a) ⟨enumD 0 sq.items, sq.keep⟩ := by
  refine ⟨fun i H hi g => ?_, fun H g => ?_, fun i H x H' hi g y => ?_⟩
  · obtain ⟨e, T, R, k⟩ := g
    obtain ⟨vs, h, r⟩ := s H T e R k
    have hi : i < sq.items.length := by simpa [enumD_len] using hi
    obtain ⟨v, h2, _⟩ := r.get (List.getElem?_eq_getElem hi)
    exact ⟨vs, v, h, h2⟩
  · obtain ⟨e, T, R, k⟩ := g
    obtain ⟨vs, h, r⟩ := s H T e R k
    exact ⟨vs, h, by rw [enumD_len]; exact Nat.le_of_eq r.len⟩
  · obtain ⟨p, v, rfl, hp, rfl, y⟩ := y
    obtain ⟨e, T, R, k⟩ := g
    obtain ⟨vs, h, r⟩ := s H T e R k
    obtain ⟨d, h1, h2⟩ := r.getV (y vs h)
    refine ⟨ext_new hp, fun T R => R.skip hp, .wtup [.int (i : Nat), d], ?_, rep_pair hp rfl h2⟩
    show (enumD 0 sq.items)[i]? = _
    rw [enumD_get, h1]; simp
theorem j_enumT (s : SrcT K cl H0 a sq) : JOk K cl H0 (IteT K a) ⟨enumD 0 sq.items, sq.keep⟩ := by
  refine ⟨fun i H hi g => ?_, fun H g => ?_, fun i H x H' hi g y => ?_⟩
  · obtain ⟨e, T, R, k⟩ := g
    obtain ⟨vs, h, r⟩ := s H T e R k
    have hi : i < sq.items.length := by simpa [enumD_len] using hi
    obtain ⟨v, h2, _⟩ := r.get (List.getElem?_eq_getElem hi)
    exact ⟨vs, v, h, h2⟩
  · obtain ⟨e, T, R, k⟩ := g
    obtain ⟨vs, h, r⟩ := s H T e R k
    exact ⟨vs, h, by rw [enumD_len]; exact Nat.le_of_eq r.len⟩
  · obtain ⟨p, v, rfl, hp, rfl, y⟩ := y
    obtain ⟨e, T, R, k⟩ := g
    obtain ⟨vs, h, r⟩ := s H T e R k
    obtain ⟨d, h1, h2⟩ := r.getV (y vs h)
    refine ⟨ext_new hp, fun T R => R.skip hp, .wtup [.int (i : Nat), d], ?_, rep_pair hp rfl h2⟩
    show (enumD 0 sq.items)[i]? = _
    rw [enumD_get, h1]; simp
theorem j_zipL (s : SrcL K cl H0 a sx) (s2 : SrcL K cl H0 b sy) : JOk K cl H0 (Itz K a b) ⟨zipD sx.items sy.items, fun T => sx.keep T ∧ sy.keep T⟩ := by
  refine ⟨fun i H hi g => ?_, fun H g => ?_, fun i H x H' hi g y => ?_⟩
  · obtain ⟨e, T, R, k, k2⟩ := g
    obtain ⟨vs, h, r⟩ := s H T e R k
    obtain ⟨ws, h', r'⟩ := s2 H T e R k2
    have hi : i < min sx.items.length sy.items.length := by simpa [zipD_len] using hi
    obtain ⟨v, q2, _⟩ := r.get (List.getElem?_eq_getElem (Nat.lt_of_lt_of_le hi (Nat.min_le_left _ _)))
    obtain ⟨w, q3, _⟩ := r'.get (List.getElem?_eq_getElem (Nat.lt_of_lt_of_le hi (Nat.min_le_right _ _)))
    exact ⟨vs, ws, v, w, h, h', q2, q3⟩
  · obtain ⟨e, T, R, k, k2⟩ := g
    obtain ⟨vs, h, r⟩ := s H T e R k
    obtain ⟨ws, h', r'⟩ := s2 H T e R k2
    refine ⟨vs, ws, h, h', ?_⟩
    have e1 := r.len
    have e2 := r'.len
    show vs.length ≤ (zipD _ _).length ∨ ws.length ≤ (zipD _ _).length
    rw [zipD_len]
    omega
  · obtain ⟨p, v, w, rfl, hp, rfl, y, y2⟩ := y
    obtain ⟨e, T, R, k, k2⟩ := g
    obtain ⟨vs, h, r⟩ := s H T e R k
    obtain ⟨ws, h', r'⟩ := s2 H T e R k2
    obtain ⟨d, q1, q2⟩ := r.getV (y vs h)
    obtain ⟨d', q3, q4⟩ := r'.getV (y2 ws h')
    exact ⟨ext_new hp, fun T R => R.skip hp, .wtup [d, d'], zipD_get _ _ _ _ _ q1 q3, rep_pair hp q2 q4⟩
theorem j_zipT (s : SrcT K cl H0 a sx) (s2 : SrcT K cl H0 b sy) : JOk K cl H0 (RZ.ItzT K a b) ⟨zipD sx.items sy.items, fun T => sx.keep T ∧ sy.keep T⟩ := by
  refine ⟨fun i H hi g => ?_, fun H g => ?_, fun i H x H' hi g y => ?_⟩
  · obtain ⟨e, T, R, k, k2⟩ := g
    obtain ⟨vs, h, r⟩ := s H T e R k
    obtain ⟨ws, h', r'⟩ := s2 H T e R k2
    have hi : i < min sx.items.length sy.items.length := by simpa [zipD_len] using hi
    obtain ⟨v, q2, _⟩ := r.get (List.getElem?_eq_getElem (Nat.lt_of_lt_of_le hi (Nat.min_le_left _ _)))
    obtain ⟨w, q3, _⟩ := r'.get (List.getElem?_eq_getElem (Nat.lt_of_lt_of_le hi (Nat.min_le_right _ _)))
    exact ⟨vs, ws, v, w, h, h', q2, q3⟩
  · obtain ⟨e, T, R, k, k2⟩ := g
    obtain ⟨vs, h, r⟩ := s H T e R k
    obtain ⟨ws, h', r'⟩ := s2 H T e R k2
    refine ⟨vs, ws, h, h', ?_⟩
    have e1 := r.len
    have e2 := r'.len
    show vs.length ≤ (zipD _ _).length ∨ ws.length ≤ (zipD _ _).length
    rw [zipD_len]
    omega
  · obtain ⟨p, v, w, rfl, hp, rfl, y, y2⟩ := y
    obtain ⟨e, T, R, k, k2⟩ := g
    obtain ⟨vs, h, r⟩ := s H T e R k
    obtain ⟨ws, h', r'⟩ := s2 H T e R k2
    obtain ⟨d, q1, q2⟩ := r.getV (y vs h)
    obtain ⟨d', q3, q4⟩ := r'.getV (y2 ws h')
    exact ⟨ext_new hp, fun T R => R.skip hp, .wtup [d, d'], zipD_get _ _ _ _ _ q1 q3, rep_pair hp q2 q4⟩
/-- the keys of a locked dict -/
theorem j_keysN {o : Obj} {kvs : List (Option DK × D)} : JOk K cl H0 (Itn a o (kvs.map fun kv => kv.1.map kdk)) ⟨kvs.map fun kv => nkD kv.1, fun T => T a = some (.dnk (some o) kvs)⟩ := by
  have lk : ∀ {H : Hp} {T : TH}, HRep K cl H T → T a = some (.dnk (some o) kvs) → LkAt H a o := fun R k => by
    obtain ⟨φ, ws, e, r, f⟩ := R a _ k
    exact lkAt (cl := cl) ⟨φ, e, f⟩
  refine ⟨fun i H hi g => ?_, fun H g => ?_, fun i H x H' hi g y => ?_⟩
  · obtain ⟨e, T, R, k⟩ := g
    exact ⟨lk R k, by simpa using hi⟩
  · obtain ⟨e, T, R, k⟩ := g
    exact ⟨lk R k, by simp⟩
  · obtain ⟨rfl, k, hk, e⟩ := y
    subst e
    rw [List.getElem?_map, Option.map_eq_some_iff] at hk
    obtain ⟨kv, hk, rfl⟩ := hk
    exact ⟨.refl, fun T h => h, nkD kv.1, by simp [hk], nkD_rep _⟩
/-- what an iterable is, by its tree -/
theorem sq2_src {T : TH} {d : D} {v : V} {P : Sq → Prop} (R : HRep K cl H0 T) (r : Rep K H0 d v) (h : sqOf2 d T P) : ∃ a sq, v = .ref a ∧ P sq ∧ sq.keep T ∧
    ((kd d = false ∧ SrcL K cl H0 a sq ∧ ∃ xs, SqL K H0 a xs) ∨ (kd d = true ∧ SrcT K cl H0 a sq ∧ ∃ xs, SqT K H0 a xs)) := by
  cases d with
  | tup ds => obtain ⟨a, vs, rfl, h1, h2⟩ := r; exact ⟨a, _, rfl, h, True.intro, .inr ⟨rfl, src_tup h1.sq h2, vs, h1.sq⟩⟩
  | rol ds => obtain ⟨a, vs, rfl, h1, h2⟩ := r; exact ⟨a, _, rfl, h, True.intro, .inl ⟨rfl, src_rol h1 h2, vs, h1.1⟩⟩
  | ref a =>
    cases q : T a with
    | none => unfold sqOf2 at h; simp only [q] at h
    | some o =>
      cases o with
      | lst ds =>
        unfold sqOf2 at h; simp only [q] at h
        obtain ⟨vs, hv, rs⟩ := R.lst q
        exact ⟨a, _, r, h, q, .inl ⟨rfl, src_lst (T := T), vs, .inl (.inl hv)⟩⟩
      | dic _ => unfold sqOf2 at h; simp only [q] at h
      | ins _ _ => unfold sqOf2 at h; simp only [q] at h
      | dnk _ _ => unfold sqOf2 at h; simp only [q] at h
  | _ => cases h
theorem sq_src {T : TH} {d : D} {v : V} {P : Sq → Prop} (R : HRep K cl H0 T) (r : Rep K H0 d v) (h : sqOf d T P) :
    (∃ x, d = .str x ∧ v = .str (stS x) ∧ P ⟨x.map fun c => .str [c], fun _ => True⟩) ∨ ∃ a sq, v = .ref a ∧ P sq ∧ sq.keep T ∧
    ((SrcL K cl H0 a sq ∧ ∃ xs, SqL K H0 a xs) ∨ (SrcT K cl H0 a sq ∧ ∃ xs, SqT K H0 a xs)) := by
  have f : sqOf2 d T P → ∃ a sq, v = .ref a ∧ P sq ∧ sq.keep T ∧ ((SrcL K cl H0 a sq ∧ ∃ xs, SqL K H0 a xs) ∨ (SrcT K cl H0 a sq ∧ ∃ xs, SqT K H0 a xs)) := fun h => by
    obtain ⟨a, sq, e, p, k, z⟩ := sq2_src R r h
    exact ⟨a, sq, e, p, k, z.elim (fun q => .inl q.2) fun q => .inr q.2⟩
  cases d with
  | str x => exact .inl ⟨x, rfl, r, h⟩
  | tup ds => exact .inr (f h)
  | rol ds => exact .inr (f h)
  | ref a => exact .inr (f h)
  | _ => cases h
end
end Tr

/-! TL7: each form of an expression keeps its reading. -/
namespace Tr
open PySem PySem.Spec PyProof.Rows L2
section
variable {X : Cx} {W : WX} {sc : Scope} {N : List Str} {tb : Tb} {C : Ctx} {cl : Wd} {L r : Nat}
abbrev LE (X : Cx) (W : WX) (C : Ctx) (cl : Wd) (r : Nat) (e : Ex) : TE := lE X.K cl W (rdE C r e)
abbrev LT (X : Cx) (W : WX) (C : Ctx) (cl : Wd) (r : Nat) (e : Ex) : TT := lT X.K cl W (rdT C r e)
abbrev LA (X : Cx) (W : WX) (C : Ctx) (cl : Wd) (r : Nat) (e : Exs) : TA := lA X.K cl W (exsLen e) (rdEs C r e)
abbrev LO (X : Cx) (W : WX) (C : Ctx) (cl : Wd) (r : Nat) (e : Op) : L2.TO := lO X.K cl W (rdO C r e)
abbrev LI (X : Cx) (W : WX) (C : Ctx) (cl : Wd) (r : Nat) (e : Ito) : TI := lI X.K cl W (rdI C r e)
theorem x0 {K : PySem.W.Frag} {σ : L2.St} {H : Hp} {w : WX} : XOk K cl w σ H nox := fun _ _ _ _ _ h => h.elim
theorem c_var (S : Sd X W sc N tb C cl L) {i : Nat} {y : Str} {pos : Pos} (h : (decide (N[i]? = some y) && vis sc y && plainN y) = true) : PE X (.Name y pos) (LE X W C cl r (.var i)) := by
  obtain ⟨h1, h3⟩ := band h
  obtain ⟨h1, h2⟩ := band h1
  obtain ⟨p1, p2, p3⟩ := plain_of h3
  refine PE.imp (pe_var (ix_get S (of_decide_eq_true h1)) (by rw [S.hsc]; exact vis_of h2) p1 p2) fun σ H Q q => ?_
  obtain ⟨τ, T, q, x, co, R, ⟨d, e, h⟩, k, w⟩ := q
  obtain ⟨v, e', rd⟩ := co.2 _ _ e
  exact ⟨v, e', k.here R rd h⟩
theorem c_con {d : D} {e : Expr} (h : mCon d e = true) : PE X e (LE X W C cl r (.con d)) := by
  obtain ⟨v, hr, hp⟩ := con_ok h
  refine PE.imp hp fun σ H Q q => ?_
  obtain ⟨τ, T, q, x, co, R, h, k, w⟩ := q
  exact k.here R (hr _ _) h
theorem c_glb (S : Sd X W sc N tb C cl L) {j : Nat} {y : Str} {pos : Pos} (h : (decide (tb.gl j = some y) && gls sc y && plainN y) = true) : PE X (.Name y pos) (LE X W C cl r (.glb j)) := by
  obtain ⟨h1, h3⟩ := band h
  obtain ⟨h1, h2⟩ := band h1
  obtain ⟨u, v, hm, rv, hr⟩ := S.gl _ _ (of_decide_eq_true h1)
  refine PE.imp (pe_glob (gls_of S h2) hm rv (plain_of h3).1) fun σ H Q q => ?_
  obtain ⟨τ, T, q, x, co, R, h, k, w⟩ := q
  exact k.here R (hr _) h
theorem c_nil : PA X [] (LA X W C cl r .nil) := by
  refine PA.imp pa_nil fun σ H Q q => ?_
  obtain ⟨τ, T, q, x, co, R, h, k, w⟩ := q
  exact k [] [] H T .refl R Reps.nil rfl h
theorem c_cons {e : Ex} {es : Exs} {y : Expr} {ys : List Expr} (he : PE X y (LE X W C cl r e)) (hs : PA X ys (LA X W C cl r es)) (hn : starEach (y :: ys) X.env = (false, eval y X.env) :: starEach ys X.env) :
    PA X (y :: ys) (LA X W C cl r (.cons e es)) := by
  refine PA.imp (pa_cons he hs hn) fun σ H Q q => ?_
  obtain ⟨τ, T, q, x, co, R, h, k, w⟩ := q
  refine ⟨τ, T, _, x, co, R, h, fun d v H' T' e' R' rd hq => ?_, w⟩
  exact ⟨τ, T', _, x, co.mono e', R', hq, fun ds vs H2 T2 e2 R2 rs hl hq2 => k (d :: ds) (v :: vs) H2 T2 (e'.trans e2) R2 (Reps.cons (rd.mono e2) rs) (by simp [hl, exsLen]) hq2, w.mono e'⟩
theorem c_tup {es : Exs} {ys : List Expr} {kk : Nat} {pos : Pos} (hs : PA X ys (LA X W C cl r es)) : PE X (.Tuple ys kk pos) (LE X W C cl r (.tup es)) := by
  refine PE.imp (pe_tupF hs) fun σ H Q q => ?_
  obtain ⟨τ, T, q, x, co, R, h, k, w⟩ := q
  exact ⟨τ, T, _, x, co, R, h, fun ds vs H2 T2 e2 R2 rs hl ⟨hz, hq⟩ => ⟨szl (by rw [rs.len]; exact hz), (k.mono e2).tup R2 rs hq⟩, w⟩
theorem c_lst {es : Exs} {ys : List Expr} {pos : Pos} (hs : PA X ys (LA X W C cl r es)) : PE X (.List ys pos) (LE X W C cl r (.lst es)) := by
  refine PE.imp (pe_lst hs) fun σ H Q q => ?_
  obtain ⟨τ, T, q, x, co, R, h, k, w⟩ := q
  exact ⟨τ, T, _, x, co, R, h, fun ds vs H2 T2 e2 R2 rs hl ⟨hz, hq⟩ => ⟨szl (by rw [rs.len]; exact hz), fun p hp => (k.mono e2).lst R2 rs hq hp⟩, w⟩
theorem c_dcl {ks vs : Exs} {pos : Pos} : PE X (.Dict [] [] pos) (LE X W C cl r (.dcl ks vs)) := by
  refine PE.imp pe_dnewK fun σ H Q q => ?_
  obtain ⟨τ, T, q, x, co, R, h, k, w⟩ := q
  intro p hp
  refine k (.ref p) _ _ _ (ext_new hp) (R.set (o := .dic []) (ext_new hp) ⟨[], L2.upd_same, rfl⟩) rfl (h p (R.free hp))
theorem c_dcn {pos : Pos} : PE X (.Dict [] [] pos) (LE X W C cl r .dcn) := by
  refine PE.imp (pe_dnewN (cl := cl)) fun σ H Q q => ?_
  obtain ⟨τ, T, q, x, co, R, h, k, w⟩ := q
  intro p hp
  refine k (.ref p) _ _ _ (ext_new hp) (R.set (o := .dnk none []) (ext_new hp) ⟨_, [], L2.upd_same, rfl, fun _ h => h⟩) rfl (h p (R.free hp))
theorem c_bin {o : Bin} {a b : Ex} {l m : Expr} {op : Operator} {pos : Pos} (ho : op = opB o) (ha : PE X l (LE X W C cl r a)) (hb : PE X m (LE X W C cl r b)) : PE X (.BinOp l op m pos) (LE X W C cl r (.bin o a b)) := by
  subst ho
  refine PE.imp (pe_op (op_ok (cl := cl) o) ha hb) fun σ H Q q => ?_
  obtain ⟨τ, T, q, x, co, R, h, k, w⟩ := q
  exact ⟨τ, T, _, x, co, R, h, fun d v H' T' e R' rd hq => ⟨τ, T', _, x, co.mono e, R', hq, fun d2 v2 H2 T2 e2 R2 rd2 hq2 => ⟨d, d2, T2, q, rd.mono e2, rd2, R2, hq2, (k.mono e).mono e2⟩, w.mono e⟩, w⟩
theorem c_neg {a : Ex} {l : Expr} {pos : Pos} (ha : PE X l (LE X W C cl r a)) : PE X (.UnaryOp .USub l pos) (LE X W C cl r (.neg a)) := by
  refine PE.imp (pe_un un_neg ha) fun σ H Q q => ?_
  obtain ⟨τ, T, q, x, co, R, h, k, w⟩ := q
  refine ⟨τ, T, _, x, co, R, h, fun d v H' T' e R' rd ⟨i, ei, hq⟩ => ?_, w⟩
  subst ei
  exact ⟨i, rd, k (.int (-i)) _ H' T' e R' rfl hq⟩
def bq (q : Bool → TH → Prop) : Kd := fun z T => match z with | .bl b => q b T | _ => False
theorem bq_inv {q : Bool → TH → Prop} {z : D} {T : TH} (h : bq q z T) : ∃ b, z = .bl b ∧ q b T := by
  cases z with
  | bl b => exact ⟨b, rfl, h⟩
  | _ => cases h
theorem c_cmp (S : Sd X W sc N tb C cl L) {o : Cm} {a b : Ex} {l m : Expr} {op : CmpOp} {pos : Pos} (ho : op = opC o) (hm : noSet m = true) (ha : PE X l (LE X W C cl r a)) (hb : PE X m (LE X W C cl r b)) : PE X (.Compare l [op] [m] pos) (LE X W C cl r (.cmp o a b)) := by
  subst ho
  refine PE.imp (pe_cmpR (cm_ok (cl := cl) S.hu o) ha hb (noSet_of hm _)) fun σ H Q q => ?_
  obtain ⟨τ, T, q, x, co, R, h, k, w⟩ := q
  exact ⟨τ, T, _, x, co, R, h, fun d v H' T' e R' rd hq => ⟨τ, T', _, x, co.mono e, R', hq, fun d2 v2 H2 T2 e2 R2 rd2 hq2 => ⟨d, d2, T2, q, rd.mono e2, rd2, R2, hq2, (k.mono e).mono e2⟩, w.mono e⟩, w⟩
theorem t_cmp (S : Sd X W sc N tb C cl L) {o : Cm} {a b : Ex} {l m : Expr} {op : CmpOp} {pos : Pos} (ho : op = opC o) (hm : noSet m = true) (ha : PE X l (LE X W C cl r a)) (hb : PE X m (LE X W C cl r b)) : PT X (.Compare l [op] [m] pos) (LT X W C cl r (.cmp o a b)) := by
  subst ho
  refine PT.imp (pt_cmpR (cm_ok (cl := cl) S.hu o) ha hb (noSet_of hm _)) fun σ H Q q => ?_
  obtain ⟨τ, T, q, x, co, R, h, k, w⟩ := q
  refine ⟨τ, T, _, x, co, R, h, fun d v H' T' e R' rd hq => ⟨τ, T', _, x, co.mono e, R', hq, fun d2 v2 H2 T2 e2 R2 rd2 hq2 => ?_, w.mono e⟩, w⟩
  exact ⟨d, d2, T2, bq q, rd.mono e2, rd2, R2, hq2, fun z vz H3 T3 e3 R3 rz hb => by
    obtain ⟨b, ez, hb⟩ := bq_inv hb
    subst ez; exact ⟨b, rz, k b H3 T3 ((e.trans e2).trans e3) R3 hb⟩⟩
theorem c_chn (S : Sd X W sc N tb C cl L) {o o' : Cm} {a b c : Ex} {l m n : Expr} {op op' : CmpOp} {pos : Pos} (ho : op = opC o) (ho' : op' = opC o') (hm : noSet n = true) (ha : PE X l (LE X W C cl r a)) (hb : PE X m (LE X W C cl r b)) (hc : PE X n (LE X W C cl r c)) :
    PE X (.Compare l [op, op'] [m, n] pos) (LE X W C cl r (.chn o o' a b c)) := by
  subst ho ho'
  refine PE.imp (pe_chain (cm_ok (cl := cl) S.hu o) (cm_ok (cl := cl) S.hu o') ha hb hc (noSet_of hm _)) fun σ H Q q => ?_
  obtain ⟨τ, T, q, x, co, R, h, k, w⟩ := q
  refine ⟨τ, T, _, x, co, R, h, fun d v H' T' e R' rd hq => ⟨τ, T', _, x, co.mono e, R', hq, fun d2 v2 H2 T2 e2 R2 rd2 hq2 => ?_, w.mono e⟩, w⟩
  refine ⟨d, d2, T2, bq fun k T2 => if k = true then rdE C r c x τ T2 fun z T3 => cmpR o' d2 z T3 fun k => q (.bl k) T3 else q (.bl false) T2, rd.mono e2, rd2, R2, hq2, fun z vz H3 T3 e3 R3 rz hb => ?_⟩
  obtain ⟨b, ez, hb⟩ := bq_inv hb
  subst ez
  refine ⟨b, rz, ?_⟩
  cases b with
  | false => exact (((k.mono e).mono e2).mono e3).here R3 (d := .bl false) rfl hb
  | true => exact ⟨τ, T3, _, x, ((co.mono e).mono e2).mono e3, R3, hb, fun d4 v4 H4 T4 e4 R4 rd4 hq4 => ⟨d2, d4, T4, q, (rd2.mono e3).mono e4, rd4, R4, hq4, (((k.mono e).mono e2).mono e3).mono e4⟩, ((w.mono e).mono e2).mono e3⟩
theorem t_chn (S : Sd X W sc N tb C cl L) {o o' : Cm} {a b c : Ex} {l m n : Expr} {op op' : CmpOp} {pos : Pos} (ho : op = opC o) (ho' : op' = opC o') (hm : noSet n = true) (ha : PE X l (LE X W C cl r a)) (hb : PE X m (LE X W C cl r b)) (hc : PE X n (LE X W C cl r c)) :
    PT X (.Compare l [op, op'] [m, n] pos) (LT X W C cl r (.chn o o' a b c)) := by
  subst ho ho'
  refine PT.imp (pt_chain (cm_ok (cl := cl) S.hu o) (cm_ok (cl := cl) S.hu o') ha hb hc (noSet_of hm _)) fun σ H Q q => ?_
  obtain ⟨τ, T, q, x, co, R, h, k, w⟩ := q
  refine ⟨τ, T, _, x, co, R, h, fun d v H' T' e R' rd hq => ⟨τ, T', _, x, co.mono e, R', hq, fun d2 v2 H2 T2 e2 R2 rd2 hq2 => ?_, w.mono e⟩, w⟩
  refine ⟨d, d2, T2, bq fun k T2 => if k = true then rdE C r c x τ T2 fun z T3 => cmpR o' d2 z T3 fun k => q k T3 else q false T2, rd.mono e2, rd2, R2, hq2, fun z vz H3 T3 e3 R3 rz hb => ?_⟩
  obtain ⟨b, ez, hb⟩ := bq_inv hb
  subst ez
  refine ⟨b, rz, ?_⟩
  cases b with
  | false => exact ⟨false, rfl, k false H3 T3 ((e.trans e2).trans e3) R3 hb⟩
  | true => exact ⟨τ, T3, _, x, ((co.mono e).mono e2).mono e3, R3, hb, fun d4 v4 H4 T4 e4 R4 rd4 hq4 => ⟨d2, d4, T4, bq q, (rd2.mono e3).mono e4, rd4, R4, hq4, fun z vz H5 T5 e5 R5 rz hb => by
      obtain ⟨b, ez, hb⟩ := bq_inv hb
      subst ez; exact ⟨b, rz, k b H5 T5 ((((e.trans e2).trans e3).trans e4).trans e5) R5 hb⟩⟩, ((w.mono e).mono e2).mono e3⟩
theorem c_and {a b : Ex} {l m : Expr} {rest : List Expr} {pos : Pos} (ha : PE X l (LE X W C cl r a)) (hb : PE X (.BoolOp .And (m :: rest) pos) (LE X W C cl r b)) : PE X (.BoolOp .And (l :: m :: rest) pos) (LE X W C cl r (.and_ a b)) := by
  refine PE.imp (pe_andT ha hb) fun σ H Q q => ?_
  obtain ⟨τ, T, q, x, co, R, h, k, w⟩ := q
  refine ⟨τ, T, _, x, co, R, h, fun d v H' T' e R' rd hq => ?_, w⟩
  obtain ⟨b, tv, hb⟩ := tru_rep R' rd hq
  refine ⟨b, tv, ?_⟩
  cases b with
  | true => exact ⟨τ, T', q, x, co.mono e, R', hb, k.mono e, w.mono e⟩
  | false => exact k d v H' T' e R' rd hb
theorem c_or {a b : Ex} {l m : Expr} {rest : List Expr} {pos : Pos} (ha : PE X l (LE X W C cl r a)) (hb : PE X (.BoolOp .Or (m :: rest) pos) (LE X W C cl r b)) : PE X (.BoolOp .Or (l :: m :: rest) pos) (LE X W C cl r (.or_ a b)) := by
  refine PE.imp (pe_orT ha hb) fun σ H Q q => ?_
  obtain ⟨τ, T, q, x, co, R, h, k, w⟩ := q
  refine ⟨τ, T, _, x, co, R, h, fun d v H' T' e R' rd hq => ?_, w⟩
  obtain ⟨b, tv, hb⟩ := tru_rep R' rd hq
  refine ⟨b, tv, ?_⟩
  cases b with
  | false => exact ⟨τ, T', q, x, co.mono e, R', hb, k.mono e, w.mono e⟩
  | true => exact k d v H' T' e R' rd hb
theorem t_and {a b : Ex} {l m : Expr} {rest : List Expr} {pos : Pos} (ha : PT X l (LT X W C cl r a)) (hb : PW X (.BoolOp .And (m :: rest) pos) (LT X W C cl r b)) : PW X (.BoolOp .And (l :: m :: rest) pos) (LT X W C cl r (.and_ a b)) := by
  refine PW.imp (pw_and ha hb) fun σ H Q q => ?_
  obtain ⟨τ, T, q, x, co, R, h, k, w⟩ := q
  refine ⟨τ, T, _, x, co, R, h, fun b H' T' e R' hq => ?_, w⟩
  cases b with
  | true => exact ⟨τ, T', q, x, co.mono e, R', hq, fun b H2 T2 e2 => k b H2 T2 (e.trans e2), w.mono e⟩
  | false => exact k false H' T' e R' hq
theorem t_or {a b : Ex} {l m : Expr} {rest : List Expr} {pos : Pos} (ha : PT X l (LT X W C cl r a)) (hb : PW X (.BoolOp .Or (m :: rest) pos) (LT X W C cl r b)) : PW X (.BoolOp .Or (l :: m :: rest) pos) (LT X W C cl r (.or_ a b)) := by
  refine PW.imp (pw_or ha hb) fun σ H Q q => ?_
  obtain ⟨τ, T, q, x, co, R, h, k, w⟩ := q
  refine ⟨τ, T, _, x, co, R, h, fun b H' T' e R' hq => ?_, w⟩
  cases b with
  | false => exact ⟨τ, T', q, x, co.mono e, R', hq, fun b H2 T2 e2 => k b H2 T2 (e.trans e2), w.mono e⟩
  | true => exact k true H' T' e R' hq
theorem c_not {a : Ex} {l : Expr} {pos : Pos} (ha : PE X l (LE X W C cl r a)) : PE X (.UnaryOp .Not l pos) (LE X W C cl r (.not_ a)) := by
  refine PE.imp (pe_notT ha) fun σ H Q q => ?_
  obtain ⟨τ, T, q, x, co, R, h, k, w⟩ := q
  refine ⟨τ, T, _, x, co, R, h, fun d v H' T' e R' rd hq => ?_, w⟩
  obtain ⟨b, tv, hb⟩ := tru_rep R' rd hq
  exact ⟨b, tv, k (.bl (!b)) _ H' T' e R' rfl hb⟩
theorem t_not {a : Ex} {l : Expr} {pos : Pos} (ha : PT X l (LT X W C cl r a)) : PT X (.UnaryOp .Not l pos) (LT X W C cl r (.not_ a)) := by
  refine PT.imp (pt_not ha) fun σ H Q q => ?_
  obtain ⟨τ, T, q, x, co, R, h, k, w⟩ := q
  exact ⟨τ, T, _, x, co, R, h, fun b H' T' e R' hq => k (!b) H' T' e R' hq, w⟩
theorem c_ite {c a b : Ex} {t l m : Expr} {pos : Pos} (hc : PT X t (LT X W C cl r c)) (ha : PE X l (LE X W C cl r a)) (hb : PE X m (LE X W C cl r b)) : PE X (.IfExp t l m pos) (LE X W C cl r (.ite c a b)) := by
  refine PE.imp (pe_ifExp hc ha hb) fun σ H Q q => ?_
  obtain ⟨τ, T, q, x, co, R, h, k, w⟩ := q
  refine ⟨τ, T, _, x, co, R, h, fun b H' T' e R' hq => ?_, w⟩
  cases b with
  | true => exact ⟨τ, T', q, x, co.mono e, R', hq, k.mono e, w.mono e⟩
  | false => exact ⟨τ, T', q, x, co.mono e, R', hq, k.mono e, w.mono e⟩
theorem c_ix (S : Sd X W sc N tb C cl L) {a b : Ex} {l m : Expr} {pos : Pos} (hm : noSlice m = true) (ha : PE X l (LE X W C cl r a)) (hb : PE X m (LE X W C cl r b)) : PE X (.Subscript l m pos) (LE X W C cl r (.ix a b)) := by
  refine PE.imp (pe_ix (ix_ok (cl := cl) S.hu S.gh) ha hb (noSlice_of hm)) fun σ H Q q => ?_
  obtain ⟨τ, T, q, x, co, R, h, k, w⟩ := q
  exact ⟨τ, T, _, x, co, R, h, fun d v H' T' e R' rd hq => ⟨τ, T', _, x, co.mono e, R', hq, fun d2 v2 H2 T2 e2 R2 rd2 hq2 => ⟨d, d2, T2, q, rd.mono e2, rd2, R2, hq2, (k.mono e).mono e2⟩, w.mono e⟩, w⟩
theorem c_no : PO X none (LO X W C cl r .no) := by
  refine PO.imp po_none fun σ H Q q => ?_
  obtain ⟨τ, T, q, x, co, R, h, k, w⟩ := q
  exact k none H T .refl R h
theorem c_so {a : Ex} {l : Expr} (ha : PE X l (LE X W C cl r a)) : PO X (some l) (LO X W C cl r (.so a)) := by
  refine PO.imp (po_some ha) fun σ H Q q => ?_
  obtain ⟨τ, T, q, x, co, R, h, k, w⟩ := q
  refine ⟨τ, T, _, x, co, R, h, fun d v H' T' e R' rd ⟨i, ei, hq⟩ => ?_, w⟩
  subst ei
  exact ⟨i, rd, k (some i) H' T' e R' hq⟩
theorem c_sl {a : Ex} {lo hi : Op} {l : Expr} {x y : Option Expr} {p2 pos : Pos} (ha : PE X l (LE X W C cl r a)) (hl : PO X x (LO X W C cl r lo)) (hh : PO X y (LO X W C cl r hi)) : PE X (.Subscript l (.Slice x y none p2) pos) (LE X W C cl r (.sl a lo hi)) := by
  refine PE.imp (pe_slice (sl_ok (cl := cl)) ha hl hh) fun σ H Q q => ?_
  obtain ⟨τ, T, q, x, co, R, h, k, w⟩ := q
  exact ⟨τ, T, _, x, co, R, h, fun d v H' T' e R' rd hq => ⟨τ, T', _, x, co.mono e, R', hq, fun i H2 T2 e2 R2 hq2 => ⟨τ, T2, _, x, (co.mono e).mono e2, R2, hq2, fun j H3 T3 e3 R3 hq3 =>
    ⟨d, T3, q, (rd.mono e2).mono e3, R3, hq3, ((k.mono e).mono e2).mono e3⟩, (w.mono e).mono e2⟩, w.mono e⟩, w⟩
/-! ### calls -/
theorem pln_of {env : PySem.Env} {pos : Pos} : ∀ {es : Exs} {ys : List Expr}, mEs tb N sc es ys = true → (backTo pos (starEach ys env)).any (·.1) = false ∧ (backTo pos (starEach ys env)).all (fun x => !x.1) = true ∧ ys.length = exsLen es
  | .nil, [], _ => ⟨rfl, rfl, rfl⟩
  | .nil, _ :: _, h => by cases h
  | .cons e es, [], h => by cases h
  | .cons e es, y :: ys, h => by
    obtain ⟨h1, h3⟩ := band (show (_ && _) = true from h)
    obtain ⟨h1, h2⟩ := band h1
    rw [noStar_of h1 ys env]
    obtain ⟨a, b, c⟩ := pln_of (es := es) (env := env) (pos := pos) h3
    exact ⟨by simpa [backTo] using a, by simpa [backTo] using b, by simp [exsLen, c]⟩
theorem sp_of {σ : L2.St} {H H' : Hp} {S : Spec} {n : Nat} {ds : List D} {vs : List V} {T : TH} {q : Kd} {Q : VK} {x : XE} (hl : ds.length = n) (R : HRep X.K cl H T) (rs : Reps X.K H ds vs) {ρ : Nat} (hr : ρ + 1 < L) (hs : S.sp ρ ds T q x) (k : KOk X.K cl H q Q) (w : XOk X.K cl W σ H x) :
    lSp X.K cl S L n vs H Q (WE W σ) := ⟨rs.len.trans hl, ds, T, q, x, ρ, rs, R, hr, hs, k, w⟩
theorem c_call (S : Sd X W sc N tb C cl L) (hL : r < L) {kk : Nat} {es : Exs} {y : Str} {ys : List Expr} {p pos : Pos} (h : (decide (tb.fn kk = some (y, exsLen es)) && gls sc y && plainN y) = true) (hm : mEs tb N sc es ys = true) (ha : PA X ys (LA X W C cl r es)) :
    PE X (.Call (.Name y p) ys [] pos) (LE X W C cl r (.call kk es)) := by
  obtain ⟨h1, h3⟩ := band h
  obtain ⟨h1, h2⟩ := band h1
  obtain ⟨f, fd, ps, F, mg, hk, hb⟩ := S.fn _ _ _ (of_decide_eq_true h1)
  have tr : ∀ σ H Q, LE X W C cl r (.call kk es) σ H Q → tCallS (lSp X.K cl (C.G kk) L (exsLen es)) (WE W) (LA X W C cl r es) σ H Q := fun σ H Q q => by
    obtain ⟨τ, T, q, x, co, R, h, k, w⟩ := q
    exact ⟨τ, T, _, x, co, R, h, fun ds vs H' T' e R' rs hl ⟨ρ, hr, hs⟩ => sp_of (H' := H') hl R' rs (by omega) hs (k.mono e) (w.mono e), w⟩
  cases es with
  | nil =>
    cases ys with
    | cons _ _ => cases hm
    | nil =>
      refine PE.imp (pe_call0S F S.room (gls_of S h2) mg hk hb (fun σ => passAt S.tk σ) (plain_of h3).1) fun σ H Q q => ?_
      obtain ⟨τ, T, q, x, co, R, ⟨ρ, hr, hs⟩, k, w⟩ := q
      exact sp_of (H' := H) rfl R Reps.nil (by omega) hs k w
  | cons e es =>
    cases ys with
    | nil => cases hm
    | cons y ys =>
      have hn := (band (band (show (_ && _) = true from hm)).1).1
      exact PE.imp (pe_callS F S.room (gls_of S h2) mg hk hb (fun σ => passAt S.tk σ) ha (plain_of h3).1 (noStar_of hn _ _) (pln_of (band (show (_ && _) = true from hm)).2).1) tr
/-- a written dict's item -/
def rIxKd (K : PySem.W.Frag) (d : Addr) : R2 := fun x y H Q => ∃ (z : Str) (u0 : Value) (v0 : V), x = .ref d ∧ y = .str z ∧ PySem.W.nsIn K d z = some (some u0) ∧ RelV v0 u0 ∧ Q v0 H
theorem ix_kd {d : Addr} {es : Array DictEntry} {n : Nat} (D : KDict X.K X.w d es n) : IxR X (rIxKd X.K d) := by
  intro value slice pins s σ H x y v u Q I rx ry h hs
  have h' := h
  obtain ⟨z, u0, v0, rfl, rfl, g, rv, q⟩ := h
  cases rx
  have hT := kd_type D I
  unfold subscriptTail
  refine wpAny_bind ?_
  rw [getitemInPython_of_ne hT.not_modules]
  refine wpAny_bind (wpAny_specialOf hT PySem.F.slot_dict_getitem.lookup ?_)
  have fin : wpAny (model X.prog X.w) X.A (subscripted slice false (.ref d) u) (fun r s₃ => wpAny (model X.prog X.w) X.A (letTemporaryGo value (.ref d) r >>= fun _ => pure r) (EP X pins σ Q) X.xe s₃) X.xe s := by
    rw [hs]
    refine wpAny_operating (thn (op_item_kd D pins s σ H (.ref d) (.str z) (.ref d) u Q I rfl ry h') fun w' s3 hw => wpAny_bind (wpAny_letTemporaryGo (wpAny_pure hw)))
  first
    | exact wpAny_pure (wpAny_bind fin)
    | exact wpAny_bind (wpAny_pure (wpAny_bind fin))
    | exact wpAny_bind fin
/-- d[k](e, ..), d a written dict of defs -/
theorem c_dcall (S : Sd X W sc N tb C cl L) (hL : r < L) {j : Nat} {kx : Ex} {es : Exs} {y : Str} {l z : Expr} {ys : List Expr} {p1 p2 pos : Pos} (h : (decide (tb.gd j = some (y, exsLen es)) && gls sc y && plainN y) = true) (h0 : noSlice l = true)
    (hk : PE X l (LE X W C cl r kx)) (hm : mEs tb N sc es (z :: ys) = true) (ha : PA X (z :: ys) (LA X W C cl r es)) : PE X (.Call (.Subscript (.Name y p1) l p2) (z :: ys) [] pos) (LE X W C cl r (.dcall j kx es)) := by
  obtain ⟨h1, h3⟩ := band h
  obtain ⟨h1, h2⟩ := band h1
  obtain ⟨a, es', m, mg, D, hf⟩ := S.gd _ _ _ (of_decide_eq_true h1)
  have hg := pe_ix (pos := p2) (ix_kd D) (pe_glob (pos := p1) (gls_of S h2) mg (v := .ref a) rfl (plain_of h3).1) hk (noSlice_of h0)
  cases es with
  | nil => cases hm
  | cons e es =>
    have hn := (band (band (show (_ && _) = true from hm)).1).1
    refine ⟨fun pins s σ H Q I q => ?_⟩
    obtain ⟨τ, T, q, x, co, R, h, k, w⟩ := q
    refine Call_ (thn (hg.run pins s σ H (fun v H1 => ∃ s0 kk f fd ps, C.dt j s0 = some kk ∧ v = .ref f ∧ FnOk X.prog X.w X.K X.mg X.base (L2.CX X.prog X.w) L f fd ps (lSp X.K cl (C.G kk) L (exsLen (.cons e es))) ∧ PySem.W.keepIn X.K (.ref f) = true ∧ Binds X.K fd ps [] ∧
      LA X W C cl r (.cons e es) σ H1 fun vs H2 => lSp X.K cl (C.G kk) L (exsLen (.cons e es)) vs H2 Q (WE W σ)) I ?_) fun u s1 hu => ?_) rfl
    · refine ⟨τ, T, _, x, co, R, h, fun d v H' T' e' R' rd hq => ?_, w⟩
      obtain ⟨s0, kk, rfl, e1, hq⟩ := hq
      obtain ⟨f, fd, ps, hn1, F, hkp, hb⟩ := hf s0 kk e1
      exact ⟨stS s0, _, .ref f, rfl, rd, hn1, rfl, s0, kk, f, fd, ps, e1, rfl, F, hkp, hb, τ, T', _, x, co.mono e', R', hq, fun ds vs H2 T2 e2 R2 rs hl ⟨ρ, hr, hs⟩ => sp_of (H' := H2) hl R2 rs (by omega) hs ((k.mono e').mono e2) ((w.mono e').mono e2), w.mono e'⟩
    · obtain ⟨v, H1, I1, rv, s0, kk, f, fd, ps, e1, rfl, F, hkp, hb, q1⟩ := hu
      cases rv
      refine PySem.W.callWith_K (h₀ := X.base) I1.ok.mod.kin hkp (thn (ha.run pos pins s1 σ H1 _ I1 q1) fun us s2 ⟨vs, H2, I2, r, q⟩ => ⟨I2.kIn, ?_⟩) (noStar_of hn _ _) (pln_of (band (show (_ && _) = true from hm)).2).1
      exact run_fnS F S.room hb (passAt S.tk σ) I2 r q
theorem c_make (S : Sd X W sc N tb C cl L) (hL : r < L) {c kk : Nat} {es : Exs} {y : Str} {ys : List Expr} {p pos : Pos} (h : (decide (tb.mkc c kk = some (y, exsLen es + 1)) && gls sc y && plainN y) = true) (hm : mEs tb N sc es ys = true) (ha : PA X ys (LA X W C cl r es)) :
    PE X (.Call (.Name y p) ys [] pos) (LE X W C cl r (.make c kk es)) := by
  obtain ⟨h1, h3⟩ := band h
  obtain ⟨h1, h2⟩ := band h1
  obtain ⟨f, fd, ps, F, M, mg, hb⟩ := S.mkc _ _ _ _ (of_decide_eq_true h1)
  cases L with
  | zero =>
    omega
  | succ L' =>
    have F := F L' rfl
    have key : ∀ {H' : Hp} {T' : TH} {ds : List D} {vs : List V} {σ : L2.St} {q : Kd} {Q : VK} {x : XE}, ds.length = exsLen es → HRep X.K cl H' T' → Reps X.K H' ds vs → KOk X.K cl H' q Q → XOk X.K cl W σ H' x →
        (∀ p, T' p = none → ∃ ρ, ρ + 1 < r ∧ (C.G kk).sp ρ (.ref p :: ds) (upd T' p (.ins c [])) (fun d T2 => d = .non ∧ q (.ref p) T2) x) →
        ∀ p dx, H' p = none → H' dx = none → dx ≠ p → lSp X.K cl (C.G kk) L' (exsLen es + 1) (.ref p :: vs) (L2.upd (L2.upd H' dx (.own p)) p (.ins (cl.f c) dx [])) (fun v H2 => v = .non ∧ Q (.ref p) H2) (WE W σ) := by
      intro H' T' ds vs σ q Q x hl R' rs k w hq p dx hp hdx hne
      have hp2 : L2.upd H' dx (.own p) p = none := by rw [L2.upd_ne (Ne.symm hne)]; exact hp
      have e1 : Ext X.K H' (L2.upd H' dx (.own p)) := ext_new hdx
      have e2 : Ext X.K (L2.upd H' dx (.own p)) (L2.upd (L2.upd H' dx (.own p)) p (.ins (cl.f c) dx [])) := ext_new hp2
      have R2 : HRep X.K cl (L2.upd (L2.upd H' dx (.own p)) p (.ins (cl.f c) dx [])) (upd T' p (.ins c [])) := (R'.skip hdx).set (o := .ins c []) e2 ⟨dx, [], L2.upd_same, rfl⟩
      obtain ⟨ρ, hr, hs⟩ := hq p (R'.free hp)
      exact sp_of (H' := H') (by simp [hl]) R2 (Reps.cons (d := .ref p) rfl (Reps.mono (e1.trans e2) _ rs)) (by omega) hs (fun d v H2 T2 e R2 rd ⟨ed, hq⟩ => by
        subst ed
        exact ⟨rd, k (.ref p) (.ref p) H2 T2 ((e1.trans e2).trans e) R2 rfl hq⟩) (w.mono (e1.trans e2))
    cases es with
    | nil =>
      cases ys with
      | cons _ _ => cases hm
      | nil =>
        refine PE.imp (pe_make0S M F S.room (gls_of S h2) mg hb (fun σ => passAt S.tk σ) (plain_of h3).1) fun σ H Q q => ?_
        obtain ⟨τ, T, q, x, co, R, h, k, w⟩ := q
        exact key (ds := []) (vs := []) rfl R Reps.nil k w h
    | cons e es =>
      cases ys with
      | nil => cases hm
      | cons y ys =>
        have hn := (band (band (show (_ && _) = true from hm)).1).1
        refine PE.imp (pe_makeS M F S.room (gls_of S h2) mg hb (fun σ => passAt S.tk σ) ha (plain_of h3).1 (noStar_of hn _ _) (pln_of (band (show (_ && _) = true from hm)).2).1) fun σ H Q q => ?_
        obtain ⟨τ, T, q, x, co, R, h, k, w⟩ := q
        exact ⟨τ, T, _, x, co, R, h, fun ds vs H' T' e R' rs hl hq => key hl R' rs (k.mono e) (w.mono e) hq, w⟩
theorem flook {K : PySem.W.Frag} {H : Hp} {f : List Nat} : ∀ {fs : List (List Nat × D)} {ws : List (Str × V)}, FReps K H fs ws → (lookF f fs = none → ws.lookup (stS f) = none) ∧ ∀ d, lookF f fs = some d → ∃ v, ws.lookup (stS f) = some v ∧ Rep K H d v
  | [], _, h => by cases (show _ = [] from h); exact ⟨fun _ => rfl, fun d h => by cases h⟩
  | (g, w) :: fs, _, ⟨v, ws, e, rv, rs⟩ => by
    subst e
    obtain ⟨a, b⟩ := flook rs
    by_cases hg : g = f
    · subst hg
      refine ⟨fun h => ?_, fun d h => ?_⟩
      · unfold lookF at h; rw [if_pos rfl] at h; cases h
      · unfold lookF at h; rw [if_pos rfl] at h; cases h
        exact ⟨v, by simp [List.lookup], rv⟩
    · have hne : (stS f == stS g) = false := by
        rw [beq_eq_false_iff_ne]; exact fun e => hg (stS_inj e).symm
      refine ⟨fun h => ?_, fun d h => ?_⟩
      · unfold lookF at h; rw [if_neg hg] at h
        simp only [List.lookup, hne]; exact a h
      · unfold lookF at h; rw [if_neg hg] at h
        simp only [List.lookup, hne]; exact b d h
theorem c_meth (S : Sd X W sc N tb C cl L) (hL : r < L) {kk : Nat} {o : Ex} {es : Exs} {l : Expr} {m : Str} {ys : List Expr} {ap p : Pos} (h : (decide (tb.mt kk = some (m, exsLen es + 1)) && decide (ap.endLine = p.line) && noSup l) = true) (hm : mEs tb N sc es ys = true) (hlen : ys.length < 20)
    (ho : PE X l (LE X W C cl r o)) (ha : PA X ys (LA X W C cl r es)) : PE X (.Call (.Attribute l m ap) ys [] p) (LE X W C cl r (.meth o kk es)) := by
  obtain ⟨h1, h3⟩ := band h
  obtain ⟨h1, h2⟩ := band h1
  obtain ⟨em, f, fd, ps, F, hc, hmt, hb⟩ := S.mt _ _ _ (of_decide_eq_true h1)
  have hli : (ap.endLine == p.line) = true := by rw [of_decide_eq_true h2]; exact beq_self_eq_true _
  cases es with
  | nil =>
    cases ys with
    | cons _ _ => cases hm
    | nil =>
      refine PE.imp (pe_methA0 ho hc hmt F S.room hb (fun σ => passAt S.tk σ) (noSup_of h3 _ _) hli) fun σ H Q q => ?_
      obtain ⟨τ, T, q, x, co, R, h, k, w⟩ := q
      refine ⟨τ, T, _, x, co, R, h, fun d v H' T' e R' rd ⟨a, fs, ed, ea, hl, ρ, hr, hs⟩ => ?_, w⟩
      subst ed
      obtain rfl : v = .ref a := rd
      obtain ⟨dx, ws, hw, rw'⟩ := R' a _ ea
      exact ⟨a, dx, ws, rfl, hw, by rw [em]; exact (flook rw').1 hl, sp_of (H' := H') rfl R' (Reps.cons (d := .ref a) rfl Reps.nil) (by omega) hs (k.mono e) (w.mono e)⟩
  | cons e es =>
    cases ys with
    | nil => cases hm
    | cons y ys =>
      have hn := (band (band (show (_ && _) = true from hm)).1).1
      have hp := pln_of (env := X.env) (pos := p) hm
      have hp2 := pln_of (env := X.env) (pos := p) (band (show (_ && _) = true from hm)).2
      refine PE.imp (pe_methA ho hc hmt F S.room hb (fun σ => passAt S.tk σ) ha (noSup_of h3 _ _) ?_ hli (noStar_of hn _ _) hp2.1) fun σ H Q q => ?_
      · unfold methodCallForm
        rw [hp.2.1]
        have : (y :: ys).length < 30 := by omega
        simp [backToKw, keywordEach] at this ⊢
        omega
      · obtain ⟨τ, T, q, x, co, R, h, k, w⟩ := q
        refine ⟨τ, T, _, x, co, R, h, fun d v H' T' e R' rd ⟨a, fs, ed, ea, hl, hq⟩ => ?_, w⟩
        subst ed
        obtain rfl : v = .ref a := rd
        obtain ⟨dx, ws, hw, rw'⟩ := R' a _ ea
        exact ⟨a, dx, ws, rfl, hw, by rw [em]; exact (flook rw').1 hl, τ, T', _, x, co.mono e, R', hq, fun ds vs H2 T2 e2 R2 rs hl2 ⟨ρ, hr, hs⟩ =>
          sp_of (H' := H') (by simp [hl2]) R2 (Reps.cons (d := .ref a) rfl rs) (by omega) hs ((k.mono e).mono e2) ((w.mono e).mono e2), w.mono e⟩
theorem c_fld (S : Sd X W sc N tb C cl L) {o : Ex} {f : List Nat} {l : Expr} {n : Str} {pos : Pos} (h : (decide (n = stS f) && noSup l) = true) (ho : PE X l (LE X W C cl r o)) : PE X (.Attribute l n pos) (LE X W C cl r (.fld o f)) := by
  obtain ⟨h1, h2⟩ := band h
  have en := of_decide_eq_true h1
  subst en
  refine PE.imp (pe_fld ho (noSup_of h2 _ _)) fun σ H Q q => ?_
  obtain ⟨τ, T, q, x, co, R, h, k, w⟩ := q
  refine ⟨τ, T, _, x, co, R, h, fun d v H' T' e R' rd ⟨a, c, fs, d', ed, ea, hf, hl, hq⟩ => ?_, w⟩
  subst ed
  obtain rfl : v = .ref a := rd
  obtain ⟨dx, ws, hw, rw'⟩ := R' a _ ea
  obtain ⟨hC, hN⟩ := S.fld c f hf
  obtain ⟨v', e1, rv⟩ := (flook rw').2 _ hl
  exact ⟨a, cl.f c, dx, ws, v', rfl, hw, hC, hN, e1, k d' v' H' T' e R' rv hq⟩
end
end Tr

/-! TL7b: built-ins, methods of built-in types, iterables, comprehensions. -/
namespace Tr
open PySem PySem.Spec PyProof.Rows L2
theorem blt_names (f : Blt) : ((bltN f : Str) ≠ ("__name__" : Str)) ∧ ((bltN f : Str) == ("__debug__" : Str)) = false := by cases f <;> decide
theorem tyN_names (t : Ty) (h : t ≠ .none) : ((tyN t : Str) ≠ ("__name__" : Str)) ∧ ((tyN t : Str) == ("__debug__" : Str)) = false ∧ bootBuiltins (tyN t : Str) = some (.type (tyN t)) := by
  cases t <;> first | exact absurd rfl h | exact ⟨by decide, by decide, by decide +kernel⟩
section
variable {X : Cx} {W : WX} {sc : Scope} {N : List Str} {tb : Tb} {C : Ctx} {cl : Wd} {L r : Nat}
theorem c_blt (S : Sd X W sc N tb C cl L) {f : Blt} {es : Exs} {y : Str} {e : Expr} {ys : List Expr} {p pos : Pos} (h : (decide (y = (bltN f : Str)) && tb.free y && gls sc y && mEs tb N sc es (e :: ys)) = true) (ha : PA X (e :: ys) (LA X W C cl r es)) :
    PE X (.Call (.Name y p) (e :: ys) [] pos) (LE X W C cl r (.blt f es)) := by
  obtain ⟨h1, h4⟩ := band h
  obtain ⟨h1, h3⟩ := band h1
  obtain ⟨h1, h2⟩ := band h1
  have ey := of_decide_eq_true h1
  have hm := S.free _ h2
  have hg := gls_of S h3
  obtain ⟨n1, n2⟩ := blt_names f
  rw [← ey] at n1 n2
  have hst : starEach (e :: ys) X.env = (false, eval e X.env) :: starEach ys X.env := by
    cases es with
    | nil => cases h4
    | cons _ _ => exact noStar_of (band (band (show (_ && _) = true from h4)).1).1 _ _
  have hpl : (backTo pos (starEach ys X.env)).any (·.1) = false := by
    cases es with
    | nil => cases h4
    | cons _ _ => exact (pln_of (band (show (_ && _) = true from h4)).2).1
  have tr : ∀ σ H Q, LE X W C cl r (.blt f es) σ H Q → tCB (lC X.K cl (bltR f)) (LA X W C cl r es) σ H Q := fun σ H Q q => by
    obtain ⟨τ, T, q, x, co, R, h, k, w⟩ := q
    exact ⟨τ, T, _, x, co, R, h, fun ds vs H' T' e R' rs hl hq => ⟨ds, T', q, rs, R', hq, k.mono e⟩, w⟩
  have fB : ∀ {id : String}, CallR X (.builtin id) (lC X.K cl (bltR f)) → bootBuiltins y = some (.builtin id) → PE X (.Call (.Name y p) (e :: ys) [] pos) (LE X W C cl r (.blt f es)) :=
    fun hc hv => PE.imp (pe_callB hc hg hm hv ha n1 n2 hst hpl) tr
  have fT : ∀ {id : String}, CallR X (.type id) (lC X.K cl (bltR f)) → bootBuiltins y = some (.type id) → PE X (.Call (.Name y p) (e :: ys) [] pos) (LE X W C cl r (.blt f es)) :=
    fun hc hv => PE.imp (pe_callTy hc hg hm hv ha n1 n2 hst hpl) tr
  cases f with
  | len => exact fB blt_len (by rw [ey]; exact boot_len)
  | int_ => exact fT blt_int (by rw [ey]; decide +kernel)
  | str_ => exact fT blt_str (by rw [ey]; decide +kernel)
  | tuple => exact fT blt_tuple (by rw [ey]; decide +kernel)
  | list => exact fT blt_list (by rw [ey]; decide +kernel)
  | max => exact fB (blt_max S.calm) (by rw [ey]; decide +kernel)
  | min => exact fB (blt_min S.calm) (by rw [ey]; decide +kernel)
  | sorted => exact fB blt_sorted (by rw [ey]; decide +kernel)
  | abs => exact fB blt_abs (by rw [ey]; decide +kernel)
  | all_ => exact fB (blt_all S.calm) (by rw [ey]; decide +kernel)
  | any_ => exact fB (blt_any S.calm) (by rw [ey]; decide +kernel)
  | sum_ => exact fB (blt_sum S.calm) (by rw [ey]; decide +kernel)
theorem c_isi (S : Sd X W sc N tb C cl L) {a : Ex} {t : Ty} {y z : Str} {e : Expr} {p p2 pos : Pos}
    (h : (decide (y = ("isinstance" : Str)) && tb.free y && gls sc y && decide (z = (tyN t : Str)) && tb.free z && gls sc z && decide (t ≠ .none) && noStar e) = true) (ha : PE X e (LE X W C cl r a)) :
    PE X (.Call (.Name y p) [e, .Name z p2] [] pos) (LE X W C cl r (.isi a t)) := by
  obtain ⟨h1, h8⟩ := band h
  obtain ⟨h1, h7⟩ := band h1
  obtain ⟨h1, h6⟩ := band h1
  obtain ⟨h1, h5⟩ := band h1
  obtain ⟨h1, h4⟩ := band h1
  obtain ⟨h1, h3⟩ := band h1
  obtain ⟨h1, h2⟩ := band h1
  have ey := of_decide_eq_true h1
  have ez := of_decide_eq_true h4
  subst ey ez
  obtain ⟨n1, n2, n3⟩ := tyN_names t (of_decide_eq_true h7)
  refine PE.imp (pe_callB (isi_ok (cl := cl) t) (gls_of S h3) (S.free _ h2) (by decide +kernel) (pa_cons ha (pa_cons (pe_bltn (v := .ty (tyN t)) (gls_of S h6) (S.free _ h5) n3 rfl n1 n2) pa_nil rfl) (noStar_of h8 _ _)) (by decide) (by decide) (noStar_of h8 _ _) rfl) fun σ H Q q => ?_
  obtain ⟨τ, T, q, x, co, R, h, k, w⟩ := q
  exact ⟨τ, T, _, x, co, R, h, fun d v H' T' e R' rd hq => ⟨d, v, T', q, rfl, rd, R', hq, k.mono e⟩, w⟩
theorem bm_few {es : Exs} {y : Expr} {ys : List Expr} {env : PySem.Env} {pos : Pos} (h : mEs tb N sc es (y :: ys) = true) (hl : (y :: ys).length < 5) :
    ((backTo pos (starEach (y :: ys) env)).all (fun x => !x.1) && (backToKw pos (keywordEach [] env)).all (fun x => x.1.isSome) && decide ((y :: ys).length + ([] : List Keyword).length + (if ([] : List Keyword).isEmpty then 0 else 1) < 30)) = true := by
  rw [(pln_of (env := env) (pos := pos) h).2.1]
  simp [backToKw, keywordEach] at hl ⊢
  omega
theorem bmT_lst {K : PySem.W.Frag} {H : Hp} {T : TH} {d : D} {v : V} (R : HRep K cl H T) (r : Rep K H d v) (h : isLst d T) : tyV K "list" v H := by
  cases d with
  | ref a =>
    obtain ⟨xs, e⟩ := h
    obtain ⟨vs, hv, _⟩ := R.lst e
    obtain rfl : v = .ref a := r
    exact .inl ⟨rfl, vs, .inl (.inl hv)⟩
  | _ => cases h
theorem mt_ok_get (hu : X.A.units + 64 < cLine) (gh : Gh X cl) : MtR X "dict.get" (lM X.K cl (bmR .dgetD)) := by
  intro pins s σ H x xs v us Q I rx rs h
  obtain ⟨d, ds, T, q, rd, rds, R, h, k⟩ := h
  obtain ⟨y, z, rfl, h⟩ := arg2_inv h
  obtain ⟨vy, vz, rfl, ry, rz⟩ := reps2 rds
  cases d with
  | ref a =>
    obtain rfl : x = .ref a := rd
    simp only [bmR, arg2] at h
    cases ea : T a with
    | none => rw [ea] at h; exact h.elim
    | some o =>
      cases o with
      | dic kvs =>
        rw [ea] at h
        obtain ⟨kk, hk, h⟩ := h
        obtain ⟨ws, h1, r⟩ := R a _ ea
        have ex := dk_rep ry hk
        subst ex
        refine mt_getK (by omega) pins s σ H _ _ v us Q I rx rs ⟨a, ws, kdk kk, vz, rfl, rfl, h1, ?_⟩
        obtain ⟨g1, g2⟩ := dget_rep kk r
        cases eg : dget kk kvs with
        | none => rw [eg] at h; rw [g2 eg]; exact k.here R rz h
        | some d => rw [eg] at h; obtain ⟨w', e1, e2⟩ := g1 d eg; rw [e1]; exact k.here R e2 h
      | dnk lk kvs =>
        rw [ea] at h
        obtain ⟨kk, hk, h⟩ := h
        obtain ⟨φ, ws, h1, r, f⟩ := R a _ ea
        have ex := nk_rep ry hk
        subst ex
        refine mt_getN gh pins s σ H _ _ v us Q I rx rs ⟨a, lk, ws, kk.map kdk, vz, rfl, rfl, ⟨φ, h1, f⟩, ?_⟩
        obtain ⟨g1, g2⟩ := nget_rep kk r
        cases eg : dget kk kvs with
        | none => rw [eg] at h; rw [g2 eg]; exact k.here R rz h
        | some d => rw [eg] at h; obtain ⟨w', e1, e2⟩ := g1 d eg; rw [e1]; exact k.here R e2 h
      | _ => rw [ea] at h; exact h.elim
  | _ => exact False.elim h
theorem bmT_str {K : PySem.W.Frag} {H : Hp} {d : D} {v : V} (r : Rep K H d v) (h : isStr d fun _ => True) : tyV K "str" v H := by
  cases d with
  | str x =>
    obtain rfl : v = .str (stS x) := r
    exact rfl
  | _ => cases h
theorem c_bm (S : Sd X W sc N tb C cl L) {o : Ex} {m : Bm} {es : Exs} {l : Expr} {n : Str} {ys : List Expr} {ap p : Pos}
    (h : (decide (n = (bmN m : Str)) && decide (ap.endLine = p.line) && noSup l) = true) (hm : mEs tb N sc es ys = true) (hl : ys.length < 5) (hz : (m = .pop) ↔ (ys = [])) (ho : PE X l (LE X W C cl r o)) (ha : PA X ys (LA X W C cl r es)) :
    PE X (.Call (.Attribute l n ap) ys [] p) (LE X W C cl r (.bm o m es)) := by
  obtain ⟨h1, h3⟩ := band h
  obtain ⟨h1, h2⟩ := band h1
  have en := of_decide_eq_true h1
  subst en
  have hli : (ap.endLine == p.line) = true := by rw [of_decide_eq_true h2]; exact beq_self_eq_true _
  cases ys with
  | nil =>
    have em : m = .pop := hz.mpr rfl
    subst em
    cases es with
    | cons _ _ => cases hm
    | nil =>
      refine PE.imp (pe_bm0 PySem.F.plainAttrs_list PySem.F.slot_list_pop PySem.F.type_list_pop (mt_ok_pop (cl := cl)) ho (noSup_of h3 _ _) hli) fun σ H Q q => ?_
      obtain ⟨τ, T, q, x, co, R, h, k, w⟩ := q
      exact ⟨τ, T, _, x, co, R, h, fun d v H' T' e R' rd ⟨ht, hq⟩ => ⟨bmT_lst R' rd ht, d, [], T', q, rd, Reps.nil, R', hq, k.mono e⟩, w⟩
  | cons y ys =>
    have hst : starEach (y :: ys) X.env = (false, eval y X.env) :: starEach ys X.env := by
      cases es with
      | nil => cases hm
      | cons _ _ => exact noStar_of (band (band (show (_ && _) = true from hm)).1).1 _ _
    have hpl : (backTo p (starEach ys X.env)).any (·.1) = false := by
      cases es with
      | nil => cases hm
      | cons _ _ => exact (pln_of (band (show (_ && _) = true from hm)).2).1
    have go : ∀ {T0 id : String} (pa : PlainAttrs T0) (slot : Slot T0 (bmN m : Str) id) (hty : typeOf (.builtin id) = pure (.type "method_descriptor")) (hmt : MtR X id (lM X.K cl (bmR m)))
        (ht : ∀ {H : Hp} {T : TH} {d : D} {v : V}, HRep X.K cl H T → Rep X.K H d v → bmT m d T → tyV X.K T0 v H), PE X (.Call (.Attribute l (bmN m : Str) ap) (y :: ys) [] p) (LE X W C cl r (.bm o m es)) := by
      intro T0 id pa slot hty hmt ht
      refine PE.imp (pe_bm pa slot hty hmt ho ha (noSup_of h3 _ _) (bm_few hm hl) hli hst hpl) fun σ H Q q => ?_
      obtain ⟨τ, T, q, x, co, R, h, k, w⟩ := q
      exact ⟨τ, T, _, x, co, R, h, fun d v H' T' e R' rd ⟨hb, hq⟩ => ⟨ht R' rd hb, τ, T', _, x, co.mono e, R', hq, fun ds vs H2 T2 e2 R2 rs _ hq2 => ⟨d, ds, T2, q, rd.mono e2, rs, R2, hq2, (k.mono e).mono e2⟩, w.mono e⟩, w⟩
    cases m with
    | append => exact go PySem.F.plainAttrs_list PySem.F.slot_list_append PySem.F.type_list_append mt_ok_append bmT_lst
    | extend => exact go PySem.F.plainAttrs_list PySem.F.slot_list_extend PySem.F.type_list_extend mt_ok_extend bmT_lst
    | pop => exact absurd (hz.mp rfl) (by simp)
    | lindex => exact go PySem.F.plainAttrs_list PySem.F.slot_list_index PySem.F.type_list_index mt_ok_lindex bmT_lst
    | sindex => exact go PySem.F.plainAttrs_str PySem.F.slot_str_index PySem.F.type_str_index mt_ok_sindex fun _ => bmT_str
    | join => exact go PySem.F.plainAttrs_str PySem.F.slot_str_join PySem.F.type_str_join mt_ok_join fun _ => bmT_str
    | split => exact go PySem.F.plainAttrs_str PySem.F.slot_str_split PySem.F.type_str_split mt_ok_split fun _ => bmT_str
    | dgetD =>
      refine PE.imp (pe_bmN S.gh PySem.F.plainAttrs_dict PySem.F.slot_dict_get PySem.F.type_dict_get (mt_ok_get (cl := cl) S.hu S.gh) ho ha (noSup_of h3 _ _) (bm_few hm hl) hli hst hpl) fun σ H Q q => ?_
      obtain ⟨τ, T, q, x, co, R, h, k, w⟩ := q
      refine ⟨τ, T, _, x, co, R, h, fun d v H' T' e R' rd ⟨hb, hq⟩ => ⟨?_, τ, T', _, x, co.mono e, R', hq, fun ds vs H2 T2 e2 R2 rs _ hq2 => ⟨d, ds, T2, q, rd.mono e2, rs, R2, hq2, (k.mono e).mono e2⟩, w.mono e⟩, w⟩
      cases d with
      | ref a =>
        obtain rfl : v = .ref a := rd
        cases ea : T' a with
        | none => simp only [bmT, isDic, ea] at hb
        | some o =>
          cases o with
          | dic kvs => obtain ⟨ws, h1, _⟩ := R' a _ ea; exact ⟨a, rfl, .inl ⟨ws, h1⟩⟩
          | dnk lk kvs => obtain ⟨φ, ws, h1, _, h2⟩ := R' a _ ea; exact ⟨a, rfl, .inr ⟨lk, ws, φ, h1, h2⟩⟩
          | _ => simp only [bmT, isDic, ea] at hb
      | _ => cases hb
    | tindex =>
      refine PE.imp (pe_bmF PySem.F.plainAttrs_tuple PySem.F.slot_tuple_index PySem.F.type_tuple_index (mt_ok_tindex (cl := cl)) ho ha (noSup_of h3 _ _) (bm_few hm hl) hli hst hpl) fun σ H Q q => ?_
      obtain ⟨τ, T, q, x, co, R, h, k, w⟩ := q
      refine ⟨τ, T, _, x, co, R, h, fun d v H' T' e R' rd ⟨hb, hq⟩ => ⟨?_, τ, T', _, x, co.mono e, R', hq, fun ds vs H2 T2 e2 R2 rs _ hq2 => ⟨d, ds, T2, q, rd.mono e2, rs, R2, hq2, (k.mono e).mono e2⟩, w.mono e⟩, w⟩
      cases d with
      | tup ds =>
        obtain ⟨a, vs, rfl, tk, _⟩ := rd
        exact tk.ty
      | _ => cases hb
/-! ### iterables -/
theorem i_ex {tg e : Expr} {a : Ex} (ha : PE X e (LE X W C cl r a)) : PI X tg e (LI X W C cl r (.ex a)) := by
  refine PI.imp (pi_seq ha) fun σ H R q => ?_
  obtain ⟨τ, T, q, x, co, Rh, h, k, w⟩ := q
  refine ⟨τ, T, _, x, co, Rh, h, fun d v H' T' e R' rd hq => ?_, w⟩
  rcases sq_src R' rd hq with ⟨z, ed, ev, hp⟩ | ⟨a, sq, ev, hp, hk, ⟨s, xs, hx⟩ | ⟨s, xs, hx⟩⟩
  · exact .inr (.inr ⟨stS z, ev, k _ _ H' T' e R' j_str hp⟩)
  · exact .inl ⟨a, xs, ev, hx, k _ _ H' T' e R' (j_list s) hp⟩
  · exact .inr (.inl ⟨a, xs, ev, hx, k _ _ H' T' e R' (j_tup s) hp⟩)
theorem i_exd (S : Sd X W sc N tb C cl L) {tg e : Expr} {a : Ex} (ha : PE X e (LE X W C cl r a)) : PI X tg e (LI X W C cl r (.exd a)) := by
  refine PI.imp (pi_keysN S.gh ha) fun σ H R q => ?_
  obtain ⟨τ, T, q, x, co, Rh, h, k, w⟩ := q
  refine ⟨τ, T, _, x, co, Rh, h, fun d v H' T' e R' rd ⟨a, lk, kvs, ed, ea, hq⟩ => ?_, w⟩
  subst ed
  obtain rfl : v = .ref a := rd
  obtain ⟨φ, ws, h1, r, f⟩ := R' a _ ea
  refine ⟨a, lk, ws, rfl, ⟨φ, h1, f⟩, fun o => ?_⟩
  have e2 : Ext X.K H' (L2.upd H' a (.ext (NPhi cl a (some o) ws))) := ext_put (by rw [h1]; exact True.intro)
  have R2 := R'.set (o := .dnk (some o) kvs) e2 ⟨_, ws, L2.upd_same, r.mono e2, fun _ h => h⟩
  have j := j_keysN (K := X.K) (cl := cl) (H0 := L2.upd H' a (.ext (NPhi cl a (some o) ws))) (a := a) (o := o) (kvs := kvs)
  rw [← nreps_key r] at j
  exact k _ _ _ _ (e.trans e2) R2 j (hq o)
theorem i_rng1 (S : Sd X W sc N tb C cl L) {tg e : Expr} {a : Ex} {y : Str} {p pos : Pos} (h : (decide (y = ("range" : Str)) && tb.free y && gls sc y && noStar e) = true) (ha : PE X e (LE X W C cl r a)) :
    PI X tg (.Call (.Name y p) [e] [] pos) (LI X W C cl r (.rng1 a)) := by
  obtain ⟨h1, h4⟩ := band h
  obtain ⟨h1, h3⟩ := band h1
  obtain ⟨h1, h2⟩ := band h1
  have ey := of_decide_eq_true h1
  subst ey
  refine PI.imp (pi_range1 (gls_of S h3) (S.free _ h2) (pa_cons ha pa_nil (noStar_of h4 _ _)) (noStar_of h4 _ _)) fun σ H R q => ?_
  obtain ⟨τ, T, q, x, co, Rh, h, k, w⟩ := q
  refine ⟨τ, T, _, x, co, Rh, h, fun d v H' T' e R' rd ⟨j, ed, b1, b2, hq⟩ => ?_, w⟩
  subst ed
  obtain rfl : v = .int j := rd
  refine ⟨j, rfl, b1, b2, k _ _ H' T' e R' ?_ hq⟩
  have := j_range (K := X.K) (cl := cl) (H0 := H') (lo := 0) (n := j.toNat)
  simpa using this
theorem i_rng2 (S : Sd X W sc N tb C cl L) {tg e f : Expr} {a b : Ex} {y : Str} {p pos : Pos} (h : (decide (y = ("range" : Str)) && tb.free y && gls sc y && noStar e && noStar f) = true) (ha : PE X e (LE X W C cl r a)) (hb : PE X f (LE X W C cl r b)) :
    PI X tg (.Call (.Name y p) [e, f] [] pos) (LI X W C cl r (.rng2 a b)) := by
  obtain ⟨h1, h5⟩ := band h
  obtain ⟨h1, h4⟩ := band h1
  obtain ⟨h1, h3⟩ := band h1
  obtain ⟨h1, h2⟩ := band h1
  have ey := of_decide_eq_true h1
  subst ey
  have e2 := noStar_of h5 [] X.env
  have e1 : starEach [e, f] X.env = [(false, eval e X.env), (false, eval f X.env)] := by rw [noStar_of h4 [f] X.env, e2]; rfl
  refine PI.imp (pi_range2 (gls_of S h3) (S.free _ h2) (pa_cons ha (pa_cons hb pa_nil (noStar_of h5 _ _)) (noStar_of h4 _ _)) e1 e2) fun σ H R q => ?_
  obtain ⟨τ, T, q, x, co, Rh, h, k, w⟩ := q
  refine ⟨τ, T, _, x, co, Rh, h, fun d v H' T' e R' rd hq => ⟨τ, T', _, x, co.mono e, R', hq, fun d2 v2 H2 T2 e2 R2 rd2 ⟨i, j, ed, ed2, hb, hq2⟩ => ?_, w.mono e⟩, w⟩
  subst ed ed2
  obtain rfl : v = .int i := rd
  obtain rfl : v2 = .int j := rd2
  exact ⟨i, j, rfl, hb, k _ _ H2 T2 (e.trans e2) R2 j_range hq2⟩
theorem i_enm (S : Sd X W sc N tb C cl L) {e : Expr} {ts : List Expr} {kk : Nat} {tpos : Pos} {a : Ex} {y : Str} {p pos : Pos} (h : (decide (y = ("enumerate" : Str)) && tb.free y && gls sc y && noStar e) = true) (ha : PE X e (LE X W C cl r a)) :
    PI X (.Tuple ts kk tpos) (.Call (.Name y p) [e] [] pos) (LI X W C cl r (.enm a)) := by
  obtain ⟨h1, h4⟩ := band h
  obtain ⟨h1, h3⟩ := band h1
  obtain ⟨h1, h2⟩ := band h1
  have ey := of_decide_eq_true h1
  subst ey
  refine PI.imp (pi_enum2 (gls_of S h3) (S.free _ h2) (pa_cons ha pa_nil (noStar_of h4 _ _)) (noStar_of h4 _ _)) fun σ H R q => ?_
  obtain ⟨τ, T, q, x, co, Rh, h, k, w⟩ := q
  refine ⟨τ, T, _, x, co, Rh, h, fun d v H' T' e R' rd hq => ?_, w⟩
  obtain ⟨a, sq, ev, hp, hk, ⟨_, s, xs, hx⟩ | ⟨_, s, xs, hx⟩⟩ := sq2_src R' rd hq
  · subst ev; exact ⟨a, xs, rfl, .inl ⟨hx, k _ _ H' T' e R' (j_enumL s) hp⟩⟩
  · subst ev; exact ⟨a, xs, rfl, .inr ⟨hx, k _ _ H' T' e R' (j_enumT s) hp⟩⟩
theorem i_zip (S : Sd X W sc N tb C cl L) {e f : Expr} {ts : List Expr} {kk : Nat} {tpos : Pos} {a b : Ex} {y : Str} {p pos : Pos} (h : (decide (y = ("zip" : Str)) && tb.free y && gls sc y && noStar e && noStar f) = true) (ha : PE X e (LE X W C cl r a)) (hb : PE X f (LE X W C cl r b)) :
    PI X (.Tuple ts kk tpos) (.Call (.Name y p) [e, f] [] pos) (LI X W C cl r (.zip a b)) := by
  obtain ⟨h1, h5⟩ := band h
  obtain ⟨h1, h4⟩ := band h1
  obtain ⟨h1, h3⟩ := band h1
  obtain ⟨h1, h2⟩ := band h1
  have ey := of_decide_eq_true h1
  subst ey
  have e2 := noStar_of h5 [] X.env
  refine PI.imp (RZ.pi_zipA (gls_of S h3) (S.free _ h2) (pa_cons ha (pa_cons hb pa_nil (noStar_of h5 _ _)) (noStar_of h4 _ _)) (noStar_of h4 _ _) (by rw [e2]; rfl)) fun σ H R q => ?_
  obtain ⟨τ, T, q, x, co, Rh, h, k, w⟩ := q
  refine ⟨τ, T, _, x, co, Rh, h, fun d v H' T' e R' rd hq => ⟨τ, T', _, x, co.mono e, R', hq, fun d2 v2 H2 T2 e2 R2 rd2 ⟨hk, hq2⟩ => ?_, w.mono e⟩, w⟩
  obtain ⟨a, sx, ev, hp, hk1, z1⟩ := sq2_src R2 (rd.mono e2) hq2
  obtain ⟨b, sy, ev2, hp, hk2, z2⟩ := sq2_src R2 rd2 hp
  subst ev ev2
  rcases z1 with ⟨q1, s1, xs, hx⟩ | ⟨q1, s1, xs, hx⟩ <;> rcases z2 with ⟨q2, s2, ys, hy⟩ | ⟨q2, s2, ys, hy⟩
  · exact ⟨a, b, xs, ys, rfl, .inl ⟨hx, hy, k _ _ H2 T2 (e.trans e2) R2 (j_zipL s1 s2) hp⟩⟩
  · rw [q1, q2] at hk; cases hk
  · rw [q1, q2] at hk; cases hk
  · exact ⟨a, b, xs, ys, rfl, .inr ⟨hx, hy, k _ _ H2 T2 (e.trans e2) R2 (j_zipT s1 s2) hp⟩⟩
/-! ### displays -/
/-- what a display's pairs ask -/
def trP (X : Cx) (W : WX) (C : Ctx) (cl : Wd) (r : Nat) : List (List Nat) → Exs → List (TE × TE)
  | k :: ks, .cons e es => (tC (.str (stS k)), LE X W C cl r e) :: trP X W C cl r ks es
  | _, _ => []
def prs : List (List Nat) → List V → List (Key × V)
  | k :: ks, w :: ws => (.inr (stS k), w) :: prs ks ws
  | _, _ => []
theorem trP_run : ∀ (ks : List (List Nat)) (es : Exs) (σ : L2.St) (H : Hp) (Q : List (V × V) → Hp → Prop), ks.length = exsLen es →
    LA X W C cl r es σ H (fun ws H' => Q ((prs ks ws).map fun kv => (kV kv.1, kv.2)) H') → tPairs (trP X W C cl r ks es) σ H Q
  | [], .nil, σ, H, Q, _, q => by
    obtain ⟨τ, T, q, x, co, R, h, k, w⟩ := q
    exact k [] [] H T .refl R Reps.nil rfl h
  | k :: ks, .cons e es, σ, H, Q, hl, q => by
    obtain ⟨τ, T, q, x, co, R, h, kk, w⟩ := q
    refine ⟨τ, T, _, x, co, R, h, fun d v H' T' e' R' rd hq => ?_, w⟩
    refine trP_run ks es σ H' _ (by simpa [exsLen] using hl) ⟨τ, T', _, x, co.mono e', R', hq, fun ds vs H2 T2 e2 R2 rs hl hq2 => ?_, w.mono e'⟩
    exact kk (d :: ds) (v :: vs) H2 T2 (e'.trans e2) R2 (Reps.cons (rd.mono e2) rs) (by simp [hl, exsLen]) hq2
  | [], .cons _ _, _, _, _, hl, _ => by simp [exsLen] at hl
  | _ :: _, .nil, _, _, _, hl, _ => by simp [exsLen] at hl
theorem mKs_len : ∀ {ks : List (List Nat)} {xs : List (Option Expr)}, mKs ks xs = true → xs.length = ks.length ∧ xs.all (·.isSome) = true
  | [], [], _ => ⟨rfl, rfl⟩
  | [], _ :: _, h => by cases h
  | _ :: _, [], h => by cases h
  | k :: ks, x :: xs, h => by
    cases x with
    | none => cases h
    | some x =>
      cases x with
      | Constant c a b =>
        cases c with
        | str y =>
          obtain ⟨h1, h2⟩ := band (show (_ && _) = true from h)
          obtain ⟨a, b⟩ := mKs_len h2
          exact ⟨by simp [a], by simpa using b⟩
        | _ => cases h
      | _ => cases h
theorem merge_new : ∀ (ms acc : List (Key × V)), (ms.map (·.1)).Nodup → (∀ k ∈ ms.map (·.1), valV acc k = none) → mergeK acc ms = acc ++ ms
  | [], acc, _, _ => by simp [mergeK]
  | (k, v) :: ms, acc, hn, hd => by
    rw [List.map_cons, List.nodup_cons] at hn
    have e : mergeK acc ((k, v) :: ms) = mergeK (putK acc k v) ms := rfl
    rw [e, putK_new v (hd k (by simp)), merge_new ms (acc ++ [(k, v)]) hn.2 fun j hj => ?_]
    · simp
    · rw [valV_snoc _ _ _ _ (hd k (by simp)), if_neg (fun z => hn.1 (by rw [← z]; exact hj))]
      exact hd j (by simp only [List.map_cons, List.mem_cons]; exact .inr hj)
theorem prs_keys : ∀ (ks : List (List Nat)) (ws : List V), ws.length = ks.length → (prs ks ws).map (·.1) = ks.map fun k => Sum.inr (stS k)
  | [], [], _ => rfl
  | [], _ :: _, h => by simp at h
  | _ :: _, [], h => by simp at h
  | k :: ks, w :: ws, h => by simp [prs, prs_keys ks ws (by simpa using h)]
theorem prs_reps {K : PySem.W.Frag} {H : Hp} : ∀ (ks : List (List Nat)) {ds : List D} {ws : List V}, Reps K H ds ws → ks.length = ds.length → KReps K H ((ks.map Sum.inr).zip ds) (prs ks ws)
  | [], ds, ws, r, h => by
    cases ds with
    | nil => cases (show ws = [] from r); rfl
    | cons _ _ => simp at h
  | k :: ks, ds, ws, r, h => by
    cases ds with
    | nil => simp at h
    | cons d ds =>
      obtain ⟨v, vs, rfl, r1, r2⟩ := r
      exact ⟨v, _, rfl, r1, prs_reps ks r2 (by simpa using h)⟩
theorem nodup_stS : ∀ {ks : List (List Nat)}, ks.Nodup → (ks.map fun k => (Sum.inr (stS k) : Key)).Nodup
  | [], _ => by simp
  | k :: ks, h => by
    rw [List.nodup_cons] at h
    rw [List.map_cons, List.nodup_cons]
    refine ⟨fun q => h.1 ?_, nodup_stS h.2⟩
    obtain ⟨j, hj, e⟩ := List.mem_map.mp q
    have := stS_inj (Sum.inr.inj e)
    rw [← this]; exact hj
theorem c_dsp {ks : List (List Nat)} {vs : Exs} {xs : List (Option Expr)} {ys : List Expr} {pos : Pos} (hk : mKs ks xs = true) (hm : mEs tb N sc vs ys = true) (hl : ks.length = exsLen vs) (h0 : 0 < ks.length ∧ ks.length ≤ 15)
    (hp : PPs X pos xs ys (trP X W C cl r ks vs)) : PE X (.Dict xs ys pos) (LE X W C cl r (.dsp ks vs)) := by
  obtain ⟨l1, l2⟩ := mKs_len hk
  have l3 := (pln_of (env := X.env) (pos := pos) hm).2.2
  refine PE.imp (pe_disp hp l2 (by omega) (fun z => by rw [z] at l1; simp at l1; omega) (by omega)) fun σ H Q q => ?_
  obtain ⟨τ, T, q, x, co, R, h, k, w⟩ := q
  intro p hp
  have e1 : Ext X.K H (L2.upd H p (.dK [])) := ext_new hp
  refine trP_run ks vs σ _ _ hl ⟨τ, upd T p (.dic []), _, x, co.mono e1, R.set (o := .dic []) e1 ⟨[], L2.upd_same, rfl⟩, h p (R.free hp), fun ds ws H2 T2 e2 R2 rs hl2 hq => ?_, w.mono e1⟩
  obtain ⟨ep, nd, hq⟩ := hq
  obtain ⟨zs, hz, rz⟩ := R2 p _ ep
  cases (show zs = [] from rz)
  have hlen := rs.len
  have hkl : (prs ks ws).map (·.1) = ks.map fun k => Sum.inr (stS k) := prs_keys ks ws (by omega)
  refine ⟨hz, prs ks ws, rfl, ?_, ?_⟩
  · have := congrArg List.length hkl
    simp at this
    omega
  · rw [merge_new _ [] (by rw [hkl]; exact nodup_stS nd) (fun _ _ => rfl)]
    have e3 : Ext X.K H2 (L2.upd H2 p (.dK (prs ks ws))) := ext_put (by rw [hz]; exact True.intro)
    exact k (.ref p) _ _ _ ((e1.trans e2).trans e3) (R2.set (o := .dic ((ks.map Sum.inr).zip ds)) e3 ⟨_, L2.upd_same, (prs_reps ks rs (by omega)).mono e3⟩) rfl hq
/-! ### comprehensions -/
/-- the tests of a comprehension -/
abbrev LCt (X : Cx) (C : Ctx) (cl : Wd) (r : Nat) (c : Op) : TT := lT X.K cl (fun _ _ _ _ => False) (fun _ τ T Q => rdC C r c τ T Q)
theorem ct_no : PTs X [] (LCt X C cl r .no) := by
  refine PTs.imp pts_nil fun σ H Q q => ?_
  obtain ⟨τ, T, q, x, co, R, h, k, w⟩ := q
  exact k true H T .refl R h
theorem ct_so {e : Expr} {a : Ex} (ha : PT X e (LT X (fun _ _ _ _ => False) C cl r a)) : PTs X [e] (LCt X C cl r (.so a)) := by
  refine PTs.imp (pts_one ha) fun σ H Q q => ?_
  obtain ⟨τ, T, q, x, co, R, h, k, w⟩ := q
  exact ⟨τ, T, q, nox, co, R, h, k, x0⟩
theorem lc_tr {e : Ex} {tg : Tg} {it : Ito} {c : Op} {own : List Nat} (hown : ∀ i ∈ tgS tg, i ∈ own) (σ : L2.St) (H : Hp) (Q : VK) (h : LE X W C cl r (.lc e tg it c own) σ H Q) :
    tLc (LI X W C cl r it) (lG X.K cl (tgS tg) (bindT tg)) (LCt X C cl r c) (LE X (fun _ _ _ _ => False) C cl r e) own σ H Q := by
  obtain ⟨τ, T, q, x, co, R, h, k, w⟩ := h
  refine ⟨τ, T, _, x, co, R, h, fun sq J H1 T1 e1 R1 j hq D hD => ?_, w⟩
  obtain ⟨kp, run⟩ := hq D (R1.free hD)
  have eD : Ext X.K H1 (L2.upd H1 D (.lst [])) := ext_new hD
  refine lc_it j (fun i H => Ext X.K H1 H ∧ ∃ T, HRep X.K cl H T ∧ sq.keep T ∧ lcRun (fun d T k => bindT tg d T (wipe τ own) fun τ2 => rdC C r c τ2 T fun b T2 =>
        if b = true then rdE C r e nox τ2 T2 fun y T3 => ∃ acc, T3 D = some (.lst acc) ∧ acc.length < szL ∧ sq.keep (upd T3 D (.lst (acc ++ [y]))) ∧ k (upd T3 D (.lst (acc ++ [y])))
        else sq.keep T2 ∧ k T2) (fun T => q (.ref D) T) (sq.items.drop i) T) ?_ ?_ ?_ ?_
  · exact ⟨eD, _, R1.newL (ds := []) hD Reps.nil, kp, run⟩
  · rintro i H _ ⟨ex, T, R, kp, _⟩
    exact ⟨ex, T, R, kp⟩
  · rintro i v H H' hi ⟨ex, T, R, kp, run⟩ ⟨e2, hR, d, hd, rd⟩
    have ed : sq.items.drop i = d :: sq.items.drop (i + 1) := by
      rw [List.drop_eq_getElem_cons hi]
      congr 1
      rw [List.getElem?_eq_getElem hi] at hd
      exact Option.some.inj hd
    rw [ed] at run
    refine ⟨d, wipe τ own, T, _, rd, ((co.mono ((e1.trans ex).trans e2)).wipe own), hR T R, run, fun σ' τ' ag co' hp => ⟨(ag.sub hown).wipe, ?_⟩⟩
    refine ⟨τ', T, _, nox, co', hR T R, hp, fun b H3 T3 e3 R3 hq => ?_, x0⟩
    cases b with
    | false =>
      obtain ⟨kp', run'⟩ := hq
      exact ⟨(ex.trans e2).trans e3, T3, R3, kp', run'⟩
    | true =>
      refine ⟨τ', T3, _, nox, co'.mono e3, R3, hq, fun y u H4 T4 e4 R4 ry ⟨acc, ha, hz, kp', run'⟩ => ?_, x0⟩
      obtain ⟨vs, hv, rs⟩ := R4.lst ha
      have e5 : Ext X.K H4 (L2.upd H4 D (.lst (vs ++ [u]))) := ext_put (by rw [hv]; exact True.intro)
      refine ⟨vs, hv, ?_, (((ex.trans e2).trans e3).trans e4).trans e5, _, R4.putL (ds := acc) (ds' := acc ++ [y]) hv (rs.app (Reps.cons ry Reps.nil)), kp', run'⟩
      rw [rs.len, sizeLine_eq]; exact hz
  · rintro H ⟨ex, T, R, kp, run⟩
    rw [List.drop_length] at run
    exact k (.ref D) (.ref D) H T (e1.trans ex) R rfl run
theorem c_lc (S : Sd X W sc N tb C cl L) {e : Ex} {tg : Tg} {it : Ito} {c : Op} {own : List Nat} {t i el : Expr} {ifs : List Expr} {s : Scope} {p : Pos}
    (h : (noSet i && blkC N sc s ((own.map fun j => (N.getD j Str.empty, j))) && ((tgS tg).all fun j => own.contains j)) = true)
    (hi : PI X t i (LI X W C cl r it))
    (hg : ∀ (s' : Shared) (H : Hp) (c' : Addr) (cs : List (Str × Addr)) (fp : List Addr), PG (X.blk s' H s (compEnvC s cs c' X.env) fp) t (lG X.K cl (tgS tg) (bindT tg)))
    (ht : ∀ (s' : Shared) (H : Hp) (c' : Addr) (cs : List (Str × Addr)) (fp : List Addr), PTs (X.blk s' H s (compEnvC s cs c' X.env) fp) ifs (LCt X C cl r c))
    (he : ∀ (s' : Shared) (H : Hp) (c' : Addr) (cs : List (Str × Addr)) (fp : List Addr), PE (X.blk s' H s (compEnvC s cs c' X.env) fp) el (LE X (fun _ _ _ _ => False) C cl r e)) :
    PE X (.ListComp el [⟨t, i, ifs, 0⟩] s p) (LE X W C cl r (.lc e tg it c own)) := by
  obtain ⟨h1, h3⟩ := band h
  obtain ⟨h1, h2⟩ := band h1
  have ok : BlkOk X.N X.env.scope s (own.map fun j => (N.getD j Str.empty, j)) := by
    rw [S.hN, S.hsc]; exact blkOk_by h2
  have eo : (own.map fun j => (N.getD j Str.empty, j)).map (·.2) = own := by
    rw [List.map_map]; simp [Function.comp_def]
  have ho : ∀ i ∈ tgS tg, i ∈ own := fun i hi => by
    have := List.all_eq_true.mp h3 i hi
    simpa using this
  have := pe_lc (pos := p) S.calm (by rw [S.hN]; exact S.nd) hi ok hg ht he (noSetI_of h1 _)
  rw [eo] at this
  exact PE.imp this fun σ H Q q => lc_tr ho σ H Q q
end
end Tr

/-! TL7c: a text that is what the small syntax says keeps its reading: expressions. -/
namespace Tr
open PySem PySem.Spec PyProof.Rows L2
section
variable {X : Cx} {W : WX} {sc : Scope} {N : List Str} {tb : Tb} {C : Ctx} {cl : Wd} {L r : Nat}
theorem t_of {x : Ex} {e : Expr} (hx : ∀ xe τ T q, rdT C r x xe τ T q → rdE C r x xe τ T (fun d T' => truR d T' fun b => q b T')) (he : ∀ whole, isTrue e X.env whole = (do let v ← whole; standAt e.pos; holding [v] (truthy v))) (hp : PE X e (LE X W C cl r x)) :
    PT X e (LT X W C cl r x) := by
  refine PT.imp (pt_truth hp he) fun σ H Q q => ?_
  obtain ⟨τ, T, q, x, co, R, h, k, w⟩ := q
  refine ⟨τ, T, _, x, co, R, hx _ _ _ _ h, fun d v H' T' e R' rd hq => ?_, w⟩
  obtain ⟨b, tv, hb⟩ := tru_rep R' rd hq
  exact ⟨b, tv, k b H' T' e R' hb⟩
theorem t_no {x : Ex} {e : Expr} (hx : ∀ xe τ T q, ¬ rdT C r x xe τ T q) : PT X e (LT X W C cl r x) :=
  ⟨fun pins s σ H Q I q => by obtain ⟨τ, T, q, x, co, R, h, k, w⟩ := q; exact (hx _ _ _ _ h).elim⟩
/-- what is shown of an expression -/
structure EOk (X : Cx) (W : WX) (C : Ctx) (cl : Wd) (r : Nat) (x : Ex) (e : Expr) : Prop where
  v : PE X e (LE X W C cl r x)
  t : PT X e (LT X W C cl r x)
  w : ∀ op es p, e = .BoolOp op es p → PW X e (LT X W C cl r x)
theorem con_true {d : D} {e : Expr} (h : mCon d e = true) (env : PySem.Env) : (∀ whole, isTrue e env whole = (do let v ← whole; standAt e.pos; holding [v] (truthy v))) ∧ ∀ op es p, e ≠ .BoolOp op es p := by
  unfold mCon at h
  split at h <;> first | exact ⟨fun _ => rfl, fun _ _ _ h => nomatch h⟩ | cases h
theorem and_w {op : BoolOp} : True := True.intro
end
variable {N : List Str} {tb : Tb} {C : Ctx} {cl : Wd} {L r : Nat}
mutual
theorem sE (hL : r < L) : ∀ (x : Ex) {X : Cx} {W : WX} {sc : Scope} {e : Expr}, Sd X W sc N tb C cl L → mE tb N sc x e = true → EOk X W C cl r x e
  | .var i, X, W, sc, e, S, h => by
    cases e with
    | Name y p =>
      have z := c_var (r := r) (pos := p) S (show (_ && _ && _) = true from h)
      exact ⟨z, t_of (fun _ _ _ _ h => h) (fun _ => rfl) z, fun _ _ _ h => nomatch h⟩
    | _ => cases h
  | .con d, X, W, sc, e, S, h => by
    have h : mCon d e = true := h
    obtain ⟨h1, h2⟩ := con_true h X.env
    exact ⟨c_con h, t_of (fun _ _ _ _ h => h) h1 (c_con h), fun _ _ _ q => absurd q (h2 _ _ _)⟩
  | .glb j, X, W, sc, e, S, h => by
    cases e with
    | Name y p =>
      have z := c_glb (r := r) (pos := p) S (show (_ && _ && _) = true from h)
      exact ⟨z, t_of (fun _ _ _ _ h => h) (fun _ => rfl) z, fun _ _ _ h => nomatch h⟩
    | _ => cases h
  | .tup es, X, W, sc, e, S, h => by
    cases e with
    | Tuple ys k p => exact ⟨c_tup (sEs hL es S h), t_no fun _ _ _ _ h => h, fun _ _ _ h => nomatch h⟩
    | _ => cases h
  | .lst es, X, W, sc, e, S, h => by
    cases e with
    | List ys p => exact ⟨c_lst (sEs hL es S h), t_no fun _ _ _ _ h => h, fun _ _ _ h => nomatch h⟩
    | _ => cases h
  | .dcl ks vs, X, W, sc, e, S, h => by
    cases e with
    | Dict a b p =>
      cases a with
      | cons _ _ => cases h
      | nil => cases b with
        | cons _ _ => cases h
        | nil => exact ⟨c_dcl, t_no fun _ _ _ _ h => h, fun _ _ _ h => nomatch h⟩
    | _ => cases h
  | .bin o a b, X, W, sc, e, S, h => by
    cases e with
    | BinOp l op m p =>
      obtain ⟨h1, h3⟩ := band (show (_ && _) = true from h)
      obtain ⟨h1, h2⟩ := band h1
      have z := c_bin (pos := p) (of_decide_eq_true h1) (sE hL a S h2).v (sE hL b S h3).v
      exact ⟨z, t_of (fun _ _ _ _ h => h) (fun _ => rfl) z, fun _ _ _ h => nomatch h⟩
    | _ => cases h
  | .neg a, X, W, sc, e, S, h => by
    cases e with
    | UnaryOp op l p =>
      cases op with
      | USub => exact ⟨c_neg (sE hL a S h).v, t_no fun _ _ _ _ h => h, fun _ _ _ h => nomatch h⟩
      | _ => cases h
    | _ => cases h
  | .cmp o a b, X, W, sc, e, S, h => by
    cases e with
    | Compare l ops rs p =>
      cases ops with
      | nil => cases h
      | cons op ops =>
        cases ops with
        | cons op2 ops => cases rs with
          | nil => cases h
          | cons _ rs => cases rs with
            | nil => cases h
            | cons _ rs => cases h
        | nil =>
          cases rs with
          | nil => cases h
          | cons m rs =>
            cases rs with
            | cons _ _ => cases h
            | nil =>
              obtain ⟨h1, h4⟩ := band (show (_ && _) = true from h)
              obtain ⟨h1, h3⟩ := band h1
              obtain ⟨h1, h2⟩ := band h1
              exact ⟨c_cmp S (of_decide_eq_true h1) h2 (sE hL a S h3).v (sE hL b S h4).v, t_cmp S (of_decide_eq_true h1) h2 (sE hL a S h3).v (sE hL b S h4).v, fun _ _ _ h => nomatch h⟩
    | _ => cases h
  | .chn o o' a b c, X, W, sc, e, S, h => by
    cases e with
    | Compare l ops rs p =>
      cases ops with
      | nil => cases h
      | cons op ops =>
        cases ops with
        | nil => cases rs with
          | nil => cases h
          | cons _ rs => cases rs with
            | nil => cases h
            | cons _ rs => cases h
        | cons op2 ops =>
          cases ops with
          | cons _ _ => cases h
          | nil =>
            cases rs with
            | nil => cases h
            | cons m rs =>
              cases rs with
              | nil => cases h
              | cons m2 rs =>
                cases rs with
                | cons _ _ => cases h
                | nil =>
                  obtain ⟨h1, h6⟩ := band (show (_ && _) = true from h)
                  obtain ⟨h1, h5⟩ := band h1
                  obtain ⟨h1, h4⟩ := band h1
                  obtain ⟨h1, h3⟩ := band h1
                  obtain ⟨h1, h2⟩ := band h1
                  exact ⟨c_chn S (of_decide_eq_true h1) (of_decide_eq_true h2) h3 (sE hL a S h4).v (sE hL b S h5).v (sE hL c S h6).v,
                    t_chn S (of_decide_eq_true h1) (of_decide_eq_true h2) h3 (sE hL a S h4).v (sE hL b S h5).v (sE hL c S h6).v, fun _ _ _ h => nomatch h⟩
    | _ => cases h
  | .and_ a b, X, W, sc, e, S, h => by
    cases e with
    | BoolOp op es p =>
      cases op with
      | Or => cases h
      | And =>
        cases es with
        | nil => cases h
        | cons l es =>
          cases es with
          | nil => cases h
          | cons m rest =>
            obtain ⟨h1, h2⟩ := band (show (_ && _) = true from h)
            have za := sE hL a S h1
            cases rest with
            | nil =>
              have zb := sE hL b S h2
              have zw := t_and (pos := p) za.t (pw_and1 (pos := p) zb.t)
              exact ⟨c_and za.v (pe_one zb.v), zw.pt, fun _ _ _ _ => zw⟩
            | cons n rest =>
              have zb := sE hL b S h2
              have zw := t_and (pos := p) za.t (zb.w _ _ _ rfl)
              exact ⟨c_and za.v zb.v, zw.pt, fun _ _ _ _ => zw⟩
    | _ => cases h
  | .or_ a b, X, W, sc, e, S, h => by
    cases e with
    | BoolOp op es p =>
      cases op with
      | And => cases h
      | Or =>
        cases es with
        | nil => cases h
        | cons l es =>
          cases es with
          | nil => cases h
          | cons m rest =>
            obtain ⟨h1, h2⟩ := band (show (_ && _) = true from h)
            have za := sE hL a S h1
            cases rest with
            | nil =>
              have zb := sE hL b S h2
              have zw := t_or (pos := p) za.t (pw_or1 (pos := p) zb.t)
              exact ⟨c_or za.v (pe_one zb.v), zw.pt, fun _ _ _ _ => zw⟩
            | cons n rest =>
              have zb := sE hL b S h2
              have zw := t_or (pos := p) za.t (zb.w _ _ _ rfl)
              exact ⟨c_or za.v zb.v, zw.pt, fun _ _ _ _ => zw⟩
    | _ => cases h
  | .not_ a, X, W, sc, e, S, h => by
    cases e with
    | UnaryOp op l p =>
      cases op with
      | Not =>
        have z := sE hL a S (show mE tb N sc a l = true from h)
        exact ⟨c_not z.v, t_not z.t, fun _ _ _ h => nomatch h⟩
      | _ => cases h
    | _ => cases h
  | .ite c a b, X, W, sc, e, S, h => by
    cases e with
    | IfExp t l m p =>
      obtain ⟨h1, h3⟩ := band (show (_ && _) = true from h)
      obtain ⟨h1, h2⟩ := band h1
      exact ⟨c_ite (sE hL c S h1).t (sE hL a S h2).v (sE hL b S h3).v, t_no fun _ _ _ _ h => h, fun _ _ _ h => nomatch h⟩
    | _ => cases h
  | .ix a i, X, W, sc, e, S, h => by
    cases e with
    | Subscript l m p =>
      obtain ⟨h1, h3⟩ := band (show (_ && _) = true from h)
      obtain ⟨h1, h2⟩ := band h1
      have z := c_ix (pos := p) S h1 (sE hL a S h2).v (sE hL i S h3).v
      exact ⟨z, t_of (fun _ _ _ _ h => h) (fun _ => rfl) z, fun _ _ _ h => nomatch h⟩
    | _ => cases h
  | .sl a lo hi, X, W, sc, e, S, h => by
    cases e with
    | Subscript l m p =>
      cases m with
      | Slice x y st p2 =>
        cases st with
        | some _ => cases h
        | none =>
          obtain ⟨h1, h3⟩ := band (show (_ && _) = true from h)
          obtain ⟨h1, h2⟩ := band h1
          have z := c_sl (pos := p) (p2 := p2) (sE hL a S h1).v (sO hL lo S h2) (sO hL hi S h3)
          exact ⟨z, t_of (fun _ _ _ _ h => h) (fun _ => rfl) z, fun _ _ _ h => nomatch h⟩
      | _ => cases h
    | _ => cases h
  | .call k es, X, W, sc, e, S, h => by
    cases e with
    | Call f ys ks p =>
      cases f with
      | Name y p2 =>
        cases ks with
        | cons _ _ => cases h
        | nil =>
          obtain ⟨h1, h2⟩ := band (show (_ && _) = true from h)
          have z := c_call (p := p2) (pos := p) S hL h1 h2 (sEs hL es S h2)
          exact ⟨z, t_of (fun _ _ _ _ h => h) (fun _ => rfl) z, fun _ _ _ h => nomatch h⟩
      | _ => cases h
    | _ => cases h
  | .make c k es, X, W, sc, e, S, h => by
    cases e with
    | Call f ys ks p =>
      cases f with
      | Name y p2 =>
        cases ks with
        | cons _ _ => cases h
        | nil =>
          obtain ⟨h1, h2⟩ := band (show (_ && _) = true from h)
          have z := c_make (p := p2) (pos := p) S hL h1 h2 (sEs hL es S h2)
          exact ⟨z, t_no fun _ _ _ _ h => h, fun _ _ _ h => nomatch h⟩
      | _ => cases h
    | _ => cases h
  | .meth o k es, X, W, sc, e, S, h => by
    cases e with
    | Call f ys ks p =>
      cases f with
      | Attribute l m p2 =>
        cases ks with
        | cons _ _ => cases h
        | nil =>
          obtain ⟨h1, h5⟩ := band (show (_ && _) = true from h)
          obtain ⟨h1, h2⟩ := band h1
          obtain ⟨h1, h4⟩ := band h1
          have z := c_meth (ap := p2) (p := p) S hL h1 h2 (by have := of_decide_eq_true h5; omega) (sE hL o S h4).v (sEs hL es S h2)
          exact ⟨z, t_of (fun _ _ _ _ h => h) (fun _ => rfl) z, fun _ _ _ h => nomatch h⟩
      | _ => cases h
    | _ => cases h
  | .blt f es, X, W, sc, e, S, h => by
    cases e with
    | Call g ys ks p =>
      cases g with
      | Name y p2 =>
        cases ys with
        | nil => cases h
        | cons l ys =>
          cases ks with
          | cons _ _ => cases h
          | nil =>
            have h : (decide (y = (bltN f : Str)) && tb.free y && gls sc y && mEs tb N sc es (l :: ys)) = true := h
            have z := c_blt (p := p2) (pos := p) S h (sEs hL es S (band h).2)
            exact ⟨z, t_of (fun _ _ _ _ h => h) (fun _ => rfl) z, fun _ _ _ h => nomatch h⟩
      | _ => cases h
    | _ => cases h
  | .isi a t, X, W, sc, e, S, h => by
    cases e with
    | Call g ys ks p =>
      cases g with
      | Name y p2 =>
        cases ys with
        | nil => cases h
        | cons l ys =>
          cases ys with
          | nil => cases h
          | cons z ys =>
            cases z with
            | Name z p3 =>
              cases ys with
              | cons _ _ => cases h
              | nil =>
                cases ks with
                | cons _ _ => cases h
                | nil =>
                  obtain ⟨h1, h2⟩ := band (show (_ && _) = true from h)
                  have z := c_isi (p := p2) (p2 := p3) (pos := p) S h1 (sE hL a S h2).v
                  exact ⟨z, t_of (fun _ _ _ _ h => h) (fun _ => rfl) z, fun _ _ _ h => nomatch h⟩
            | _ => cases h
      | _ => cases h
    | _ => cases h
  | .bm o m es, X, W, sc, e, S, h => by
    cases e with
    | Call f ys ks p =>
      cases f with
      | Attribute l n p2 =>
        cases ks with
        | cons _ _ => cases h
        | nil =>
          obtain ⟨h1, h6⟩ := band (show (_ && _) = true from h)
          obtain ⟨h1, h5⟩ := band h1
          obtain ⟨h1, h4⟩ := band h1
          obtain ⟨h1, h3⟩ := band h1
          have z := c_bm (ap := p2) (p := p) S h1 h4 (of_decide_eq_true h5) (of_decide_eq_true h6) (sE hL o S h3).v (sEs hL es S h4)
          exact ⟨z, t_of (fun _ _ _ _ h => h) (fun _ => rfl) z, fun _ _ _ h => nomatch h⟩
      | _ => cases h
    | _ => cases h
  | .fld o f, X, W, sc, e, S, h => by
    cases e with
    | Attribute l n p =>
      obtain ⟨h1, h2⟩ := band (show (_ && _) = true from h)
      have z := c_fld (pos := p) S h1 (sE hL o S h2).v
      exact ⟨z, t_of (fun _ _ _ _ h => h) (fun _ => rfl) z, fun _ _ _ h => nomatch h⟩
    | _ => cases h
  | .lc x tg it c own, X, W, sc, e, S, h => by
    cases e with
    | ListComp el gs s p =>
      cases gs with
      | nil => cases h
      | cons g gs =>
        obtain ⟨t, i, ifs, n⟩ := g
        cases gs with
        | cons _ _ => cases n with
          | negSucc _ => cases h
          | ofNat n => cases n with
            | zero => cases h
            | succ _ => cases h
        | nil =>
          cases n with
          | negSucc _ => cases h
          | ofNat n =>
           cases n with
           | succ _ => cases h
           | zero =>
            obtain ⟨h1, h6⟩ := band (show (_ && _) = true from h)
            obtain ⟨h1, h5⟩ := band h1
            obtain ⟨h1, h4⟩ := band h1
            obtain ⟨h1, h3⟩ := band h1
            obtain ⟨h1, h2⟩ := band h1
            have z := c_lc (p := p) S (Bool.and_eq_true_iff.mpr ⟨Bool.and_eq_true_iff.mpr ⟨(band h1).1, h2⟩, h4⟩) (sI hL it S (band h1).2) (fun s' H c' cs fp => sG (S.blk s' H s c' cs fp) (fun _ q => q) tg h3)
              (fun s' H c' cs fp => sC hL c (S.blk s' H s c' cs fp) h5) (fun s' H c' cs fp => (sE hL x (S.blk s' H s c' cs fp) h6).v)
            exact ⟨z, t_no fun _ _ _ _ h => h, fun _ _ _ h => nomatch h⟩
    | _ => cases h
  | .dcall j kx es, X, W, sc, e, S, h => by
    cases e with
    | Call f ys ks p =>
      cases f with
      | Subscript g l p2 =>
        cases g with
        | Name y p1 =>
          cases ys with
          | nil => cases h
          | cons z ys =>
            cases ks with
            | cons _ _ => cases h
            | nil =>
              obtain ⟨h1, h6⟩ := band (show (_ && _) = true from h)
              obtain ⟨h1, h5⟩ := band h1
              obtain ⟨h1, h4⟩ := band h1
              exact ⟨c_dcall S hL h1 h4 (sE hL kx S h5).v h6 (sEs hL es S h6), t_no fun _ _ _ _ h => h, fun _ _ _ h => nomatch h⟩
        | _ => cases h
      | _ => cases h
    | _ => cases h
  | .dsp ks vs, X, W, sc, e, S, h => by
    cases e with
    | Dict xs ys p =>
      obtain ⟨h1, h4⟩ := band (show (_ && _) = true from h)
      obtain ⟨h1, h3⟩ := band h1
      obtain ⟨h1, h2⟩ := band h1
      exact ⟨c_dsp h1 h2 (of_decide_eq_true h3) (of_decide_eq_true h4) (sPs hL ks vs S h1 h2 (of_decide_eq_true h3)), t_no fun _ _ _ _ h => h, fun _ _ _ h => nomatch h⟩
    | _ => cases h
  | .dcn, X, W, sc, e, S, h => by
    cases e with
    | Dict a b p =>
      cases a with
      | cons _ _ => cases h
      | nil => cases b with
        | cons _ _ => cases h
        | nil => exact ⟨c_dcn, t_no fun _ _ _ _ h => h, fun _ _ _ h => nomatch h⟩
    | _ => cases h
  | .opq, X, W, sc, e, S, h => ⟨⟨fun pins s σ H Q I q => by obtain ⟨τ, T, q, x, co, R, h, k, w⟩ := q; exact h.elim⟩, t_no fun _ _ _ _ h => h, fun _ _ _ _ => ⟨fun wh pins s σ H Q I q => by obtain ⟨τ, T, q, x, co, R, h, k, w⟩ := q; exact h.elim⟩⟩
theorem sEs (hL : r < L) : ∀ (es : Exs) {X : Cx} {W : WX} {sc : Scope} {ys : List Expr}, Sd X W sc N tb C cl L → mEs tb N sc es ys = true → PA X ys (LA X W C cl r es)
  | .nil, X, W, sc, ys, S, h => by
    cases ys with
    | nil => exact c_nil
    | cons _ _ => cases h
  | .cons e es, X, W, sc, ys, S, h => by
    cases ys with
    | nil => cases h
    | cons y ys =>
      obtain ⟨h1, h3⟩ := band (show (_ && _) = true from h)
      obtain ⟨h1, h2⟩ := band h1
      exact c_cons (sE hL e S h2).v (sEs hL es S h3) (noStar_of h1 _ _)
theorem sPs (hL : r < L) : ∀ (ks : List (List Nat)) (es : Exs) {X : Cx} {W : WX} {sc : Scope} {xs : List (Option Expr)} {ys : List Expr} {pos : Pos}, Sd X W sc N tb C cl L → mKs ks xs = true → mEs tb N sc es ys = true → ks.length = exsLen es →
    PPs X pos xs ys (trP X W C cl r ks es)
  | [], .nil, X, W, sc, xs, ys, pos, S, h, hm, hl => by
    cases xs with
    | cons _ _ => cases h
    | nil => cases ys with
      | cons _ _ => cases hm
      | nil => exact pps_nil
  | k :: ks, .cons e es, X, W, sc, xs, ys, pos, S, h, hm, hl => by
    cases xs with
    | nil => cases h
    | cons x xs =>
      cases ys with
      | nil => cases hm
      | cons y ys =>
        obtain ⟨m1, m3⟩ := band (show (_ && _) = true from hm)
        obtain ⟨m1, m2⟩ := band m1
        cases x with
        | none => cases h
        | some x =>
          cases x with
          | Constant c a b =>
            cases c with
            | str z =>
              obtain ⟨h1, h2⟩ := band (show (_ && _) = true from h)
              have ez := of_decide_eq_true h1
              subst ez
              exact pps_cons pe_str (sE hL e S m2).v (sPs hL ks es S h2 m3 (by simpa [exsLen] using hl))
            | _ => cases h
          | _ => cases h
  | [], .cons _ _, _, _, _, _, _, _, _, _, _, hl => by simp [exsLen] at hl
  | _ :: _, .nil, _, _, _, _, _, _, _, _, _, hl => by simp [exsLen] at hl
theorem sO (hL : r < L) : ∀ (o : Op) {X : Cx} {W : WX} {sc : Scope} {y : Option Expr}, Sd X W sc N tb C cl L → mO tb N sc o y = true → PO X y (LO X W C cl r o)
  | .no, X, W, sc, y, S, h => by
    cases y with
    | none => exact c_no
    | some _ => cases h
  | .so e, X, W, sc, y, S, h => by
    cases y with
    | none => cases h
    | some y => exact c_so (sE hL e S h).v
theorem sC (hL : r < L) : ∀ (o : Op) {X : Cx} {sc : Scope} {ys : List Expr}, Sd X (fun _ _ _ _ => False) sc N tb C cl L → mC tb N sc o ys = true → PTs X ys (LCt X C cl r o)
  | .no, X, sc, ys, S, h => by
    cases ys with
    | nil => exact ct_no
    | cons _ _ => cases h
  | .so e, X, sc, ys, S, h => by
    cases ys with
    | nil => cases h
    | cons y ys =>
      cases ys with
      | cons _ _ => cases h
      | nil => exact ct_so (sE hL e S h).t
theorem sI (hL : r < L) : ∀ (it : Ito) {X : Cx} {W : WX} {sc : Scope} {tg y : Expr}, Sd X W sc N tb C cl L → mI tb N sc it tg y = true → PI X tg y (LI X W C cl r it)
  | .ex e, X, W, sc, tg, y, S, h => i_ex (sE hL e S h).v
  | .exd e, X, W, sc, tg, y, S, h => i_exd S (sE hL e S h).v
  | .rng1 a, X, W, sc, tg, y, S, h => by
    cases y with
    | Call f ys ks p =>
      cases f with
      | Name z p2 =>
        cases ys with
        | nil => cases h
        | cons l ys =>
          cases ys with
          | cons _ _ => cases h
          | nil =>
            cases ks with
            | cons _ _ => cases h
            | nil =>
              obtain ⟨h1, h2⟩ := band (show (_ && _) = true from h)
              exact i_rng1 S h1 (sE hL a S h2).v
      | _ => cases h
    | _ => cases h
  | .rng2 a b, X, W, sc, tg, y, S, h => by
    cases y with
    | Call f ys ks p =>
      cases f with
      | Name z p2 =>
        cases ys with
        | nil => cases h
        | cons l ys =>
          cases ys with
          | nil => cases h
          | cons m ys =>
            cases ys with
            | cons _ _ => cases h
            | nil =>
              cases ks with
              | cons _ _ => cases h
              | nil =>
                obtain ⟨h1, h3⟩ := band (show (_ && _) = true from h)
                obtain ⟨h1, h2⟩ := band h1
                exact i_rng2 S h1 (sE hL a S h2).v (sE hL b S h3).v
      | _ => cases h
    | _ => cases h
  | .enm a, X, W, sc, tg, y, S, h => by
    cases y with
    | Call f ys ks p =>
      cases f with
      | Name z p2 =>
        cases ys with
        | nil => cases h
        | cons l ys =>
          cases ys with
          | cons _ _ => cases h
          | nil =>
            cases ks with
            | cons _ _ => cases h
            | nil =>
              cases tg with
              | Tuple ts kk tp =>
                obtain ⟨h1, h2⟩ := band (show (_ && _) = true from h)
                exact i_enm S h1 (sE hL a S h2).v
              | _ => cases h
      | _ => cases h
    | _ => cases h
  | .zip a b, X, W, sc, tg, y, S, h => by
    cases y with
    | Call f ys ks p =>
      cases f with
      | Name z p2 =>
        cases ys with
        | nil => cases h
        | cons l ys =>
          cases ys with
          | nil => cases h
          | cons m ys =>
            cases ys with
            | cons _ _ => cases h
            | nil =>
              cases ks with
              | cons _ _ => cases h
              | nil =>
                cases tg with
                | Tuple ts kk tp =>
                  obtain ⟨h1, h3⟩ := band (show (_ && _) = true from h)
                  obtain ⟨h1, h2⟩ := band h1
                  exact i_zip S h1 (sE hL a S h2).v (sE hL b S h3).v
                | _ => cases h
      | _ => cases h
    | _ => cases h
end
end Tr

/-! TL8: statements. -/
namespace Tr
open PySem PySem.Spec PyProof.Rows L2
/-- what is wanted behind a statement -/
structure EndsOk (K : PySem.W.Frag) (cl : Wd) (W : WX) (H : Hp) (N : TEnds) (D : Ends) : Prop where
  nx : ∀ σ τ H' T', Ext K H H' → Cor K H' σ τ → HRep K cl H' T' → N.nx τ T' → D.nx σ H'
  rt : ∀ d v H' T', Ext K H H' → HRep K cl H' T' → Rep K H' d v → N.rt d T' → D.rt v H'
  bk : ∀ σ τ H' T', Ext K H H' → Cor K H' σ τ → HRep K cl H' T' → N.bk τ T' → D.bk σ H'
  ct : ∀ σ τ H' T', Ext K H H' → Cor K H' σ τ → HRep K cl H' T' → N.ct τ T' → D.ct σ H'
  xe : ∀ c σ τ H' T', Ext K H H' → Cor K H' σ τ → HRep K cl H' T' → N.xe c τ T' → W (.ref (cl.f c)) none σ H'
theorem EndsOk.mono {K cl W H H1 N D} (h : EndsOk K cl W H N D) (e : Ext K H H1) : EndsOk K cl W H1 N D :=
  ⟨fun σ τ H' T' e' => h.nx σ τ H' T' (e.trans e'), fun d v H' T' e' => h.rt d v H' T' (e.trans e'), fun σ τ H' T' e' => h.bk σ τ H' T' (e.trans e'), fun σ τ H' T' e' => h.ct σ τ H' T' (e.trans e'), fun c σ τ H' T' e' => h.xe c σ τ H' T' (e.trans e')⟩
theorem EndsOk.x {K cl W H N D σ τ} (h : EndsOk K cl W H N D) (co : Cor K H σ τ) : XOk K cl W σ H (fun c T => N.xe c τ T) := fun c H' T' e R q => h.xe c σ τ H' T' e (co.mono e) R q
def lS (K : PySem.W.Frag) (cl : Wd) (W : WX) (t : TEnds → Env → TH → Prop) : TS := fun D σ H => ∃ τ T N, Cor K H σ τ ∧ HRep K cl H T ∧ t N τ T ∧ EndsOk K cl W H N D
def noDisp : Expr → Bool
  | .Tuple _ _ _ => false
  | .List _ _ => false
  | _ => true
def noDispOr : Expr → Expr → Bool
  | .Name _ _, _ => true
  | _, v => noDisp v
theorem noDisp_of {t v : Expr} {env : PySem.Env} (h : noDispOr t v = true) (ht : (∃ y p, t = .Name y p) ∨ ∃ es k p, t = .Tuple es k p) : swappedStores [t] v env = pure none := by
  rcases ht with ⟨y, p, rfl⟩ | ⟨es, k, p, rfl⟩
  · cases v <;> rfl
  · cases v <;> first | rfl | cases h
def isLc : Ex → Bool
  | .lc _ _ _ _ _ => true
  | _ => false
def tgName : Tg → Option Nat
  | .nm i => some i
  | _ => none
/-- y = [..] on one line -/
def lcLine (sc : Scope) (t v : Expr) : Bool := match t, v with
  | .Name y py, .ListComp _ _ s p => decide (sc.names.lookup y = some .local) && decide (py.line = p.line) && !(s.names.any fun (n, k) => n == y && (k == .local || k == .cell))
  | _, _ => false
def isTupE : Expr → Bool
  | .Tuple _ _ _ => true
  | _ => false
theorem noComp_of2 {e t : Expr} (h : (noComp e || isTupE t) = true) (l : Nat) (env : PySem.Env) : swapsWith e (some t) l env = pure false := by
  rcases Bool.or_eq_true_iff.mp h with h | h
  · exact noComp_of h _ _ _
  · cases t with
    | Tuple es k p => cases e <;> rfl
    | _ => cases h
def mAs (tb : Tb) (N : List Str) (sc : Scope) (tg : Tg) (x : Ex) (t v : Expr) : Bool :=
  mG N sc (fun _ => true) tg t && mE tb N sc x v && (((noComp v || isTupE t) && noDispOr t v) || (isLc x && lcLine sc t v))
mutual
def mS (tb : Tb) (N : List Str) (sc : Scope) (s : Sm) (st : Stmt) : Bool := match s with
  | .asg tg e => (match st with | .Assign [t] v _ => mAs tb N sc tg e t v | _ => false)
  | .asgI o i e => (match st with | .Assign [.Subscript l m _] v _ => noComp v && noSlice m && mE tb N sc e v && mE tb N sc o l && mE tb N sc i m | _ => false)
  | .asgF o f e => (match st with | .Assign [.Attribute l n _] v _ => noComp v && decide (n = stS f) && mE tb N sc e v && mE tb N sc o l | _ => false)
  | .aug i o e => (match st with | .AugAssign (.Name y _) op v _ => decide (N[i]? = some y) && loc sc y && decide (op = opB o) && mE tb N sc e v | _ => false)
  | .expr e => (match st with | .Expr v _ => noComp v && mE tb N sc e v | _ => false)
  | .ret e => (match st with | .Return (some v) _ => mE tb N sc e v | _ => false)
  | .retN => (match st with | .Return none _ => true | _ => false)
  | .if_ c a b => (match st with | .If t x y _ => mE tb N sc c t && mSs tb N sc a x && mSs tb N sc b y | _ => false)
  | .whl c b => (match st with | .While t x [] _ => mE tb N sc c t && mSs tb N sc b x | _ => false)
  | .for_ tg it b => (match st with | .For t i x [] _ => mG N sc (fun _ => true) tg t && noSet i && mI tb N sc it t i && mSs tb N sc b x | _ => false)
  | .pass => (match st with | .Pass _ => true | _ => false)
  | .brk => (match st with | .Break _ => true | _ => false)
  | .cont => (match st with | .Continue _ => true | _ => false)
  | .opq => true
  | .raise _ => false
  | .try_ _ _ _ => false
def mSs (tb : Tb) (N : List Str) (sc : Scope) (ss : Sms) (sts : List Stmt) : Bool := match ss, sts with
  | .nil, [] => true
  | .cons s ss, st :: sts => mS tb N sc s st && mSs tb N sc ss sts
  | _, _ => false
end
section
variable {X : Cx} {W : WX} {sc : Scope} {N : List Str} {tb : Tb} {C : Ctx} {cl : Wd} {L r : Nat}
abbrev LS (X : Cx) (W : WX) (C : Ctx) (cl : Wd) (r : Nat) (s : Sm) : TS := lS X.K cl W (rdS C r s)
abbrev LSs (X : Cx) (W : WX) (C : Ctx) (cl : Wd) (r : Nat) (s : Sms) : TS := lS X.K cl W (rdSs C r s)
theorem freps_put {K : PySem.W.Frag} {H : Hp} {f : List Nat} {d : D} {v : V} (rv : Rep K H d v) : ∀ {fs : List (List Nat × D)} {ws : List (Str × V)}, FReps K H fs ws → FReps K H (putF f d fs) (L2.putF (stS f) v ws) ∧ ws.length = fs.length
  | [], _, h => by cases (show _ = [] from h); exact ⟨⟨v, [], rfl, rv, rfl⟩, rfl⟩
  | (g, w) :: fs, _, ⟨u, ws, e, ru, rs⟩ => by
    subst e
    obtain ⟨a, b⟩ := freps_put (f := f) rv rs
    refine ⟨?_, by simp [b]⟩
    by_cases hg : g = f
    · subst hg
      unfold putF L2.putF
      rw [if_pos rfl]
      first
        | (rw [if_pos rfl]; exact ⟨v, ws, rfl, rv, rs⟩)
        | (simp; exact ⟨v, ws, rfl, rv, rs⟩)
    · have hne : ¬ (stS g = stS f) := fun e => hg (stS_inj e)
      have hne2 : (stS g == stS f) = false := beq_eq_false_iff_ne.mpr hne
      unfold putF L2.putF
      rw [if_neg hg]
      first
        | (rw [if_neg hne]; exact ⟨u, _, rfl, ru, a⟩)
        | (simp only [hne2, Bool.false_eq_true, if_false]; exact ⟨u, _, rfl, ru, a⟩)
theorem kreps_any {K : PySem.W.Frag} {H : Hp} {k : DK} : ∀ {fs : List (DK × D)} {ws : List (Key × V)}, KReps K H fs ws → (ws.any fun kv => decide (kv.1 = kdk k)) = (fs.any fun kv => decide (kv.1 = k))
  | [], _, h => by cases (show _ = [] from h); rfl
  | (g, w) :: fs, _, ⟨u, ws, e, ru, rs⟩ => by
    subst e
    rw [List.any_cons, List.any_cons, kreps_any rs]
    congr 1
    exact decide_eq_decide.mpr ⟨fun e => kdk_inj e, fun e => congrArg kdk e⟩
theorem kreps_map {K : PySem.W.Frag} {H : Hp} {k : DK} {d : D} {v : V} (rv : Rep K H d v) : ∀ {fs : List (DK × D)} {ws : List (Key × V)}, KReps K H fs ws → KReps K H (fs.map (fun kv => if kv.1 = k then (kv.1, d) else kv)) (ws.map (fun kv => if kv.1 = kdk k then (kv.1, v) else kv))
  | [], _, h => by cases (show _ = [] from h); rfl
  | (g, w) :: fs, _, ⟨u, ws, e, ru, rs⟩ => by
    subst e
    rw [List.map_cons, List.map_cons]
    by_cases hg : g = k
    · rw [if_pos hg, if_pos (congrArg kdk hg)]
      exact ⟨v, _, rfl, rv, kreps_map rv rs⟩
    · rw [if_neg hg, if_neg (fun e => hg (kdk_inj e))]
      exact ⟨u, _, rfl, ru, kreps_map rv rs⟩
theorem kreps_app {K : PySem.W.Frag} {H : Hp} {k : DK} {d : D} {v : V} (rv : Rep K H d v) : ∀ {fs : List (DK × D)} {ws : List (Key × V)}, KReps K H fs ws → KReps K H (fs ++ [(k, d)]) (ws ++ [(kdk k, v)])
  | [], _, h => by cases (show _ = [] from h); exact ⟨v, [], rfl, rv, rfl⟩
  | (g, w) :: fs, _, ⟨u, ws, e, ru, rs⟩ => by subst e; exact ⟨u, _, rfl, ru, kreps_app rv rs⟩
theorem kreps_put {K : PySem.W.Frag} {H : Hp} {k : DK} {d : D} {v : V} {fs : List (DK × D)} {ws : List (Key × V)} (rv : Rep K H d v) (r : KReps K H fs ws) : KReps K H (dput k d fs) (putK ws (kdk k) v) := by
  unfold dput putK
  rw [kreps_any r]
  split
  · exact kreps_map rv r
  · exact kreps_app rv r
/-- o[i] = v by trees -/
def l3 (K : PySem.W.Frag) (cl : Wd) : TSet := fun o i v H Q => ∃ (x y d : Tr.D) (T : TH) (pp : TH → Prop), Rep K H x o ∧ Rep K H y i ∧ Rep K H d v ∧ HRep K cl H T ∧
  (∃ a, x = .ref a ∧ (match T a with
        | some (.lst xs) => ∃ k j, y = .int k ∧ L2.ixN xs.length k = some j ∧ pp (upd T a (.lst (xs.set j d)))
        | some (.dic kvs) => ∃ k, dkOf y = some k ∧ kvs.length < szL ∧ pp (upd T a (.dic (dput k d kvs)))
        | some (.dnk _ kvs) => ∃ k, nkOf y = some k ∧ kvs.length < szL ∧ pp (upd T a (.dnk none (dput k d kvs)))
        | _ => False)) ∧ ∀ H' T', Ext K H H' → HRep K cl H' T' → pp T' → Q H'
theorem set_ok (hu : X.A.units + 64 < cLine) (gh : Gh X cl) : PSet X (l3 X.K cl) := by
  intro pins s σ H o i v ov iv u Q I ro ri rv ⟨x, y, d, T, p, rx, ry, rd, R, ⟨a, ex, h⟩, k⟩
  subst ex
  obtain rfl : o = .ref a := rx
  cases q : T a with
  | none => rw [q] at h; exact h.elim
  | some w =>
    rw [q] at h
    cases w with
    | lst xs =>
      obtain ⟨n, j, ey, hj, hp⟩ := h
      subst ey
      obtain rfl : i = .int n := ry
      obtain ⟨vs, hv, rs⟩ := R.lst q
      have e : Ext X.K H (L2.upd H a (.lst (vs.set j v))) := ext_put (by rw [hv]; exact True.intro)
      exact set_list pins s σ H _ _ _ ov iv u Q I ro ri rv ⟨a, vs, n, j, rfl, rfl, hv, by rw [rs.len]; exact hj, k _ _ e (R.putL (ds := xs) (ds' := xs.set j d) hv (rs.set j rd)) hp⟩
    | dic kvs =>
      obtain ⟨kk, ek, hl, hp⟩ := h
      obtain ⟨ws, hv, rs⟩ := R a _ q
      have ei := dk_rep ry ek
      subst ei
      have e : Ext X.K H (L2.upd H a (.dK (putK ws (kdk kk) v))) := ext_put (by rw [hv]; exact True.intro)
      refine set_dict (by omega) pins s σ H _ _ _ ov iv u Q I ro ri rv ⟨a, _, rfl, DPut.k hv ?_, k _ _ e (R.set (o := .dic (dput kk d kvs)) e ⟨_, L2.upd_same, KReps.mono e (kreps_put rd rs)⟩) hp⟩
      rw [kreps_len rs, sizeLine_eq]; exact hl
    | dnk lk kvs =>
      obtain ⟨kk, ek, hl, hp⟩ := h
      obtain ⟨φ, ws, hv, rs, f⟩ := R a _ q
      have ei := nk_rep ry ek
      subst ei
      have e : Ext X.K H (L2.upd H a (.ext (NPhi cl a none (putK ws (kk.map kdk) v)))) := ext_put (by rw [hv]; exact True.intro)
      refine set_dictN gh pins s σ H _ _ _ ov iv u Q I ro ri rv ⟨a, lk, ws, _, rfl, rfl, ⟨φ, hv, f⟩, by rw [nreps_len rs, sizeLine_eq]; exact hl, k _ _ e (R.set (o := .dnk none (dput kk d kvs)) e ⟨_, _, L2.upd_same, NReps.mono e (nreps_put rd rs), fun _ h => h⟩) hp⟩
    | ins _ _ => exact h.elim
theorem s_asg {tg : Tg} {e : Ex} {t v : Expr} {p : Pos} (he : PE X v (LE X W C cl r e)) (hg : PG X t (lG X.K cl (tgS tg) (bindT tg))) (h1 : (noComp v || isTupE t) = true) (h2 : noDispOr t v = true) (ht : (∃ y p, t = .Name y p) ∨ ∃ es k p, t = .Tuple es k p) :
    PS X (.Assign [t] v p) (LS X W C cl r (.asg tg e)) := by
  refine PS.imp (ps_asg he hg (noComp_of2 h1 _ _) (noDisp_of h2 ht) (by rcases ht with ⟨y, p, rfl⟩ | ⟨es, k, p, rfl⟩ <;> rfl)) fun D σ H q => ?_
  obtain ⟨τ, T, N, co, R, h, E⟩ := q
  exact ⟨τ, T, _, _, co, R, h, fun d v H' T' e R' rd hq => ⟨d, τ, T', _, rd, co.mono e, R', hq, fun σ' τ' ag co' hp => E.nx σ' τ' H' T' e co' R' hp⟩, E.x co⟩
theorem s_asgI (S : Sd X W sc N tb C cl L) {o i e : Ex} {l m v : Expr} {p p2 : Pos} (h1 : noComp v = true) (hm : noSlice m = true) (he : PE X v (LE X W C cl r e)) (ho : PE X l (LE X W C cl r o)) (hi : PE X m (LE X W C cl r i)) :
    PS X (.Assign [.Subscript l m p2] v p) (LS X W C cl r (.asgI o i e)) := by
  have ha : ∀ v, assign (.Subscript l m p2) X.env v = (do
      let ov ← holding [v] (eval l X.env)
      let iv ← holding [v, ov] (eval m X.env)
      standAt p2
      holding [v, ov, iv] (setItem ov iv v)
      release [v, ov, iv] []) := by
    intro v
    cases m <;> first | rfl | cases hm
  refine PS.imp (ps_asg he (pg_sub ho hi (set_ok (cl := cl) S.hu S.gh) ha) (noComp_of h1 (some (.Subscript l m p2)) p.line X.env) (by cases v <;> rfl) rfl) fun D σ H q => ?_
  obtain ⟨τ, T, N, co, R, h, E⟩ := q
  refine ⟨τ, T, _, _, co, R, h, fun d v H' T' e R' rd hq => ⟨τ, T', _, _, co.mono e, R', hq, fun d2 v2 H2 T2 e2 R2 rd2 hq2 => ⟨τ, T2, _, _, (co.mono e).mono e2, R2, hq2, fun d3 v3 H3 T3 e3 R3 rd3 ⟨a, ea, hq3⟩ => ?_, (E.x co).mono (e.trans e2)⟩, (E.x co).mono e⟩, E.x co⟩
  exact ⟨d2, d3, d, T3, fun T => N.nx τ T, rd2.mono e3, rd3, (rd.mono e2).mono e3, R3, ⟨a, ea, hq3⟩, fun H' T' e' R' hp => E.nx σ τ H' T' (((e.trans e2).trans e3).trans e') ((((co.mono e).mono e2).mono e3).mono e') R' hp⟩
theorem s_asgF (S : Sd X W sc N tb C cl L) {o e : Ex} {f : List Nat} {l v : Expr} {n : Str} {p p2 : Pos} (h1 : noComp v = true) (hn : n = stS f) (he : PE X v (LE X W C cl r e)) (ho : PE X l (LE X W C cl r o)) :
    PS X (.Assign [.Attribute l n p2] v p) (LS X W C cl r (.asgF o f e)) := by
  subst hn
  refine PS.imp (ps_fld ho he (noComp_of h1 _ _ _)) fun D σ H q => ?_
  obtain ⟨τ, T, N, co, R, h, E⟩ := q
  refine ⟨τ, T, _, _, co, R, h, fun d v H' T' e R' rd hq => ⟨τ, T', _, _, co.mono e, R', hq, fun d2 v2 H2 T2 e2 R2 rd2 ⟨a, c, fs, ea, hT, hf, hl, hq2⟩ => ?_, (E.x co).mono e⟩, E.x co⟩
  subst ea
  obtain rfl : v2 = .ref a := rd2
  obtain ⟨dx, ws, hw, rw'⟩ := R2 a _ hT
  obtain ⟨hC, hN⟩ := S.fld c f hf
  obtain ⟨rp, hlen⟩ := freps_put (f := f) (rd.mono e2) rw'
  have e3 : Ext X.K H2 (L2.upd H2 a (.ins (cl.f c) dx (L2.putF (stS f) v ws))) := ext_put (by rw [hw]; exact True.intro)
  exact ⟨a, cl.f c, dx, ws, rfl, hw, hC, hN, by rw [hlen]; exact hl, E.nx σ τ _ _ ((e.trans e2).trans e3) ((((co.mono e).mono e2)).mono e3) (R2.set (o := .ins c (putF f d fs)) e3 ⟨dx, _, L2.upd_same, FReps.mono e3 rp⟩) hq2⟩
theorem s_aug (S : Sd X W sc N tb C cl L) (hfn : ∀ x, X.fn x = true) {i : Nat} {o : Bin} {e : Ex} {y : Str} {op : Operator} {v : Expr} {p p2 : Pos} (h : (decide (N[i]? = some y) && loc sc y && decide (op = opB o)) = true) (he : PE X v (LE X W C cl r e)) :
    PS X (.AugAssign (.Name y p2) op v p) (LS X W C cl r (.aug i o e)) := by
  obtain ⟨h1, h3⟩ := band h
  obtain ⟨h1, h2⟩ := band h1
  have eo := of_decide_eq_true h3
  subst eo
  have hN : X.N.Nodup := by rw [S.hN]; exact S.nd
  have hl : Loc X.env.scope y := by rw [S.hsc]; exact loc_of h2
  have fin : ∀ {f : Int → Int → Int} {D : Ends} {σ : L2.St} {H : Hp} {τ : Env} {T : TH} {N : TEnds} {x : Tr.D}, Cor X.K H σ τ → HRep X.K cl H T → EndsOk X.K cl W H N D → τ[i]? = some (some x) →
      rdE C r e (fun c T => N.xe c τ T) τ T (fun y T1 => ∃ a b, x = .int a ∧ y = .int b ∧ N.nx (setv τ i (.int (f a b))) T1) → tAug i (LE X W C cl r e) (ipI f) D σ H := by
    intro f D σ H τ T N x co R E ex h
    obtain ⟨v, ev, rv⟩ := co.2 _ _ ex
    refine ⟨v, ev, τ, T, _, _, co, R, h, fun d w H' T' e R' rd ⟨a, b, ea, eb, hq⟩ => ?_, E.x co⟩
    subst ea eb
    obtain rfl : v = .int a := rv
    obtain rfl : w = .int b := rd
    exact ⟨a, b, rfl, rfl, E.nx _ _ H' T' e ((co.mono e).set (d := .int (f a b)) rfl) R' hq⟩
  cases o with
  | add =>
    refine PS.imp (ps_aug hN (ix_get S (of_decide_eq_true h1)) hl he ip_add (.inl (hfn _))) fun D σ H q => ?_
    obtain ⟨τ, T, N, co, R, ⟨x, ex, h⟩, E⟩ := q
    exact fin co R E ex h
  | sub =>
    refine PS.imp (ps_aug hN (ix_get S (of_decide_eq_true h1)) hl he ip_sub (.inl (hfn _))) fun D σ H q => ?_
    obtain ⟨τ, T, N, co, R, ⟨x, ex, h⟩, E⟩ := q
    exact fin co R E ex h
  | _ =>
    refine PS.imp (ps_aug (ti := fun _ _ _ _ => False) hN (ix_get S (of_decide_eq_true h1)) hl he (fun _ _ _ _ _ _ _ _ _ _ _ _ h => h.elim) (.inl (hfn _))) fun D σ H q => ?_
    obtain ⟨τ, T, N, co, R, ⟨x, ex, h⟩, E⟩ := q
    obtain ⟨v, ev, rv⟩ := co.2 _ _ ex
    exact ⟨v, ev, τ, T, _, _, co, R, h, fun d w H' T' e R' rd ⟨a, b, ea, eb, hq⟩ => hq.elim, E.x co⟩
theorem s_expr {e : Ex} {v : Expr} {p : Pos} (h1 : noComp v = true) (he : PE X v (LE X W C cl r e)) : PS X (.Expr v p) (LS X W C cl r (.expr e)) := by
  refine PS.imp (ps_expr he (noComp_of h1 _ _ _)) fun D σ H q => ?_
  obtain ⟨τ, T, N, co, R, h, E⟩ := q
  exact ⟨τ, T, _, _, co, R, h, fun d v H' T' e R' rd hq => E.nx σ τ H' T' e (co.mono e) R' hq, E.x co⟩
theorem s_ret {e : Ex} {v : Expr} {p : Pos} (he : PE X v (LE X W C cl r e)) : PS X (.Return (some v) p) (LS X W C cl r (.ret e)) := by
  refine PS.imp (ps_ret he) fun D σ H q => ?_
  obtain ⟨τ, T, N, co, R, h, E⟩ := q
  exact ⟨τ, T, _, _, co, R, h, fun d v H' T' e R' rd hq => E.rt d v H' T' e R' rd hq, E.x co⟩
theorem s_retN {p : Pos} : PS X (.Return none p) (LS X W C cl r .retN) := by
  refine PS.imp ps_retN fun D σ H q => ?_
  obtain ⟨τ, T, N, co, R, h, E⟩ := q
  exact E.rt .non .non H T .refl R rfl h
theorem s_if {c : Ex} {a b : Sms} {t : Expr} {x y : List Stmt} {p : Pos} (hc : PT X t (LT X W C cl r c)) (ha : PSs X x (LSs X W C cl r a)) (hb : PSs X y (LSs X W C cl r b)) : PS X (.If t x y p) (LS X W C cl r (.if_ c a b)) := by
  refine PS.imp (ps_if hc ha hb) fun D σ H q => ?_
  obtain ⟨τ, T, N, co, R, h, E⟩ := q
  refine ⟨τ, T, _, _, co, R, h, fun b H' T' e R' hq => ?_, E.x co⟩
  cases b with
  | true => exact ⟨τ, T', N, co.mono e, R', hq, E.mono e⟩
  | false => exact ⟨τ, T', N, co.mono e, R', hq, E.mono e⟩
theorem s_whl (hp : PassesOwn (model X.prog X.w) X.A X.env X.xe) {c : Ex} {b : Sms} {t : Expr} {x : List Stmt} {p : Pos} (hc : PT X t (LT X W C cl r c)) (hb : PSs X x (LSs X W C cl r b)) : PS X (.While t x [] p) (LS X W C cl r (.whl c b)) := by
  refine PS.imp (ps_while hp hc hb) fun D σ H q => ?_
  obtain ⟨τ, T, N, co, R, ⟨n, h⟩, E⟩ := q
  let step : Env → TH → (Env → TH → Prop) → Prop := fun τ T k => rdT C r c (fun c T => N.xe c τ T) τ T fun b' T1 => if b' = true then rdSs C r b { N with nx := k, ct := k, bk := N.nx } τ T1 else N.nx τ T1
  refine ⟨fun m σ H' => ∃ τ T, Ext X.K H H' ∧ Cor X.K H' σ τ ∧ HRep X.K cl H' T ∧ whRun step m τ T, ⟨n, τ, T, .refl, co, R, h⟩, ?_⟩
  rintro m σ H1 ⟨τ, T, e1, co, R, h⟩
  cases m with
  | zero => exact h.elim
  | succ m =>
    refine ⟨τ, T, _, _, co, R, h, fun b' H' T' e R' hq => ?_, (E.mono e1).x co⟩
    cases b' with
    | false => exact E.nx σ τ H' T' (e1.trans e) (co.mono e) R' hq
    | true =>
      refine ⟨fun σ H' => ∃ τ T, Ext X.K H H' ∧ Cor X.K H' σ τ ∧ HRep X.K cl H' T ∧ whRun step m τ T, fun σ' H' w => ⟨m, Nat.lt_succ_self _, w⟩, τ, T', _, co.mono e, R', hq, ?_⟩
      have E1 := E.mono (e1.trans e)
      exact ⟨fun σ τ H2 T2 e2 co R hq => ⟨τ, T2, (e1.trans e).trans e2, co, R, hq⟩, E1.rt, E1.nx, fun σ τ H2 T2 e2 co R hq => ⟨τ, T2, (e1.trans e).trans e2, co, R, hq⟩, E1.xe⟩
theorem s_for (S : Sd X W sc N tb C cl L) (hp : PassesOwn (model X.prog X.w) X.A X.env X.xe) {tg : Tg} {it : Ito} {b : Sms} {t i : Expr} {x : List Stmt} {p : Pos} (hs : noSet i = true) (hi : PI X t i (LI X W C cl r it)) (hg : PG X t (lG X.K cl (tgS tg) (bindT tg))) (hb : PSs X x (LSs X W C cl r b)) :
    PS X (.For t i x [] p) (LS X W C cl r (.for_ tg it b)) := by
  refine PS.imp (ps_for hp S.calm hi hg hb (noSetI_of hs _)) fun D σ H q => ?_
  obtain ⟨τ, T, N, co, R, h, E⟩ := q
  refine ⟨τ, T, _, _, co, R, h, fun sq J H1 T1 e1 R1 j ⟨hk, hq⟩ => ?_, E.x co⟩
  let step : Tr.D → Tr.Env → TH → (Env → TH → Prop) → Prop := fun d τ T k => bindT tg d T τ fun τ' => rdSs C r b { N with nx := fun τ T => sq.keep T ∧ k τ T, ct := fun τ T => sq.keep T ∧ k τ T, bk := N.nx } τ' T
  refine for_it j (fun i σ H => ∃ τ T, Ext X.K H1 H ∧ Cor X.K H σ τ ∧ HRep X.K cl H T ∧ sq.keep T ∧ forRun step N.nx (sq.items.drop i) τ T) ?_ ?_ ?_ ?_
  · exact ⟨τ, T1, .refl, co.mono e1, R1, hk, hq⟩
  · rintro i σ H _ ⟨τ, T, ex, co, R, hk, _⟩
    exact ⟨ex, T, R, hk⟩
  · rintro i v σ H H' hi ⟨τ, T, ex, co, R, hk, run⟩ ⟨e2, hR, d, hd, rd⟩
    have ed : sq.items.drop i = d :: sq.items.drop (i + 1) := by
      rw [List.drop_eq_getElem_cons hi]
      congr 1
      rw [List.getElem?_eq_getElem hi] at hd
      exact Option.some.inj hd
    rw [ed] at run
    refine ⟨d, τ, T, _, rd, co.mono e2, hR T R, run, fun σ' τ' ag co' hp => ⟨τ', T, _, co', hR T R, hp, ?_⟩⟩
    have E1 := E.mono ((e1.trans ex).trans e2)
    exact ⟨fun σ τ H3 T3 e3 co R hq => ⟨τ, T3, (ex.trans e2).trans e3, co, R, hq.1, hq.2⟩, E1.rt, E1.nx, fun σ τ H3 T3 e3 co R hq => ⟨τ, T3, (ex.trans e2).trans e3, co, R, hq.1, hq.2⟩, E1.xe⟩
  · rintro σ H ⟨τ, T, ex, co, R, hk, run⟩
    rw [List.drop_length] at run
    exact E.nx σ τ H T (e1.trans ex) co R run
theorem s_pass {p : Pos} : PS X (.Pass p) (LS X W C cl r .pass) := by
  refine PS.imp ps_pass fun D σ H q => ?_
  obtain ⟨τ, T, N, co, R, h, E⟩ := q
  exact E.nx σ τ H T .refl co R h
theorem s_brk {p : Pos} : PS X (.Break p) (LS X W C cl r .brk) := by
  refine PS.imp ps_break fun D σ H q => ?_
  obtain ⟨τ, T, N, co, R, h, E⟩ := q
  exact E.bk σ τ H T .refl co R h
theorem s_cont {p : Pos} : PS X (.Continue p) (LS X W C cl r .cont) := by
  refine PS.imp ps_continue fun D σ H q => ?_
  obtain ⟨τ, T, N, co, R, h, E⟩ := q
  exact E.ct σ τ H T .refl co R h
theorem ss_nil : PSs X [] (LSs X W C cl r .nil) := by
  refine PSs.imp pss_nil fun D σ H q => ?_
  obtain ⟨τ, T, N, co, R, h, E⟩ := q
  exact E.nx σ τ H T .refl co R h
theorem ss_cons {s : Sm} {ss : Sms} {st : Stmt} {sts : List Stmt} (h1 : PS X st (LS X W C cl r s)) (h2 : PSs X sts (LSs X W C cl r ss)) : PSs X (st :: sts) (LSs X W C cl r (.cons s ss)) := by
  refine PSs.imp (pss_cons h1 h2) fun D σ H q => ?_
  obtain ⟨τ, T, N, co, R, h, E⟩ := q
  exact ⟨τ, T, _, co, R, h, ⟨fun σ τ H' T' e co R hq => ⟨τ, T', N, co, R, hq, E.mono e⟩, E.rt, E.bk, E.ct, E.xe⟩⟩
end
end Tr

/-! TL8b: a body that is what the small syntax says keeps its reading. -/
namespace Tr
open PySem PySem.Spec PyProof.Rows L2
/-- a def's own code -/
structure Sf (X : Cx) (W : WX) (sc : Scope) (N : List Str) (tb : Tb) (C : Ctx) (cl : Wd) (L : Nat) : Prop where
  s : Sd X W sc N tb C cl L
  fn : ∀ x, X.fn x = true
  ps : PassesOwn (model X.prog X.w) X.A X.env X.xe
  kd : X.env.scope.kind = .function
section
variable {X : Cx} {W : WX} {sc : Scope} {N : List Str} {tb : Tb} {C : Ctx} {cl : Wd} {L r : Nat}
theorem mG_form {fn : Str → Bool} {tg : Tg} {t : Expr} (h : mG N sc fn tg t = true) : (∃ y p, t = .Name y p) ∨ ∃ es k p, t = .Tuple es k p := by
  cases tg with
  | nm i => cases t with
    | Name y p => exact .inl ⟨y, p, rfl⟩
    | _ => cases h
  | tp ts => cases t with
    | Tuple es k p => exact .inr ⟨es, k, p, rfl⟩
    | _ => cases h
theorem lc_parts (hL : r < L) (S : Sd X W sc N tb C cl L) {x : Ex} {tg : Tg} {it : Ito} {c : Op} {own : List Nat} {v : Expr} (h : mE tb N sc (.lc x tg it c own) v = true) :
    ∃ t i ifs el s p, v = .ListComp el [⟨t, i, ifs, 0⟩] s p ∧ noSet i = true ∧ blkC N sc s ((own.map fun j => (N.getD j Str.empty, j))) = true ∧ ((tgS tg).all fun j => own.contains j) = true ∧ PI X t i (LI X W C cl r it) ∧
      (∀ (s' : Shared) (H : Hp) (c' : Addr) (cs : List (Str × Addr)) (fp : List Addr), PG (X.blk s' H s (compEnvC s cs c' X.env) fp) t (lG X.K cl (tgS tg) (bindT tg))) ∧
      (∀ (s' : Shared) (H : Hp) (c' : Addr) (cs : List (Str × Addr)) (fp : List Addr), PTs (X.blk s' H s (compEnvC s cs c' X.env) fp) ifs (LCt X C cl r c)) ∧
      (∀ (s' : Shared) (H : Hp) (c' : Addr) (cs : List (Str × Addr)) (fp : List Addr), PE (X.blk s' H s (compEnvC s cs c' X.env) fp) el (LE X (fun _ _ _ _ => False) C cl r x)) := by
  cases v with
  | ListComp el gs s p =>
    cases gs with
    | nil => cases h
    | cons g gs =>
      obtain ⟨t, i, ifs, n⟩ := g
      cases gs with
      | cons _ _ => cases n with
        | negSucc _ => cases h
        | ofNat n => cases n with
          | zero => cases h
          | succ _ => cases h
      | nil =>
        cases n with
        | negSucc _ => cases h
        | ofNat n =>
         cases n with
         | succ _ => cases h
         | zero =>
          obtain ⟨h1, h6⟩ := band (show (_ && _) = true from h)
          obtain ⟨h1, h5⟩ := band h1
          obtain ⟨h1, h4⟩ := band h1
          obtain ⟨h1, h3⟩ := band h1
          obtain ⟨h1, h2⟩ := band h1
          exact ⟨t, i, ifs, el, s, p, rfl, (band h1).1, h2, h4, sI hL it S (band h1).2, fun s' H c' cs fp => sG (S.blk s' H s c' cs fp) (fun _ q => q) tg h3,
            fun s' H c' cs fp => sC hL c (S.blk s' H s c' cs fp) h5, fun s' H c' cs fp => (sE hL x (S.blk s' H s c' cs fp) h6).v⟩
  | _ => cases h
theorem s_asgLc (hL : r < L) (F : Sf X W sc N tb C cl L) {tg : Tg} {x : Ex} {t v : Expr} {p : Pos} (hg : mG N sc (fun _ => true) tg t = true) (h : mE tb N sc x v = true) (h1 : isLc x = true) (h2 : lcLine sc t v = true) : PS X (.Assign [t] v p) (LS X W C cl r (.asg tg x)) := by
  have S := F.s
  cases x with
  | lc x tg' it c own =>
    obtain ⟨t', i, ifs, el, s, p', ev, a1, a2, a3, a4, a5, a6, a7⟩ := lc_parts hL S h
    subst ev
    cases t with
    | Name y py =>
      cases tg with
      | tp _ => cases hg
      | nm j =>
        obtain ⟨g1, _⟩ := band (show (_ && _) = true from hg)
        obtain ⟨g1, _⟩ := band g1
        obtain ⟨b1, b3⟩ := band (show (_ && _) = true from h2)
        obtain ⟨b1, b2⟩ := band b1
        have hy : X.N[j]? = some y := ix_get S (of_decide_eq_true g1)
        have hyl : X.env.scope.names.lookup y = some .local := by rw [S.hsc]; exact of_decide_eq_true b1
        have hline : (py.line == p'.line) = true := by rw [of_decide_eq_true b2]; exact beq_self_eq_true _
        have hany : (s.names.any fun (n, k) => n == y && (k == .local || k == .cell)) = false := by
          cases q : (s.names.any fun (n, k) => n == y && (k == .local || k == .cell)) with
          | false => rfl
          | true => rw [q] at b3; cases b3
        have ok : BlkOk X.N X.env.scope s (own.map fun j => (N.getD j Str.empty, j)) := by
          rw [S.hN, S.hsc]; exact blkOk_by a2
        have eo : (own.map fun j => (N.getD j Str.empty, j)).map (·.2) = own := by
          rw [List.map_map]; simp [Function.comp_def]
        have ho : ∀ i ∈ tgS tg', i ∈ own := fun i hi => by
          have := List.all_eq_true.mp a3 i hi
          simpa using this
        have z := ps_setLc (spos := p) S.calm (by rw [S.hN]; exact S.nd) hy hyl (sw_true F.kd hyl hline hany) a4 ok a5 a6 a7 (noSetI_of a1 _)
        rw [eo] at z
        refine PS.imp z fun D σ H q => ?_
        obtain ⟨τ, T, N', co, R, h, E⟩ := q
        have h' : rdE C r (.lc x tg' it c own) (fun c T => N'.xe c τ T) τ T (fun d T1 => bindT (.nm j) d T1 τ fun τ' => N'.nx τ' T1) := h
        refine lc_tr ho σ H _ ⟨τ, T, _, _, co, R, h', fun d v H' T' e R' rd hq => ?_, E.x co⟩
        exact E.nx _ _ H' T' e ((co.mono e).set rd) R' hq
    | _ => cases h2
  | _ => cases h1
theorem s_asgA (hL : r < L) (F : Sf X W sc N tb C cl L) {tg : Tg} {x : Ex} {t v : Expr} {p : Pos} (h : mAs tb N sc tg x t v = true) : PS X (.Assign [t] v p) (LS X W C cl r (.asg tg x)) := by
  obtain ⟨h1, h3⟩ := band (show (_ && _) = true from h)
  obtain ⟨h1, h2⟩ := band h1
  rcases Bool.or_eq_true_iff.mp h3 with h3 | h3
  · obtain ⟨h3, h4⟩ := band h3
    exact s_asg (sE hL x F.s h2).v (sG F.s (fun x _ => F.fn x) tg h1) h3 h4 (mG_form h1)
  · obtain ⟨h3, h4⟩ := band h3
    exact s_asgLc hL F h1 h2 h3 h4
end
variable {X : Cx} {W : WX} {sc : Scope} {N : List Str} {tb : Tb} {C : Ctx} {cl : Wd} {L r : Nat}
mutual
theorem sS (hL : r < L) (F : Sf X W sc N tb C cl L) : ∀ (s : Sm) {st : Stmt}, mS tb N sc s st = true → PS X st (LS X W C cl r s)
  | .asg tg e, st, h => by
    cases st with
    | Assign ts v p =>
      cases ts with
      | nil => cases h
      | cons t ts =>
        cases ts with
        | cons _ _ => cases h
        | nil => exact s_asgA hL F h
    | _ => cases h
  | .asgI o i e, st, h => by
    cases st with
    | Assign ts v p =>
      cases ts with
      | nil => cases h
      | cons t ts =>
        cases t with
        | Subscript l m p2 =>
          cases ts with
          | cons _ _ => cases h
          | nil =>
            obtain ⟨h1, h5⟩ := band (show (_ && _) = true from h)
            obtain ⟨h1, h4⟩ := band h1
            obtain ⟨h1, h3⟩ := band h1
            obtain ⟨h1, h2⟩ := band h1
            exact s_asgI F.s h1 h2 (sE hL e F.s h3).v (sE hL o F.s h4).v (sE hL i F.s h5).v
        | _ => cases ts <;> cases h
    | _ => cases h
  | .asgF o f e, st, h => by
    cases st with
    | Assign ts v p =>
      cases ts with
      | nil => cases h
      | cons t ts =>
        cases t with
        | Attribute l m p2 =>
          cases ts with
          | cons _ _ => cases h
          | nil =>
            obtain ⟨h1, h4⟩ := band (show (_ && _) = true from h)
            obtain ⟨h1, h3⟩ := band h1
            obtain ⟨h1, h2⟩ := band h1
            exact s_asgF F.s h1 (of_decide_eq_true h2) (sE hL e F.s h3).v (sE hL o F.s h4).v
        | _ => cases ts <;> cases h
    | _ => cases h
  | .aug i o e, st, h => by
    cases st with
    | AugAssign t op v p =>
      cases t with
      | Name y p2 =>
        obtain ⟨h1, h2⟩ := band (show (_ && _) = true from h)
        exact s_aug F.s F.fn h1 (sE hL e F.s h2).v
      | _ => cases h
    | _ => cases h
  | .expr e, st, h => by
    cases st with
    | Expr v p =>
      obtain ⟨h1, h2⟩ := band (show (_ && _) = true from h)
      exact s_expr h1 (sE hL e F.s h2).v
    | _ => cases h
  | .ret e, st, h => by
    cases st with
    | Return v p =>
      cases v with
      | none => cases h
      | some v => exact s_ret (sE hL e F.s h).v
    | _ => cases h
  | .retN, st, h => by
    cases st with
    | Return v p =>
      cases v with
      | some _ => cases h
      | none => exact s_retN
    | _ => cases h
  | .if_ c a b, st, h => by
    cases st with
    | If t x y p =>
      obtain ⟨h1, h3⟩ := band (show (_ && _) = true from h)
      obtain ⟨h1, h2⟩ := band h1
      exact s_if (sE hL c F.s h1).t (sSs hL F a h2) (sSs hL F b h3)
    | _ => cases h
  | .whl c b, st, h => by
    cases st with
    | While t x y p =>
      cases y with
      | cons _ _ => cases h
      | nil =>
        obtain ⟨h1, h2⟩ := band (show (_ && _) = true from h)
        exact s_whl F.ps (sE hL c F.s h1).t (sSs hL F b h2)
    | _ => cases h
  | .for_ tg it b, st, h => by
    cases st with
    | For t i x y p =>
      cases y with
      | cons _ _ => cases h
      | nil =>
        obtain ⟨h1, h4⟩ := band (show (_ && _) = true from h)
        obtain ⟨h1, h3⟩ := band h1
        obtain ⟨h1, h2⟩ := band h1
        exact s_for F.s F.ps h2 (sI hL it F.s h3) (sG F.s (fun x _ => F.fn x) tg h1) (sSs hL F b h4)
    | _ => cases h
  | .pass, st, h => by
    cases st with
    | Pass p => exact s_pass
    | _ => cases h
  | .brk, st, h => by
    cases st with
    | Break p => exact s_brk
    | _ => cases h
  | .cont, st, h => by
    cases st with
    | Continue p => exact s_cont
    | _ => cases h
  | .opq, st, h => ⟨fun pins s σ H D I q => by obtain ⟨τ, T, N', co, R, h, E⟩ := q; exact h.elim⟩
  | .raise _, st, h => by cases h
  | .try_ _ _ _, st, h => by cases h
theorem sSs (hL : r < L) (F : Sf X W sc N tb C cl L) : ∀ (ss : Sms) {sts : List Stmt}, mSs tb N sc ss sts = true → PSs X sts (LSs X W C cl r ss)
  | .nil, sts, h => by
    cases sts with
    | nil => exact ss_nil
    | cons _ _ => cases h
  | .cons s ss, sts, h => by
    cases sts with
    | nil => cases h
    | cons st sts =>
      obtain ⟨h1, h2⟩ := band (show (_ && _) = true from h)
      exact ss_cons (sS hL F s h1) (sSs hL F ss h2)
end
end Tr

/-! TL9: all defs of a program keep their promises. -/
namespace Tr
open PySem PySem.Spec PyProof.Rows L2
def startD (n : Nat) (ds : List D) : Env := ds.map some ++ List.replicate (n - ds.length) none
def endD (q : Kd) (x : XE) : TEnds := { nx := fun _ T => q .non T, rt := q, bk := fun _ _ => False, ct := fun _ _ => False, xe := fun c _ T => x c T }
/-- the plain part: each body, by its reading, does what its def promises -/
def PureOk (C : Ctx) (D : Nat → Dfn) (n : Nat) : Prop := ∀ i, i < n → ∀ ρ ds T q x, ds.length = (D i).ps.length → (C.G i).sp ρ ds T q x → rdSs C ρ (D i).ir (endD q x) (startD (D i).N.length ds) T
section
variable {P : Program} {w : World} {K : PySem.W.Frag} {mg : Str → Option Value} {base : Heap} {C : Ctx} {cl : Wd} {tb : Tb} {D : Nat → Dfn} {n : Nat} {f : Nat → Addr} {fd : Nat → FuncData}
/-- what is known of the text and the module -/
structure Known (w : World) (K : PySem.W.Frag) (mg : Str → Option Value) (C : Ctx) (cl : Wd) (tb : Tb) (D : Nat → Dfn) (n : Nat) (f : Nat → Addr) (fd : Nat → FuncData) : Prop where
  fun_ : ∀ i, i < n → FunD K (D i).x (D i).qual (defArgs (D i).st) (defBody (D i).st) (defScope (D i).st) [] [] (f i) (fd i)
  sc : ∀ i, i < n → FnScope (D i).N (D i).ps (defScope (D i).st)
  bi : ∀ i, i < n → Binds K (fd i) (D i).ps []
  mat : ∀ i, i < n → mSs tb (D i).N (defScope (D i).st) (D i).ir (defBody (D i).st) = true
  free : ∀ x, tb.free x = true → mg x = none
  gl : ∀ j x, tb.gl j = some x → ∃ u v, mg x = some u ∧ L2.RelV v u ∧ ∀ H, Rep K H (C.glb j) v
  fn : ∀ k x m, tb.fn k = some (x, m) → k < n ∧ mg x = some (.ref (f k)) ∧ m = (D k).ps.length
  mt : ∀ k m j, tb.mt k = some (m, j) → k < n ∧ m = stS (C.mn k) ∧ j = (D k).ps.length ∧ Cls K (cl.f (C.mc k)) ∧ Meth K (cl.f (C.mc k)) m (f k)
  mkr : ∀ c k x j, tb.mkc c k = some (x, j) → k < n ∧ j = (D k).ps.length ∧ Mk K (cl.f c) (f k) ∧ mg x = some (.ref (cl.f c))
  fld : ∀ c g, C.fok c g = true → Cls K (cl.f c) ∧ NoAttr K (cl.f c) (stS g)
  hw : cl.w = w
  gd : ∀ j y m, tb.gd j = some (y, m) → ∃ (a : Addr) (es : Array DictEntry) (m' : Nat), mg y = some (.ref a) ∧ KDict K w a es m' ∧ ∀ s k, C.dt j s = some k → k < n ∧ PySem.W.nsIn K a (stS s) = some (some (.ref (f k))) ∧ m = (D k).ps.length
theorem cor_start {K : PySem.W.Frag} {H : Hp} {ds : List Tr.D} {vs : List V} {N : List Str} (r : Reps K H ds vs) : Cor K H (L2.start N vs) (startD N.length ds) := by
  have hl := r.len
  refine ⟨by unfold startD L2.start; simp [hl], fun i d q => ?_⟩
  unfold startD at q
  have hi : i < ds.length := by
    by_cases h : i < ds.length
    · exact h
    · rw [List.getElem?_append_right (by simpa using h)] at q
      simp [List.getElem?_replicate] at q
  rw [List.getElem?_append_left (by simpa using hi)] at q
  have qd : ds[i]? = some d := by
    rw [List.getElem?_map] at q
    cases e : ds[i]? with
    | none => rw [e] at q; cases q
    | some d' => rw [e] at q; simp at q; subst q; rfl
  obtain ⟨v, e, rd⟩ := r.get qd
  refine ⟨v, ?_, rd⟩
  unfold L2.start
  rw [List.getElem?_append_left (by simp [hl, hi]), List.getElem?_map, e]; rfl
theorem prog_ok (hP : cl.P = P) (kn : Known w K mg C cl tb D n f fd) (pu : PureOk C D n) : ∀ L i, i < n → FnOk P w K mg base (L2.CX P w) L (f i) (fd i) (D i).ps (lSp K cl (C.G i) L (D i).ps.length) := by
  intro L
  induction L using Nat.strongRecOn with
  | _ L ih =>
    intro i hi
    cases L with
    | zero => exact ⟨fun vs H Q E h => h.1, fun A outer s H args us vs Q E _ _ _ _ h => by
        obtain ⟨_, ds, T, q, x, ρ, _, _, hr, _⟩ := h
        omega⟩
    | succ L =>
      have S0 := kn.sc i hi
      refine (kn.fun_ i hi).ok (CX := L2.CX P w) S0 (fun vs H Q E h => h.1) (fun cdv A outer s H vs Q E hr h => ?_)
      obtain ⟨hl, ds, T, q, x, ρ, rs, R, hrk, hs, k, w'⟩ := h
      have keep : ∀ j, j < n → PySem.W.keepIn K (.ref (f j)) = true := fun j hj => (kn.fun_ j hj).kp
      have S : Sd (cxOf (L2.CX P w) P w K mg base (D i).N (D i).qual (defScope (D i).st) (f i) cdv A outer s H E) (fun cls d _ H => E cls d H) (defScope (D i).st) (D i).N tb C cl L :=
        { calm := rfl
          hN := rfl
          nd := S0.nd
          hsc := rfl
          tk := takes_of rfl rfl rfl (E := E) rfl
          room := hr
          free := kn.free
          gl := kn.gl
          fn := fun k x m e => by
            obtain ⟨a, b, c⟩ := kn.fn k x m e
            subst c
            exact ⟨f k, fd k, _, ih L (Nat.lt_succ_self _) k a, b, keep k a, kn.bi k a⟩
          mt := fun k m j e => by
            obtain ⟨a, b, c, d1, d2⟩ := kn.mt k m j e
            subst c
            exact ⟨b, f k, fd k, _, ih L (Nat.lt_succ_self _) k a, d1, d2, kn.bi k a⟩
          mkc := fun c k x j e => by
            obtain ⟨a, b, d1, d2⟩ := kn.mkr c k x j e
            subst b
            exact ⟨f k, fd k, _, fun L' hL' => ih L' (by omega) k a, d1, d2, kn.bi k a⟩
          fld := kn.fld
          gh := ⟨hP, kn.hw⟩
          gd := fun j y m e => by
            obtain ⟨a, es, m', h1, h2, h3⟩ := kn.gd j y m e
            refine ⟨a, es, m', h1, h2, fun s k e2 => ?_⟩
            obtain ⟨b1, b2, b3⟩ := h3 s k e2
            subst b3
            exact ⟨f k, fd k, _, b2, ih L (Nat.lt_succ_self _) k b1, keep k b1, kn.bi k b1⟩ }
      have F : Sf (cxOf (L2.CX P w) P w K mg base (D i).N (D i).qual (defScope (D i).st) (f i) cdv A outer s H E) (fun cls d _ H => E cls d H) (defScope (D i).st) (D i).N tb C cl L :=
        ⟨S, fun _ => rfl, passes_of rfl, S0.kind⟩
      refine ⟨_, sSs (r := ρ) (by omega) F (D i).ir (kn.mat i hi), startD (D i).N.length ds, T, endD q x, cor_start rs, R, pu i hi ρ ds T q x (by rw [← rs.len]; exact hl) hs, ?_⟩
      exact ⟨fun σ τ H' T' e co R' hq => k .non .non H' T' e R' rfl hq, k, fun _ _ _ _ _ _ _ h => h.elim, fun _ _ _ _ _ _ _ h => h.elim, fun c σ τ H' T' e co R' hq => w' c H' T' e R' hq⟩
end
end Tr

set_option Elab.async false
set_option linter.all false
set_option maxRecDepth 100000
set_option maxHeartbeats 4000000
/-! TL9b: what the head's look tells, put together. -/
namespace Tr
open PySem PySem.Spec PyProof.Rows L2
def scC (N P : List Str) (sc : Scope) : Bool :=
  (match sc.kind with | .function => true | _ => false) && !sc.isCoroutine && !sc.isGenerator && decide N.Nodup && decide (N.take P.length = P) &&
    (P.all fun x => match sc.names.lookup x with | some .local => true | some .cell => true | _ => false) && sc.names.all fun y => match y.2 with | .free => false | _ => true
theorem scC_ok {N P : List Str} {sc : Scope} (h : scC N P sc = true) : FnScope N P sc := by
  obtain ⟨h1, h7⟩ := band (show (_ && _) = true from h)
  obtain ⟨h1, h6⟩ := band h1
  obtain ⟨h1, h5⟩ := band h1
  obtain ⟨h1, h4⟩ := band h1
  obtain ⟨h1, h3⟩ := band h1
  obtain ⟨h1, h2⟩ := band h1
  refine ⟨?_, by simpa using h2, by simpa using h3, of_decide_eq_true h4, of_decide_eq_true h5, fun x hx => ?_, fun y hy e => ?_⟩
  · split at h1
    · assumption
    · cases h1
  · have q := List.all_eq_true.mp h6 x hx
    split at q
    · exact .inl (by assumption)
    · exact .inr (by assumption)
    · cases q
  · have q := List.all_eq_true.mp h7 y hy
    rw [e] at q
    cases q
/-- the looks at the tables -/
def Pg.scs (p : Pg) : Bool := (List.range p.n).all fun i => scC (p.dfn i).N (p.dfn i).ps (defScope (p.dfn i).st)
def Pg.mats (p : Pg) : Bool := (List.range p.n).all fun i => mSs p.tb (p.dfn i).N (defScope (p.dfn i).st) (p.dfn i).ir (defBody (p.dfn i).st)
def Pg.hasGlo (p : Pg) (x : Str) : Bool := p.fa.any fun f => match f with | .glo y => decide (y = x) | _ => false
def Pg.hasFree (p : Pg) (x : Str) : Bool := p.fa.any fun f => match f with | .free y => decide (y = x) | _ => false
def Pg.hasCls (p : Pg) (x : Str) : Bool := p.fa.any fun f => match f with | .cls y => decide (y = x) | _ => false
def Pg.hasMkr (p : Pg) (x : Str) : Bool := p.fa.any fun f => match f with | .mkr y => decide (y = x) | _ => false
def Pg.hasMeth (p : Pg) (x m : Str) : Bool := p.fa.any fun f => match f with | .meth y z => decide (y = x) && decide (z = m) | _ => false
def Pg.hasNoat (p : Pg) (x m : Str) : Bool := p.fa.any fun f => match f with | .noat y z => decide (y = x) && decide (z = m) | _ => false
section
variable {p : Pg} {K : PySem.W.Frag}
theorem says_mem {fa : List He.Fa} {fn : List He.DefD} {f : He.Fa} (c : He.SaysD fa fn K) (h : f ∈ fa) : f.ok K = true := by
  obtain ⟨i, hi⟩ := List.getElem?_of_mem h
  exact c.fact i hi
theorem hasGlo_ok {x : Str} (h : p.hasGlo x = true) : He.Fa.glo x ∈ p.fa := by
  obtain ⟨f, hf, e⟩ := List.any_eq_true.mp h
  cases f with
  | glo y => rw [← of_decide_eq_true e]; exact hf
  | _ => cases e
theorem hasFree_ok {x : Str} (h : p.hasFree x = true) : He.Fa.free x ∈ p.fa := by
  obtain ⟨f, hf, e⟩ := List.any_eq_true.mp h
  cases f with
  | free y => rw [← of_decide_eq_true e]; exact hf
  | _ => cases e
theorem hasCls_ok {x : Str} (h : p.hasCls x = true) : He.Fa.cls x ∈ p.fa := by
  obtain ⟨f, hf, e⟩ := List.any_eq_true.mp h
  cases f with
  | cls y => rw [← of_decide_eq_true e]; exact hf
  | _ => cases e
theorem hasMkr_ok {x : Str} (h : p.hasMkr x = true) : He.Fa.mkr x ∈ p.fa := by
  obtain ⟨f, hf, e⟩ := List.any_eq_true.mp h
  cases f with
  | mkr y => rw [← of_decide_eq_true e]; exact hf
  | _ => cases e
theorem hasMeth_ok {x m : Str} (h : p.hasMeth x m = true) : He.Fa.meth x m ∈ p.fa := by
  obtain ⟨f, hf, e⟩ := List.any_eq_true.mp h
  cases f with
  | meth y z =>
    obtain ⟨e1, e2⟩ := band (show (_ && _) = true from e)
    rw [← of_decide_eq_true e1, ← of_decide_eq_true e2]; exact hf
  | _ => cases e
theorem hasNoat_ok {x m : Str} (h : p.hasNoat x m = true) : He.Fa.noat x m ∈ p.fa := by
  obtain ⟨f, hf, e⟩ := List.any_eq_true.mp h
  cases f with
  | noat y z =>
    obtain ⟨e1, e2⟩ := band (show (_ && _) = true from e)
    rw [← of_decide_eq_true e1, ← of_decide_eq_true e2]; exact hf
  | _ => cases e
theorem known_of {P : Program} {w : World} {h : Heap} {mg : Str → Option Value} {C : Ctx} (XK : K.In h) (G : h.Ns mainGlobals mg) (c : He.SaysD p.fa p.dds K)
    (hsc : p.scs = true) (hm : p.mats = true) (hb : ∀ i, i < p.n → ∀ f fd, FunD K (p.dfn i).x (p.dfn i).qual (defArgs (p.dfn i).st) (defBody (p.dfn i).st) (defScope (p.dfn i).st) [] [] f fd → Binds K fd (p.dfn i).ps [])
    (hfree : ∀ x, p.tb.free x = true → p.hasFree x = true) (hgl : ∀ j x, p.tb.gl j = some x → ∃ u v, mg x = some u ∧ L2.RelV v u ∧ ∀ H, Rep K H (C.glb j) v)
    (hfn : ∀ k x m, p.tb.fn k = some (x, m) → k < p.n ∧ p.hasGlo x = true ∧ p.at_ k = (x, none) ∧ m = (p.dfn k).ps.length)
    (hmt : ∀ k m j, p.tb.mt k = some (m, j) → k < p.n ∧ m = stS (C.mn k) ∧ j = (p.dfn k).ps.length ∧ p.hasCls (p.clN (C.mc k)) = true ∧ p.hasMeth (p.clN (C.mc k)) m = true ∧ p.at_ k = (p.clN (C.mc k), some m))
    (hmk : ∀ c k x j, p.tb.mkc c k = some (x, j) → k < p.n ∧ j = (p.dfn k).ps.length ∧ p.clN c = x ∧ p.hasMkr x = true ∧ p.hasGlo x = true ∧ p.at_ k = (x, some ("__init__" : Str)))
    (hgd : ∀ j y m, p.tb.gd j = some (y, m) → ∃ (a : Addr) (es : Array DictEntry) (m' : Nat), mg y = some (.ref a) ∧ KDict K w a es m' ∧ ∀ s k, C.dt j s = some k → k < p.n ∧ PySem.W.nsIn K a (stS s) = some (some (.ref (He.fAd K (p.at_ k)))) ∧ m = (p.dfn k).ps.length)
    (hf : C.fok = p.fok) (hfo : (p.fokL.all fun q => p.hasCls (p.clN q.1) && p.hasNoat (p.clN q.1) (stS q.2)) = true) :
    ∃ fd, Known w K mg C ⟨fun c => He.ga K (p.clN c), P, w⟩ p.tb p.dfn p.n (fun i => He.fAd K (p.at_ i)) fd := by
  have hd : ∀ i, i < p.n → ∃ fd, FunD K (p.dfn i).x (p.dfn i).qual (defArgs (p.dfn i).st) (defBody (p.dfn i).st) (defScope (p.dfn i).st) [] [] (He.fAd K (p.at_ i)) fd := fun i hi => by
    have e : p.dds[i]? = some (p.dd i) := by unfold Pg.dds; simp [hi]
    exact c.def_ i e
  have fac : ∀ {f : He.Fa}, f ∈ p.fa → f.ok K = true := fun hm => says_mem c hm
  obtain ⟨fd, hfd⟩ : ∃ fd : Nat → FuncData, ∀ i, i < p.n → FunD K (p.dfn i).x (p.dfn i).qual (defArgs (p.dfn i).st) (defBody (p.dfn i).st) (defScope (p.dfn i).st) [] [] (He.fAd K (p.at_ i)) (fd i) := by
    refine ⟨fun i => if hi : i < p.n then Classical.choose (hd i hi) else default, fun i hi => ?_⟩
    dsimp only
    rw [dif_pos hi]
    exact Classical.choose_spec (hd i hi)
  refine ⟨fd, ⟨hfd, fun i hi => scC_ok (List.all_eq_true.mp hsc i (List.mem_range.mpr hi)), fun i hi => hb i hi _ _ (hfd i hi), fun i hi => List.all_eq_true.mp hm i (List.mem_range.mpr hi), fun x hx => He.free_ok XK G (fac (hasFree_ok (hfree x hx))), hgl, fun k x m e => ?_, fun k m j e => ?_, fun cc k x j e => ?_, fun cc g e => ?_, rfl, hgd⟩⟩
  · obtain ⟨a, b, e1, e2⟩ := hfn k x m e
    refine ⟨a, ?_, e2⟩
    rw [e1]
    exact He.glo_ok XK G (fac (hasGlo_ok b))
  · obtain ⟨a, b, e1, e2, e3, e4⟩ := hmt k m j e
    refine ⟨a, b, e1, He.cls_ok (fac (hasCls_ok e2)), ?_⟩
    rw [e4]
    exact He.meth_ok (fac (hasMeth_ok e3))
  · obtain ⟨a, b, e1, e2, e3, e4⟩ := hmk cc k x j e
    refine ⟨a, b, ?_, ?_⟩
    · dsimp only; rw [e4, e1]; exact He.mkr_ok (fac (hasMkr_ok e2))
    · dsimp only; rw [e1]; exact He.glo_ok XK G (fac (hasGlo_ok e3))
  · rw [hf] at e
    have hm : (cc, g) ∈ p.fokL := by unfold Pg.fok at e; simpa using e
    obtain ⟨e1, e2⟩ := band (List.all_eq_true.mp hfo _ hm)
    exact ⟨He.cls_ok (fac (hasCls_ok e1)), He.noat_ok (fac (hasNoat_ok e2))⟩
end
def Pl.okFn (l : Pl) : Bool := decide (l.fnL.length = l.dl.length) && (List.range l.dl.length).all fun k => match l.fnL.getD k none with
  | some (x, m) => l.pg.hasGlo x && decide (l.pg.at_ k = (x, none)) && decide (m = (l.pg.dfn k).ps.length)
  | none => true
def Pl.okMt (l : Pl) : Bool := decide (l.mtL.length = l.dl.length) && (List.range l.dl.length).all fun k => match l.mtL.getD k none with
  | some (x, m) => decide (x = stS (l.mnL.getD k [])) && decide (m = (l.pg.dfn k).ps.length) && l.pg.hasCls (l.pg.clN (l.mcL.getD k 0)) && l.pg.hasMeth (l.pg.clN (l.mcL.getD k 0)) x && decide (l.pg.at_ k = (l.pg.clN (l.mcL.getD k 0), some x))
  | none => true
def Pl.okMk (l : Pl) : Bool := l.mkL.all fun q => decide (q.1.2 < l.dl.length) && decide (q.2.2 = (l.pg.dfn q.1.2).ps.length) && decide (l.pg.clN q.1.1 = q.2.1) && l.pg.hasMkr q.2.1 && l.pg.hasGlo q.2.1 && decide (l.pg.at_ q.1.2 = (q.2.1, some ("__init__" : Str)))
mutual
theorem repB_ok {K : PySem.W.Frag} {n : Nat} : ∀ (d : D) {u : Value}, repB K n d u = true → ∃ v, L2.RelV v u ∧ ∀ H, Rep K H d v
  | .non, u, h => by
    cases u with
    | none => exact ⟨.non, rfl, fun _ => rfl⟩
    | _ => cases h
  | .bl b, u, h => by
    cases u with
    | bool c => exact ⟨.bl b, by rw [eq_of_beq (show (b == c) = true from h)]; rfl, fun _ => rfl⟩
    | _ => cases h
  | .int i, u, h => by
    cases u with
    | int j t => exact ⟨.int i, ⟨t, by rw [of_decide_eq_true (show decide (i = j) = true from h)]⟩, fun _ => rfl⟩
    | _ => cases h
  | .str x, u, h => by
    cases u with
    | str y t => exact ⟨.str (stS x), ⟨t, by rw [of_decide_eq_true (show decide (stS x = y) = true from h)]⟩, fun _ => rfl⟩
    | _ => cases h
  | .tup ds, u, h => by
    cases u with
    | ref a =>
      have h2 : (match K.lookup a with
        | some ⟨.type c, none, .seq its _, _⟩ => decide (c = "tuple") && decide (its.size ≤ sizeLine) && repBs K n ds its.toList
        | _ => false) = true := h
      split at h2
      · rename_i c its m sl e
        obtain ⟨h3, h4⟩ := band (show (_ && _) = true from h2)
        obtain ⟨h3, h5⟩ := band h3
        obtain ⟨vs, hv, hr⟩ := repBs_ok ds h4
        refine ⟨.ref a, rfl, fun H => ⟨a, vs, rfl, .inr ⟨_, its, m, e, ?_, rfl, rfl, of_decide_eq_true h5, hv⟩, hr H⟩⟩
        rw [of_decide_eq_true h3]
      · cases h2
    | _ => cases h
  | .wtup _, u, h => by cases h
  | .rol _, u, h => by cases h
  | .ref _, u, h => by cases h
theorem repBs_ok {K : PySem.W.Frag} {n : Nat} : ∀ (ds : List D) {us : List Value}, repBs K n ds us = true → ∃ vs, Vals vs us ∧ ∀ H, Reps K H ds vs
  | [], us, h => by
    cases us with
    | nil => exact ⟨[], .nil, fun _ => rfl⟩
    | cons _ _ => cases h
  | d :: ds, us, h => by
    cases us with
    | nil => cases h
    | cons u us =>
      obtain ⟨h1, h2⟩ := band (show (_ && _) = true from h)
      obtain ⟨v, a, b⟩ := repB_ok d h1
      obtain ⟨vs, a2, b2⟩ := repBs_ok ds h2
      exact ⟨v :: vs, .cons a a2, fun H => ⟨v, vs, rfl, b H, b2 H⟩⟩
end
theorem glB_ok {K : PySem.W.Frag} {h : Heap} {mg : Str → Option Value} {x : Str} {d : D} (XK : K.In h) (G : h.Ns mainGlobals mg) (e : glB K x d = true) : ∃ u v, mg x = some u ∧ L2.RelV v u ∧ ∀ H, Rep K H d v := by
  unfold glB at e
  split at e
  · rename_i u q
    obtain ⟨v, a, b⟩ := repB_ok d e
    exact ⟨u, v, PySem.W.mg_of XK G q, a, b⟩
  · cases e
def Pl.okGd (l : Pl) : Bool := l.gdL.all fun t => l.pg.hasGlo t.1 && t.2.2.2.all fun q => decide (q.2 < l.dl.length) && decide ((l.pg.at_ q.2).2 = none) && decide (t.2.1 = (l.pg.dfn q.2).ps.length)
def Pl.dtOf (l : Pl) (j : Nat) (s : List Nat) : Option Nat := match l.gdL[j]? with
  | some t => (t.2.2.2.find? fun q => decide (q.1 = s)).map (·.2)
  | none => none
def Pl.okFree (l : Pl) : Bool := l.freeL.all l.pg.hasFree
def Pl.okFld (l : Pl) : Bool := l.fokL.all fun q => l.pg.hasCls (l.pg.clN q.1) && l.pg.hasNoat (l.pg.clN q.1) (stS q.2)
theorem getD_lt {α : Type} {l : List (Option α)} {k : Nat} {x : α} (h : l.getD k none = some x) : k < l.length := by
  by_cases hk : k < l.length
  · exact hk
  · rw [List.getD_eq_getElem?_getD, List.getElem?_eq_none (Nat.le_of_not_lt hk)] at h
    cases h
theorem known_pl {P : Program} {l : Pl} {K : PySem.W.Frag} {h : Heap} {mg : Str → Option Value} {C : Ctx} {w : World} (XK : K.In h) (G : h.Ns mainGlobals mg) (c : He.SaysX l.pg.fa l.pg.dds l.tabs [] l.ex w h K)
    (hsc : l.pg.scs = true) (hm : l.pg.mats = true) (hb : ∀ i, i < l.pg.n → ∀ f fd, FunD K (l.pg.dfn i).x (l.pg.dfn i).qual (defArgs (l.pg.dfn i).st) (defBody (l.pg.dfn i).st) (defScope (l.pg.dfn i).st) [] [] f fd → Binds K fd (l.pg.dfn i).ps [])
    (h1 : l.okFn = true) (h2 : l.okMt = true) (h3 : l.okMk = true) (h4 : l.okFree = true) (h5 : l.okFld = true) (h6 : l.okGd = true) (hc4 : ∀ j s, C.dt j s = l.dtOf j s) (hc5 : ∀ j x d, l.glL[j]? = some (x, d) → C.glb j = d)
    (hc1 : C.fok = l.pg.fok) (hc2 : ∀ k, C.mc k = l.mcL.getD k 0) (hc3 : ∀ k, C.mn k = l.mnL.getD k []) :
    ∃ fd, Known w K mg C ⟨fun c => He.ga K (l.pg.clN c), P, w⟩ l.pg.tb l.pg.dfn l.pg.n (fun i => He.fAd K (l.pg.at_ i)) fd := by
  obtain ⟨ex1, ex2⟩ := band (show ((l.glL.all fun q => glB K q.1 q.2) && _) = true from c.more)
  refine known_of XK G c.t.d hsc hm hb (fun x hx => ?_) (fun j x e => ?_) (fun k x m e => ?_) (fun k m j e => ?_) (fun cc k x j e => ?_) (fun j y m e => ?_) hc1 h5
  · have hx' : l.freeL.contains x = true := hx
    exact List.all_eq_true.mp h4 x (by simpa using hx')
  · have e : (l.glL[j]?).map (·.1) = some x := e
    cases q : l.glL[j]? with
    | none => rw [q] at e; cases e
    | some z =>
      obtain ⟨z1, z2⟩ := z
      rw [q] at e
      have e2 : z1 = x := Option.some.inj e
      subst e2
      rw [hc5 j _ _ q]
      exact glB_ok XK G (List.all_eq_true.mp ex1 _ (List.mem_of_getElem? q))
  · have e : l.fnL.getD k none = some (x, m) := e
    obtain ⟨a, b⟩ := band (show (_ && _) = true from h1)
    have hk : k < l.dl.length := by rw [← of_decide_eq_true a]; exact getD_lt e
    have q := List.all_eq_true.mp b k (List.mem_range.mpr hk)
    rw [e] at q
    obtain ⟨q1, q3⟩ := band (show (_ && _) = true from q)
    obtain ⟨q1, q2⟩ := band q1
    exact ⟨hk, q1, of_decide_eq_true q2, of_decide_eq_true q3⟩
  · have e : l.mtL.getD k none = some (m, j) := e
    obtain ⟨a, b⟩ := band (show (_ && _) = true from h2)
    have hk : k < l.dl.length := by rw [← of_decide_eq_true a]; exact getD_lt e
    have q := List.all_eq_true.mp b k (List.mem_range.mpr hk)
    rw [e] at q
    obtain ⟨q1, q5⟩ := band (show (_ && _) = true from q)
    obtain ⟨q1, q4⟩ := band q1
    obtain ⟨q1, q3⟩ := band q1
    obtain ⟨q1, q2⟩ := band q1
    rw [hc2, hc3]
    exact ⟨hk, of_decide_eq_true q1, of_decide_eq_true q2, q3, q4, of_decide_eq_true q5⟩
  · have e : (l.mkL.find? fun q => decide (q.1 = (cc, k))).map (·.2) = some (x, j) := e
    cases hq : l.mkL.find? fun q => decide (q.1 = (cc, k)) with
    | none => rw [hq] at e; cases e
    | some z =>
      rw [hq] at e
      have e2 : z.2 = (x, j) := Option.some.inj e
      obtain ⟨z1, z2⟩ := z
      have hz : z1 = (cc, k) := by
        have := List.find?_some hq
        simpa using this
      have e2 : z2 = (x, j) := e2
      subst hz e2
      have q := List.all_eq_true.mp h3 _ (List.mem_of_find?_eq_some hq)
      obtain ⟨q1, q6⟩ := band (show (_ && _) = true from q)
      obtain ⟨q1, q5⟩ := band q1
      obtain ⟨q1, q4⟩ := band q1
      obtain ⟨q1, q3⟩ := band q1
      obtain ⟨q1, q2⟩ := band q1
      exact ⟨of_decide_eq_true q1, of_decide_eq_true q2, of_decide_eq_true q3, q4, q5, of_decide_eq_true q6⟩
  · have e : (l.gdL[j]?).map (fun t => (t.1, t.2.1)) = some (y, m) := e
    cases q : l.gdL[j]? with
    | none => rw [q] at e; cases e
    | some z =>
      obtain ⟨z1, z2, z0, z3⟩ := z
      rw [q] at e
      have e2 : (z1, z2) = (y, m) := Option.some.inj e
      cases e2
      have hm := List.mem_of_getElem? q
      obtain ⟨g1, g2⟩ := band (List.all_eq_true.mp h6 _ hm)
      have ev := List.all_eq_true.mp ex2 _ hm
      obtain ⟨es, n, kd⟩ := c.t.tab j (t := (fun K => He.ga K y, z0)) (by unfold Pl.tabs; rw [List.getElem?_map, q]; rfl)
      refine ⟨He.ga K y, es, n, He.glo_ok XK G (says_mem c.t.d (hasGlo_ok g1)), kd, fun s k e3 => ?_⟩
      rw [hc4] at e3
      unfold Pl.dtOf at e3
      rw [q] at e3
      have e3 : (z3.find? fun q => decide (q.1 = s)).map (·.2) = some k := e3
      cases hq : z3.find? fun q => decide (q.1 = s) with
      | none => rw [hq] at e3; cases e3
      | some z =>
        rw [hq] at e3
        obtain ⟨s1, k1⟩ := z
        have e4 : k1 = k := Option.some.inj e3
        subst e4
        have e5 : s1 = s := by simpa using List.find?_some hq
        subst e5
        have hz := List.mem_of_find?_eq_some hq
        obtain ⟨g3, g4⟩ := band (List.all_eq_true.mp g2 _ hz)
        obtain ⟨g3, g5⟩ := band g3
        obtain ⟨u, u1, u2⟩ := He.valsB_ok ev (q := (stS s1, He.Dv.glo (l.pg.at_ k1).1)) (List.mem_map.mpr ⟨_, hz, rfl⟩)
        refine ⟨of_decide_eq_true g3, ?_, of_decide_eq_true g4⟩
        have u2 : u = .ref (He.ga K (l.pg.at_ k1).1) := u2
        have e6 : He.fAd K (l.pg.at_ k1) = He.ga K (l.pg.at_ k1).1 := by
          have g5 := of_decide_eq_true g5
          unfold He.fAd
          rw [g5]
        rw [e6, ← u2]
        exact u1

/-- the end, where what calls may let out hangs on the World -/
theorem walk_w {lw : PySem.W.OpenLaw} {m lv : Nat} {qp : Program} {lo : List Str} {XQ : (Str → Option Value) → Heap → Prop} {YQ : World → Heap → Prop} {dr : DefRec} {CXw : World → CXT} {y : Str}
    (e1 : lw.most = some m) (e2 : m ≤ sizeLine) (e3 : dr.params.defaults = []) (rm : Room lv callerA)
    (give : ∀ (w : World) (mg : Str → Option Value) (b : Addr) (h : Heap), YQ w h → h.Ns mainGlobals mg → mg dr.name = some (.ref b) → ∃ (K : PySem.W.Frag) (fd : FuncData) (sp : Sp), K.In h ∧ (∀ (s : Shared) (u : Value), BindsTo s fd ⟨[u], []⟩ [(y, u)]) ∧
        (∀ (H : Hp) (a : Addr) (js : List Int), js.length ≤ m → Only H → SqL K H a (js.map V.int) → sp [.ref a] H (fun v _ => v = .bl true) fun _ _ _ => False) ∧
        ∀ bs : Heap, K.In bs → bs.Ns mainGlobals mg → FnOk lw.prog w K mg bs (CXw w) lv b fd [y] sp)
    (none_out : ∀ (w : World) (H : Hp) (s : Shared) (u : Value) (t : Shared), CXw w [] H s (fun _ _ _ => False) u t → False) : PySem.W.WalkO qp lo XQ YQ lw.row.toRowW dr [] (fun f vs => PySem.call f vs) := by
  refine Att.attach_call e1 e3 fun w _ s1 mg _ b _ _ _ _ a vs js G Y _ _ _ hm ho hi hl hg => ?_
  obtain ⟨K, fd, sp, kx, hb, hs, hF⟩ := give w mg b _ Y G.T.g hm
  exact law_call kx G.T.g G.T.b G.T.builtins G.T.nolimit hg ho hi (Nat.le_trans hl e2) rm hF hb (fun H hO hS => hs H a js hl hO hS) fun H u t => none_out w H s1 u t
theorem cx_none {P : Program} {w : World} {H : Hp} {s t : Shared} {u : Value} (h : L2.CX P w [] H s (fun _ _ _ => False) u t) : False := by
  obtain ⟨_, _, _, _, _, _, _, _, _, _, _, _, q⟩ := h
  exact q
end Tr

set_option Elab.async false
set_option linter.all false
set_option maxRecDepth 100000
set_option maxHeartbeats 0
/-! M73: the looks of k73. -/
namespace T72
open Tr L2 PySem
theorem l_scs : pl.pg.scs = true := by kernel_rfl
theorem l_mats : pl.pg.mats = true := by kernel_rfl
theorem l_fn : pl.okFn = true := by kernel_rfl
theorem l_mt : pl.okMt = true := by kernel_rfl
theorem l_mk : pl.okMk = true := by kernel_rfl
theorem l_free : pl.okFree = true := by kernel_rfl
theorem l_fld : pl.okFld = true := by kernel_rfl
theorem l_gd : pl.okGd = true := by kernel_rfl
end T72

set_option Elab.async false
set_option linter.all false
set_option maxRecDepth 100000
set_option maxHeartbeats 0
/-! E73: the end of k73, from the plain part. -/
namespace T72
open Tr L2 PySem PySem.W PySem.Calls PyProof.Rows
abbrev LV : Nat := 200
theorem room_ok : Room LV callerA := ⟨rfl, by decide, by decide⟩
theorem facts {C : Tr.Ctx} (hc1 : C.fok = pl.pg.fok) (hc2 : ∀ k, C.mc k = pl.mcL.getD k 0) (hc3 : ∀ k, C.mn k = pl.mnL.getD k []) (hc4 : ∀ j s, C.dt j s = pl.dtOf j s) (hc5 : ∀ j x d, pl.glL[j]? = some (x, d) → C.glb j = d) (pu : PureOk C pl.pg.dfn pl.pg.n)
    {P : Program} {w : World} {K : PySem.W.Frag} {h : Heap} {mg : Str → Option Value} {f : Addr} (X : K.In h) (G : h.Ns mainGlobals mg) (hfa : mg ("law" : Str) = some (.ref f)) (c : He.SaysX pl.pg.fa pl.pg.dds pl.tabs [] pl.ex w h K) :
    ∃ (cl : Wd) (fd : FuncData), (∀ (s : Shared) (v : Value), BindsTo s fd ⟨[v], []⟩ [("_law_script", v)]) ∧
      ∀ base : Heap, K.In base → base.Ns mainGlobals mg → FnOk P w K mg base (L2.CX P w) LV f fd ["_law_script"] (lSp K cl (C.G 58) LV 1) := by
  obtain ⟨fd, kn⟩ := known_pl (P := P) (C := C) X G c l_scs l_mats binds l_fn l_mt l_mk l_free l_fld l_gd hc4 hc5 hc1 hc2 hc3
  refine ⟨⟨fun c => He.ga K (pl.pg.clN c), P, w⟩, fd 58, ?_, fun base _ _ => ?_⟩
  · have b := FunD.bindsA (ps := ["_law_script"]) (kn.fun_ 58 (by decide)) fun _ _ _ _ _ _ us hl => match us, hl with | [_], _ => rfl
    exact fun s v => b s [v] rfl
  · obtain ⟨_, e, _⟩ := kn.fn 58 "law" 1 rfl
    have e2 := hfa.symm.trans e
    cases e2
    exact prog_ok (base := base) rfl kn pu LV 58 (by decide)
theorem rol_of {K : PySem.W.Frag} {H : Hp} {a : Addr} {ns : List Int} (hO : Only H) (h : SqL K H a (ns.map V.int)) : Rep K H (.rol (ns.map Tr.D.int)) (.ref a) := by
  refine ⟨a, ns.map V.int, rfl, ⟨h, ?_⟩, ?_⟩
  · rcases h with (h | ⟨o, h⟩) | h
    · rcases hO a with q | ⟨o, xs, q⟩
      · rw [q] at h; cases h
      · rw [q] at h; cases h
    · exact .inl ⟨o, h⟩
    · exact .inr fun H' => .inr h
  · clear h
    induction ns with
    | nil => exact rfl
    | cons n ns ih => exact ⟨.int n, _, rfl, rfl, ih⟩
theorem fin {C : Tr.Ctx} (hc1 : C.fok = pl.pg.fok) (hc2 : ∀ k, C.mc k = pl.mcL.getD k 0) (hc3 : ∀ k, C.mn k = pl.mnL.getD k []) (hc4 : ∀ j s, C.dt j s = pl.dtOf j s) (hc5 : ∀ j x d, pl.glL[j]? = some (x, d) → C.glb j = d) (pu : PureOk C pl.pg.dfn pl.pg.n)
    (hlaw : ∀ ns : List Int, ns.length ≤ 63 → ∃ ρ, ρ + 1 < LV ∧ (C.G 58).sp ρ [.rol (ns.map Tr.D.int)] (fun _ => none) (fun d _ => d = .bl true) (fun _ _ => False)) :
    PySem.Challenge.rw_eachplace_k73_along_legs.Holds := by
  w_on; o_law
  refine HandSHeadRun.head_any (r := OpenLaw.row PySem.Challenge.rw_eachplace_k73_along_legs) (q := view (OpenLaw.row PySem.Challenge.rw_eachplace_k73_along_legs).prog [lawTop]) (H := hk) (ob := ob) (M := 3000) (loose := loose) (d := HandSHeadRun.topDef (OpenLaw.row PySem.Challenge.rw_eachplace_k73_along_legs).prog lawTop) (kwd := []) ob_eq
    (by kernel_rfl) (fun s => by kernel_rfl) run (by kernel_rfl) (by kernel_rfl) (by kernel_rfl) (by rfl) (by first | assumption | decide +kernel) (by decide +kernel) ⟨rfl, rfl, rfl, rfl, rfl, by decide +kernel⟩ ?hw ?hc
  case hw => w_witness2
  case hc =>
    refine Tr.walk_w (lw := PySem.Challenge.rw_eachplace_k73_along_legs) (m := 63) (lv := LV) (y := "_law_script") (CXw := fun w => L2.CX (PySem.Challenge.rw_eachplace_k73_along_legs).prog w) rfl (by decide) (by kernel_rfl) room_ok ?F (fun _ _ _ _ _ z => cx_none z)
    intro w mg fa h Y G hmg0
    obtain ⟨K, KX, c⟩ := Y
    have hmg : mg ("law" : PySem.Str) = some (.ref fa) := by
      have e : (HandSHeadRun.topDef (OpenLaw.row PySem.Challenge.rw_eachplace_k73_along_legs).prog lawTop).name = ("law" : PySem.Str) := by kernel_rfl
      rw [← e]
      exact hmg0
    obtain ⟨cl, fd, hb, hF⟩ := facts hc1 hc2 hc3 hc4 hc5 pu (P := (PySem.Challenge.rw_eachplace_k73_along_legs).prog) (w := w) KX G hmg c
    refine ⟨K, fd, lSp K cl (C.G 58) LV 1, KX, hb, fun H a ns hl hO hS => ?_, hF⟩
    obtain ⟨ρ, h1, h2⟩ := hlaw ns hl
    exact ⟨rfl, _, fun _ => none, _, _, ρ, Reps.cons (rol_of hO hS) Reps.nil, (fun _ _ e => by cases e), h1, h2, fun d v H' T' e R rd q => by subst q; exact rd, fun _ _ _ _ _ h => h.elim⟩
end T72

set_option Elab.async false
set_option linter.all false
set_option maxRecDepth 100000
set_option maxHeartbeats 4000000
/-! TS: the readings, row by row. -/
namespace Tr
open PySem
section
variable {C : Ctx} {r : Nat} {X : XE} {τ : Env} {T : TH} {Q : Kd} {N : TEnds}
@[simp ↓] theorem e_var {i : Nat} : rdE C r (.var i) X τ T Q = (∃ d, τ[i]? = some (some d) ∧ Q d T) := rfl
@[simp ↓] theorem e_con {d : D} : rdE C r (.con d) X τ T Q = Q d T := rfl
@[simp ↓] theorem e_glb {j : Nat} : rdE C r (.glb j) X τ T Q = Q (C.glb j) T := rfl
@[simp ↓] theorem e_tup {es : Exs} : rdE C r (.tup es) X τ T Q = rdEs C r es X τ T fun ds T1 => ds.length ≤ szL ∧ Q (.tup ds) T1 := rfl
@[simp ↓] theorem e_lst {es : Exs} : rdE C r (.lst es) X τ T Q = rdEs C r es X τ T fun ds T1 => ds.length ≤ szL ∧ ∀ p, T1 p = none → Q (.ref p) (upd T1 p (.lst ds)) := rfl
@[simp ↓] theorem e_dcl {a b : Exs} : rdE C r (.dcl a b) X τ T Q = ∀ p, T p = none → Q (.ref p) (upd T p (.dic [])) := rfl
@[simp ↓] theorem e_bin {o : Bin} {a b : Ex} : rdE C r (.bin o a b) X τ T Q = rdE C r a X τ T fun x T1 => rdE C r b X τ T1 fun y T2 => binR o x y T2 Q := rfl
@[simp ↓] theorem e_neg {a : Ex} : rdE C r (.neg a) X τ T Q = rdE C r a X τ T fun x T1 => ∃ i, x = .int i ∧ Q (.int (-i)) T1 := rfl
@[simp ↓] theorem e_cmp {o : Cm} {a b : Ex} : rdE C r (.cmp o a b) X τ T Q = rdE C r a X τ T fun x T1 => rdE C r b X τ T1 fun y T2 => cmpR o x y T2 fun k => Q (.bl k) T2 := rfl
@[simp ↓] theorem e_and {a b : Ex} : rdE C r (.and_ a b) X τ T Q = rdE C r a X τ T fun x T1 => truR x T1 fun k => if k = true then rdE C r b X τ T1 Q else Q x T1 := rfl
@[simp ↓] theorem e_or {a b : Ex} : rdE C r (.or_ a b) X τ T Q = rdE C r a X τ T fun x T1 => truR x T1 fun k => if k = true then Q x T1 else rdE C r b X τ T1 Q := rfl
@[simp ↓] theorem e_not {a : Ex} : rdE C r (.not_ a) X τ T Q = rdE C r a X τ T fun x T1 => truR x T1 fun k => Q (.bl (!k)) T1 := rfl
@[simp ↓] theorem e_ite {c a b : Ex} : rdE C r (.ite c a b) X τ T Q = rdT C r c X τ T fun k T1 => if k = true then rdE C r a X τ T1 Q else rdE C r b X τ T1 Q := rfl
@[simp ↓] theorem e_ix {a i : Ex} : rdE C r (.ix a i) X τ T Q = rdE C r a X τ T fun x T1 => rdE C r i X τ T1 fun y T2 => ixR x y T2 fun v => Q v T2 := rfl
@[simp ↓] theorem e_sl {a : Ex} {lo hi : Op} : rdE C r (.sl a lo hi) X τ T Q = rdE C r a X τ T fun x T1 => rdO C r lo X τ T1 fun l T2 => rdO C r hi X τ T2 fun h T3 => slR x l h T3 Q := rfl
@[simp ↓] theorem e_call {k : Nat} {es : Exs} : rdE C r (.call k es) X τ T Q = rdEs C r es X τ T fun ds T1 => ∃ ρ, ρ < r ∧ (C.G k).sp ρ ds T1 Q X := rfl
@[simp ↓] theorem e_make {c k : Nat} {es : Exs} : rdE C r (.make c k es) X τ T Q = rdEs C r es X τ T fun ds T1 => ∀ p, T1 p = none → ∃ ρ, ρ + 1 < r ∧ (C.G k).sp ρ (.ref p :: ds) (upd T1 p (.ins c [])) (fun d T2 => d = .non ∧ Q (.ref p) T2) X := rfl
theorem e_meth {o : Ex} {k : Nat} {es : Exs} : rdE C r (.meth o k es) X τ T Q = rdE C r o X τ T fun x T1 => ∃ a fs, x = .ref a ∧ T1 a = some (.ins (C.mc k) fs) ∧ lookF (C.mn k) fs = none ∧
      rdEs C r es X τ T1 fun ds T2 => ∃ ρ, ρ < r ∧ (C.G k).sp ρ (x :: ds) T2 Q X := rfl
@[simp ↓] theorem e_blt {f : Blt} {es : Exs} : rdE C r (.blt f es) X τ T Q = rdEs C r es X τ T fun ds T1 => bltR f ds T1 Q := rfl
@[simp ↓] theorem e_isi {a : Ex} {t : Ty} : rdE C r (.isi a t) X τ T Q = rdE C r a X τ T fun x T1 => tyR x T1 fun u => Q (.bl (decide (u = t) || (decide (u = .bool) && decide (t = .int)))) T1 := rfl
@[simp ↓] theorem e_bm {o : Ex} {m : Bm} {es : Exs} : rdE C r (.bm o m es) X τ T Q = rdE C r o X τ T fun x T1 => bmT m x T1 ∧ rdEs C r es X τ T1 fun ds T2 => bmR m x ds T2 Q := rfl
theorem e_fld {o : Ex} {f : List Nat} : rdE C r (.fld o f) X τ T Q = rdE C r o X τ T fun x T1 => ∃ a c fs d, x = .ref a ∧ T1 a = some (.ins c fs) ∧ C.fok c f = true ∧ lookF f fs = some d ∧ Q d T1 := rfl
@[simp ↓] theorem e_lc {e : Ex} {tg : Tg} {it : Ito} {c : Op} {own : List Nat} : rdE C r (.lc e tg it c own) X τ T Q = rdI C r it X τ T fun sq T1 => ∀ p, T1 p = none →
      sq.keep (upd T1 p (.lst [])) ∧ lcRun (fun d T k => bindT tg d T (wipe τ own) fun τ2 => rdC C r c τ2 T fun b T2 =>
        if b = true then rdE C r e nox τ2 T2 fun y T3 => ∃ acc, T3 p = some (.lst acc) ∧ acc.length < szL ∧ sq.keep (upd T3 p (.lst (acc ++ [y]))) ∧ k (upd T3 p (.lst (acc ++ [y])))
        else sq.keep T2 ∧ k T2) (fun T => Q (.ref p) T) sq.items (upd T1 p (.lst [])) := rfl
@[simp ↓] theorem e_dcall {j : Nat} {k : Ex} {es : Exs} : rdE C r (.dcall j k es) X τ T Q = rdE C r k X τ T fun x T1 => ∃ s k, x = .str s ∧ C.dt j s = some k ∧ rdEs C r es X τ T1 fun ds T2 => ∃ ρ, ρ < r ∧ (C.G k).sp ρ ds T2 Q X := rfl
@[simp ↓] theorem es_nil {Q : List D → TH → Prop} : rdEs C r .nil X τ T Q = Q [] T := rfl
@[simp ↓] theorem es_cons {e : Ex} {es : Exs} {Q : List D → TH → Prop} : rdEs C r (.cons e es) X τ T Q = rdE C r e X τ T fun d T1 => rdEs C r es X τ T1 fun ds T2 => Q (d :: ds) T2 := rfl
@[simp ↓] theorem o_no {Q : Option Int → TH → Prop} : rdO C r .no X τ T Q = Q none T := rfl
@[simp ↓] theorem o_so {e : Ex} {Q : Option Int → TH → Prop} : rdO C r (.so e) X τ T Q = rdE C r e X τ T fun d T1 => ∃ i, d = .int i ∧ Q (some i) T1 := rfl
@[simp ↓] theorem k_no {Q : Bool → TH → Prop} : rdC C r .no τ T Q = Q true T := rfl
@[simp ↓] theorem k_so {e : Ex} {Q : Bool → TH → Prop} : rdC C r (.so e) τ T Q = rdT C r e nox τ T Q := rfl
variable {B : Bool → TH → Prop}
@[simp ↓] theorem u_not {a : Ex} : rdT C r (.not_ a) X τ T B = rdT C r a X τ T fun k T1 => B (!k) T1 := rfl
@[simp ↓] theorem u_and {a b : Ex} : rdT C r (.and_ a b) X τ T B = rdT C r a X τ T fun k T1 => if k = true then rdT C r b X τ T1 B else B false T1 := rfl
@[simp ↓] theorem u_or {a b : Ex} : rdT C r (.or_ a b) X τ T B = rdT C r a X τ T fun k T1 => if k = true then B true T1 else rdT C r b X τ T1 B := rfl
@[simp ↓] theorem u_cmp {o : Cm} {a b : Ex} : rdT C r (.cmp o a b) X τ T B = rdE C r a X τ T fun x T1 => rdE C r b X τ T1 fun y T2 => cmpR o x y T2 fun k => B k T2 := rfl
@[simp ↓] theorem t_var {i : Nat} : rdT C r (.var i) X τ T B = (∃ d, τ[i]? = some (some d) ∧ truR d T fun k => B k T) := rfl
@[simp ↓] theorem t_con {d : D} : rdT C r (.con d) X τ T B = truR d T fun k => B k T := rfl
@[simp ↓] theorem t_bin {o : Bin} {a b : Ex} : rdT C r (.bin o a b) X τ T B = rdE C r a X τ T fun x T1 => rdE C r b X τ T1 fun y T2 => binR o x y T2 fun x T3 => truR x T3 fun k => B k T3 := rfl
@[simp ↓] theorem t_ix {a i : Ex} : rdT C r (.ix a i) X τ T B = rdE C r a X τ T fun x T1 => rdE C r i X τ T1 fun y T2 => ixR x y T2 fun v => truR v T2 fun k => B k T2 := rfl
@[simp ↓] theorem t_call {k : Nat} {es : Exs} : rdT C r (.call k es) X τ T B = rdEs C r es X τ T fun ds T1 => ∃ ρ, ρ < r ∧ (C.G k).sp ρ ds T1 (fun x T2 => truR x T2 fun k => B k T2) X := rfl
@[simp ↓] theorem t_meth {o : Ex} {k : Nat} {es : Exs} : rdT C r (.meth o k es) X τ T B = rdE C r o X τ T fun x T1 => ∃ a fs, x = .ref a ∧ T1 a = some (.ins (C.mc k) fs) ∧ lookF (C.mn k) fs = none ∧
      rdEs C r es X τ T1 fun ds T2 => ∃ ρ, ρ < r ∧ (C.G k).sp ρ (x :: ds) T2 (fun x T2 => truR x T2 fun k => B k T2) X := rfl
@[simp ↓] theorem t_blt {f : Blt} {es : Exs} : rdT C r (.blt f es) X τ T B = rdEs C r es X τ T fun ds T1 => bltR f ds T1 fun x T2 => truR x T2 fun k => B k T2 := rfl
@[simp ↓] theorem t_isi {a : Ex} {t : Ty} : rdT C r (.isi a t) X τ T B = rdE C r a X τ T fun x T1 => tyR x T1 fun u => B (decide (u = t) || (decide (u = .bool) && decide (t = .int))) T1 := rfl
@[simp ↓] theorem t_fld {o : Ex} {f : List Nat} : rdT C r (.fld o f) X τ T B = rdE C r o X τ T fun x T1 => ∃ a c fs d, x = .ref a ∧ T1 a = some (.ins c fs) ∧ C.fok c f = true ∧ lookF f fs = some d ∧ truR d T1 fun k => B k T1 := rfl
variable {R : Sq → TH → Prop}
@[simp ↓] theorem i_exI {e : Ex} : rdI C r (.ex e) X τ T R = rdE C r e X τ T fun d T1 => sqOf d T1 fun sq => R sq T1 := rfl
@[simp ↓] theorem i_r1 {e : Ex} : rdI C r (.rng1 e) X τ T R = rdE C r e X τ T fun d T1 => ∃ j : Int, d = .int j ∧ -(2 ^ 62) ≤ j ∧ j < 2 ^ 62 ∧ R ⟨(List.range j.toNat).map fun i => .int (i : Nat), fun _ => True⟩ T1 := rfl
@[simp ↓] theorem i_en {e : Ex} : rdI C r (.enm e) X τ T R = rdE C r e X τ T fun d T1 => sqOf2 d T1 fun sq => R ⟨enumD 0 sq.items, sq.keep⟩ T1 := rfl
@[simp ↓] theorem ss_nilS : rdSs C r .nil N τ T = N.nx τ T := rfl
theorem ss_consS {s : Sm} {ss : Sms} : rdSs C r (.cons s ss) N τ T = rdS C r s { N with nx := fun τ T => rdSs C r ss N τ T } τ T := rfl
@[simp ↓] theorem s_asgS {tg : Tg} {e : Ex} : rdS C r (.asg tg e) N τ T = rdE C r e (fun c T => N.xe c τ T) τ T fun d T1 => bindT tg d T1 τ fun τ' => N.nx τ' T1 := rfl
@[simp ↓] theorem s_asgIS {o i e : Ex} : rdS C r (.asgI o i e) N τ T = rdE C r e (fun c T => N.xe c τ T) τ T fun v T1 => rdE C r o (fun c T => N.xe c τ T) τ T1 fun x T2 => rdE C r i (fun c T => N.xe c τ T) τ T2 fun y T3 =>
      ∃ a, x = .ref a ∧ (match T3 a with
        | some (.lst xs) => ∃ k j, y = .int k ∧ L2.ixN xs.length k = some j ∧ N.nx τ (upd T3 a (.lst (xs.set j v)))
        | some (.dic kvs) => ∃ k, dkOf y = some k ∧ kvs.length < szL ∧ N.nx τ (upd T3 a (.dic (dput k v kvs)))
        | some (.dnk _ kvs) => ∃ k, nkOf y = some k ∧ kvs.length < szL ∧ N.nx τ (upd T3 a (.dnk none (dput k v kvs)))
        | _ => False) := rfl
theorem s_asgFS {o e : Ex} {f : List Nat} : rdS C r (.asgF o f e) N τ T = rdE C r e (fun c T => N.xe c τ T) τ T fun v T1 => rdE C r o (fun c T => N.xe c τ T) τ T1 fun x T2 =>
      ∃ a c fs, x = .ref a ∧ T2 a = some (.ins c fs) ∧ C.fok c f = true ∧ fs.length < 1000 ∧ N.nx τ (upd T2 a (.ins c (putF f v fs))) := rfl
@[simp ↓] theorem s_exprS {e : Ex} : rdS C r (.expr e) N τ T = rdE C r e (fun c T => N.xe c τ T) τ T fun _ T1 => N.nx τ T1 := rfl
@[simp ↓] theorem s_retS {e : Ex} : rdS C r (.ret e) N τ T = rdE C r e (fun c T => N.xe c τ T) τ T N.rt := rfl
@[simp ↓] theorem s_ifS {c : Ex} {a b : Sms} : rdS C r (.if_ c a b) N τ T = rdT C r c (fun c T => N.xe c τ T) τ T fun k T1 => if k = true then rdSs C r a N τ T1 else rdSs C r b N τ T1 := rfl
@[simp ↓] theorem s_whlS {c : Ex} {b : Sms} : rdS C r (.whl c b) N τ T = ∃ n, whRun (fun τ T k => rdT C r c (fun c T => N.xe c τ T) τ T fun b' T1 => if b' = true then rdSs C r b { N with nx := k, ct := k, bk := N.nx } τ T1 else N.nx τ T1) n τ T := rfl
@[simp ↓] theorem s_forS {tg : Tg} {it : Ito} {b : Sms} : rdS C r (.for_ tg it b) N τ T = rdI C r it (fun c T => N.xe c τ T) τ T fun sq T1 => sq.keep T1 ∧ forRun (fun d τ T k => bindT tg d T τ fun τ' =>
      rdSs C r b { N with nx := fun τ T => sq.keep T ∧ k τ T, ct := fun τ T => sq.keep T ∧ k τ T, bk := N.nx } τ' T) N.nx sq.items τ T1 := rfl
@[simp ↓] theorem g_nm {i : Nat} {d : D} {k : Env → Prop} : bindT (.nm i) d T τ k = k (setv τ i d) := rfl
@[simp ↓] theorem g_tp {ts : List Tg} {d : D} {k : Env → Prop} : bindT (.tp ts) d T τ k = ∃ ds, seqOf T d = some ds ∧ bindTs ts ds T τ k := rfl
@[simp ↓] theorem g_nl {ds : List D} {k : Env → Prop} : bindTs [] ds T τ k = (ds = [] ∧ k τ) := rfl
@[simp ↓] theorem g_cn {t : Tg} {ts : List Tg} {ds : List D} {k : Env → Prop} : bindTs (t :: ts) ds T τ k = ∃ d ds', ds = d :: ds' ∧ bindT t d T τ fun τ' => bindTs ts ds' T τ' k := rfl
/-! ### operators -/
@[simp ↓] theorem b_addI {i j : Int} : binR .add (.int i) (.int j) T Q = Q (.int (i + j)) T := rfl
@[simp ↓] theorem b_addS {a b : List Nat} : binR .add (.str a) (.str b) T Q = (a.length + b.length ≤ szL ∧ Q (.str (a ++ b)) T) := rfl
@[simp ↓] theorem b_addT {a b : List D} : binR .add (.tup a) (.tup b) T Q = (a.length + b.length ≤ szL ∧ Q (.tup (a ++ b)) T) := rfl
theorem b_addL {a b : Addr} {xs ys : List D} (h : T a = some (.lst xs)) (h' : T b = some (.lst ys)) : binR .add (.ref a) (.ref b) T Q = (xs.length + ys.length ≤ szL ∧ ∀ p, T p = none → Q (.ref p) (upd T p (.lst (xs ++ ys)))) := by
  show (match T a, T b with | some (.lst xs), some (.lst ys) => _ | _, _ => False) = _
  rw [h, h']
@[simp ↓] theorem b_subI {i j : Int} : binR .sub (.int i) (.int j) T Q = Q (.int (i - j)) T := rfl
@[simp ↓] theorem b_mulI {i j : Int} : binR .mul (.int i) (.int j) T Q = (L2.CMul i j ∧ Q (.int (i * j)) T) := rfl
@[simp ↓] theorem b_mulT {a : List D} {k : Int} : binR .mul (.tup a) (.int k) T Q = (a ≠ [] ∧ 2 ≤ k ∧ k ≤ 1000 ∧ a.length ≤ 1000 ∧ Q (.tup (List.replicate k.toNat a).flatten) T) := rfl
theorem b_mulL {a : Addr} {k : Int} {xs : List D} (h : T a = some (.lst xs)) : binR .mul (.ref a) (.int k) T Q = (-(2 ^ 63) ≤ k ∧ k < 2 ^ 63 ∧ xs.length * k.toNat ≤ szL ∧ ∀ p, T p = none → Q (.ref p) (upd T p (.lst (List.replicate k.toNat xs).flatten))) := by
  show (match T a with | some (.lst xs) => _ | _ => False) = _
  rw [h]
@[simp ↓] theorem b_div {i j : Int} : binR .fdiv (.int i) (.int j) T Q = ((j ≠ 0 ∧ j.natAbs < 1073741824) ∧ Q (.int (i.fdiv j)) T) := rfl
@[simp ↓] theorem b_mod {i j : Int} : binR .mod (.int i) (.int j) T Q = (j ≠ 0 ∧ Q (.int (i.fmod j)) T) := rfl
@[simp ↓] theorem b_pow {i j : Int} : binR .pow (.int i) (.int j) T Q = ((0 ≤ j ∧ j ≤ 1000000 ∧ i.natAbs < 2 ^ 64) ∧ Q (.int (i ^ j.toNat)) T) := rfl
variable {P : Bool → Prop}
@[simp ↓] theorem c_eqS {a b : List Nat} : cmpR .eq (.str a) (.str b) T P = P (decide (a = b)) := rfl
@[simp ↓] theorem c_eqI {a b : Int} : cmpR .eq (.int a) (.int b) T P = P (decide (a = b)) := rfl
@[simp ↓] theorem c_ltI {a b : Int} : cmpR .lt (.int a) (.int b) T P = P (decide (a < b)) := rfl
@[simp ↓] theorem c_leI {a b : Int} : cmpR .le (.int a) (.int b) T P = P (decide (a ≤ b)) := rfl
@[simp ↓] theorem c_gtI {a b : Int} : cmpR .gt (.int a) (.int b) T P = P (decide (b < a)) := rfl
@[simp ↓] theorem c_geI {a b : Int} : cmpR .ge (.int a) (.int b) T P = P (decide (b ≤ a)) := rfl
@[simp ↓] theorem c_inT {x : D} {ys : List D} : cmpR .in_ x (.tup ys) T P = (flat x = true ∧ ys.all flat = true ∧ P (inF x ys)) := rfl
theorem c_inL {x : D} {a : Addr} {ys : List D} (h : T a = some (.lst ys)) : cmpR .in_ x (.ref a) T P = (flat x = true ∧ ys.all flat = true ∧ P (inF x ys)) := by
  show (match T a with | some (.lst ys) => _ | some (.dic _) => _ | _ => False) = _
  rw [h]
@[simp ↓] theorem c_is_non : cmpR .is_ .non .non T P = P true := rfl
@[simp ↓] theorem c_is_tup {xs : List D} : cmpR .is_ (.tup xs) .non T P = P false := rfl
@[simp ↓] theorem c_is_int {i : Int} : cmpR .is_ (.int i) .non T P = P false := rfl
@[simp ↓] theorem c_isn_non : cmpR .isn .non .non T P = P false := rfl
@[simp ↓] theorem c_isn_tup {xs : List D} : cmpR .isn (.tup xs) .non T P = P true := rfl
@[simp ↓] theorem c_isn_int {i : Int} : cmpR .isn (.int i) .non T P = P true := rfl
variable {V : D → Prop}
@[simp ↓] theorem x_tup {xs : List D} {i : Int} : ixR (.tup xs) (.int i) T V = (∃ v, L2.atI xs i = some v ∧ V v) := rfl
@[simp ↓] theorem x_rol {xs : List D} {i : Int} : ixR (.rol xs) (.int i) T V = (∃ v, L2.atI xs i = some v ∧ V v) := rfl
@[simp ↓] theorem x_str {xs : List Nat} {i : Int} : ixR (.str xs) (.int i) T V = (xs.length ≤ szL ∧ ∃ c, L2.atI xs i = some c ∧ V (.str [c])) := rfl
theorem x_lst {a : Addr} {xs : List D} {i : Int} (h : T a = some (.lst xs)) : ixR (.ref a) (.int i) T V = (∃ v, L2.atI xs i = some v ∧ V v) := by
  show (match T a with | some (.lst xs) => _ | some (.dic _) => _ | some (.dnk _ _) => _ | _ => False) = _
  rw [h]
  apply propext
  constructor
  · rintro ⟨j, v, e, h1, h2⟩; cases e; exact ⟨v, h1, h2⟩
  · rintro ⟨v, h1, h2⟩; exact ⟨i, v, rfl, h1, h2⟩
theorem x_dic {a : Addr} {kvs : List (DK × D)} {i : Int} (h : T a = some (.dic kvs)) : ixR (.ref a) (.int i) T V = (∃ v, dget (.inl i) kvs = some v ∧ V v) := by
  show (match T a with | some (.lst xs) => _ | some (.dic _) => _ | some (.dnk _ _) => _ | _ => False) = _
  rw [h]
  apply propext
  constructor
  · rintro ⟨k, v, e, h1, h2⟩; cases e; exact ⟨v, h1, h2⟩
  · rintro ⟨v, h1, h2⟩; exact ⟨_, v, rfl, h1, h2⟩
theorem x_ref {a : Addr} {i : D} : ixR (.ref a) i T V = (match T a with
    | some (.lst xs) => ∃ j v, i = .int j ∧ L2.atI xs j = some v ∧ V v
    | some (.dic kvs) => ∃ k v, dkOf i = some k ∧ dget k kvs = some v ∧ V v
    | some (.dnk _ kvs) => ∃ k v, nkOf i = some k ∧ dget k kvs = some v ∧ V v
    | _ => False) := by cases i <;> rfl
@[simp ↓] theorem x_refI {a : Addr} {i : Int} : ixR (.ref a) (.int i) T V = (match T a with
    | some (.lst xs) => ∃ v, L2.atI xs i = some v ∧ V v
    | some (.dic kvs) => ∃ v, dget (.inl i) kvs = some v ∧ V v
    | some (.dnk _ kvs) => ∃ v, dget (some (.inl i)) kvs = some v ∧ V v
    | _ => False) := by
  rw [x_ref]
  cases e : T a with
  | none => rfl
  | some o =>
    cases o with
    | lst xs =>
      apply propext
      constructor
      · rintro ⟨j, v, e, h1, h2⟩; cases e; exact ⟨v, h1, h2⟩
      · rintro ⟨v, h1, h2⟩; exact ⟨i, v, rfl, h1, h2⟩
    | dic kvs =>
      apply propext
      constructor
      · rintro ⟨k, v, e, h1, h2⟩; cases e; exact ⟨v, h1, h2⟩
      · rintro ⟨v, h1, h2⟩; exact ⟨_, v, rfl, h1, h2⟩
    | dnk lk kvs =>
      apply propext
      constructor
      · rintro ⟨k, v, e, h1, h2⟩; cases e; exact ⟨v, h1, h2⟩
      · rintro ⟨v, h1, h2⟩; exact ⟨_, v, rfl, h1, h2⟩
    | ins _ _ => rfl
@[simp ↓] theorem x_refN {a : Addr} : ixR (.ref a) .non T V = (match T a with
    | some (.dnk _ kvs) => ∃ v, dget (none : _root_.Option DK) kvs = some v ∧ V v
    | _ => False) := by
  rw [x_ref]
  cases e : T a with
  | none => rfl
  | some o =>
    cases o with
    | lst xs =>
      apply propext
      constructor
      · rintro ⟨j, v, e, h1, h2⟩; cases e
      · exact False.elim
    | dic kvs =>
      apply propext
      constructor
      · rintro ⟨k, v, e, h1, h2⟩; cases e
      · exact False.elim
    | dnk lk kvs =>
      apply propext
      constructor
      · rintro ⟨k, v, e, h1, h2⟩; cases e; exact ⟨v, h1, h2⟩
      · rintro ⟨v, h1, h2⟩; exact ⟨_, v, rfl, h1, h2⟩
    | ins _ _ => rfl
@[simp ↓] theorem x_refS {a : Addr} {s : List Nat} : ixR (.ref a) (.str s) T V = (match T a with
    | some (.dic kvs) => ∃ v, dget (.inr s) kvs = some v ∧ V v
    | some (.dnk _ kvs) => ∃ v, dget (some (.inr s)) kvs = some v ∧ V v
    | _ => False) := by
  rw [x_ref]
  cases e : T a with
  | none => rfl
  | some o =>
    cases o with
    | lst xs =>
      apply propext
      constructor
      · rintro ⟨j, v, e, h1, h2⟩; cases e
      · exact False.elim
    | dic kvs =>
      apply propext
      constructor
      · rintro ⟨k, v, e, h1, h2⟩; cases e; exact ⟨v, h1, h2⟩
      · rintro ⟨v, h1, h2⟩; exact ⟨_, v, rfl, h1, h2⟩
    | dnk lk kvs =>
      apply propext
      constructor
      · rintro ⟨k, v, e, h1, h2⟩; cases e; exact ⟨v, h1, h2⟩
      · rintro ⟨v, h1, h2⟩; exact ⟨_, v, rfl, h1, h2⟩
    | ins _ _ => rfl
@[simp ↓] theorem c_ninR {x : D} {a : Addr} : cmpR .nin x (.ref a) T P = (match T a with
    | some (.lst ys) => (flat x = true ∧ ys.all flat = true ∧ P (!inF x ys))
    | some (.dic kvs) => ∃ k, dkOf x = some k ∧ P (!(dget k kvs).isSome)
    | _ => False) := rfl
@[simp ↓] theorem e_dsp {ks : List (List Nat)} {vs : Exs} : rdE C r (.dsp ks vs) X τ T Q = ∀ p, T p = none → rdEs C r vs X τ (upd T p (.dic [])) fun ds T1 => T1 p = some (.dic []) ∧ ks.Nodup ∧ Q (.ref p) (upd T1 p (.dic ((ks.map Sum.inr).zip ds))) := rfl
@[simp ↓] theorem e_dcn : rdE C r .dcn X τ T Q = ∀ p, T p = none → Q (.ref p) (upd T p (.dnk none [])) := rfl
@[simp ↓] theorem i_exdI {e : Ex} : rdI C r (.exd e) X τ T R = rdE C r e X τ T fun d T1 => ∃ a lk kvs, d = .ref a ∧ T1 a = some (.dnk lk kvs) ∧ ∀ o, R ⟨kvs.map fun kv => nkD kv.1, fun T' => T' a = some (.dnk (some o) kvs)⟩ (upd T1 a (.dnk (some o) kvs)) := rfl
@[simp ↓] theorem m_getD {a : Addr} {y z : D} : bmR .dgetD (.ref a) [y, z] T Q = (match T a with
      | some (.dnk _ kvs) => ∃ k, nkOf y = some k ∧ Q ((dget k kvs).getD z) T
      | some (.dic kvs) => ∃ k, dkOf y = some k ∧ Q ((dget k kvs).getD z) T
      | _ => False) := rfl
@[simp ↓] theorem m_btg {a : Addr} : bmT .dgetD (.ref a) T = (match T a with
    | some (.dic _) => True
    | some (.dnk _ _) => True
    | _ => False) := rfl
@[simp ↓] theorem c_inR {x : D} {a : Addr} : cmpR .in_ x (.ref a) T P = (match T a with
    | some (.lst ys) => (flat x = true ∧ ys.all flat = true ∧ P (inF x ys))
    | some (.dic kvs) => ∃ k, dkOf x = some k ∧ P (dget k kvs).isSome
    | _ => False) := rfl
@[simp ↓] theorem b_addR {a b : Addr} : binR .add (.ref a) (.ref b) T Q = (match T a, T b with
      | some (.lst xs), some (.lst ys) => xs.length + ys.length ≤ szL ∧ ∀ p, T p = none → Q (.ref p) (upd T p (.lst (xs ++ ys)))
      | _, _ => False) := rfl
@[simp ↓] theorem b_mulR {a : Addr} {k : Int} : binR .mul (.ref a) (.int k) T Q = (match T a with
      | some (.lst xs) => -(2 ^ 63) ≤ k ∧ k < 2 ^ 63 ∧ xs.length * k.toNat ≤ szL ∧ ∀ p, T p = none → Q (.ref p) (upd T p (.lst (List.replicate k.toNat xs).flatten))
      | _ => False) := rfl
@[simp ↓] theorem r_tru_int {i : Int} : truR (.int i) T P = P (!decide (i = 0)) := rfl
@[simp ↓] theorem r_tru_non : truR .non T P = P false := rfl
@[simp ↓] theorem r_tru_tup {xs : List D} : truR (.tup xs) T P = P (!xs.isEmpty) := rfl
@[simp ↓] theorem r_tru_ref {a : Addr} : truR (.ref a) T P = (match T a with
    | some (.lst xs) => P (!xs.isEmpty)
    | some (.dic kvs) => P (!kvs.isEmpty)
    | _ => False) := rfl
@[simp ↓] theorem r_tru_bl {b : Bool} : truR (.bl b) T P = P b := rfl
@[simp ↓] theorem l_len {x : D} : bltR .len [x] T Q = lenR x T fun n => Q (.int n) T := rfl
@[simp ↓] theorem l_int {x : D} : bltR .int_ [x] T Q = intR x fun n => Q (.int n) T := rfl
@[simp ↓] theorem l_tuple {x : D} : bltR .tuple [x] T Q = tupR x T fun xs => Q (.tup xs) T := rfl
@[simp ↓] theorem l_list {x : D} : bltR .list [x] T Q = ∃ xs, seqOf T x = some xs ∧ ∀ p, T p = none → Q (.ref p) (upd T p (.lst xs)) := rfl
@[simp ↓] theorem l_sorted {a : Addr} : bltR .sorted [.ref a] T Q = (match T a with
    | some (.lst xs) => ∃ ys, strsOf xs = some ys ∧ ys.length < 64 ∧ ∀ (p : Addr) (zs : List (List Nat)), T p = none → zs.Perm ys → adjS zs = true → Q (.ref p) (upd T p (.lst (zs.map D.str)))
    | _ => False) := rfl
@[simp ↓] theorem l_max {i j : Int} : bltR .max [.int i, .int j] T Q = Q (.int (if j > i then j else i)) T := rfl
@[simp ↓] theorem l_min {i j : Int} : bltR .min [.int i, .int j] T Q = Q (.int (if j < i then j else i)) T := rfl
variable {I : Int → Prop} {Y : List D → Prop}
@[simp ↓] theorem n_str {x : List Nat} : lenR (.str x) T I = (x.length ≤ szL ∧ I x.length) := rfl
@[simp ↓] theorem n_tup {x : List D} : lenR (.tup x) T I = I x.length := rfl
@[simp ↓] theorem n_rol {x : List D} : lenR (.rol x) T I = I x.length := rfl
@[simp ↓] theorem n_ref {a : Addr} : lenR (.ref a) T I = (match T a with
    | some (.lst xs) => I xs.length
    | some (.dic kvs) => I kvs.length
    | _ => False) := rfl
@[simp ↓] theorem n_int {i : Int} : intR (.int i) I = I i := rfl
@[simp ↓] theorem n_bl {b : Bool} : intR (.bl b) I = I (if b then 1 else 0) := rfl
@[simp ↓] theorem p_tup {x : List D} : tupR (.tup x) T Y = Y x := rfl
@[simp ↓] theorem p_ref {a : Addr} : tupR (.ref a) T Y = (match T a with | some (.lst xs) => Y xs | _ => False) := rfl
@[simp] theorem q_tup {xs : List D} : seqOf T (.tup xs) = some xs := rfl
@[simp] theorem q_wtup {xs : List D} : seqOf T (.wtup xs) = some xs := rfl
@[simp] theorem q_rol {xs : List D} : seqOf T (.rol xs) = some xs := rfl
@[simp] theorem q_ref {a : Addr} : seqOf T (.ref a) = (match T a with | some (.lst xs) => some xs | _ => none) := rfl
variable {S : Sq → Prop}
@[simp ↓] theorem z_tup {ds : List D} : sqOf (.tup ds) T S = S ⟨ds, fun _ => True⟩ := rfl
@[simp ↓] theorem z_rol {ds : List D} : sqOf (.rol ds) T S = S ⟨ds, fun _ => True⟩ := rfl
@[simp ↓] theorem z_str {x : List Nat} : sqOf (.str x) T S = S ⟨x.map fun c => .str [c], fun _ => True⟩ := rfl
@[simp ↓] theorem z_ref {a : Addr} : sqOf (.ref a) T S = (match T a with
    | some (.lst ds) => S ⟨ds, fun T' => T' a = some (.lst ds)⟩
    | _ => False) := rfl
@[simp ↓] theorem z2_tup {ds : List D} : sqOf2 (.tup ds) T S = S ⟨ds, fun _ => True⟩ := rfl
@[simp ↓] theorem z2_ref {a : Addr} : sqOf2 (.ref a) T S = (match T a with
    | some (.lst ds) => S ⟨ds, fun T' => T' a = some (.lst ds)⟩
    | _ => False) := rfl
@[simp ↓] theorem m_append {a : Addr} {y : D} : bmR .append (.ref a) [y] T Q = (match T a with
      | some (.lst xs) => xs.length < szL ∧ Q .non (upd T a (.lst (xs ++ [y])))
      | _ => False) := rfl
@[simp ↓] theorem m_extend {a b : Addr} : bmR .extend (.ref a) [.ref b] T Q = (match T a with
      | some (.lst xs) => (match T b with | some (.lst ys) => xs.length + ys.length ≤ szL ∧ Q .non (upd T a (.lst (xs ++ ys))) | _ => False)
      | _ => False) := rfl
@[simp ↓] theorem m_pop {a : Addr} : bmR .pop (.ref a) [] T Q = (match T a with
      | some (.lst xs) => ∃ y, xs.getLast? = some y ∧ Q y (upd T a (.lst xs.dropLast))
      | _ => False) := rfl
@[simp ↓] theorem m_join {s : List Nat} {y : D} : bmR .join (.str s) [y] T Q = ∃ xs ys, seqOf T y = some xs ∧ strsOf xs = some ys ∧ (ys.map (·.length)).sum + ys.length * s.length ≤ szL ∧ Q (.str (TL.joinL s ys)) T := rfl
@[simp ↓] theorem m_split {s c : List Nat} : bmR .split (.str s) [.str c] T Q = ∃ c', c = [c'] ∧ c' < 256 ∧ s.length + 2 ≤ szL ∧ ∀ p, T p = none → Q (.ref p) (upd T p (.lst ((TL.spl [c'] 0 [] s).map D.str))) := rfl
@[simp ↓] theorem m_sindex {s c : List Nat} : bmR .sindex (.str s) [.str c] T Q = ∃ c', c = [c'] ∧ ∃ j, s.idxOf? c' = some j ∧ Q (.int (j : Nat)) T := rfl
@[simp ↓] theorem sl_str {s : List Nat} {lo hi : _root_.Option Int} : slR (.str s) lo hi T Q = (s.length ≤ szL ∧ Q (.str (cut s lo hi)) T) := rfl
@[simp ↓] theorem sl_tup {s : List D} {lo hi : _root_.Option Int} : slR (.tup s) lo hi T Q = Q (.tup (cut s lo hi)) T := rfl
@[simp ↓] theorem sl_rol {s : List D} {lo hi : _root_.Option Int} : slR (.rol s) lo hi T Q = ∀ p, T p = none → Q (.ref p) (upd T p (.lst (cut s lo hi))) := rfl
@[simp ↓] theorem sl_ref {a : Addr} {lo hi : _root_.Option Int} : slR (.ref a) lo hi T Q = (match T a with
    | some (.lst xs) => ∀ p, T p = none → Q (.ref p) (upd T p (.lst (cut xs lo hi)))
    | _ => False) := rfl
@[simp ↓] theorem m_lst {a : Addr} : isLst (.ref a) T = ∃ xs, T a = some (.lst xs) := rfl
@[simp ↓] theorem m_bt1 {o : D} : bmT .append o T = isLst o T := rfl
@[simp ↓] theorem m_bt2 {o : D} : bmT .extend o T = isLst o T := rfl
@[simp ↓] theorem m_bt3 {o : D} : bmT .pop o T = isLst o T := rfl
@[simp ↓] theorem m_bt4 {s : List Nat} : bmT .join (.str s) T = True := rfl
@[simp ↓] theorem m_bt5 {s : List Nat} : bmT .split (.str s) T = True := rfl
@[simp ↓] theorem m_bt6 {s : List Nat} : bmT .sindex (.str s) T = True := rfl
@[simp] theorem szL_is : szL = 16777216 := rfl
@[simp] theorem upd_at {a b : Addr} {o : TO} : upd T a o b = if b = a then some o else T b := rfl
@[simp] theorem atI_0 {α : Type} {x : α} {xs : List α} : L2.atI (x :: xs) 0 = some x := by simp [L2.atI, L2.ixN]
@[simp] theorem atI_n {α : Type} {xs : List α} {n : Nat} : L2.atI xs ((n : Nat) : Int) = xs[n]? := by
  unfold L2.atI L2.ixN
  rw [if_pos (Int.natCast_nonneg n)]
  split
  · simp
  · rename_i h
    rw [List.getElem?_eq_none (by omega)]; rfl
@[simp] theorem atI_1 {α : Type} {x y : α} {xs : List α} : L2.atI (x :: y :: xs) 1 = some y := atI_n (n := 1)
@[simp] theorem atI_2 {α : Type} {x y z : α} {xs : List α} : L2.atI (x :: y :: z :: xs) 2 = some z := atI_n (n := 2)
@[simp] theorem atI_3 {α : Type} {x y z w : α} {xs : List α} : L2.atI (x :: y :: z :: w :: xs) 3 = some w := atI_n (n := 3)
@[simp] theorem atI_4 {α : Type} {x y z w v : α} {xs : List α} : L2.atI (x :: y :: z :: w :: v :: xs) 4 = some v := atI_n (n := 4)
theorem atI_i {α : Type} {xs : List α} {i : Int} (h : 0 ≤ i) : L2.atI xs i = xs[i.toNat]? := by
  have := atI_n (xs := xs) (n := i.toNat)
  rwa [Int.toNat_of_nonneg h] at this
@[simp] theorem atI_last {α : Type} {xs : List α} : L2.atI xs (-1) = xs.getLast? := by
  unfold L2.atI L2.ixN
  rw [if_neg (by decide)]
  cases xs with
  | nil => rfl
  | cons x xs =>
    rw [if_pos (by simp; omega)]
    have e : ((-1 : Int) + ((x :: xs).length : Nat)).toNat = xs.length := by simp; omega
    show (x :: xs)[((-1 : Int) + ((x :: xs).length : Nat)).toNat]? = _
    rw [e, List.getLast?_eq_getElem?]
    simp
@[simp] theorem endD_rt {q : Kd} {x : XE} : (endD q x).rt = q := rfl
@[simp] theorem endD_nx {q : Kd} {x : XE} : (endD q x).nx τ T = q .non T := rfl
@[simp] theorem setv_0 {x y : _root_.Option D} {d : D} : setv (x :: τ) 0 d = some d :: τ := rfl
@[simp] theorem setv_s {x : _root_.Option D} {n : Nat} {d : D} : setv (x :: τ) (n + 1) d = x :: setv τ n d := rfl
def fldR (C : Ctx) (f : List Nat) (x : D) (T : TH) (Q : Kd) : Prop := match x with
  | .ref a => (match T a with | some (.ins c fs) => C.fok c f = true ∧ ∃ d, lookF f fs = some d ∧ Q d T | _ => False)
  | _ => False
def insR (x : D) (T : TH) (P : Nat → List (List Nat × D) → Prop) : Prop := match x with
  | .ref a => (match T a with | some (.ins c fs) => P c fs | _ => False)
  | _ => False
theorem insR_eq {x : D} {P : Nat → List (List Nat × D) → Prop} : insR x T P = ∃ a c fs, x = .ref a ∧ T a = some (.ins c fs) ∧ P c fs := by
  apply propext
  constructor
  · intro h
    cases x with
    | ref a =>
      cases e : T a with
      | none => unfold insR at h; simp only [e] at h
      | some o =>
        cases o with
        | ins c fs => unfold insR at h; simp only [e] at h; exact ⟨a, c, fs, rfl, e, h⟩
        | lst _ => unfold insR at h; simp only [e] at h
        | dic _ => unfold insR at h; simp only [e] at h
        | dnk _ _ => unfold insR at h; simp only [e] at h
    | _ => cases h
  · rintro ⟨a, c, fs, rfl, e, h⟩
    unfold insR; simp only [e]; exact h
@[simp ↓] theorem insR_ref {a : Addr} {P : Nat → List (List Nat × D) → Prop} : insR (.ref a) T P = (match T a with | some (.ins c fs) => P c fs | _ => False) := rfl
@[simp ↓] theorem e_fldM {o : Ex} {f : List Nat} : rdE C r (.fld o f) X τ T Q = rdE C r o X τ T fun x T1 => insR x T1 fun c fs => C.fok c f = true ∧ ∃ d, lookF f fs = some d ∧ Q d T1 := by
  rw [e_fld]
  congr 1
  funext x T1
  rw [insR_eq]
  apply propext
  exact ⟨fun ⟨a, c, fs, d, h1, h2, h3, h4, h5⟩ => ⟨a, c, fs, h1, h2, h3, d, h4, h5⟩, fun ⟨a, c, fs, h1, h2, h3, d, h4, h5⟩ => ⟨a, c, fs, d, h1, h2, h3, h4, h5⟩⟩
@[simp ↓] theorem s_asgFM {o e : Ex} {f : List Nat} : rdS C r (.asgF o f e) N τ T = rdE C r e (fun c T => N.xe c τ T) τ T fun v T1 => rdE C r o (fun c T => N.xe c τ T) τ T1 fun x T2 =>
      ∃ a, x = .ref a ∧ insR x T2 fun c fs => C.fok c f = true ∧ fs.length < 1000 ∧ N.nx τ (upd T2 a (.ins c (putF f v fs))) := by
  rw [s_asgFS]
  congr 1
  funext v T1
  congr 1
  funext x T2
  apply propext
  constructor
  · rintro ⟨a, c, fs, rfl, h2, h3, h4, h5⟩
    exact ⟨a, rfl, by rw [insR_eq]; exact ⟨a, c, fs, rfl, h2, h3, h4, h5⟩⟩
  · rintro ⟨a, rfl, h⟩
    rw [insR_eq] at h
    obtain ⟨a', c, fs, e, h2, h3, h4, h5⟩ := h
    cases e
    exact ⟨a, c, fs, rfl, h2, h3, h4, h5⟩
@[simp ↓] theorem e_methM {o : Ex} {k : Nat} {es : Exs} : rdE C r (.meth o k es) X τ T Q = rdE C r o X τ T fun x T1 => insR x T1 fun c fs => c = C.mc k ∧ lookF (C.mn k) fs = none ∧
      rdEs C r es X τ T1 fun ds T2 => ∃ ρ, ρ < r ∧ (C.G k).sp ρ (x :: ds) T2 Q X := by
  rw [e_meth]
  congr 1
  funext x T1
  rw [insR_eq]
  apply propext
  constructor
  · rintro ⟨a, fs, rfl, h2, h3, h4⟩
    exact ⟨a, _, fs, rfl, h2, rfl, h3, h4⟩
  · rintro ⟨a, c, fs, rfl, h2, rfl, h3, h4⟩
    exact ⟨a, fs, rfl, h2, h3, h4⟩
end
end Tr

/-! Q0: heaps that keep, the deck; draws. -/
namespace Tr
open PySem
/-- all but S stays -/
def Kp (S : List Addr) (T T' : TH) : Prop := ∀ b o, T b = some o → b ∉ S → T' b = some o
theorem Kp.refl {S : List Addr} {T : TH} : Kp S T T := fun _ _ h _ => h
theorem Kp.trans {S : List Addr} {T T1 T2 : TH} (a : Kp S T T1) (b : Kp S T1 T2) : Kp S T T2 := fun p o h hs => b p o (a p o h hs) hs
theorem Kp.sub {S S' : List Addr} {T T1 : TH} (a : Kp S T T1) (h : ∀ x ∈ S, x ∈ S') : Kp S' T T1 := fun p o e hs => a p o e fun z => hs (h p z)
theorem Kp.nil {S : List Addr} {T T1 : TH} (a : Kp [] T T1) : Kp S T T1 := a.sub fun _ h => by cases h
theorem Kp.new {S : List Addr} {T : TH} {p : Addr} {o : TO} (h : T p = none) : Kp S T (upd T p o) := fun b u e hs => by
  rw [upd_at]
  split
  · rename_i hb; subst hb; rw [h] at e; cases e
  · exact e
theorem Kp.put {S : List Addr} {T : TH} {p : Addr} {o : TO} (h : p ∈ S) : Kp S T (upd T p o) := fun b u e hs => by
  rw [upd_at]
  split
  · rename_i hb; subst hb; exact absurd h hs
  · exact e
/-- what was new then may change -/
theorem Kp.put2 {S : List Addr} {T T1 : TH} {p : Addr} {o : TO} (k : Kp S T T1) (h : T p = none) : Kp S T (upd T1 p o) := fun b u e hs => by
  rw [upd_at]
  split
  · rename_i hb; subst hb; rw [h] at e; cases e
  · exact k b u e hs
theorem ne_new {T : TH} {a p : Addr} {o : TO} (h : T a = some o) (hp : T p = none) : a ≠ p := fun e => by rw [e, hp] at h; cases h
/-- the deck: three ints, the second a count -/
def Dk (T : TH) (a : Addr) (n : Nat) : Prop := ∃ x y z : Int, T a = some (.lst [.int x, .int y, .int z]) ∧ 0 ≤ y ∧ y ≤ n
theorem Dk.kp {S : List Addr} {T T' : TH} {a : Addr} {n : Nat} (h : Dk T a n) (k : Kp S T T') (hs : a ∉ S) : Dk T' a n := by
  obtain ⟨x, y, z, e, h⟩ := h
  exact ⟨x, y, z, k _ _ e hs, h⟩
theorem Dk.le {T : TH} {a : Addr} {n m : Nat} (h : Dk T a n) (l : n ≤ m) : Dk T a m := by
  obtain ⟨x, y, z, e, h1, h2⟩ := h
  exact ⟨x, y, z, e, h1, by omega⟩
theorem Dk.new {T : TH} {a p : Addr} {n : Nat} {o : TO} (h : Dk T a n) (hp : T p = none) : Dk (upd T p o) a n := h.kp (Kp.new (S := []) hp) (by simp)
theorem Dk.put {T : TH} {a p : Addr} {n : Nat} {o : TO} (h : Dk T a n) (hp : a ≠ p) : Dk (upd T p o) a n := h.kp (Kp.put (S := [p]) (p := p) (by simp)) (by simp [hp])
theorem Kp.fresh {S : List Addr} {T T' : TH} {p : Addr} (k : Kp S T T') (hp : T' p = none) (hs : p ∉ S) : T p = none := by
  cases q : T p with
  | none => rfl
  | some o => rw [k p o q hs] at hp; cases hp
theorem Dk.ne {T : TH} {a p : Addr} {n : Nat} (h : Dk T a n) (hp : T p = none) : a ≠ p := by
  obtain ⟨x, y, z, e, _⟩ := h
  exact ne_new e hp
theorem fmodP {i m : Int} (h : 0 < m) : 0 ≤ i.fmod m ∧ i.fmod m < m := by
  rw [Int.fmod_eq_emod_of_nonneg _ (by omega)]
  exact ⟨Int.emod_nonneg _ (by omega), Int.emod_lt_of_pos _ h⟩
def sDraw : Spec := ⟨fun _ ds T q _ => ∃ a m n, ds = [.ref a, .int m] ∧ Dk T a n ∧ n < 2 ^ 60 ∧ 0 < m ∧ m < 2 ^ 29 ∧ ∀ (j : Int) T', 0 ≤ j → j < m → Dk T' a (n + 1) → Kp [a] T T' → q (.int j) T'⟩
variable {C : Ctx} {r i : Nat} {X : XE} {T : TH} {Q : Kd}
theorem c_draw (h : C.G i = sDraw) (hr : 0 < r) {a : Addr} {m : Int} {n : Nat} (hD : Dk T a n) (hn : n < 2 ^ 60) (h1 : 0 < m) (h2 : m < 2 ^ 29) (k : ∀ (j : Int) T', 0 ≤ j → j < m → Dk T' a (n + 1) → Kp [a] T T' → Q (.int j) T') :
    ∃ ρ, ρ < r ∧ (C.G i).sp ρ [.ref a, .int m] T Q X := by
  rw [h]
  exact ⟨0, hr, a, m, n, rfl, hD, hn, h1, h2, k⟩
theorem atI_pick {α : Type} {xs : List α} {j : Int} (h0 : 0 ≤ j) (h1 : j < xs.length) : ∃ x, L2.atI xs j = some x ∧ x ∈ xs := by
  have hl : j.toNat < xs.length := by omega
  refine ⟨xs[j.toNat], ?_, List.getElem_mem hl⟩
  rw [atI_i h0, List.getElem?_eq_getElem hl]
/-- a pick out of a list all of whose members pass a look -/
theorem pick {xs : List D} {j : Int} {P : D → Bool} {Q : D → Prop} (h0 : 0 ≤ j) (h1 : j < xs.length) (hp : xs.all P = true) (k : ∀ x, P x = true → Q x) : ∃ x, L2.atI xs j = some x ∧ Q x := by
  obtain ⟨x, e, m⟩ := atI_pick h0 h1
  exact ⟨x, e, k x (List.all_eq_true.mp hp x m)⟩
/-! ### loops -/
theorem lc_ind {step : D → TH → (TH → Prop) → Prop} {fin : TH → Prop} (I : List D → TH → Prop) (hf : ∀ T, I [] T → fin T) (hs : ∀ d l T (k : TH → Prop), I (d :: l) T → (∀ T', I l T' → k T') → step d T k) :
    ∀ l T, I l T → lcRun step fin l T
  | [], T, h => hf T h
  | d :: l, T, h => hs d l T _ h fun T' h' => lc_ind I hf hs l T' h'
theorem for_ind {step : D → Env → TH → (Env → TH → Prop) → Prop} {fin : Env → TH → Prop} (I : List D → Env → TH → Prop) (hf : ∀ τ T, I [] τ T → fin τ T) (hs : ∀ d l τ T (k : Env → TH → Prop), I (d :: l) τ T → (∀ τ' T', I l τ' T' → k τ' T') → step d τ T k) :
    ∀ l τ T, I l τ T → forRun step fin l τ T
  | [], τ, T, h => hf τ T h
  | d :: l, τ, T, h => hs d l τ T _ h fun τ' T' h' => for_ind I hf hs l τ' T' h'
theorem wh_ind {step : Env → TH → (Env → TH → Prop) → Prop} (I : Nat → Env → TH → Prop) (hs : ∀ n τ T (k : Env → TH → Prop), I n τ T → (∀ m τ' T', m < n → I m τ' T' → k τ' T') → step τ T k) {n : Nat} {τ : Env} {T : TH} (h : I n τ T) :
    ∃ m, whRun step m τ T := by
  have key : ∀ f n τ T, n < f → I n τ T → whRun step f τ T := by
    intro f
    induction f with
    | zero => intro n τ T h; omega
    | succ f ih => intro n τ T h hI; exact hs n τ T _ hI fun m τ' T' hm hI' => ih m τ' T' (by omega) hI'
  exact ⟨n + 1, key _ n τ T (by omega) h⟩
@[simp] theorem wipe_nil {τ : Env} : wipe τ [] = τ := rfl
@[simp] theorem wipe_cons {τ : Env} {v : Nat} {vs : List Nat} : wipe τ (v :: vs) = (wipe τ vs).set v none := rfl
@[simp] theorem strsOf_map : ∀ xs : List (List Nat), strsOf (xs.map D.str) = some xs
  | [] => rfl
  | x :: xs => by rw [List.map_cons]; show (strsOf (xs.map D.str)).map (x :: ·) = _; rw [strsOf_map xs]; rfl
theorem joinL_nil : ∀ xs : List (List Nat), TL.joinL [] xs = xs.flatten
  | [] => rfl
  | [x] => by simp [TL.joinL]
  | x :: y :: r => by
    show x ++ ([] ++ TL.joinL [] (y :: r)) = _
    rw [joinL_nil (y :: r)]; simp
theorem nodup_sub {α : Type} [DecidableEq α] : ∀ {l l' : List α}, l.Nodup → (∀ x ∈ l, x ∈ l') → l.length ≤ l'.length
  | [], _, _, _ => Nat.zero_le _
  | x :: l, l', h, hs => by
    obtain ⟨h1, h2⟩ := List.nodup_cons.mp h
    have hm : x ∈ l' := hs x (by simp)
    have := nodup_sub (l := l) (l' := l'.erase x) h2 fun y hy => (List.mem_erase_of_ne (fun e => h1 (by rw [← e]; exact hy))).mpr (hs y (by simp [hy]))
    rw [List.length_erase_of_mem hm] at this
    have : 0 < l'.length := List.length_pos_of_mem hm
    simp only [List.length_cons]
    omega
theorem fresh_if {p q : Addr} {o : TO} {Z : Option TO} (h : (if p = q then some o else Z) = none) : p ≠ q ∧ Z = none := by
  by_cases e : p = q
  · rw [if_pos e] at h; cases h
  · rw [if_neg e] at h; exact ⟨e, h⟩
theorem lcRun_cons {step : D → TH → (TH → Prop) → Prop} {fin : TH → Prop} {d : D} {l : List D} {T : TH} : lcRun step fin (d :: l) T = step d T (lcRun step fin l) := rfl
theorem lcRun_nil {step : D → TH → (TH → Prop) → Prop} {fin : TH → Prop} {T : TH} : lcRun step fin [] T = fin T := rfl
theorem forRun_cons {step : D → Env → TH → (Env → TH → Prop) → Prop} {fin : Env → TH → Prop} {d : D} {l : List D} {τ : Env} {T : TH} : forRun step fin (d :: l) τ T = step d τ T (forRun step fin l) := rfl
theorem forRun_nil {step : D → Env → TH → (Env → TH → Prop) → Prop} {fin : Env → TH → Prop} {τ : Env} {T : TH} : forRun step fin [] τ T = fin τ T := rfl
theorem cut_map {α β : Type} (f : α → β) (l : List α) (lo hi : Option Int) : cut (l.map f) lo hi = (cut l lo hi).map f := by
  unfold cut
  simp [List.map_take, List.map_drop]
theorem cut_len {α : Type} (l : List α) (lo hi : Option Int) : (cut l lo hi).length ≤ l.length := by
  unfold cut
  simp
  omega
theorem cut_pre {α : Type} {l : List α} {i : Int} (h0 : 0 ≤ i) (h1 : i ≤ l.length) : (cut l none (some i)).length = i.toNat := by
  unfold cut HT.sIx
  simp
  rw [if_neg (by omega)]
  omega
theorem Dk.get {T : TH} {a p : Addr} {n : Nat} {xs : List (List Nat)} (h : Dk T a n) (e : T p = some (.lst (xs.map D.str))) : a ≠ p := by
  intro q
  subst q
  obtain ⟨x, y, z, e2, _⟩ := h
  rw [e2] at e
  cases xs with
  | nil => cases e
  | cons _ _ => cases e
/-- [..][draw] -/
theorem c_pickL (h : C.G i = sDraw) {p : Addr} (hp0 : T p = none) (hr : 0 < r) {a : Addr} {k : Int} {n : Nat} {xs : List D} {V : D → TH → Prop} (P : D → Bool) (hD : Dk T a n) (hn : n < 2 ^ 60) (hk : k = xs.length) (hk0 : 0 < xs.length) (hk2 : xs.length < 2 ^ 29) (hp : xs.all P = true)
    (kk : ∀ v T', P v = true → Dk T' a (n + 1) → Kp [a] T T' → V v T') : ∃ ρ, ρ < r ∧ (C.G i).sp ρ [.ref a, .int k] (upd T p (.lst xs)) (fun d T2 => ixR (.ref p) d T2 fun v => V v T2) X := by
  have n1 := hD.ne hp0
  refine c_draw h hr (hD.put n1) hn (by omega) (by omega) fun j T2 j0 j1 hD2 K2 => ?_
  have e1 := K2 p _ upd_same (by simp [Ne.symm n1])
  rw [x_ref, e1]
  obtain ⟨v, ev, hv⟩ := atI_pick (xs := xs) j0 (by omega)
  exact ⟨j, v, rfl, ev, kk v T2 (List.all_eq_true.mp hp v hv) hD2 ((Kp.new hp0).trans K2)⟩
/-- t[draw(len(t))], t a tuple -/
theorem c_pickT (h : C.G i = sDraw) (hr : 0 < r) {a : Addr} {k : Int} {n : Nat} {xs : List D} {V : D → TH → Prop} (P : D → Bool) (hD : Dk T a n) (hn : n < 2 ^ 60) (hk : k = xs.length) (hk0 : 0 < xs.length) (hk2 : xs.length < 2 ^ 29) (hp : xs.all P = true)
    (kk : ∀ v T', P v = true → Dk T' a (n + 1) → Kp [a] T T' → V v T') : ∃ ρ, ρ < r ∧ (C.G i).sp ρ [.ref a, .int k] T (fun d T2 => ixR (.tup xs) d T2 fun v => V v T2) X := by
  refine c_draw h hr hD hn (by omega) (by omega) fun j T2 j0 j1 hD2 K2 => ?_
  rw [x_tup]
  obtain ⟨v, ev, hv⟩ := atI_pick (xs := xs) j0 (by omega)
  exact ⟨v, ev, kk v T2 (List.all_eq_true.mp hp v hv) hD2 K2⟩
def isI (lo hi : Int) : D → Bool
  | .int i => decide (lo ≤ i) && decide (i ≤ hi)
  | _ => false
theorem isI_ok {lo hi : Int} {d : D} (h : isI lo hi d = true) : ∃ i, d = .int i ∧ lo ≤ i ∧ i ≤ hi := by
  cases d with
  | int i => exact ⟨i, rfl, by simpa [isI] using h⟩
  | _ => cases h
def isS : D → Bool
  | .str s => s.all fun c => decide (c < 0x110000)
  | _ => false
theorem isS_ok {d : D} (h : isS d = true) : ∃ s, d = .str s := by
  cases d with
  | str s => exact ⟨s, rfl⟩
  | _ => cases h
/-- texts of signs that there are -/
def SOk (l : List (List Nat)) : Prop := ∀ s ∈ l, (∀ c ∈ s, c < 0x110000) ∧ s ≠ [101, 110, 100]
theorem isS_map {l : List (List Nat)} (h : SOk l) : (l.map D.str).all isS = true := by
  rw [List.all_eq_true]
  intro d hd
  obtain ⟨s, hs, rfl⟩ := List.mem_map.mp hd
  simp only [isS, List.all_eq_true, decide_eq_true_eq]
  exact (h s hs).1
theorem SOk.sub {l l' : List (List Nat)} (h : SOk l) (s : ∀ x ∈ l', x ∈ l) : SOk l' := fun x hx => h x (s x hx)
theorem cut_sub {α : Type} {l : List α} {lo hi : Option Int} {x : α} (h : x ∈ cut l lo hi) : x ∈ l := by
  unfold cut at h
  exact List.mem_of_mem_drop (List.mem_of_mem_take h)
/-- what follows the first n rows -/
def dropS : Nat → Sms → Sms
  | 0, s => s
  | n + 1, .cons _ s => dropS n s
  | _ + 1, .nil => .nil
theorem ixN_nat {n j : Nat} {i : Int} (h : j < n) (e : i = j) : L2.ixN n i = some j := by
  subst e
  unfold L2.ixN
  rw [if_pos (by omega), if_pos (by omega)]; simp
end Tr

/-! Q1: the small defs of the deck. -/
namespace T72
open Tr
open PySem (Addr)
variable {C : Tr.Ctx}
/-- the shape of a body's goal -/
def Body (C : Tr.Ctx) (S : Spec) (ir : Sms) (n m : Nat) : Prop := ∀ ρ ds T q x, ds.length = m → S.sp ρ ds T q x → rdSs C ρ ir (endD q x) (startD n ds) T
def sCellAt : Spec := ⟨fun _ ds T q _ => ∃ (ns : List Int) (k : Nat), ds = [.rol (ns.map D.int), .int k] ∧ ∀ i, q (.int i) T⟩
theorem p_cell : Body C sCellAt i__law_cell_at 2 2 := by
  rintro ρ ds T q x - ⟨ns, k, rfl, h⟩
  unfold i__law_cell_at
  rw [ss_consS]
  simp [startD]
  split
  · rename_i hk
    rw [ss_consS]
    simp [hk]
    exact h _
  · rw [ss_consS]
    simp
    exact h _
def sDeck : Spec := ⟨fun _ ds T q _ => ∃ c, ds = [.int c] ∧ ∀ p T', T p = none → Dk T' p 0 → Kp [] T T' → q (.ref p) T'⟩
theorem p_deck : Body C sDeck i__law_deck 1 1 := by
  rintro ρ ds T q x - ⟨c, rfl, h⟩
  unfold i__law_deck
  rw [ss_consS]
  simp [startD]
  split
  · rw [ss_consS]
    simp
    exact fun p hp => h p _ hp ⟨_, 0, _, upd_same, by omega, by omega⟩ (Kp.new hp)
  · rw [ss_consS]
    simp
    exact fun p hp => h p _ hp ⟨_, 0, _, upd_same, by omega, by omega⟩ (Kp.new hp)
theorem p_draw : Body C sDraw i__law_draw 4 2 := by
  rintro ρ ds T q x - ⟨a, m, n, rfl, h, hn, hm, hm2, k⟩
  obtain ⟨d0, d1, d2, hT, hy0, hy1⟩ := h
  have hm' : m ≠ 0 := by omega
  unfold i__law_draw
  rw [ss_consS]
  simp [startD, hT]
  split
  · rw [ss_consS]
    simp [hT, hm']
    rw [ss_consS]
    simp [hT, hm', L2.ixN]
    refine ⟨by omega, ?_⟩
    rw [ss_consS]
    simp
    obtain ⟨b1, b2⟩ := fmodP (i := d0) hm
    exact k _ _ b1 b2 ⟨d0.fdiv m, d1, d2, by simp, hy0, by omega⟩ (Kp.put (by simp))
  · rw [ss_consS]
    simp [hT, L2.ixN]
    rw [ss_consS]
    simp
    refine ⟨.inl ⟨by omega, by omega⟩, .inr ⟨by omega, by omega⟩, .inr ⟨by omega, by omega⟩, ?_⟩
    rw [ss_consS]
    obtain ⟨c1, c2⟩ := fmodP (i := (d2 + 7919 * (d1 + 1) * (d1 + 1)) * 48271) (m := 2147483647) (by omega)
    generalize ((d2 + 7919 * (d1 + 1) * (d1 + 1)) * 48271).fmod 2147483647 = w at *
    simp [hm']
    refine ⟨.inl ⟨by omega, by omega⟩, ?_⟩
    obtain ⟨b1, b2⟩ := fmodP (i := ((w * (w + 69621)).fmod 2147483629).fdiv 8) hm
    exact k _ _ b1 b2 ⟨d0, d1 + 1, d2, by simp, by omega, by omega⟩ (Kp.put (by simp))
/-- a new list of texts -/
def Txs (T : TH) (p : Addr) (xs : List (List Nat)) : Prop := T p = some (.lst (xs.map D.str))
def tongue : List (List Nat) := TL.spl [32] 0 [] ([101] : List Nat)
def sName : Spec := ⟨fun ρ ds T q _ => ∃ a n, ds = [.ref a] ∧ 1 ≤ ρ ∧ Dk T a n ∧ n + 10 < 2 ^ 60 ∧ ∀ (s : List Nat) T', s ≠ [] → s.length ≤ 8 → (∀ c ∈ s, 97 ≤ c ∧ c ≤ 122) → Dk T' a (n + 10) → Kp [a] T T' → q (.str s) T'⟩
def okNm : D → Bool
  | .str s => !s.isEmpty && decide (s.length ≤ 8) && s.all fun c => decide (97 ≤ c) && decide (c ≤ 122)
  | _ => false
theorem okNm_ok {d : D} (h : okNm d = true) : ∃ s, d = .str s ∧ s ≠ [] ∧ s.length ≤ 8 ∧ ∀ c ∈ s, 97 ≤ c ∧ c ≤ 122 := by
  cases d with
  | str s =>
    refine ⟨s, rfl, ?_⟩
    simpa [okNm, and_assoc] using h
  | _ => cases h
theorem p_name (h13 : C.G 13 = sDraw) : Body C sName i__law_name 5 1 := by
  rintro ρ ds T q x - ⟨a, n, rfl, hρ, hD, hn, k⟩
  unfold i__law_name
  rw [ss_consS]
  simp [startD]
  rw [ss_consS]
  simp
  intro p hp
  rw [ss_consS]
  simp
  have hap := hD.ne hp
  refine c_draw h13 (by omega) (hD.new hp) (by omega) (by omega) (by omega) fun j T1 j0 j1 hD1 K1 => ?_
  have K1' : Kp [a] T T1 := (Kp.new (S := [a]) hp).trans K1
  have ep := K1 p _ upd_same (by simp [Ne.symm hap])
  rw [ss_consS]
  simp
  split
  · rw [ss_consS]
    simp [ep]
    refine pick (P := okNm) j0 (by simp; omega) (by decide) fun d hd => ?_
    obtain ⟨s, rfl, h1, h2, h3⟩ := okNm_ok hd
    exact k s T1 h1 h2 h3 (hD1.le (by omega)) K1'
  · rw [ss_consS]
    simp
    refine c_draw h13 (by omega) hD1 (by omega) (by omega) (by omega) fun j2 T2 j20 j21 hD2 K2 => ?_
    simp
    refine ⟨by omega, by omega, fun p1 hp1 => ?_⟩
    have ha1 := hD2.ne hp1
    refine lc_ind (fun l T' => ∃ m acc, Dk T' a m ∧ m + l.length ≤ n + 10 ∧ Kp [a] T T' ∧ T' p1 = some (.lst (acc.map D.str)) ∧ acc.length + l.length ≤ 8 ∧ 1 ≤ acc.length + l.length ∧ ∀ s ∈ acc, ∃ c, s = [c] ∧ 97 ≤ c ∧ c ≤ 122) ?_ ?_ _ _ ⟨n + 1 + 1, [], hD2.new hp1, ?_, (K1'.trans K2).trans (Kp.new hp1), by simp, ?_, ?_, by simp⟩
    · rintro T3 ⟨m, acc, hD3, hm, hK3, e3, hl, h1, hc⟩
      have hlen : ∀ acc : List (List Nat), (∀ s ∈ acc, ∃ c, s = [c] ∧ 97 ≤ c ∧ c ≤ 122) → (acc.map (·.length)).sum = acc.length ∧ acc.flatten.length = acc.length ∧ ∀ c ∈ acc.flatten, 97 ≤ c ∧ c ≤ 122 := by
        intro acc
        induction acc with
        | nil => intro _; simp
        | cons s acc ih =>
          intro h
          obtain ⟨c, rfl, hc⟩ := h s (by simp)
          obtain ⟨i1, i2, i3⟩ := ih fun s hs => h s (by simp [hs])
          refine ⟨by simp [i1] <;> omega, by simp [i2] <;> omega, fun d hd => ?_⟩
          rw [List.flatten_cons] at hd
          rcases List.mem_append.mp hd with hd | hd
          · have : d = c := by simpa using hd
            subst this; exact hc
          · exact i3 d hd
      obtain ⟨l1, l2, l3⟩ := hlen acc hc
      simp only [List.length_nil] at hl h1 hm
      simp [e3, l1, joinL_nil]
      refine ⟨by omega, k _ T3 ?_ (by rw [l2]; omega) l3 (hD3.le (by omega)) hK3⟩
      intro e; rw [e] at l2; simp at l2; omega
    · rintro d l T3 kk ⟨m, acc, hD3, hm, hK3, e3, hl, h1, hc⟩ hk
      simp only [List.length_cons] at hl h1 hm
      have hne : p1 ≠ a := Ne.symm ha1
      refine c_draw h13 (by omega) hD3 (by omega) (by omega) (by omega) fun j3 T4 j30 j31 hD4 K4 => ?_
      have e4 := K4 p1 _ e3 (by simp [hne])
      simp [e4]
      obtain ⟨c, ec, mc⟩ := atI_pick (xs := ([97, 98, 99, 100, 101, 102, 103, 104, 105, 106, 107, 108, 109, 110, 111, 112, 113, 114, 115, 116, 117, 118, 119, 120, 121, 122] : List Nat)) j30 (by simp; omega)
      refine ⟨c, ec, by omega, hk _ ⟨m + 1, acc ++ [[c]], hD4.put ha1, by omega, ?_, by simp, by simp; omega, by simp; omega, ?_⟩⟩
      · exact (hK3.trans K4).put2 ((K1'.trans K2).fresh hp1 (by simp [hne]))
      · intro s hs
        rcases List.mem_append.mp hs with hs | hs
        · exact hc s hs
        · have : s = [c] := by simpa using hs
          subst this
          have : ∀ c ∈ ([97, 98, 99, 100, 101, 102, 103, 104, 105, 106, 107, 108, 109, 110, 111, 112, 113, 114, 115, 116, 117, 118, 119, 120, 121, 122] : List Nat), 97 ≤ c ∧ c ≤ 122 := by decide
          exact ⟨c, rfl, this c mc⟩
    · simp; omega
    · simp; omega
    · simp; omega
end T72

/-! Q2: names. -/
namespace T72
open Tr
open PySem (Addr)
variable {C : Tr.Ctx}
@[simp] theorem cut_tail {α : Type} {x : α} {xs : List α} : cut (x :: xs) (some 1) none = xs := by
  unfold cut HT.sIx
  simp
def tgW : List (List Nat) := [[101, 110, 100], [109, 111, 115, 116], [108, 101, 115, 115], [115, 97, 109, 101], [117, 110, 108, 105, 107, 101], [97, 104, 101, 97, 100], [104, 101, 114, 101], [110, 101, 120, 116], [110, 111, 116], [97, 110, 100], [111, 114], [105, 102], [101, 97, 99, 104], [112, 97, 105, 114, 115], [110, 101, 120, 116, 115], [108, 101, 97, 115, 116], [109, 111, 114, 101], [114, 111, 119], [112, 108, 97, 99, 101], [110, 117, 109, 98, 101, 114], [112, 117, 116], [115, 119, 97, 112], [115, 101, 116], [115, 116, 97, 110, 100], [98, 101, 103, 105, 110], [103, 111], [119, 104, 105, 108, 101], [107, 101, 112, 116], [98, 101, 104, 105, 110, 100], [99, 104, 97, 110, 103, 101, 100], [101, 120, 99, 104, 97, 110, 103, 101, 100], [116, 117, 114, 110, 101, 100], [109, 111, 118, 101, 100], [102, 114, 111, 110, 116], [98, 97, 99, 107]]
def brW : List (List Nat) := tgW ++ [[104, 111, 108, 100, 115], [98, 114, 111, 107, 101, 110], [121, 101, 115], [110, 111], [111, 107]]
def sTongue : Tr.Spec := ⟨fun _ ds T q _ => ds = [] ∧ ∀ p T', T p = none → T' p = some (.lst (tgW.map D.str)) → Kp [] T T' → q (.ref p) T'⟩
theorem tg_spl : TL.spl [32] 0 [] [101, 110, 100, 32, 109, 111, 115, 116, 32, 108, 101, 115, 115, 32, 115, 97, 109, 101, 32, 117, 110, 108, 105, 107, 101, 32, 97, 104, 101, 97, 100, 32, 104, 101, 114, 101, 32, 110, 101, 120, 116, 32, 110, 111, 116, 32, 97, 110, 100, 32, 111, 114, 32, 105, 102, 32, 101, 97, 99, 104, 32, 112, 97, 105, 114, 115, 32, 110, 101, 120, 116, 115, 32, 108, 101, 97, 115, 116, 32, 109, 111, 114, 101, 32, 114, 111, 119, 32, 112, 108, 97, 99, 101, 32, 110, 117, 109, 98, 101, 114, 32, 112, 117, 116, 32, 115, 119, 97, 112, 32, 115, 101, 116, 32, 115, 116, 97, 110, 100, 32, 98, 101, 103, 105, 110, 32, 103, 111, 32, 119, 104, 105, 108, 101, 32, 107, 101, 112, 116, 32, 98, 101, 104, 105, 110, 100, 32, 99, 104, 97, 110, 103, 101, 100, 32, 101, 120, 99, 104, 97, 110, 103, 101, 100, 32, 116, 117, 114, 110, 101, 100, 32, 109, 111, 118, 101, 100, 32, 102, 114, 111, 110, 116, 32, 98, 97, 99, 107] = tgW := by decide +kernel
theorem p_tongue : Body C sTongue i__law_tongue 1 0 := by
  rintro ρ ds T q x - ⟨rfl, h⟩
  unfold i__law_tongue
  rw [ss_consS]
  simp [startD]
  rw [ss_consS]
  simp
  rw [ss_consS]
  simp
  intro p hp
  have e := tg_spl
  rw [e]
  exact h p _ hp upd_same (Kp.new hp)
theorem inF_map {s : List Nat} : ∀ l : List (List Nat), inF (.str s) (l.map D.str) = decide (s ∈ l)
  | [] => by simp [inF]
  | a :: l => by
    have ih := inF_map (s := s) l
    unfold inF at ih ⊢
    rw [List.map_cons, List.any_cons, ih]
    by_cases h : a = s
    · subst h; simp [eqF]
    · have h2 : ¬ (s = a) := fun e => h e.symm
      simp [eqF, h, h2]
theorem flat_map (l : List (List Nat)) : (l.map D.str).all flat = true := by simp [flat]
def lt27 : List Nat := [97, 98, 99, 100, 101, 102, 103, 104, 105, 106, 107, 108, 109, 110, 111, 112, 113, 114, 115, 116, 117, 118, 119, 120, 121, 122, 97]
def rot (c : Nat) : Nat := if c = 122 then 97 else c + 1
theorem rot_ok {c : Nat} (h : 97 ≤ c ∧ c ≤ 122) : lt27.idxOf? c = some (c - 97) ∧ lt27[1 + (c - 97)]? = some (rot c) ∧ 97 ≤ rot c ∧ rot c ≤ 122 := by
  have key : ∀ k, k < 26 → lt27.idxOf? (97 + k) = some k ∧ lt27[1 + k]? = some (rot (97 + k)) ∧ 97 ≤ rot (97 + k) ∧ rot (97 + k) ≤ 122 := by decide
  have := key (c - 97) (by omega)
  rwa [show 97 + (c - 97) = c by omega] at this
theorem few_tails : brW.all (fun w => decide ((brW.filter fun v => decide (v.drop 1 = w.drop 1)).length ≤ 5)) = true := by decide +kernel
theorem few (t : List Nat) : (brW.filter fun v => decide (v.drop 1 = t)).length ≤ 5 := by
  cases e : brW.filter fun v => decide (v.drop 1 = t) with
  | nil => simp
  | cons w l =>
    have hm : w ∈ brW.filter fun v => decide (v.drop 1 = t) := by rw [e]; simp
    obtain ⟨h1, h2⟩ := List.mem_filter.mp hm
    have h2 := of_decide_eq_true h2
    have := of_decide_eq_true (List.all_eq_true.mp few_tails w h1)
    rw [h2, e] at this
    exact this
/-- some first letter is free -/
theorem free_letter (found : List (List Nat)) (hf : found.length ≤ 18) (t : List Nat) : ∃ u, 97 ≤ u ∧ u ≤ 122 ∧ (u :: t) ∉ found ∧ (u :: t) ∉ brW := by
  by_cases h : ∃ u, 97 ≤ u ∧ u ≤ 122 ∧ (u :: t) ∉ found ∧ (u :: t) ∉ brW
  · exact h
  · exfalso
    let l := ((List.range 26).map fun k => (97 + k) :: t)
    have hn : l.Nodup := by
      have : ((List.range 26).map fun k => (97 + k)).Nodup := by decide
      show ((List.range 26).map fun k => (97 + k) :: t).Nodup
      have e : ((List.range 26).map fun k => (97 + k) :: t) = ((List.range 26).map fun k => 97 + k).map (· :: t) := by simp
      rw [e]
      exact List.Pairwise.map _ (fun a b hab q => hab (List.cons.inj q).1) this
    have := nodup_sub (l := l) (l' := found ++ brW.filter fun v => decide (v.drop 1 = t)) hn fun w hw => by
      obtain ⟨k, hk, rfl⟩ := List.mem_map.mp hw
      have hk := List.mem_range.mp hk
      by_cases h1 : ((97 + k) :: t) ∈ found
      · exact List.mem_append_left _ h1
      · by_cases h2 : ((97 + k) :: t) ∈ brW
        · exact List.mem_append_right _ (List.mem_filter.mpr ⟨h2, by simp⟩)
        · exact absurd ⟨97 + k, by omega, by omega, h1, h2⟩ h
    have := few t
    simp [l] at *
    omega
end T72

/-! Q3: _law_names. -/
namespace T72
open Tr
open PySem (Addr)
variable {C : Tr.Ctx}
def sNames : Tr.Spec := ⟨fun ρ ds T q _ => ∃ a n m, ds = [.ref a, .int (m : Nat)] ∧ 2 ≤ ρ ∧ Dk T a n ∧ n + 180 < 2 ^ 60 ∧ m ≤ 18 ∧ ∀ (l : List (List Nat)) p T', T p = none → l.length = m → SOk l → T' p = some (.lst (l.map D.str)) → Dk T' a (n + 180) → Kp [a] T T' → q (.ref p) T'⟩
theorem c_name {r i : Nat} {X : XE} {T : TH} {Q : Kd} {C : Tr.Ctx} (h : C.G i = sName) (hr : 1 < r) {a : Addr} {n : Nat} (hD : Dk T a n) (hn : n + 10 < 2 ^ 60)
    (k : ∀ (s : List Nat) T', s ≠ [] → s.length ≤ 8 → (∀ c ∈ s, 97 ≤ c ∧ c ≤ 122) → Dk T' a (n + 10) → Kp [a] T T' → Q (.str s) T') : ∃ ρ, ρ < r ∧ (C.G i).sp ρ [.ref a] T Q X := by
  rw [h]; exact ⟨1, hr, a, n, rfl, Nat.le_refl _, hD, hn, k⟩
theorem p_names (h14 : C.G 14 = sTongue) (h15 : C.G 15 = sName) : Body C sNames i__law_names 7 2 := by
  rintro ρ ds T q x - ⟨a, n, m, rfl, hρ, hD, hn, hm, k⟩
  unfold i__law_names
  rw [ss_consS]
  simp [startD]
  rw [ss_consS]
  simp
  rw [h14]
  refine ⟨0, by omega, rfl, fun pt T1 hpt ept K1 => ?_⟩
  simp
  intro pl hpl
  simp [ept, ne_new ept hpl]
  refine ⟨by decide, fun pb hpb => ?_⟩
  obtain ⟨nb, hpb⟩ := fresh_if hpb
  generalize hT2 : upd (upd T1 pl _) pb _ = T2
  have eb : T2 pb = some (.lst (brW.map D.str)) := by rw [← hT2]; exact upd_same
  have K2 : Kp [] T T2 := by rw [← hT2]; exact (K1.trans (Kp.new hpl)).put2 (K1.fresh hpb (by simp))
  clear hT2
  rw [ss_consS]
  simp
  intro pf hpf
  have hpfT : T pf = none := K2.fresh hpf (by simp)
  have hbf : pb ≠ pf := ne_new eb hpf
  have haf : a ≠ pf := hD.ne hpfT
  have hD3 : Dk (upd T2 pf (.lst [])) a n := (hD.kp K2 (by simp)).put haf
  have K3 : Kp [a] T (upd T2 pf (.lst [])) := (K2.trans (Kp.new hpf)).nil
  have eb3 : upd T2 pf (.lst []) pb = some (.lst (brW.map D.str)) := by simp [hbf, eb]
  have hab : a ≠ pb := by
    intro e; subst e
    obtain ⟨_, _, _, e2, _⟩ := hD.kp K2 (by simp)
    rw [e2] at eb; cases eb
  rw [ss_consS]
  simp
  refine ⟨by omega, ?_⟩
  refine for_ind (fun l τ T' => ∃ (d5 d6 : Option D) (nn : Nat) (fo : List (List Nat)), τ = [some (.ref a), some (.int (m : Nat)), some (.str lt27), some (.ref pb), some (.ref pf), d5, d6] ∧ Dk T' a nn ∧ nn + 10 * l.length ≤ n + 180 ∧ Kp [a] T T' ∧ T' pf = some (.lst (fo.map D.str)) ∧ T' pb = some (.lst (brW.map D.str)) ∧ fo.length + l.length = m ∧ SOk fo) ?_ ?_ _ _ _ ⟨none, none, n, [], rfl, hD3, by simp; omega, K3, by simp, eb3, by simp, fun _ h => by cases h⟩
  · rintro τ T' ⟨d5, d6, nn, fo, rfl, hD', hn', K', ef, ebr, hl, hS⟩
    rw [ss_consS]
    simp
    exact k fo pf T' hpfT (by simpa using hl) hS ef (hD'.le (by simpa using hn')) K'
  · rintro d l τ T' kk ⟨d5, d6, nn, fo, rfl, hD', hn', K', ef, ebr, hl, hS⟩ hk
    simp only [List.length_cons] at hn' hl
    simp
    rw [ss_consS]
    simp
    refine c_name h15 (by omega) hD' (by omega) fun s T4 s0 s1 s2 hD4 K4 => ?_
    have ef4 := K4 pf _ ef (by simp [Ne.symm haf])
    have eb4 := K4 pb _ ebr (by simp [Ne.symm hab])
    cases s with
    | nil => exact absurd rfl s0
    | cons c t =>
      obtain ⟨u, u1, u2, u3, u4⟩ := free_letter fo (by omega) t
      have hc := s2 c (by simp)
      rw [ss_consS]
      simp
      refine wh_ind (fun w τ T5 => ∃ c, T5 = T4 ∧ 97 ≤ c ∧ c ≤ 122 ∧ w = (u + 26 - c) % 26 ∧ τ = [some (.ref a), some (.int (m : Nat)), some (.str lt27), some (.ref pb), some (.ref pf), some d, some (.str (c :: t))]) ?_ ⟨c, rfl, hc.1, hc.2, rfl, rfl⟩
      rintro w τ T5 k5 ⟨c, rfl, c1, c2, rfl, rfl⟩ hk5
      simp [ef4, eb4]
      refine ⟨rfl, fun _ _ => rfl, ?_⟩
      rw [inF_map]
      by_cases b1 : (c :: t) ∈ fo
      · simp only [b1, decide_true, if_true]
        obtain ⟨r1, r2, r3, r4⟩ := rot_ok ⟨c1, c2⟩
        have hcu : c ≠ u := fun e => by subst e; first | exact u3 b1 | exact u4 b2
        rw [ss_consS]
        simp [r1]
        simp only [List.length_cons] at s1
        refine ⟨by omega, by decide, rot c, ?_, by omega, by omega, ?_⟩
        · rw [show (1 : Int) + ((c - 97 : Nat) : Int) = ((1 + (c - 97) : Nat) : Int) by omega, atI_n]; exact r2
        · have hlt : (u + 26 - rot c) % 26 < (u + 26 - c) % 26 := by unfold rot; split <;> omega
          exact hk5 _ _ _ hlt ⟨rot c, rfl, r3, r4, rfl, rfl⟩
      · simp only [b1, decide_false, Bool.false_eq_true, if_false]
        refine ⟨rfl, fun _ _ => rfl, ?_⟩
        rw [inF_map]
        by_cases b2 : (c :: t) ∈ brW
        · simp only [b2, decide_true, if_true]
          obtain ⟨r1, r2, r3, r4⟩ := rot_ok ⟨c1, c2⟩
          have hcu : c ≠ u := fun e => by subst e; first | exact u3 b1 | exact u4 b2
          rw [ss_consS]
          simp [r1]
          simp only [List.length_cons] at s1
          refine ⟨by omega, by decide, rot c, ?_, by omega, by omega, ?_⟩
          · rw [show (1 : Int) + ((c - 97 : Nat) : Int) = ((1 + (c - 97) : Nat) : Int) by omega, atI_n]; exact r2
          · have hlt : (u + 26 - rot c) % 26 < (u + 26 - c) % 26 := by unfold rot; split <;> omega
            exact hk5 _ _ _ hlt ⟨rot c, rfl, r3, r4, rfl, rfl⟩
        · simp only [b2, decide_false, Bool.false_eq_true, if_false]
          rw [ss_consS]
          simp [ef4]
          refine ⟨by omega, hk _ _ ⟨_, _, nn + 10, fo ++ [c :: t], rfl, hD4.put haf, by omega, (K'.trans K4).put2 hpfT, by simp, by simp [hbf, eb4], by simp; omega, fun s hs => ?_⟩⟩
          rcases List.mem_append.mp hs with hs | hs
          · exact hS s hs
          · have : s = c :: t := by simpa using hs
            subst this
            refine ⟨fun e he => ?_, fun z => b2 (by rw [z]; decide)⟩
            rcases List.mem_cons.mp he with he | he
            · omega
            · have := s2 e (by simp [he]); omega
end T72

/-! Q4: _law_world. -/
namespace T72
open Tr
open PySem (Addr)
variable {C : Tr.Ctx}
/-- what is cast: rows, places, numbers by their names -/
def Cast (d : D) : Prop := ∃ r p u : List (List Nat), d = .tup [.tup (r.map D.str), .tup (p.map D.str), .tup (u.map D.str)] ∧ r ≠ [] ∧ r.length ≤ 18 ∧ p.length ≤ 18 ∧ u.length ≤ 18 ∧ SOk r ∧ SOk p ∧ SOk u
def sWorld : Tr.Spec := ⟨fun ρ ds T q _ => ∃ a n, ds = [.ref a] ∧ 3 ≤ ρ ∧ Dk T a n ∧ n + 200 < 2 ^ 60 ∧ ∀ (c : D) (rest : List D) T', Cast c → Dk T' a (n + 200) → Kp [a] T T' → q (.tup [c, .tup rest]) T'⟩
theorem c_names {r i : Nat} {X : XE} {T : TH} {Q : Kd} {C : Tr.Ctx} (h : C.G i = sNames) (hr : 2 < r) {a : Addr} {n : Nat} {m : Int} (hD : Dk T a n) (hn : n + 180 < 2 ^ 60) (m0 : 0 ≤ m) (m1 : m ≤ 18)
    (k : ∀ (l : List (List Nat)) p T', T p = none → (l.length : Int) = m → SOk l → T' p = some (.lst (l.map D.str)) → Dk T' a (n + 180) → Kp [a] T T' → Q (.ref p) T') : ∃ ρ, ρ < r ∧ (C.G i).sp ρ [.ref a, .int m] T Q X := by
  rw [h]
  refine ⟨2, hr, a, n, m.toNat, by rw [Int.toNat_of_nonneg m0], Nat.le_refl _, hD, hn, by omega, fun l p T' h1 h2 h3 h4 h5 h6 => k l p T' h1 (by omega) h3 h4 h5 h6⟩
theorem p_world (h13 : C.G 13 = sDraw) (h16 : C.G 16 = sNames) : Body C sWorld i__law_world 8 1 := by
  rintro ρ ds T q x - ⟨a, n, rfl, hρ, hD, hn, k⟩
  unfold i__law_world
  rw [ss_consS]
  simp [startD]
  refine c_draw h13 (by omega) hD (by omega) (by omega) (by omega) fun j0 T1 _ _ hD1 K1 => ?_
  obtain ⟨g, eg, g0, g1⟩ : ∃ g : Int, g = (if (decide (j0 = 5)) = true then 1 else 0) ∧ 0 ≤ g ∧ g ≤ 1 := ⟨_, rfl, by split <;> omega, by split <;> omega⟩
  simp
  simp at eg
  rw [← eg]
  clear eg
  rw [ss_consS]
  simp
  intro p0 hp0
  refine c_pickL h13 hp0 (by omega) (isI 1 2) hD1 (by omega) (by simp) (by simp) (by simp) (by decide) fun d T2 hd hD2 K2 => ?_
  obtain ⟨ro, rfl, ro0, ro1⟩ := isI_ok hd
  simp
  rw [ss_consS]
  simp
  intro p0 hp0
  refine c_pickL h13 hp0 (by omega) (isI 0 2) hD2 (by omega) (by simp) (by simp) (by simp) (by decide) fun d T3 hd hD3 K3 => ?_
  obtain ⟨pl, rfl, pl0, pl1⟩ := isI_ok hd
  simp
  refine ⟨.inl ⟨by omega, by omega⟩, ?_⟩
  rw [ss_consS]
  simp
  intro p0 hp0
  refine c_pickL h13 hp0 (by omega) (isI 0 2) hD3 (by omega) (by simp) (by simp) (by simp) (by decide) fun d T4 hd hD4 K4 => ?_
  obtain ⟨nu, rfl, nu0, nu1⟩ := isI_ok hd
  simp
  refine ⟨.inl ⟨by omega, by omega⟩, ?_⟩
  rw [ss_consS]
  simp
  refine ⟨.inl ⟨by omega, by omega⟩, ?_⟩
  refine c_names h16 (by omega) hD4 (by omega) (by omega) (by omega) fun l pn T5 hpn hl hSl e5 hD5 K5 => ?_
  have KK : Kp [a] T T5 := (((K1.trans K2).trans K3).trans K4).trans K5
  generalize hrr : ro + g = rr at *
  generalize hpp : pl + 2 * g = pp at *
  generalize huu : nu + 2 * g = uu at *
  have nan := hD5.get e5
  rw [ss_consS]
  simp [e5]
  simp only [cut_map]
  have lr : (cut l none (some rr)).length = rr.toNat := cut_pre (by omega) (by omega)
  have lp := cut_len l (some rr) (some (rr + pp))
  have lu := cut_len l (some (rr + pp)) (some (rr + pp + uu))
  have sA : SOk (cut l none (some rr)) := hSl.sub fun x hx => cut_sub hx
  have sB : SOk (cut l (some rr) (some (rr + pp))) := hSl.sub fun x hx => cut_sub hx
  have sC : SOk (cut l (some (rr + pp)) (some (rr + pp + uu))) := hSl.sub fun x hx => cut_sub hx
  generalize cut l none (some rr) = lA at *
  intro q1 hq1
  have m1 := ne_new e5 hq1
  simp [m1, cut_map]
  intro q2 hq2
  obtain ⟨m2, y2⟩ := fresh_if hq2
  clear hq2
  have m3 := ne_new e5 y2
  simp [m1, m3, cut_map]
  intro q3 hq3 q4 hq4
  obtain ⟨m4, x3⟩ := fresh_if hq3
  obtain ⟨m5, y3⟩ := fresh_if x3
  obtain ⟨m6, x4⟩ := fresh_if hq4
  obtain ⟨m7, y4⟩ := fresh_if x4
  obtain ⟨m8, z4⟩ := fresh_if y4
  clear hq3 hq4 x3 x4 y4
  generalize cut l (some rr) (some (rr + pp)) = lB at *
  generalize cut l (some (rr + pp)) (some (rr + pp + uu)) = lC at *
  have m9 := ne_new e5 y3
  have m10 := ne_new e5 z4
  generalize hT6 : upd (upd (upd (upd T5 q1 _) q2 _) q3 _) q4 _ = T6
  have g1' : T6 q1 = some (.lst (lA.map D.str)) := by rw [← hT6]; simp [Ne.symm m8, Ne.symm m5, Ne.symm m2]
  have g2 : T6 q2 = some (.lst (lB.map D.str)) := by rw [← hT6]; simp [Ne.symm m7, Ne.symm m4]
  have g3 : T6 q3 = some (.lst (lC.map D.str)) := by rw [← hT6]; simp [Ne.symm m6]
  have g4 : T6 q4 = some (.lst [.ref q1, .ref q2, .ref q3]) := by rw [← hT6]; simp
  have g5 : T6 pn = some (.lst (l.map D.str)) := by rw [← hT6]; simp [m1, m3, m9, m10, e5]
  have f1 := KK.fresh hq1
  have hD6 : Dk T6 a (n + 200) := by
    rw [← hT6]
    exact ((((hD5.put (hD5.ne hq1)).put (hD5.ne y2)).put (hD5.ne y3)).put (hD5.ne z4)).le (by omega)
  have K6 : Kp [a] T T6 := by
    rw [← hT6]
    have h1 := fun z (hz : T5 z = none) => KK.fresh hz (by simp; exact fun e => by subst e; exact hD5.ne hz rfl)
    exact (((KK.put2 (h1 _ hq1)).put2 (h1 _ y2)).put2 (h1 _ y3)).put2 (h1 _ z4)
  clear hT6
  rw [ss_consS]
  simp [g4]
  intro p hp
  have d1 := ne_new g1' hp
  have d2 := ne_new g2 hp
  have d3 := ne_new g3 hp
  have d4 := ne_new g4 hp
  have d5 := ne_new g5 hp
  refine ⟨d4, ?_⟩
  have np : T p = none := K6.fresh hp (by simp; exact fun e => by subst e; exact hD6.ne hp rfl)
  have nap := hD6.ne hp
  refine lc_ind (fun l' T' => ∃ (gs : List (Addr × List (List Nat))) (acc : List (List (List Nat))), l' = gs.map (fun g => D.ref g.1) ∧ (∀ g ∈ gs, T' g.1 = some (.lst (g.2.map D.str)) ∧ g.1 ≠ p ∧ g.2.length ≤ 18 ∧ SOk g.2) ∧
    T' p = some (.lst (acc.map fun z => .tup (z.map D.str))) ∧ T' q4 = some (.lst [.ref q1, .ref q2, .ref q3]) ∧ T' pn = some (.lst (l.map D.str)) ∧ Dk T' a (n + 200) ∧ Kp [a] T T' ∧ acc.map (·.length) ++ gs.map (·.2.length) = [lA.length, lB.length, lC.length] ∧ ∀ z ∈ acc, SOk z) ?_ ?_ _ _
    ⟨[(q1, lA), (q2, lB), (q3, lC)], [], rfl, ?_, upd_same, by simp [d4, g4], by simp [d5, g5], hD6.put nap, K6.put2 np, rfl, fun _ h => by cases h⟩
  · rintro T7 ⟨gs, acc, e, _, ep, e4, e5', hD7, K7, hlen, hSz⟩
    cases gs with
    | cons _ _ => cases e
    | nil =>
      simp [ep, e5', cut_map]
      intro p9 hp9
      rcases acc with _ | ⟨z1, _ | ⟨z2, _ | ⟨z3, _ | ⟨z4, acc⟩⟩⟩⟩
      · simp at hlen
      · simp at hlen
      · simp at hlen
      · simp at hlen
        refine k _ _ _ ⟨z1, z2, z3, by simp, ?_, by omega, by omega, by omega, hSz _ (by simp), hSz _ (by simp), hSz _ (by simp)⟩ (hD7.put (hD7.ne hp9)) (K7.put2 (K7.fresh hp9 (by simp; exact fun e => by subst e; exact hD7.ne hp9 rfl)))
        intro e; rw [e] at hlen; simp at hlen; omega
      · simp at hlen
  · rintro d l' T7 kk ⟨gs, acc, e, hg, ep, e4, e5', hD7, K7, hlen, hSz⟩ hk
    cases gs with
    | nil => cases e
    | cons gg gs =>
      obtain ⟨qq, zz⟩ := gg
      simp only [List.map_cons, List.cons.injEq] at e
      obtain ⟨rfl, rfl⟩ := e
      obtain ⟨e1, e2, e3, eS⟩ := hg (qq, zz) (by simp)
      have e3 : zz.length ≤ 18 := e3
      simp [e1]
      refine ⟨by omega, fun s1 z1 w1 P1 _ => ?_⟩
      have v1 : p ≠ s1 := ne_new ep w1
      have v2 : q4 ≠ s1 := ne_new e4 w1
      have v3 : pn ≠ s1 := ne_new e5' w1
      simp [v1, ep, d4, v2, e4]
      have hl3 : acc.length ≤ 3 := by have := congrArg List.length hlen; simp at this; omega
      refine ⟨by omega, hk _ ⟨gs, acc ++ [z1], rfl, fun g hgm => ?_, by simp, by simp [d4, v2, e4], by simp [d5, v3, e5'], (hD7.put (hD7.ne w1)).put nap, (K7.put2 (K7.fresh w1 (by simp; exact fun e => by subst e; exact hD7.ne w1 rfl))).put2 np, ?_, fun z hz => ?_⟩⟩
      · obtain ⟨t1, t2, t3, t4⟩ := hg g (by simp [hgm])
        exact ⟨by simp [t2, ne_new t1 w1, t1], t2, t3, t4⟩
      · rw [← hlen]; simp [P1.length_eq]
      · rcases List.mem_append.mp hz with hz | hz
        · exact hSz z hz
        · have : z = z1 := by simpa using hz
          subst this
          exact SOk.sub eS fun x hx => P1.mem_iff.mp hx
  · intro g hg
    simp at hg
    rcases hg with rfl | rfl | rfl
    · exact ⟨by simp [d1, g1'], d1, by simp; omega, sA⟩
    · exact ⟨by simp [d2, g2], d2, by simp; omega, sB⟩
    · exact ⟨by simp [d3, g3], d3, by simp; omega, sC⟩
end T72

/-! Q5: numbers, spots, sums, atoms, bodies. -/
namespace T72
open Tr
open PySem (Addr PyData)
variable {C : Tr.Ctx}
/-- a tree without addresses -/
def pu (d : D) : Bool := (toPy d).canLay0
@[simp] theorem pu_non : pu .non = true := rfl
@[simp] theorem pu_bl {b : Bool} : pu (.bl b) = true := rfl
@[simp] theorem pu_int {i : Int} : pu (.int i) = true := rfl
theorem pu_str (s : List Nat) : pu (.str s) = s.all fun c => decide (c < 0x110000) := by simp [pu, toPy, PyData.canLay0, PyData.strOk, stS]
theorem pus : ∀ ds : List D, PyData.canLayAll0 (toPys ds) = ds.all pu
  | [] => rfl
  | d :: ds => by simp [toPys, PyData.canLayAll0, pus ds, pu]
@[simp] theorem pu_tup {ds : List D} : pu (.tup ds) = ds.all pu := by
  rw [← pus ds]; simp [pu, toPy, PyData.canLay0]
theorem pu_isS {d : D} (h : isS d = true) : pu d = true := by obtain ⟨s, rfl⟩ := isS_ok h; rw [pu_str]; exact h
theorem lay_pu {T : TH} {d : D} (h : pu d = true) : lay T d := by
  cases d with
  | ref a => simp [pu, toPy, PyData.canLay0] at h
  | _ => exact h
/-- t != () -/
theorem ne_unit {T : TH} {P : Bool → Prop} {xs : List D} (h : xs.all pu = true) (k : P (!xs.isEmpty)) : cmpR .ne (.tup xs) (.tup []) T P := by
  have e : deq T (.tup xs) (.tup []) = xs.isEmpty := by
    cases xs with
    | nil => rfl
    | cons x xs => rfl
  show lay T _ ∧ lay T _ ∧ shal T _ _ ∧ P (!deq T (.tup xs) (.tup []))
  rw [e]
  exact ⟨lay_pu (by simpa using h), lay_pu (by simp), .inr (show (PyData.tuple []).depth ≤ 64 by decide), k⟩
theorem pu_strs {l : List (List Nat)} (h : SOk l) : (l.map D.str).all pu = true := by
  rw [List.all_eq_true]
  exact fun d hd => pu_isS (List.all_eq_true.mp (isS_map h) d hd)
def sNumber : Tr.Spec := ⟨fun ρ ds T q _ => ∃ a n, ds = [.ref a] ∧ 1 ≤ ρ ∧ Dk T a n ∧ n + 4 < 2 ^ 60 ∧ ∀ (i : Int) T', -(2 ^ 40) < i → i < 2 ^ 40 → Dk T' a (n + 4) → Kp [a] T T' → q (.int i) T'⟩
theorem p_number (h13 : C.G 13 = sDraw) : Body C sNumber i__law_number 3 1 := by
  rintro ρ ds T q x - ⟨a, n, rfl, hρ, hD, hn, k⟩
  unfold i__law_number
  rw [ss_consS]
  simp [startD]
  refine c_draw h13 (by omega) hD (by omega) (by omega) (by omega) fun j0 T1 j00 j01 hD1 K1 => ?_
  rw [ss_consS]
  simp
  split
  · rw [ss_consS]
    simp
    refine c_draw h13 (by omega) hD1 (by omega) (by omega) (by omega) fun j1 T2 j10 j11 hD2 K2 => ?_
    simp
    refine ⟨.inr ⟨by omega, by omega⟩, ?_⟩
    refine c_draw h13 (by omega) hD2 (by omega) (by omega) (by omega) fun j2 T3 j20 j21 hD3 K3 => ?_
    simp
    rw [ss_consS]
    simp
    intro p0 hp0
    refine c_pickL h13 hp0 (by omega) (isI (-1) 1) hD3 (by omega) (by simp) (by simp) (by simp) (by decide) fun d T4 hd hD4 K4 => ?_
    obtain ⟨i, rfl, i0, i1⟩ := isI_ok hd
    simp
    have hi : i = -1 ∨ i = 0 ∨ i = 1 := by omega
    refine ⟨.inr ⟨by omega, by omega⟩, k _ _ ?_ ?_ hD4 (((K1.trans K2).trans K3).trans K4)⟩
    · rcases hi with rfl | rfl | rfl <;> omega
    · rcases hi with rfl | rfl | rfl <;> omega
  · rename_i hj
    rw [ss_consS]
    simp
    intro p hp
    refine pick (P := isI (-5) 5) j00 (by simp; omega) (by decide) fun d hd => ?_
    obtain ⟨i, rfl, i0, i1⟩ := isI_ok hd
    exact k _ _ (by omega) (by omega) ((hD1.put (hD1.ne hp)).le (by omega)) (K1.trans (Kp.new hp))
end T72

/-! Q7: blocks, deeds. -/
namespace T72
open Tr
open PySem (Addr PyData)
variable {C : Tr.Ctx}
abbrev cIf : List Nat := [105, 102]
abbrev cWh : List Nat := [119, 104, 105, 108, 101]
/-- a block of deeds -/
inductive Bk where
  | nil
  | oth (w : List Nat) (xs : List D) (r : Bk)
  | ifs (q : D) (a b r : Bk)
  | whl (q k : D) (a r : Bk)
namespace Bk
def toD : Bk → List D
  | nil => []
  | oth w xs r => .tup (.str w :: xs) :: r.toD
  | ifs q a b r => .tup [.str cIf, q, .tup a.toD, .tup b.toD] :: r.toD
  | whl q k a r => .tup [.str cWh, q, k, .tup a.toD] :: r.toD
def ok : Bk → Bool
  | nil => true
  | oth w xs r => !decide (w = cIf) && !decide (w = cWh) && pu (.str w) && xs.all pu && r.ok
  | ifs q a b r => pu q && a.ok && b.ok && r.ok
  | whl q k a r => pu q && pu k && a.ok && r.ok
/-- deeds, ifs, whiles, nesting -/
def nd : Bk → Nat
  | nil => 0
  | oth _ _ r => r.nd + 1
  | ifs _ a b r => a.nd + b.nd + r.nd + 1
  | whl _ _ a r => a.nd + r.nd + 1
def ni : Bk → Nat
  | nil => 0
  | oth _ _ r => r.ni
  | ifs _ a b r => a.ni + b.ni + r.ni + 1
  | whl _ _ a r => a.ni + r.ni
def nw : Bk → Nat
  | nil => 0
  | oth _ _ r => r.nw
  | ifs _ a b r => a.nw + b.nw + r.nw
  | whl _ _ a r => a.nw + r.nw + 1
def ns : Bk → Nat
  | nil => 0
  | oth _ _ r => r.ns
  | ifs _ a b r => max (max a.ns b.ns + 1) r.ns
  | whl _ _ a r => max (a.ns + 1) r.ns
def app : Bk → Bk → Bk
  | nil, c => c
  | oth w xs r, c => oth w xs (r.app c)
  | ifs q a b r, c => ifs q a b (r.app c)
  | whl q k a r, c => whl q k a (r.app c)
theorem app_toD : ∀ b c : Bk, (b.app c).toD = b.toD ++ c.toD
  | nil, c => rfl
  | oth w xs r, c => by simp [app, toD, app_toD r c]
  | ifs q a b r, c => by simp [app, toD, app_toD r c]
  | whl q k a r, c => by simp [app, toD, app_toD r c]
theorem app_ok : ∀ b c : Bk, (b.app c).ok = (b.ok && c.ok)
  | nil, c => by simp [app, ok]
  | oth w xs r, c => by simp only [app, ok, app_ok r c, Bool.and_assoc]
  | ifs q a b r, c => by simp only [app, ok, app_ok r c, Bool.and_assoc]
  | whl q k a r, c => by simp only [app, ok, app_ok r c, Bool.and_assoc]
theorem app_nd : ∀ b c : Bk, (b.app c).nd = b.nd + c.nd
  | nil, c => by simp [app, nd]
  | oth w xs r, c => by simp only [app, nd, app_nd r c]; omega
  | ifs q a b r, c => by simp only [app, nd, app_nd r c]; omega
  | whl q k a r, c => by simp only [app, nd, app_nd r c]; omega
theorem app_ni : ∀ b c : Bk, (b.app c).ni = b.ni + c.ni
  | nil, c => by simp [app, ni]
  | oth w xs r, c => by simp only [app, ni, app_ni r c]
  | ifs q a b r, c => by simp only [app, ni, app_ni r c]; omega
  | whl q k a r, c => by simp only [app, ni, app_ni r c]; omega
theorem app_nw : ∀ b c : Bk, (b.app c).nw = b.nw + c.nw
  | nil, c => by simp [app, nw]
  | oth w xs r, c => by simp only [app, nw, app_nw r c]
  | ifs q a b r, c => by simp only [app, nw, app_nw r c]; omega
  | whl q k a r, c => by simp only [app, nw, app_nw r c]; omega
theorem app_ns : ∀ b c : Bk, (b.app c).ns = max b.ns c.ns
  | nil, c => by simp [app, ns]
  | oth w xs r, c => by simp only [app, ns, app_ns r c]
  | ifs q a b r, c => by simp only [app, ns, app_ns r c]; omega
  | whl q k a r, c => by simp only [app, ns, app_ns r c]; omega
theorem toD_pu : ∀ b : Bk, b.ok = true → b.toD.all pu = true
  | nil, _ => rfl
  | oth w xs r, h => by
    simp only [ok, Bool.and_eq_true] at h
    simp only [toD, List.all_cons, pu_tup, Bool.and_eq_true]
    exact ⟨⟨h.1.1.2, h.1.2⟩, toD_pu r h.2⟩
  | ifs q a b r, h => by
    simp only [ok, Bool.and_eq_true] at h
    simp [toD, pu_str, h.1.1.1]
    exact ⟨⟨by simpa using toD_pu a h.1.1.2, by simpa using toD_pu b h.1.2⟩, by simpa using toD_pu r h.2⟩
  | whl q k a r, h => by
    simp only [ok, Bool.and_eq_true] at h
    simp [toD, pu_str, h.1.1.1, h.1.1.2]
    exact ⟨by simpa using toD_pu a h.1.2, by simpa using toD_pu r h.2⟩
theorem toD_len : ∀ b : Bk, b.toD.length ≤ b.nd
  | nil => Nat.le_refl _
  | oth _ _ r => by have := toD_len r; simp [toD, nd]; omega
  | ifs _ _ _ r => by have := toD_len r; simp [toD, nd]; omega
  | whl _ _ _ r => by have := toD_len r; simp [toD, nd]; omega
end Bk
end T72

set_option Elab.async false
set_option linter.all false
set_option maxRecDepth 100000
set_option maxHeartbeats 4000000
/-! QA: heads, starts. -/
namespace T72
open Tr
open PySem (Addr PyData)
variable {C : Tr.Ctx}
namespace Bk
def heads : Bk → List D
  | nil => []
  | oth _ _ r => r.heads
  | ifs _ a b r => a.heads ++ b.heads ++ r.heads
  | whl q k a r => .tup [.str cWh, q, k, .tup a.toD] :: (a.heads ++ r.heads)
theorem heads_len : ∀ b : Bk, b.heads.length = b.nw
  | nil => rfl
  | oth _ _ r => by simp [heads, nw, heads_len r]
  | ifs _ a b r => by simp [heads, nw, heads_len a, heads_len b, heads_len r]; omega
  | whl _ _ a r => by simp [heads, nw, heads_len a, heads_len r]
theorem nw_nd : ∀ b : Bk, b.nw ≤ b.nd
  | nil => Nat.le_refl _
  | oth _ _ r => by have := nw_nd r; simp [nw, nd]; omega
  | ifs _ a b r => by have := nw_nd r; have := nw_nd a; have := nw_nd b; simp [nw, nd]; omega
  | whl _ _ a r => by have := nw_nd r; have := nw_nd a; simp [nw, nd]; omega
end Bk
def sHeadsIn : Tr.Spec := ⟨fun ρ ds T q _ => ∃ b : Bk, ds = [.tup b.toD] ∧ b.ok = true ∧ b.nd ≤ 1000 ∧ b.ns ≤ ρ ∧ ∀ p T', T p = none → T' p = some (.lst b.heads) → Kp [] T T' → q (.ref p) T'⟩
theorem c_heads {r i : Nat} {X : XE} {T : TH} {Q : Kd} (h : C.G i = sHeadsIn) {b : Bk} (hr : b.ns < r) (ho : b.ok = true) (hn : b.nd ≤ 1000) (k : ∀ p T', T p = none → T' p = some (.lst b.heads) → Kp [] T T' → Q (.ref p) T') :
    ∃ ρ, ρ < r ∧ (C.G i).sp ρ [.tup b.toD] T Q X := by rw [h]; exact ⟨b.ns, hr, b, rfl, ho, hn, Nat.le_refl _, k⟩
theorem p_heads_in (h0 : C.G 0 = sHeadsIn) : Body C sHeadsIn i_heads_in 3 1 := by
  rintro ρ ds T q X - ⟨b, rfl, ho, hn, hs, k⟩
  unfold i_heads_in
  rw [ss_consS]
  simp [startD]
  intro p hp
  rw [ss_consS]
  simp
  refine for_ind (fun li τ T' => ∃ (d2 : Option D) (c : Bk) (acc : List D), τ = [some (.tup b.toD), some (.ref p), d2] ∧ li = c.toD ∧ T' p = some (.lst acc) ∧ acc ++ c.heads = b.heads ∧ c.ok = true ∧ c.ns ≤ b.ns ∧ c.nd ≤ 1000 ∧ Kp [] T T') ?_ ?_ _ _ _ ⟨none, b, [], rfl, rfl, upd_same, rfl, ho, Nat.le_refl _, hn, Kp.new hp⟩
  · rintro τ T' ⟨d2, c, acc, rfl, e, ep, ea, -, -, -, K⟩
    have : c = .nil := by cases c <;> simp [Bk.toD] at e <;> rfl
    subst this
    simp [Bk.heads] at ea
    rw [ss_consS]
    simp
    exact k p T' hp (by rw [ep, ea]) K
  · rintro d li τ T' kk ⟨d2, c, acc, rfl, e, ep, ea, co, cs, cn, K⟩ hk
    have hal : acc.length + c.heads.length ≤ 1000 := by
      have := congrArg List.length ea
      have h1 := Bk.heads_len b
      have h2 := Bk.nw_nd b
      simp at this; omega
    simp
    rw [ss_consS]
    cases c with
    | nil => cases e
    | oth w xs r =>
      simp only [Bk.toD, List.cons.injEq] at e
      obtain ⟨rfl, rfl⟩ := e
      simp only [Bk.ok, Bool.and_eq_true, Bool.not_eq_true', decide_eq_false_iff_not] at co
      simp [co.1.1.1.2]
      rw [ss_consS]
      simp [co.1.1.1.1]
      exact hk _ _ ⟨_, r, acc, rfl, rfl, ep, ea, co.2, by simp [Bk.ns] at cs; omega, by simp [Bk.nd] at cn; omega, K⟩
    | ifs q1 a1 b1 r =>
      simp only [Bk.toD, List.cons.injEq] at e
      obtain ⟨rfl, rfl⟩ := e
      simp only [Bk.ok, Bool.and_eq_true] at co
      simp [Bk.ns] at cs
      simp [Bk.nd] at cn
      simp only [Bk.heads, List.length_append] at hal
      simp
      rw [ss_consS]
      simp
      rw [ss_consS]
      simp [ep]
      refine c_heads h0 (by omega) co.1.1.2 (by omega) fun p1 T1 hp1 e1 K1 => ?_
      have ep1 := K1 p _ ep (by simp)
      simp [ep1, e1]
      refine ⟨by omega, ?_⟩
      rw [ss_consS]
      simp
      refine c_heads h0 (by omega) co.1.2 (by omega) fun p2 T2 hp2 e2 K2 => ?_
      have ep2 := K2 p _ upd_same (by simp)
      simp [ep2, e2]
      refine ⟨by omega, hk _ _ ⟨_, r, acc ++ a1.heads ++ b1.heads, rfl, rfl, by simp, by rw [← ea]; simp [Bk.heads], co.2, by omega, by omega, ?_⟩⟩
      exact (((K.trans K1).put2 hp).trans K2).put2 hp
    | whl q1 k1 a1 r =>
      simp only [Bk.toD, List.cons.injEq] at e
      obtain ⟨rfl, rfl⟩ := e
      simp only [Bk.ok, Bool.and_eq_true] at co
      simp [Bk.ns] at cs
      simp [Bk.nd] at cn
      simp only [Bk.heads, List.length_append, List.length_cons] at hal
      simp
      rw [ss_consS]
      simp [ep]
      refine ⟨by omega, ?_⟩
      rw [ss_consS]
      simp
      refine c_heads h0 (by omega) co.1.2 (by omega) fun p1 T1 hp1 e1 K1 => ?_
      have ep1 := K1 p _ upd_same (by simp)
      simp [ep1, e1]
      refine ⟨by omega, hk _ _ ⟨_, r, acc ++ [.tup [.str cWh, q1, k1, .tup a1.toD]] ++ a1.heads, rfl, rfl, by simp, by rw [← ea]; simp [Bk.heads], co.2, by omega, by omega, ?_⟩⟩
      exact ((K.put2 hp).trans K1).put2 hp
def sHeadsOf : Tr.Spec := ⟨fun ρ ds T q _ => ∃ (b : Bk) (x0 x1 x3 : D), ds = [.tup [x0, x1, .tup b.toD, x3]] ∧ b.ok = true ∧ b.nd ≤ 1000 ∧ b.ns < ρ ∧ ∀ T', Kp [] T T' → q (.tup b.heads) T'⟩
theorem p_heads_of (h0 : C.G 0 = sHeadsIn) : Body C sHeadsOf i_heads_of 1 1 := by
  rintro ρ ds T q X - ⟨b, x0, x1, x3, rfl, ho, hn, hs, k⟩
  unfold i_heads_of
  rw [ss_consS]
  simp [startD]
  refine c_heads h0 hs ho hn fun p T' hp e K => ?_
  simp [e]
  exact k T' K
/-- None, (0, no), (0, yes), .. -/
def stL (n : Nat) : List D := .non :: ((List.range n).map fun i => [D.tup [.int (i : Nat), .bl false], .tup [.int (i : Nat), .bl true]]).flatten
theorem stL_succ (n : Nat) : stL (n + 1) = stL n ++ [.tup [.int (n : Nat), .bl false], .tup [.int (n : Nat), .bl true]] := by simp [stL, List.range_succ]
theorem stL_len : ∀ n, (stL n).length = 1 + 2 * n
  | 0 => rfl
  | n + 1 => by rw [stL_succ, List.length_append, stL_len n]; simp; omega
def sStarts : Tr.Spec := ⟨fun ρ ds T q _ => ∃ (b : Bk) (x0 x1 x3 : D), ds = [.tup [x0, x1, .tup b.toD, x3]] ∧ b.ok = true ∧ b.nd ≤ 1000 ∧ b.ns + 1 < ρ ∧ ∀ p T', T p = none → T' p = some (.lst (stL b.nw)) → Kp [] T T' → q (.ref p) T'⟩
end T72

/-! QB: Layout. -/
namespace T72
open Tr
open PySem (Addr PyData)
variable {C : Tr.Ctx}
abbrev rowN : List Nat := [114, 111, 119]
abbrev hdN : List Nat := [104, 101, 97, 100, 115, 95, 97, 116]
abbrev cDeed : List Nat := [100, 101, 101, 100]
abbrev cJump : List Nat := [106, 117, 109, 112]
abbrev cEnd : List Nat := [101, 110, 100]
namespace Bk
def len : Bk → Nat
  | nil => 0
  | oth _ _ r => r.len + 1
  | ifs _ a b r => a.len + b.len + r.len + 2
  | whl _ _ a r => a.len + r.len + 2
/-- the rows of a block that begins at o, its first while numbered n -/
def code : Bk → Nat → Nat → List D
  | nil, _, _ => []
  | oth w xs r, o, n => .tup [.str cDeed, .tup (.str w :: xs)] :: r.code (o + 1) n
  | ifs q a b r, o, n => .tup [.str cIf, q, .int ((o + 2 + a.len : Nat) : Int)] :: (a.code (o + 1) n ++ .tup [.str cJump, .int ((o + 2 + a.len + b.len : Nat) : Int)] :: (b.code (o + 2 + a.len) (n + a.nw) ++ r.code (o + 2 + a.len + b.len) (n + a.nw + b.nw)))
  | whl q _ a r, o, n => .tup [.str cWh, q, .int ((o + 2 + a.len : Nat) : Int), .int (n : Int)] :: (a.code (o + 1) (n + 1) ++ .tup [.str cJump, .int (o : Int)] :: r.code (o + 2 + a.len) (n + 1 + a.nw))
/-- where its whiles stand -/
def hat : Bk → Nat → List D
  | nil, _ => []
  | oth _ _ r, o => r.hat (o + 1)
  | ifs _ a b r, o => a.hat (o + 1) ++ b.hat (o + 2 + a.len) ++ r.hat (o + 2 + a.len + b.len)
  | whl _ _ a r, o => .int (o : Int) :: (a.hat (o + 1) ++ r.hat (o + 2 + a.len))
theorem code_len : ∀ (b : Bk) (o n : Nat), (b.code o n).length = b.len
  | nil, _, _ => rfl
  | oth _ _ r, o, n => by simp [code, len, code_len r]
  | ifs _ a b r, o, n => by simp [code, len, code_len a, code_len b, code_len r]; omega
  | whl _ _ a r, o, n => by simp [code, len, code_len a, code_len r]; omega
theorem hat_len : ∀ (b : Bk) (o : Nat), (b.hat o).length = b.nw
  | nil, _ => rfl
  | oth _ _ r, o => by simp [hat, nw, hat_len r]
  | ifs _ a b r, o => by simp [hat, nw, hat_len a, hat_len b, hat_len r]; omega
  | whl _ _ a r, o => by simp [hat, nw, hat_len a, hat_len r]
theorem len_nd : ∀ b : Bk, b.len ≤ 2 * b.nd
  | nil => Nat.le_refl _
  | oth _ _ r => by have := len_nd r; simp [len, nd]; omega
  | ifs _ a b r => by have := len_nd r; have := len_nd a; have := len_nd b; simp [len, nd]; omega
  | whl _ _ a r => by have := len_nd r; have := len_nd a; simp [len, nd]; omega
end Bk
/-- a Layout at s: its rows at rr, where its heads stand at hh -/
structure Ly (T : TH) (s rr hh : Addr) (row hd : List D) : Prop where
  s : T s = some (.ins 0 [(rowN, .ref rr), (hdN, .ref hh)])
  r : T rr = some (.lst row)
  h : T hh = some (.lst hd)
  ne : rr ≠ hh
theorem Ly.sr {T : TH} {s rr hh : Addr} {row hd : List D} (L : Ly T s rr hh row hd) : s ≠ rr := fun e => by
  have := L.s; rw [e, L.r] at this; cases this
theorem Ly.sh {T : TH} {s rr hh : Addr} {row hd : List D} (L : Ly T s rr hh row hd) : s ≠ hh := fun e => by
  have := L.s; rw [e, L.h] at this; cases this
theorem Ly.putR {T : TH} {s rr hh : Addr} {row hd row' : List D} (L : Ly T s rr hh row hd) : Ly (upd T rr (.lst row')) s rr hh row' hd :=
  ⟨by rw [upd_ne L.sr]; exact L.s, upd_same, by rw [upd_ne (Ne.symm L.ne)]; exact L.h, L.ne⟩
theorem Ly.putH {T : TH} {s rr hh : Addr} {row hd hd' : List D} (L : Ly T s rr hh row hd) : Ly (upd T hh (.lst hd')) s rr hh row hd' :=
  ⟨by rw [upd_ne L.sh]; exact L.s, by rw [upd_ne L.ne]; exact L.r, upd_same, L.ne⟩
theorem set_mid {row rest : List D} {x y : D} : (row ++ x :: rest).set row.length y = row ++ y :: rest := by
  rw [List.set_append_right _ _ (Nat.le_refl _)]; simp
/-- the context's facts -/
structure LyC (C : Tr.Ctx) : Prop where
  fr : C.fok 0 rowN = true
  fh : C.fok 0 hdN = true
  m3 : C.mc 3 = 0
  m4 : C.mc 4 = 0
  m5 : C.mc 5 = 0
  m6 : C.mc 6 = 0
  n3 : C.mn 3 = [108, 97, 121, 95, 98, 108, 111, 99, 107]
  n4 : C.mn 4 = [108, 97, 121, 95, 105, 102]
  n5 : C.mn 5 = [108, 97, 121, 95, 119, 104, 105, 108, 101]
  n6 : C.mn 6 = [108, 97, 110, 100, 101, 100]
/-- laying what b tells -/
def layS (b : Bk) (s : Addr) (T : TH) (q : Kd) : Prop := ∃ rr hh row hd, Ly T s rr hh row hd ∧ b.ok = true ∧ row.length + b.len ≤ 100000 ∧ hd.length + b.nw ≤ 100000 ∧ ∀ T', Ly T' s rr hh (row ++ b.code row.length hd.length) (hd ++ b.hat row.length) → Kp [rr, hh] T T' → q .non T'
def sLayB : Tr.Spec := ⟨fun ρ ds T q _ => ∃ (b : Bk) (s : Addr), ds = [.ref s, .tup b.toD] ∧ 2 * b.ns + 1 ≤ ρ ∧ layS b s T q⟩
def sLayIf : Tr.Spec := ⟨fun ρ ds T q _ => ∃ (x : D) (a b : Bk) (s : Addr), ds = [.ref s, .tup [.str cIf, x, .tup a.toD, .tup b.toD]] ∧ 2 * max a.ns b.ns + 2 ≤ ρ ∧ layS (.ifs x a b .nil) s T q⟩
def sLayWh : Tr.Spec := ⟨fun ρ ds T q _ => ∃ (x k : D) (a : Bk) (s : Addr), ds = [.ref s, .tup [.str cWh, x, k, .tup a.toD]] ∧ 2 * a.ns + 2 ≤ ρ ∧ layS (.whl x k a .nil) s T q⟩
theorem p_layIf (lc : LyC C) (h3 : C.G 3 = sLayB) : Body C sLayIf i_Layout_lay_if 4 2 := by
  rintro ρ ds T q X - ⟨x, a, b, s, rfl, hρ, rr, hh, row, hd, L, ok, hl, hw, k⟩
  simp only [Bk.ok, Bool.and_eq_true] at ok
  simp only [Bk.len, Bk.nw] at hl hw
  unfold i_Layout_lay_if
  rw [ss_consS]
  simp [startD, L.s, L.r, lc.fr, lookF]
  rw [ss_consS]
  simp [L.s, L.r, lc.fr, lookF]
  refine ⟨by omega, ?_⟩
  have L1 := L.putR (row' := row ++ [.non])
  rw [ss_consS]
  simp [L.sr, L.s, lc.m3, lc.n3, lookF, h3]
  refine ⟨2 * a.ns + 1, by omega, a, s, rfl, by omega, rr, hh, _, hd, L1, ok.1.1.2, by simp; omega, by omega, fun T2 LB K2 => ?_⟩
  dsimp only
  generalize hA : a.code (row ++ [D.non]).length hd.length = A at LB
  have lA : A.length = a.len := by rw [← hA, Bk.code_len]
  have eA : A = a.code (row.length + 1) hd.length := by rw [← hA]; simp
  clear hA
  have eH : a.hat (row ++ [D.non]).length = a.hat (row.length + 1) := by simp
  rw [eH] at LB
  rw [ss_consS]
  simp [LB.s, LB.r, lc.fr, lookF, lA]
  rw [ss_consS]
  simp [LB.s, LB.r, lc.fr, lookF, lA]
  refine ⟨by omega, ?_⟩
  have L3 := LB.putR (row' := row ++ D.non :: (A ++ [.non]))
  rw [ss_consS]
  simp [LB.sr, LB.s, lc.fr, lookF, lA]
  refine ⟨row.length, ixN_nat (by omega) rfl, ?_⟩
  rw [set_mid]
  have L4 := L3.putR (row' := row ++ D.tup [.str cIf, x, .int ((row.length : Int) + ((a.len : Int) + 1 + 1))] :: (A ++ [.non]))
  have s4 := L4.s
  have r4 := L4.r
  rw [ss_consS]
  simp [s4, L.sr, lc.m3, lc.n3, lookF, h3, LB.sr, LB.s]
  refine ⟨2 * b.ns + 1, by omega, b, s, rfl, by omega, rr, hh, _, _, L4, ok.1.2, by simp [lA]; omega, by simp [Bk.hat_len]; omega, fun T5 L5 K5 => ?_⟩
  dsimp only
  generalize hB : b.code _ _ = B at L5
  have lB : B.length = b.len := by rw [← hB, Bk.code_len]
  have eB : B = b.code (row.length + 2 + a.len) (hd.length + a.nw) := by
    rw [← hB]; congr 1
    · simp [lA]; omega
    · simp [Bk.hat_len]
  clear hB
  generalize hHB : b.hat _ = HB at L5
  have eHB : HB = b.hat (row.length + 2 + a.len) := by
    rw [← hHB]; congr 1; simp [lA]; omega
  clear hHB
  have s5 := L5.s
  have r5 := L5.r
  rw [ss_consS]
  simp [s5, r5, lc.fr, lookF, lA, lB]
  refine ⟨row.length + (a.len + 1), ixN_nat (by omega) (by omega), ?_⟩
  have e1 : (row ++ D.tup [D.str cIf, x, D.int (↑row.length + (↑a.len + 1 + 1))] :: (A ++ D.non :: B)).set (row.length + (a.len + 1)) (D.tup [D.str [106, 117, 109, 112], D.int (↑row.length + (↑a.len + (↑b.len + 1) + 1))])
      = row ++ (Bk.ifs x a b .nil).code row.length hd.length := by
    have e2 : row ++ D.tup [D.str cIf, x, D.int (↑row.length + (↑a.len + 1 + 1))] :: (A ++ D.non :: B) = (row ++ D.tup [D.str cIf, x, D.int (↑row.length + (↑a.len + 1 + 1))] :: A) ++ D.non :: B := by simp
    have e3 : row.length + (a.len + 1) = (row ++ D.tup [D.str cIf, x, D.int (↑row.length + (↑a.len + 1 + 1))] :: A).length := by simp [lA]
    rw [e2, e3, set_mid, eA, eB]
    have i1 : (↑row.length + (↑a.len + 1 + 1) : Int) = ((row.length + 2 + a.len : Nat) : Int) := by omega
    have i2 : (↑row.length + (↑a.len + (↑b.len + 1) + 1) : Int) = ((row.length + 2 + a.len + b.len : Nat) : Int) := by omega
    rw [i1, i2]
    simp [Bk.code]
  rw [e1]
  have L6 := L5.putR (row' := row ++ (Bk.ifs x a b .nil).code row.length hd.length)
  have e4 : hd ++ a.hat (row.length + 1) ++ HB = hd ++ (Bk.ifs x a b .nil).hat row.length := by rw [eHB]; simp [Bk.hat]
  rw [e4] at L6
  refine k _ L6 ?_
  have m : rr ∈ [rr, hh] := by simp
  exact (((((Kp.put m).trans K2).trans (Kp.put m)).trans (Kp.put m)).trans K5).trans (Kp.put m)
end T72

/-! QC: lay_while, lay_block. -/
namespace T72
open Tr
open PySem (Addr PyData)
variable {C : Tr.Ctx}
theorem p_layWh (lc : LyC C) (h3 : C.G 3 = sLayB) : Body C sLayWh i_Layout_lay_while 4 2 := by
  rintro ρ ds T q X - ⟨x, kk, a, s, rfl, hρ, rr, hh, row, hd, L, ok, hl, hw, k⟩
  simp only [Bk.ok, Bool.and_eq_true] at ok
  simp only [Bk.len, Bk.nw] at hl hw
  unfold i_Layout_lay_while
  rw [ss_consS]
  simp [startD, L.s, L.r, lc.fr, lookF]
  rw [ss_consS]
  simp [L.s, L.h, lc.fh, lookF]
  rw [ss_consS]
  simp [L.s, L.h, lc.fh, lookF]
  refine ⟨by omega, ?_⟩
  have L1 := L.putH (hd' := hd ++ [.int (row.length : Nat)])
  have s1 := L1.s
  have r1 := L1.r
  rw [ss_consS]
  simp [s1, r1, L.sh, L.s, L.ne, L.r, lc.fr, lookF]
  refine ⟨by omega, ?_⟩
  have LA := L1.putR (row' := row ++ [.non])
  rw [ss_consS]
  simp [L.sr, L.sh, L.s, lc.m3, lc.n3, lookF, h3]
  refine ⟨2 * a.ns + 1, by omega, a, s, rfl, by omega, rr, hh, _, _, LA, ok.1.2, by simp; omega, by simp; omega, fun T2 LB K2 => ?_⟩
  dsimp only
  generalize hA : a.code _ _ = A at LB
  have lA : A.length = a.len := by rw [← hA, Bk.code_len]
  have eA : A = a.code (row.length + 1) (hd.length + 1) := by rw [← hA]; simp
  clear hA
  generalize hHA : a.hat _ = HA at LB
  have eHA : HA = a.hat (row.length + 1) := by rw [← hHA]; simp
  clear hHA
  rw [ss_consS]
  simp [LB.s, LB.r, lc.fr, lookF, lA]
  refine ⟨by omega, ?_⟩
  rw [ss_consS]
  simp [LB.sr, LB.s, lc.fr, lookF, lA]
  refine ⟨row.length, ixN_nat (by omega) rfl, ?_⟩
  rw [set_mid]
  have e1 : row ++ D.tup [.str [119, 104, 105, 108, 101], x, .int ((row.length : Int) + ((a.len : Int) + 1 + 1)), .int (hd.length : Nat)] :: (A ++ [.tup [.str [106, 117, 109, 112], .int (row.length : Nat)]]) = row ++ (Bk.whl x kk a .nil).code row.length hd.length := by
    rw [eA]
    have i1 : (↑row.length + (↑a.len + 1 + 1) : Int) = ((row.length + 2 + a.len : Nat) : Int) := by omega
    rw [i1]
    simp [Bk.code]
  rw [e1]
  have L5 := (LB.putR (row' := row ++ D.non :: (A ++ [.tup [.str [106, 117, 109, 112], .int (row.length : Nat)]]))).putR (row' := row ++ (Bk.whl x kk a .nil).code row.length hd.length)
  have e4 : hd ++ [.int (row.length : Nat)] ++ HA = hd ++ (Bk.whl x kk a .nil).hat row.length := by rw [eHA]; simp [Bk.hat]
  rw [e4] at L5
  refine k _ L5 ?_
  have m : rr ∈ [rr, hh] := by simp
  have m2 : hh ∈ [rr, hh] := by simp
  exact ((((Kp.put m2).trans (Kp.put m)).trans K2).trans (Kp.put m)).trans (Kp.put m)
theorem c_lay {r i : Nat} {X : XE} {T : TH} {Q : Kd} {s : Addr} {b : Bk} (h : C.G i = sLayB) (hr : 2 * b.ns + 1 < r) (k : layS b s T Q) : ∃ ρ, ρ < r ∧ (C.G i).sp ρ [.ref s, .tup b.toD] T Q X := by
  rw [h]; exact ⟨_, hr, b, s, rfl, Nat.le_refl _, k⟩
theorem p_layB (lc : LyC C) (h4 : C.G 4 = sLayIf) (h5 : C.G 5 = sLayWh) : Body C sLayB i_Layout_lay_block 3 2 := by
  rintro ρ ds T q X - ⟨b, s, rfl, hρ, rr, hh, row, hd, L, ok, hl, hw, k⟩
  unfold i_Layout_lay_block
  rw [ss_consS]
  simp [startD]
  refine for_ind (fun li τ T' => ∃ (d2 : Option D) (c : Bk) (row' hd' : List D), τ = [some (.ref s), some (.tup b.toD), d2] ∧ li = c.toD ∧ c.ok = true ∧ c.ns ≤ b.ns ∧ Ly T' s rr hh row' hd' ∧ row'.length + c.len ≤ 100000 ∧ hd'.length + c.nw ≤ 100000 ∧
    row' ++ c.code row'.length hd'.length = row ++ b.code row.length hd.length ∧ hd' ++ c.hat row'.length = hd ++ b.hat row.length ∧ Kp [rr, hh] T T') ?_ ?_ _ _ _ ⟨none, b, row, hd, rfl, rfl, ok, Nat.le_refl _, L, hl, hw, rfl, rfl, Kp.refl⟩
  · rintro τ T' ⟨d2, c, row', hd', rfl, e, -, -, L', -, -, e1, e2, K⟩
    have : c = .nil := by cases c <;> simp [Bk.toD] at e <;> rfl
    subst this
    simp [Bk.code] at e1
    simp [Bk.hat] at e2
    exact k T' (by rw [← e1, ← e2]; exact L') K
  · rintro d li τ T' kk ⟨d2, c, row', hd', rfl, e, co, cs, L', l1, l2, e1, e2, K⟩ hk
    simp
    rw [ss_consS]
    cases c with
    | nil => cases e
    | oth w xs r =>
      simp only [Bk.toD, List.cons.injEq] at e
      obtain ⟨rfl, rfl⟩ := e
      simp only [Bk.ok, Bool.and_eq_true, Bool.not_eq_true', decide_eq_false_iff_not] at co
      simp only [Bk.len, Bk.nw] at l1 l2
      simp [co.1.1.1.1]
      rw [ss_consS]
      simp [co.1.1.1.2]
      rw [ss_consS]
      simp [L'.s, L'.r, lc.fr, lookF]
      refine ⟨by omega, hk _ _ ⟨_, r, _, hd', rfl, rfl, co.2, by simp [Bk.ns] at cs; omega, L'.putR (row' := row' ++ [.tup [.str cDeed, .tup (.str w :: xs)]]), by simp; omega, by omega, ?_, ?_, K.trans (Kp.put (by simp))⟩⟩
      · rw [← e1]; simp [Bk.code]
      · rw [← e2]; simp [Bk.hat]
    | ifs q1 a1 b1 r =>
      simp only [Bk.toD, List.cons.injEq] at e
      obtain ⟨rfl, rfl⟩ := e
      simp only [Bk.ok, Bool.and_eq_true] at co
      simp only [Bk.len, Bk.nw] at l1 l2
      simp only [Bk.ns] at cs
      simp
      rw [ss_consS]
      simp [L'.s, lc.m4, lc.n4, lookF, h4]
      refine ⟨2 * max a1.ns b1.ns + 2, by omega, q1, a1, b1, s, rfl, Nat.le_refl _, rr, hh, row', hd', L', by simp [Bk.ok, co.1.1.1, co.1.1.2, co.1.2], by simp [Bk.len]; omega, by simp [Bk.nw]; omega, fun T2 L2 K2 => ?_⟩
      dsimp only
      refine hk _ _ ⟨_, r, _, _, rfl, rfl, co.2, by omega, L2, by simp [Bk.code_len, Bk.len]; omega, by simp [Bk.hat_len, Bk.nw]; omega, ?_, ?_, K.trans K2⟩
      · rw [← e1]
        simp [Bk.code, Bk.code_len, Bk.hat, Bk.hat_len]
        congr 1 <;> omega
      · rw [← e2]
        simp [Bk.code, Bk.code_len, Bk.hat, Bk.hat_len]
        congr 1; omega
    | whl q1 k1 a1 r =>
      simp only [Bk.toD, List.cons.injEq] at e
      obtain ⟨rfl, rfl⟩ := e
      simp only [Bk.ok, Bool.and_eq_true] at co
      simp only [Bk.len, Bk.nw] at l1 l2
      simp only [Bk.ns] at cs
      simp
      rw [ss_consS]
      simp
      rw [ss_consS]
      simp [L'.s, lc.m5, lc.n5, lookF, h5]
      refine ⟨2 * a1.ns + 2, by omega, q1, k1, a1, s, rfl, Nat.le_refl _, rr, hh, row', hd', L', by simp [Bk.ok, co.1.1.1, co.1.1.2, co.1.2], by simp [Bk.len]; omega, by simp [Bk.nw]; omega, fun T2 L2 K2 => ?_⟩
      dsimp only
      refine hk _ _ ⟨_, r, _, _, rfl, rfl, co.2, by omega, L2, by simp [Bk.code_len, Bk.len]; omega, by simp [Bk.hat_len, Bk.nw]; omega, ?_, ?_, K.trans K2⟩
      · rw [← e1]
        simp [Bk.code, Bk.code_len, Bk.hat, Bk.hat_len]
        congr 1 <;> omega
      · rw [← e2]
        simp [Bk.code, Bk.code_len, Bk.hat, Bk.hat_len]
        congr 1; omega
end T72

/-! QD: a Layout made; where one lands. -/
namespace T72
open Tr
open PySem (Addr PyData)
variable {C : Tr.Ctx}
/-- the rows of a whole program -/
def rows (b : Bk) : List D := b.code 0 0 ++ [.tup [.str cEnd]]
def sInit : Tr.Spec := ⟨fun ρ ds T q _ => ∃ (b : Bk) (s : Addr) (x0 x1 x3 : D), ds = [.ref s, .tup [x0, x1, .tup b.toD, x3]] ∧ T s = some (.ins 0 []) ∧ b.ok = true ∧ b.nd ≤ 1000 ∧ 2 * b.ns + 1 < ρ ∧
  ∀ rr hh T', Ly T' s rr hh (rows b) (b.hat 0) → T rr = none → T hh = none → Kp [s] T T' → q .non T'⟩
theorem p_init (lc : LyC C) (h3 : C.G 3 = sLayB) : Body C sInit i_Layout___init__ 2 2 := by
  rintro ρ ds T q X - ⟨b, s, x0, x1, x3, rfl, es, ok, hn, hρ, k⟩
  unfold i_Layout___init__
  rw [ss_consS]
  simp [startD]
  intro rr hrr
  have nsr := ne_new es hrr
  simp [nsr, es, lc.fr, putF]
  rw [ss_consS]
  simp
  intro hh hhh
  obtain ⟨m1, hhh⟩ := fresh_if hhh
  obtain ⟨m2, hhh⟩ := fresh_if hhh
  simp [Ne.symm m1, lc.fh, putF]
  generalize hT2 : upd (upd _ hh _) s _ = T2
  have L : Ly T2 s rr hh [] [] := by
    rw [← hT2]
    exact ⟨upd_same, by simp [Ne.symm nsr, Ne.symm m2], by simp [m1], Ne.symm m2⟩
  have K : Kp [s] T T2 := by
    rw [← hT2]
    exact (((Kp.new hrr).trans (Kp.put (by simp))).put2 hhh).trans (Kp.put (by simp))
  clear hT2
  have hl := Bk.len_nd b
  have hw := Bk.nw_nd b
  rw [ss_consS]
  simp [L.s, lc.m3, lc.n3, lookF]
  refine c_lay h3 hρ ⟨rr, hh, [], [], L, ok, by simp; omega, by simp; omega, fun T3 L3 K3 => ?_⟩
  dsimp only
  rw [ss_consS]
  simp [L3.s, L3.r, lc.fr, lookF, Bk.code_len]
  refine ⟨by omega, ?_⟩
  have L4 := L3.putR (row' := rows b)
  refine k rr hh _ L4 hrr hhh ?_
  refine Kp.put2 (fun p o e hp => ?_) hrr
  refine K3 p o (K p o e hp) fun hm => ?_
  rcases List.mem_cons.mp hm with z | hm
  · rw [z, hrr] at e; cases e
  · rw [List.mem_singleton.mp hm, hhh] at e; cases e
/-- from at one lands at at', by so many jumps -/
inductive Lands (row : List D) : Nat → Nat → Nat → Prop
  | here {at' : Nat} {w : List Nat} {xs : List D} (h : row[at']? = some (.tup (.str w :: xs))) (hw : w ≠ cJump) : Lands row at' at' 0
  | jump {a t at' h : Nat} (h1 : row[a]? = some (.tup [.str cJump, .int (t : Nat)])) (h2 : Lands row t at' h) : Lands row a at' (h + 1)
def sLanded : Tr.Spec := ⟨fun ρ ds T q _ => ∃ (s rr hh : Addr) (row hd : List D) (at0 at1 h : Nat), ds = [.ref s, .int (at0 : Nat)] ∧ Ly T s rr hh row hd ∧ Lands row at0 at1 h ∧ q (.int (at1 : Nat)) T⟩
theorem p_landed (lc : LyC C) : Body C sLanded i_Layout_landed 2 2 := by
  rintro ρ ds T q X - ⟨s, rr, hh, row, hd, at0, at1, h, rfl, L, hl, k⟩
  unfold i_Layout_landed
  rw [ss_consS]
  simp [startD]
  refine wh_ind (fun n τ T' => T' = T ∧ ∃ a : Nat, τ = [some (.ref s), some (.int (a : Nat))] ∧ Lands row a at1 n) ?_ ⟨rfl, at0, rfl, hl⟩
  rintro n τ T' kk ⟨rfl, a, rfl, hl⟩ hk
  cases hl with
  | here h hw =>
    simp [L.s, L.r, lc.fr, lookF, h, hw]
    rw [ss_consS]
    simp
    exact k
  | jump h1 h2 =>
    simp [L.s, L.r, lc.fr, lookF, h1]
    rw [ss_consS]
    simp [L.s, L.r, lc.fr, lookF, h1]
    exact hk _ _ _ (Nat.lt_succ_self _) ⟨rfl, _, rfl, h2⟩
end T72

/-! QE: walk_on. -/
namespace T72
open Tr
open PySem (Addr PyData)
variable {C : Tr.Ctx}
abbrev Res := List (List Bool × Option Nat)
def goalD : Option Nat → D
  | none => .non
  | some n => .int (n : Nat)
def pre (b : Bool) (r : Res) : Res := r.map fun c => (b :: c.1, c.2)
def resD (cs : List Bool) (r : Res) : List D := r.map fun c => .tup [.tup ((cs ++ c.1).map D.bl), goalD c.2]
/-- over the deeds in a row -/
inductive Deeds (row : List D) : Nat → Nat → Nat → Prop
  | here {a : Nat} {w : List Nat} {xs : List D} (h : row[a]? = some (.tup (.str w :: xs))) (hw : w ≠ cDeed) : Deeds row a a 0
  | step {a a1 a2 m h : Nat} {x : D} (h1 : row[a]? = some (.tup [.str cDeed, x])) (h2 : Lands row (a + 1) a1 h) (h3 : Deeds row a1 a2 m) : Deeds row a a2 (m + 1)
inductive Walks (row : List D) : Nat → Res → Nat → Prop
  | fin {a a1 m h : Nat} (d : Deeds row a a1 m) (e : row[a1]? = some (.tup [.str cEnd])) : Walks row a [([], none)] h
  | whl {a a1 m h n : Nat} {x y : D} (d : Deeds row a a1 m) (e : row[a1]? = some (.tup [.str cWh, x, y, .int (n : Nat)])) : Walks row a [([], some n)] h
  | ifs {a a1 m h t a2 a3 i j : Nat} {x : D} {r1 r2 : Res} (d : Deeds row a a1 m) (e : row[a1]? = some (.tup [.str cIf, x, .int (t : Nat)])) (l1 : Lands row t a2 i) (w1 : Walks row a2 r1 h) (l2 : Lands row (a1 + 1) a3 j) (w2 : Walks row a3 r2 h) :
      Walks row a (pre false r1 ++ pre true r2) (h + 1)
def sWalk : Tr.Spec := ⟨fun ρ ds T q _ => ∃ (s rr hh g : Addr) (row hd acc : List D) (a h : Nat) (cs : List Bool) (res : Res), ds = [.ref s, .int (a : Nat), .tup (cs.map D.bl), .ref g] ∧ Ly T s rr hh row hd ∧ Walks row a res h ∧ T g = some (.lst acc) ∧ g ≠ rr ∧ g ≠ hh ∧
  cs.length + h ≤ 1000 ∧ acc.length + res.length ≤ 100000 ∧ h + 1 ≤ ρ ∧ ∀ T', T' g = some (.lst (acc ++ resD cs res)) → Kp [g] T T' → q .non T'⟩
theorem c_land {r i : Nat} {X : XE} {T : TH} {Q : Kd} {s rr hh : Addr} {row hd : List D} {a0 a1 h : Nat} {z : Int} (e : C.G i = sLanded) (hr : 0 < r) (L : Ly T s rr hh row hd) (l : Lands row a0 a1 h) (hz : z = a0) (k : Q (.int (a1 : Nat)) T) :
    ∃ ρ, ρ < r ∧ (C.G i).sp ρ [.ref s, .int z] T Q X := by
  rw [e]; exact ⟨0, hr, s, rr, hh, row, hd, a0, a1, h, by rw [hz], L, l, k⟩
end T72

/-! QF: first_spot. -/
namespace T72
open Tr
open PySem (Addr PyData)
variable {C : Tr.Ctx}
/-- where a start stands: None, or (head, whether its query held) -/
def Spot (row hd : List D) (st : D) (at0 : Nat) : Prop := (st = .non ∧ at0 = 0) ∨ ∃ (i p : Nat) (b : Bool), st = .tup [.int (i : Nat), .bl b] ∧ hd[i]? = some (.int (p : Nat)) ∧
  ((b = true ∧ at0 = p + 1) ∨ (b = false ∧ ∃ (x y : D) (t : Nat), row[p]? = some (.tup [.str cWh, x, .int (t : Nat), y]) ∧ at0 = t))
def sFirst : Tr.Spec := ⟨fun ρ ds T q _ => ∃ (s rr hh : Addr) (row hd : List D) (st : D) (at0 at1 h : Nat), ds = [.ref s, st] ∧ Ly T s rr hh row hd ∧ Spot row hd st at0 ∧ Lands row at0 at1 h ∧ 1 ≤ ρ ∧ q (.int (at1 : Nat)) T⟩
theorem p_first (lc : LyC C) (h6 : C.G 6 = sLanded) : Body C sFirst i_first_spot 3 2 := by
  rintro ρ ds T q X - ⟨s, rr, hh, row, hd, st, at0, at1, h, rfl, L, sp, l, hρ, k⟩
  unfold i_first_spot
  rw [ss_consS]
  rcases sp with ⟨rfl, rfl⟩ | ⟨i, p, b, rfl, hp, ⟨rfl, rfl⟩ | ⟨rfl, x, y, t, hr, rfl⟩⟩
  · simp [startD]
    rw [ss_consS]
    simp [L.s, lc.m6, lc.n6, lookF]
    exact c_land h6 (by omega) L l rfl k
  · simp [startD]
    rw [ss_consS]
    simp [L.s, L.h, lc.fh, lookF, hp]
    rw [ss_consS]
    simp
    rw [ss_consS]
    simp [L.s, lc.m6, lc.n6, lookF]
    exact c_land h6 (by omega) L l (by omega) k
  · simp [startD]
    rw [ss_consS]
    simp [L.s, L.h, lc.fh, lookF, hp]
    rw [ss_consS]
    simp
    rw [ss_consS]
    simp [L.s, L.r, lc.fr, lc.m6, lc.n6, lookF, hr]
    exact c_land h6 (by omega) L l rfl k
end T72

/-! QG: laid rows walk as the block tells. -/
namespace T72
open Tr
open PySem (Addr PyData)
theorem Walks.mono {row : List D} {a h h' : Nat} {r : Res} (w : Walks row a r h) : h ≤ h' → Walks row a r h' := by
  induction w generalizing h' with
  | fin d e => exact fun _ => .fin d e
  | whl d e => exact fun _ => .whl d e
  | ifs d e l1 w1 l2 w2 i1 i2 =>
    intro hl
    obtain ⟨k, rfl⟩ : ∃ k, h' = k + 1 := ⟨h' - 1, by omega⟩
    exact .ifs d e l1 (i1 (by omega)) l2 (i2 (by omega))
theorem Walks.deed {row : List D} {a a1 h i : Nat} {x : D} {r : Res} (e : row[a]? = some (.tup [.str cDeed, x])) (l : Lands row (a + 1) a1 i) (w : Walks row a1 r h) : Walks row a r h := by
  cases w with
  | fin d e2 => exact .fin (.step e l d) e2
  | whl d e2 => exact .whl (.step e l d) e2
  | ifs d e2 l1 w1 l2 w2 => exact .ifs (.step e l d) e2 l1 w1 l2 w2
/-- code stands in row from o on -/
def At (row : List D) (o : Nat) (c : List D) : Prop := ∀ i x, c[i]? = some x → row[o + i]? = some x
theorem At.app {row : List D} {o : Nat} {c d : List D} (h : At row o (c ++ d)) : At row o c ∧ At row (o + c.length) d := by
  refine ⟨fun i x e => h i x ?_, fun i x e => ?_⟩
  · have hi := (List.getElem?_eq_some_iff.mp e).1
    rw [List.getElem?_append_left hi]; exact e
  · have := h (c.length + i) x (by rw [List.getElem?_append_right (by omega)]; simpa using e)
    rwa [← Nat.add_assoc] at this
theorem At.cons {row : List D} {o : Nat} {c : List D} {x : D} (h : At row o (x :: c)) : row[o]? = some x ∧ At row (o + 1) c := by
  refine ⟨h 0 x rfl, fun i y e => ?_⟩
  have := h (i + 1) y (by simpa using e)
  rwa [show o + (i + 1) = o + 1 + i by omega] at this
def seg : Bk → Nat → Res → Res
  | .nil, _, K => K
  | .oth _ _ r, n, K => seg r n K
  | .ifs _ a b r, n, K => pre false (seg b (n + a.nw) (seg r (n + a.nw + b.nw) K)) ++ pre true (seg a n (seg r (n + a.nw + b.nw) K))
  | .whl _ _ _ _, n, _ => [([], some n)]
theorem seg_walk {row : List D} : ∀ (b : Bk) (o n : Nat) (K : Res) (e i h : Nat), At row o (b.code o n) → Lands row (o + b.len) e i → Walks row e K h → ∃ e' i', Lands row o e' i' ∧ Walks row e' (seg b n K) (h + b.ni)
  | .nil, o, n, K, e, i, h, _, l, w => ⟨e, i, l, w⟩
  | .oth w xs r, o, n, K, e, i, h, at', l, w' => by
    obtain ⟨h1, h2⟩ := At.cons at'
    obtain ⟨e1, i1, l1, w1⟩ := seg_walk r (o + 1) n K e i h h2 (by rw [show o + 1 + r.len = o + (r.len + 1) by omega]; exact l) w'
    exact ⟨o, 0, .here h1 (by decide), .deed h1 l1 w1⟩
  | .whl q k a r, o, n, K, e, i, h, at', l, w' => by
    obtain ⟨h1, h2⟩ := At.cons at'
    exact ⟨o, 0, .here h1 (by decide), .whl (.here h1 (by decide)) h1⟩
  | .ifs q a b r, o, n, K, e, i, h, at', l, w' => by
    obtain ⟨h1, h2⟩ := At.cons at'
    obtain ⟨h3, h4⟩ := At.app h2
    obtain ⟨h5, h6⟩ := At.cons h4
    rw [Bk.code_len] at h5 h6
    obtain ⟨h7, h8⟩ := At.app h6
    rw [Bk.code_len] at h8
    have l' : o + (Bk.ifs q a b r).len = o + 2 + a.len + b.len + r.len := by simp [Bk.len]; omega
    rw [l'] at l
    have p1 : o + 1 + a.len + 1 = o + 2 + a.len := by omega
    rw [p1] at h7 h8
    obtain ⟨e1, i1, l1, w1⟩ := seg_walk r (o + 2 + a.len + b.len) _ K e i h h8 l w'
    obtain ⟨e2, i2, l2, w2⟩ := seg_walk b (o + 2 + a.len) _ _ e1 i1 _ h7 l1 w1
    obtain ⟨e3, i3, l3, w3⟩ := seg_walk a (o + 1) n _ e1 (i1 + 1) _ h3 (.jump h5 l1) w1
    refine ⟨o, 0, .here h1 (by decide), ?_⟩
    have hn : h + (Bk.ifs q a b r).ni = (h + a.ni + b.ni + r.ni) + 1 := by simp [Bk.ni]; omega
    rw [hn]
    exact .ifs (.here h1 (by decide)) h1 l2 (w2.mono (by omega)) l3 (w3.mono (by omega))
end T72

/-! QH: the legs from each head. -/
namespace T72
open Tr
open PySem (Addr PyData)
/-- of each while, in order: what comes behind it, what is within it -/
def wl : Bk → Nat → Res → List (Res × Res)
  | .nil, _, _ => []
  | .oth _ _ r, n, K => wl r n K
  | .ifs _ a b r, n, K => wl a n (seg r (n + a.nw + b.nw) K) ++ wl b (n + a.nw) (seg r (n + a.nw + b.nw) K) ++ wl r (n + a.nw + b.nw) K
  | .whl _ _ a r, n, K => (seg r (n + 1 + a.nw) K, seg a (n + 1) [([], some n)]) :: (wl a (n + 1) [([], some n)] ++ wl r (n + 1 + a.nw) K)
theorem wl_len : ∀ (b : Bk) (n : Nat) (K : Res), (wl b n K).length = b.nw
  | .nil, _, _ => rfl
  | .oth _ _ r, n, K => by simp [wl, Bk.nw, wl_len r]
  | .ifs _ a b r, n, K => by simp [wl, Bk.nw, wl_len a, wl_len b, wl_len r]; omega
  | .whl _ _ a r, n, K => by simp [wl, Bk.nw, wl_len a, wl_len r]
/-- a head at p walks so: behind, within -/
def HeadOk (row : List D) (H : Nat) (p : D) (w : Res × Res) : Prop := ∃ (q : Nat) (x y : D) (t : Nat), p = .int (q : Nat) ∧ row[q]? = some (.tup [.str cWh, x, .int (t : Nat), y]) ∧
  (∃ e i, Lands row t e i ∧ Walks row e w.1 H) ∧ ∃ e i, Lands row (q + 1) e i ∧ Walks row e w.2 H
def HeadsOk (row : List D) (H : Nat) : List D → List (Res × Res) → Prop
  | [], [] => True
  | p :: ps, w :: ws => HeadOk row H p w ∧ HeadsOk row H ps ws
  | _, _ => False
theorem HeadsOk.app {row : List D} {H : Nat} : ∀ {ps qs : List D} {ws vs : List (Res × Res)}, HeadsOk row H ps ws → HeadsOk row H qs vs → HeadsOk row H (ps ++ qs) (ws ++ vs)
  | [], _, [], _, _, h => h
  | p :: ps, _, w :: ws, _, h, h' => ⟨h.1, HeadsOk.app h.2 h'⟩
  | [], _, _ :: _, _, h, _ => h.elim
  | _ :: _, _, [], _, h, _ => h.elim
theorem heads_walk {row : List D} {H : Nat} : ∀ (b : Bk) (o n : Nat) (K : Res) (e i h : Nat), At row o (b.code o n) → Lands row (o + b.len) e i → Walks row e K h → h + b.ni ≤ H → HeadsOk row H (b.hat o) (wl b n K)
  | .nil, o, n, K, e, i, h, _, _, _, _ => True.intro
  | .oth w xs r, o, n, K, e, i, h, at', l, w', hH => by
    obtain ⟨h1, h2⟩ := At.cons at'
    exact heads_walk r (o + 1) n K e i h h2 (by rw [show o + 1 + r.len = o + (r.len + 1) by omega]; exact l) w' hH
  | .whl q k a r, o, n, K, e, i, h, at', l, w', hH => by
    obtain ⟨h1, h2⟩ := At.cons at'
    obtain ⟨h3, h4⟩ := At.app h2
    obtain ⟨h5, h6⟩ := At.cons h4
    rw [Bk.code_len] at h5 h6
    have l' : o + (Bk.whl q k a r).len = o + 2 + a.len + r.len := by simp [Bk.len]; omega
    rw [l'] at l
    have p1 : o + 1 + a.len + 1 = o + 2 + a.len := by omega
    rw [p1] at h6
    simp only [Bk.ni] at hH
    have wh : Walks row o [([], some n)] 0 := .whl (.here h1 (by decide)) h1
    have lw : Lands row (o + 1 + a.len) o 1 := .jump h5 (.here h1 (by decide))
    obtain ⟨e1, i1, l1, w1⟩ := seg_walk r (o + 2 + a.len) _ K e i h h6 l w'
    obtain ⟨e2, i2, l2, w2⟩ := seg_walk a (o + 1) (n + 1) _ o 1 0 h3 lw wh
    refine ⟨⟨o, _, _, _, rfl, h1, ⟨e1, i1, l1, w1.mono (by omega)⟩, ⟨e2, i2, l2, w2.mono (by omega)⟩⟩, ?_⟩
    exact (heads_walk a (o + 1) (n + 1) _ o 1 0 h3 lw wh (by omega)).app (heads_walk r (o + 2 + a.len) _ K e i h h6 l w' (by omega))
  | .ifs q a b r, o, n, K, e, i, h, at', l, w', hH => by
    obtain ⟨h1, h2⟩ := At.cons at'
    obtain ⟨h3, h4⟩ := At.app h2
    obtain ⟨h5, h6⟩ := At.cons h4
    rw [Bk.code_len] at h5 h6
    obtain ⟨h7, h8⟩ := At.app h6
    rw [Bk.code_len] at h8
    have l' : o + (Bk.ifs q a b r).len = o + 2 + a.len + b.len + r.len := by simp [Bk.len]; omega
    rw [l'] at l
    have p1 : o + 1 + a.len + 1 = o + 2 + a.len := by omega
    rw [p1] at h7 h8
    simp only [Bk.ni] at hH
    obtain ⟨e1, i1, l1, w1⟩ := seg_walk r (o + 2 + a.len + b.len) _ K e i h h8 l w'
    exact ((heads_walk a (o + 1) n _ e1 (i1 + 1) _ h3 (.jump h5 l1) w1 (by omega)).app (heads_walk b (o + 2 + a.len) _ _ e1 i1 _ h7 l1 w1 (by omega))).app (heads_walk r (o + 2 + a.len + b.len) _ K e i h h8 l w' (by omega))
end T72

/-! QI: legs_of. -/
namespace T72
open Tr
open PySem (Addr PyData)
variable {C : Tr.Ctx}
def legD (st : D) (c : List Bool × Option Nat) : D := .tup [st, .tup (c.1.map D.bl), goalD c.2]
def hdR : Nat → List (Res × Res) → List (D × Res)
  | _, [] => []
  | i, w :: ws => (.tup [.int (i : Nat), .bl false], w.1) :: (.tup [.int (i : Nat), .bl true], w.2) :: hdR (i + 1) ws
def K0 : Res := [([], none)]
/-- each start with what its legs choose and meet -/
def stR (b : Bk) : List (D × Res) := (.non, seg b 0 K0) :: hdR 0 (wl b 0 K0)
def legsD (b : Bk) : List D := ((stR b).map fun s => s.2.map (legD s.1)).flatten
theorem hdR_fst : ∀ (ws : List (Res × Res)) (i : Nat), (hdR i ws).map (·.1) = ((List.range ws.length).map fun j => [D.tup [.int ((i + j : Nat) : Int), .bl false], .tup [.int ((i + j : Nat) : Int), .bl true]]).flatten
  | [], i => rfl
  | w :: ws, i => by
    simp only [hdR, List.map_cons, List.length_cons, List.range_succ_eq_map, List.flatten_cons, List.map_map, hdR_fst ws (i + 1)]
    simp [Function.comp_def, Nat.add_assoc, Nat.add_comm 1]
theorem stR_fst (b : Bk) : (stR b).map (·.1) = stL b.nw := by
  simp only [stR, List.map_cons, hdR_fst, wl_len, stL, Nat.zero_add]
theorem hdR_ok {row hd : List D} {H : Nat} : ∀ (ps : List D) (ws : List (Res × Res)) (k : Nat), HeadsOk row H ps ws → (∀ j x, ps[j]? = some x → hd[k + j]? = some x) → ∀ s ∈ hdR k ws, ∃ a0 a1 i, Spot row hd s.1 a0 ∧ Lands row a0 a1 i ∧ Walks row a1 s.2 H
  | [], [], _, _, _, s, hs => by cases hs
  | p :: ps, w :: ws, k, ⟨⟨q, x, y, t, e, hr, ⟨e1, i1, l1, w1⟩, e2, i2, l2, w2⟩, ho⟩, hp, s, hs => by
    have hk := hp 0 p rfl
    rw [e] at hk
    simp only [hdR, List.mem_cons] at hs
    rcases hs with rfl | rfl | hs
    · exact ⟨t, e1, i1, .inr ⟨k, q, false, rfl, hk, .inr ⟨rfl, x, y, t, hr, rfl⟩⟩, l1, w1⟩
    · exact ⟨q + 1, e2, i2, .inr ⟨k, q, true, rfl, hk, .inl ⟨rfl, rfl⟩⟩, l2, w2⟩
    · exact hdR_ok ps ws (k + 1) ho (fun j x h => by
        have := hp (j + 1) x (by simpa using h)
        rwa [show k + (j + 1) = k + 1 + j by omega] at this) s hs
  | [], _ :: _, _, h, _, _, _ => h.elim
  | _ :: _, [], _, h, _, _, _ => h.elim
theorem st_ok (b : Bk) : ∀ s ∈ stR b, ∃ a0 a1 i, Spot (rows b) (b.hat 0) s.1 a0 ∧ Lands (rows b) a0 a1 i ∧ Walks (rows b) a1 s.2 b.ni := by
  have hat : At (rows b) 0 (b.code 0 0) := fun i x e => by
    have hi := (List.getElem?_eq_some_iff.mp e).1
    rw [Nat.zero_add]
    unfold rows
    rw [List.getElem?_append_left hi]; exact e
  have he : (rows b)[b.len]? = some (.tup [.str cEnd]) := by
    unfold rows
    rw [List.getElem?_append_right (by rw [Bk.code_len]; exact Nat.le_refl _), Bk.code_len]; simp
  have le : Lands (rows b) (0 + b.len) b.len 0 := by rw [Nat.zero_add]; exact .here he (by decide)
  have we : Walks (rows b) b.len K0 0 := .fin (.here he (by decide)) he
  intro s hs
  simp only [stR, List.mem_cons] at hs
  rcases hs with rfl | hs
  · obtain ⟨e, i, l, w⟩ := seg_walk b 0 0 K0 b.len 0 0 hat le we
    exact ⟨0, e, i, .inl ⟨rfl, rfl⟩, l, by simpa using w⟩
  · exact hdR_ok (b.hat 0) (wl b 0 K0) 0 (heads_walk b 0 0 K0 b.len 0 0 hat le we (by omega)) (fun j x h => by rwa [Nat.zero_add]) s hs
end T72

/-! QJ: legs_of. -/
namespace T72
open Tr
open PySem (Addr PyData)
variable {C : Tr.Ctx}
/-- how many legs -/
def small (b : Bk) : Prop := b.ok = true ∧ b.nd ≤ 1000 ∧ b.ni ≤ 100 ∧ b.ns ≤ 40 ∧ (legsD b).length ≤ 50000 ∧ ∀ s ∈ stR b, s.2.length ≤ 50000
def sLegs : Tr.Spec := ⟨fun ρ ds T q _ => ∃ (b : Bk) (x0 x1 x3 : D), ds = [.tup [x0, x1, .tup b.toD, x3]] ∧ small b ∧ 120 ≤ ρ ∧ ∀ T', Kp [] T T' → q (.tup (legsD b)) T'⟩
end T72

set_option Elab.async false
set_option linter.all false
set_option maxRecDepth 100000
set_option maxHeartbeats 4000000
/-! R5: casts, sums, places: drawn so that they fit the cast. -/
namespace T72
open Tr
open PySem (Addr PyData)
variable {C : Tr.Ctx}
structure Cs where
  r : List (List Nat)
  p : List (List Nat)
  u : List (List Nat)
def Cs.D (c : Cs) : D := .tup [.tup (c.r.map D.str), .tup (c.p.map D.str), .tup (c.u.map D.str)]
structure Cs.ok (c : Cs) : Prop where
  hr : c.r ≠ []
  lr : c.r.length ≤ 18
  lp : c.p.length ≤ 18
  lu : c.u.length ≤ 18
  sr : SOk c.r
  sp : SOk c.p
  su : SOk c.u
theorem Cast.cs {d : D} (h : Cast d) : ∃ c : Cs, d = c.D ∧ c.ok := by
  obtain ⟨r, p, u, rfl, hr, lr, lp, lu, sr, sp, su⟩ := h
  exact ⟨⟨r, p, u⟩, rfl, hr, lr, lp, lu, sr, sp, su⟩
abbrev wEnd : List Nat := [101, 110, 100]
def SpOk (c : Cs) (s : List Nat) : Prop := s ∈ c.p ∨ s = wEnd
theorem SpOk.sgn {c : Cs} {s : List Nat} (h : SpOk c s) (hc : c.ok) : pu (.str s) = true := by
  rw [pu_str, List.all_eq_true]
  intro x hx
  rcases h with h | rfl
  · exact decide_eq_true ((hc.sp s h).1 x hx)
  · simp [wEnd] at hx
    rcases hx with rfl | rfl | rfl <;> decide
theorem pu_mem {l : List (List Nat)} (h : SOk l) {s : List Nat} (hs : s ∈ l) : pu (.str s) = true := by
  rw [pu_str, List.all_eq_true]
  exact fun x hx => decide_eq_true ((h s hs).1 x hx)
/-- a sum: a number, a told number, a row at a place; and so much more -/
inductive Sz where
  | num (m : Int) | nam (x : List Nat) (m : Int) | row (x y : List Nat) (m : Int)
namespace Sz
def toD : Sz → D
  | num m => .tup [.non, .int m]
  | nam x m => .tup [.str x, .int m]
  | row x y m => .tup [.tup [.str x, .str y], .int m]
def ok (c : Cs) : Sz → Prop
  | num _ => True
  | nam x _ => x ∈ c.u
  | row x y _ => x ∈ c.r ∧ SpOk c y
theorem pu {c : Cs} (hc : c.ok) : ∀ {s : Sz}, s.ok c → T72.pu s.toD = true
  | num m, _ => by simp [toD]
  | nam x m, h => by simp [toD, pu_mem hc.su h]
  | row x y m, h => by simp [toD, pu_mem hc.sr h.1, h.2.sgn hc]
end Sz
/-- a pick out of a list -/
theorem c_pickTm {i r : Nat} {X : XE} {T : TH} (h : C.G i = sDraw) (hr : 0 < r) {a : Addr} {k : Int} {n : Nat} {xs : List D} {V : D → TH → Prop} (hD : Dk T a n) (hn : n < 2 ^ 60) (hk : k = xs.length) (hk0 : 0 < xs.length) (hk2 : xs.length < 2 ^ 29)
    (kk : ∀ v T', v ∈ xs → Dk T' a (n + 1) → Kp [a] T T' → V v T') : ∃ ρ, ρ < r ∧ (C.G i).sp ρ [.ref a, .int k] T (fun d T2 => ixR (.tup xs) d T2 fun v => V v T2) X := by
  refine c_draw h hr hD hn (by omega) (by omega) fun j T2 j0 j1 hD2 K2 => ?_
  rw [x_tup]
  obtain ⟨v, ev, hv⟩ := atI_pick (xs := xs) j0 (by omega)
  exact ⟨v, ev, kk v T2 hv hD2 K2⟩
theorem c_pickLm {i r : Nat} {X : XE} {T : TH} (h : C.G i = sDraw) {p : Addr} (hp0 : T p = none) (hr : 0 < r) {a : Addr} {k : Int} {n : Nat} {xs : List D} {V : D → TH → Prop} (hD : Dk T a n) (hn : n < 2 ^ 60) (hk : k = xs.length) (hk0 : 0 < xs.length) (hk2 : xs.length < 2 ^ 29)
    (kk : ∀ v T', v ∈ xs → Dk T' a (n + 1) → Kp [a] T T' → V v T') : ∃ ρ, ρ < r ∧ (C.G i).sp ρ [.ref a, .int k] (upd T p (.lst xs)) (fun d T2 => ixR (.ref p) d T2 fun v => V v T2) X := by
  have n1 := hD.ne hp0
  refine c_draw h hr (hD.put n1) hn (by omega) (by omega) fun j T2 j0 j1 hD2 K2 => ?_
  have e1 := K2 p _ upd_same (by simp [Ne.symm n1])
  rw [x_ref, e1]
  obtain ⟨v, ev, hv⟩ := atI_pick (xs := xs) j0 (by omega)
  exact ⟨j, v, rfl, ev, kk v T2 hv hD2 ((Kp.new hp0).trans K2)⟩
theorem c_pickRm {i r : Nat} {X : XE} {T : TH} (h : C.G i = sDraw) (hr : 0 < r) {a p : Addr} {k : Int} {n : Nat} {xs : List D} {V : D → TH → Prop} (hD : Dk T a n) (hap : p ≠ a) (ep : T p = some (.lst xs)) (hn : n < 2 ^ 60) (hk : k = xs.length) (hk0 : 0 < xs.length) (hk2 : xs.length < 2 ^ 29)
    (kk : ∀ v T', v ∈ xs → Dk T' a (n + 1) → Kp [a] T T' → V v T') : ∃ ρ, ρ < r ∧ (C.G i).sp ρ [.ref a, .int k] T (fun d T2 => ixR (.ref p) d T2 fun v => V v T2) X := by
  refine c_draw h hr hD hn (by omega) (by omega) fun j T2 j0 j1 hD2 K2 => ?_
  have e1 := K2 p _ ep (by simp [hap])
  rw [x_refI, e1]
  obtain ⟨v, ev, hv⟩ := atI_pick (xs := xs) j0 (by omega)
  exact ⟨v, ev, kk v T2 hv hD2 K2⟩
/-- a def of the deck and the cast -/
def sDF (cost rk : Nat) (ok : Cs → D → Prop) : Tr.Spec := ⟨fun ρ ds T q _ => ∃ a n c, ds = [.ref a, Cs.D c, .tup []] ∧ c.ok ∧ rk ≤ ρ ∧ Dk T a n ∧ n + cost < 2 ^ 60 ∧ ∀ d T', ok c d → Dk T' a (n + cost) → Kp [a] T T' → q d T'⟩
theorem c_DF {r i cost rk : Nat} {ok : Cs → D → Prop} {X : XE} {T : TH} {Q : Kd} (h : C.G i = sDF cost rk ok) (hr : rk < r) {a : Addr} {n : Nat} {c : Cs} {cd : D} (ec : cd = c.D) (hc : c.ok) (hD : Dk T a n) (hn : n + cost < 2 ^ 60)
    (k : ∀ d T', ok c d → Dk T' a (n + cost) → Kp [a] T T' → Q d T') : ∃ ρ, ρ < r ∧ (C.G i).sp ρ [.ref a, cd, .tup []] T Q X := by
  rw [h]; exact ⟨rk, hr, a, n, c, by rw [ec], hc, Nat.le_refl _, hD, hn, k⟩
def okSp (c : Cs) (d : D) : Prop := ∃ s, d = .str s ∧ SpOk c s
def okSz (c : Cs) (d : D) : Prop := ∃ s : Sz, d = s.toD ∧ s.ok c
theorem p_spot (h13 : C.G 13 = sDraw) : Body C (sDF 1 1 okSp) i__law_spot 4 3 := by
  rintro ρ ds T q x - ⟨a, n, ⟨r, p, u⟩, rfl, ⟨hr, lr, lp, lu, sr, sp, su⟩, hρ, hD, hn, k⟩
  unfold i__law_spot
  simp only at lr lp lu
  rw [ss_consS]
  simp [startD, Cs.D]
  refine ⟨by omega, by omega, ?_⟩
  rw [ss_consS]
  simp
  refine c_pickTm h13 (by omega) hD (by omega) (by simp) (by simp) (by simp; omega) fun d T1 hd hD1 K1 => ?_
  refine k d T1 ?_ hD1 K1
  simp at hd
  rcases hd with ⟨s, hs, rfl⟩ | rfl
  · exact ⟨s, rfl, .inl hs⟩
  · exact ⟨_, rfl, .inr rfl⟩
theorem p_sum (h13 : C.G 13 = sDraw) (h18 : C.G 18 = sNumber) (h19 : C.G 19 = sDF 1 1 okSp) : Body C (sDF 10 2 okSz) i__law_sum 5 3 := by
  rintro ρ ds T q x - ⟨a, n, ⟨r, p, u⟩, rfl, hc, hρ, hD, hn, k⟩
  obtain ⟨hr, lr, lp, lu, sr, sp, su⟩ := id hc
  simp only at hr lr lp lu sr sp su
  have rest : ∀ (j0 m : Int) (T4 : TH), Dk T4 a (n + 7) → Kp [a] T T4 → rdSs C ρ (dropS 3 i__law_sum)
      (endD q x) [some (.ref a), some (.tup [.tup (r.map D.str), .tup (p.map D.str), .tup (u.map D.str)]), some (.tup []), some (.int j0), some (.int m)] T4 := by
    intro j0 m T4 hD4 K4
    unfold i__law_sum
    simp only [dropS]
    rw [ss_consS]
    simp
    split
    · rw [ss_consS]
      simp
      exact k _ _ ⟨.num m, rfl, True.intro⟩ (hD4.le (by omega)) K4
    · have last : rdSs C ρ (dropS 5 i__law_sum) (endD q x) [some (.ref a), some (.tup [.tup (r.map D.str), .tup (p.map D.str), .tup (u.map D.str)]), some (.tup []), some (.int j0), some (.int m)] T4 := by
        unfold i__law_sum
        simp only [dropS]
        rw [ss_consS]
        simp
        have hr0 : 0 < r.length := List.length_pos_iff.mpr hr
        refine c_pickTm h13 (by omega) hD4 (by omega) (by simp) (by simpa using hr0) (by simp; omega) fun d T5 hd hD5 K5 => ?_
        simp at hd
        obtain ⟨s, hs, rfl⟩ := hd
        refine c_DF h19 (c := ⟨r, p, u⟩) (by omega) rfl hc hD5 (by omega) fun d2 T6 hd2 hD6 K6 => ?_
        obtain ⟨s2, rfl, hs2⟩ := hd2
        exact k _ _ ⟨.row s s2 m, rfl, hs, hs2⟩ (hD6.le (by omega)) ((K4.trans K5).trans K6)
      rw [ss_consS]
      simp
      split
      · refine ne_unit (pu_strs su) ?_
        cases u with
        | nil =>
          unfold i__law_sum at last
          simp only [dropS] at last
          simpa using last
        | cons u0 us =>
          simp
          rw [ss_consS]
          simp
          refine c_pickTm h13 (by omega) hD4 (by omega) (by simp) (by simp) (by simp at lu ⊢; omega) fun d T5 hd hD5 K5 => ?_
          have hd' : ∃ s ∈ u0 :: us, D.str s = d := by simpa [eq_comm] using hd
          obtain ⟨s, hs, rfl⟩ := hd'
          exact k _ _ ⟨.nam s m, rfl, hs⟩ (hD5.le (by omega)) (K4.trans K5)
      · exact last
  unfold i__law_sum
  rw [ss_consS]
  simp [startD, Cs.D]
  refine c_draw h13 (by omega) hD (by omega) (by omega) (by omega) fun j0 T1 j00 j01 hD1 K1 => ?_
  rw [ss_consS]
  simp
  intro p0 hp0
  refine c_pickL h13 hp0 (by omega) (isI (-2) 2) hD1 (by omega) (by simp) (by simp) (by simp) (by decide) fun d T2 hd hD2 K2 => ?_
  obtain ⟨m0, rfl, -, -⟩ := isI_ok hd
  rw [ss_consS]
  simp
  refine c_draw h13 (by omega) hD2 (by omega) (by omega) (by omega) fun j1 T3 j10 j11 hD3 K3 => ?_
  have K123 := (K1.trans K2).trans K3
  simp
  split
  · rw [ss_consS]
    simp
    rw [h18]
    refine ⟨1, by omega, a, _, rfl, by omega, hD3, by omega, fun i T4 _ _ hD4 K4 => ?_⟩
    exact rest j0 i T4 (hD4.le (by omega)) (K123.trans K4)
  · exact rest j0 m0 T3 (hD3.le (by omega)) K123
end T72

/-! R6: sayings. -/
namespace T72
open Tr
open PySem (Addr PyData)
variable {C : Tr.Ctx}
abbrev wMost : List Nat := [109, 111, 115, 116]
abbrev wLess : List Nat := [108, 101, 115, 115]
abbrev wSame : List Nat := [115, 97, 109, 101]
abbrev wUnl : List Nat := [117, 110, 108, 105, 107, 101]
abbrev wAhead : List Nat := [97, 104, 101, 97, 100]
abbrev wHere : List Nat := [104, 101, 114, 101]
abbrev wNot : List Nat := [110, 111, 116]
abbrev wIf : List Nat := [105, 102]
abbrev wAnd : List Nat := [97, 110, 100]
abbrev wOr : List Nat := [111, 114]
mutual
inductive Say where
  | cmp (w : List Nat) (a b : Sz) | plc (w x y : List Nat) | nt (x : Say) | imp (x y : Say) | all (xs : Says) | any (xs : Says)
inductive Says where
  | nil | cons (x : Say) (xs : Says)
end
def WSum (w : List Nat) : Prop := w = wMost ∨ w = wLess ∨ w = wSame ∨ w = wUnl
def WPlc (w : List Nat) : Prop := w = wAhead ∨ w = wHere
mutual
def Say.toD : Say → D
  | .cmp w a b => .tup [.str w, a.toD, b.toD]
  | .plc w x y => .tup [.str w, .str x, .str y]
  | .nt x => .tup [.str wNot, x.toD]
  | .imp x y => .tup [.str wIf, x.toD, y.toD]
  | .all xs => .tup [.str wAnd, .tup xs.toDs]
  | .any xs => .tup [.str wOr, .tup xs.toDs]
def Says.toDs : Says → List D
  | .nil => []
  | .cons x xs => x.toD :: xs.toDs
end
mutual
def Say.ok (c : Cs) : Say → Prop
  | .cmp w a b => WSum w ∧ a.ok c ∧ b.ok c
  | .plc w x y => WPlc w ∧ SpOk c x ∧ SpOk c y
  | .nt x => x.ok c
  | .imp x y => x.ok c ∧ y.ok c
  | .all xs => xs.ok c
  | .any xs => xs.ok c
def Says.ok (c : Cs) : Says → Prop
  | .nil => True
  | .cons x xs => x.ok c ∧ xs.ok c
end
mutual
def Say.rk : Say → Nat
  | .cmp _ _ _ => 0
  | .plc _ _ _ => 0
  | .nt x => x.rk + 1
  | .imp x y => max x.rk y.rk + 1
  | .all xs => xs.rk + 1
  | .any xs => xs.rk + 1
def Says.rk : Says → Nat
  | .nil => 0
  | .cons x xs => max x.rk xs.rk
end
def Says.len : Says → Nat
  | .nil => 0
  | .cons _ xs => xs.len + 1

mutual
def Say.few : Say → Prop
  | .cmp _ _ _ => True
  | .plc _ _ _ => True
  | .nt x => x.few
  | .imp x y => x.few ∧ y.few
  | .all xs => xs.few ∧ xs.len ≤ 1000
  | .any xs => xs.few ∧ xs.len ≤ 1000
def Says.few : Says → Prop
  | .nil => True
  | .cons x xs => x.few ∧ xs.few
end
theorem Says.toDs_len : ∀ xs : Says, xs.toDs.length = xs.len
  | .nil => rfl
  | .cons x xs => by simp [Says.toDs, Says.len, Says.toDs_len xs]
theorem wsum_pu {w : List Nat} (h : WSum w) : T72.pu (.str w) = true := by rcases h with rfl | rfl | rfl | rfl <;> decide +kernel
theorem wplc_pu {w : List Nat} (h : WPlc w) : T72.pu (.str w) = true := by rcases h with rfl | rfl <;> decide +kernel
mutual
theorem Say.pu {c : Cs} (hc : c.ok) : ∀ s : Say, s.ok c → T72.pu s.toD = true
  | .cmp w a b, h => by
    simp only [Say.ok] at h
    simp only [Say.toD, pu_tup, List.all_cons, wsum_pu h.1, Sz.pu hc h.2.1, Sz.pu hc h.2.2, List.all_nil]; rfl
  | .plc w x y, h => by
    simp only [Say.ok] at h
    simp only [Say.toD, pu_tup, List.all_cons, wplc_pu h.1, h.2.1.sgn hc, h.2.2.sgn hc, List.all_nil]; rfl
  | .nt x, h => by
    have e : T72.pu (.str wNot) = true := by decide +kernel
    simp only [Say.toD, pu_tup, List.all_cons, e, Say.pu hc x (by simpa only [Say.ok] using h), List.all_nil]; rfl
  | .imp x y, h => by
    simp only [Say.ok] at h
    have e : T72.pu (.str wIf) = true := by decide +kernel
    simp only [Say.toD, pu_tup, List.all_cons, e, Say.pu hc x h.1, Say.pu hc y h.2, List.all_nil]; rfl
  | .all xs, h => by
    have e : T72.pu (.str wAnd) = true := by decide +kernel
    simp only [Say.toD, pu_tup, List.all_cons, e, Says.pu hc xs (by simpa only [Say.ok] using h), List.all_nil]; rfl
  | .any xs, h => by
    have e : T72.pu (.str wOr) = true := by decide +kernel
    simp only [Say.toD, pu_tup, List.all_cons, e, Says.pu hc xs (by simpa only [Say.ok] using h), List.all_nil]; rfl
theorem Says.pu {c : Cs} (hc : c.ok) : ∀ xs : Says, xs.ok c → xs.toDs.all T72.pu = true
  | .nil, _ => rfl
  | .cons x xs, h => by
    simp only [Says.ok] at h
    simp only [Says.toDs, List.all_cons, Say.pu hc x h.1, Says.pu hc xs h.2]; rfl
end
/-- a saying, so deep at most -/
def okSay (k : Nat) (c : Cs) (d : D) : Prop := ∃ s : Say, d = s.toD ∧ s.ok c ∧ s.rk ≤ k ∧ s.few
theorem okSay.le {k m : Nat} {c : Cs} {d : D} (h : okSay k c d) (l : k ≤ m) : okSay m c d := by
  obtain ⟨s, a, b, e, f⟩ := h
  exact ⟨s, a, b, by omega, f⟩
theorem okSay.pu {k : Nat} {c : Cs} {d : D} (h : okSay k c d) (hc : c.ok) : T72.pu d = true := by
  obtain ⟨s, rfl, b, -⟩ := h
  exact Say.pu hc s b
theorem says_of {k : Nat} {c : Cs} : ∀ {xs : List D}, (∀ d ∈ xs, okSay k c d) → ∃ ss : Says, xs = ss.toDs ∧ ss.ok c ∧ ss.rk ≤ k ∧ ss.few ∧ ss.len = xs.length
  | [], _ => ⟨.nil, rfl, True.intro, Nat.zero_le _, True.intro, rfl⟩
  | d :: xs, h => by
    obtain ⟨s, e1, e2, e3, e4⟩ := h d (by simp)
    obtain ⟨ss, f1, f2, f3, f4, f5⟩ := says_of (xs := xs) fun d hd => h d (by simp [hd])
    exact ⟨.cons s ss, by simp only [Says.toDs, e1, f1], by simp only [Says.ok]; exact ⟨e2, f2⟩, by simp only [Says.rk]; omega, by simp only [Says.few]; exact ⟨e4, f4⟩, by simp [Says.len, f5]⟩
theorem p_atom (h13 : C.G 13 = sDraw) (h19 : C.G 19 = sDF 1 1 okSp) (h20 : C.G 20 = sDF 10 2 okSz) : Body C (sDF 30 3 (okSay 0)) i__law_atom 4 3 := by
  rintro ρ ds T q x - ⟨a, n, c, rfl, hc, hρ, hD, hn, k⟩
  unfold i__law_atom
  rw [ss_consS]
  simp [startD]
  intro p0 hp0
  refine c_pickLm h13 hp0 (by omega) hD (by omega) (by simp) (by simp) (by simp) fun d T1 hd hD1 K1 => ?_
  rw [ss_consS]
  have hw : ∃ w, d = .str w ∧ (WSum w ∨ WPlc w) := by
    simp at hd
    rcases hd with rfl | rfl | rfl | rfl | rfl | rfl | rfl | rfl
    · exact ⟨_, rfl, .inl (.inl rfl)⟩
    · exact ⟨_, rfl, .inl (.inr (.inl rfl))⟩
    · exact ⟨_, rfl, .inl (.inr (.inr (.inl rfl)))⟩
    · exact ⟨_, rfl, .inl (.inr (.inr (.inr rfl)))⟩
    · exact ⟨_, rfl, .inl (.inl rfl)⟩
    · exact ⟨_, rfl, .inl (.inr (.inl rfl))⟩
    · exact ⟨_, rfl, .inr (.inl rfl)⟩
    · exact ⟨_, rfl, .inr (.inr rfl)⟩
  obtain ⟨w, rfl, hw⟩ := hw
  simp
  refine ⟨rfl, ⟨rfl, rfl⟩, ?_⟩
  have inn : inF (.str w) [.str wAhead, .str wHere] = (decide (w = wAhead) || decide (w = wHere)) := by
    have := inF_map (s := w) [wAhead, wHere]
    simpa using this
  rw [inn]
  rcases hw with hw | hw
  · have e : (decide (w = wAhead) || decide (w = wHere)) = false := by rcases hw with rfl | rfl | rfl | rfl <;> decide
    rw [e]
    simp
    rw [ss_consS]
    simp
    refine c_DF h20 (by omega) rfl hc hD1 (by omega) fun d1 T2 hd1 hD2 K2 => ?_
    refine c_DF h20 (by omega) rfl hc hD2 (by omega) fun d2 T3 hd2 hD3 K3 => ?_
    obtain ⟨s1, rfl, o1⟩ := hd1
    obtain ⟨s2, rfl, o2⟩ := hd2
    exact k _ _ ⟨.cmp w s1 s2, rfl, by simp only [Say.ok]; exact ⟨hw, o1, o2⟩, Nat.le_refl _, True.intro⟩ (hD3.le (by omega)) ((K1.trans K2).trans K3)
  · have e : (decide (w = wAhead) || decide (w = wHere)) = true := by rcases hw with rfl | rfl <;> decide
    rw [e]
    simp
    rw [ss_consS]
    simp
    refine c_DF h19 (by omega) rfl hc hD1 (by omega) fun d1 T2 hd1 hD2 K2 => ?_
    refine c_DF h19 (by omega) rfl hc hD2 (by omega) fun d2 T3 hd2 hD3 K3 => ?_
    obtain ⟨s1, rfl, o1⟩ := hd1
    obtain ⟨s2, rfl, o2⟩ := hd2
    exact k _ _ ⟨.plc w s1 s2, rfl, by simp only [Say.ok]; exact ⟨hw, o1, o2⟩, Nat.le_refl _, True.intro⟩ (hD3.le (by omega)) ((K1.trans K2).trans K3)
def sJoined : Tr.Spec := ⟨fun ρ ds T q _ => ∃ a n p xs c kk, ds = [.ref a, .ref p] ∧ 1 ≤ ρ ∧ Dk T a n ∧ n + 1 < 2 ^ 60 ∧ a ≠ p ∧ T p = some (.lst xs) ∧ (∀ d ∈ xs, okSay kk c d) ∧ 2 ≤ xs.length ∧ xs.length ≤ 1000 ∧ ∀ d T', okSay (kk + 1) c d → Dk T' a (n + 1) → Kp [a] T T' → q d T'⟩
theorem p_joined (h13 : C.G 13 = sDraw) : Body C sJoined i__law_joined 3 2 := by
  rintro ρ ds T q x - ⟨a, n, p, xs, c, kk, rfl, hρ, hD, hn, hap, ep, hx, hl, hl2, k⟩
  obtain ⟨ss, rfl, o1, o2, o3, o4⟩ := says_of hx
  unfold i__law_joined
  rw [ss_consS]
  simp [startD]
  refine c_draw h13 (by omega) hD (by omega) (by omega) (by omega) fun j T1 j0 j1 hD1 K1 => ?_
  have e1 := K1 p _ ep (by simp [Ne.symm hap])
  rw [ss_consS]
  simp
  split
  · rw [ss_consS]
    simp [e1]
    exact k _ _ ⟨.all ss, rfl, by simpa only [Say.ok] using o1, by simp only [Say.rk]; omega, by simp only [Say.few]; exact ⟨o3, by omega⟩⟩ hD1 K1
  · rw [ss_consS]
    simp
    split
    · rw [ss_consS]
      simp [e1]
      cases ss with
      | nil => simp [Says.toDs] at hl
      | cons x1 ss =>
        cases ss with
        | nil => simp [Says.toDs] at hl
        | cons x2 ss =>
          simp only [Says.ok] at o1
          simp only [Says.rk] at o2
          simp only [Says.few] at o3
          simp [Says.toDs]
          exact k _ _ ⟨.imp x1 x2, rfl, by simp only [Say.ok]; exact ⟨o1.1, o1.2.1⟩, by simp only [Say.rk]; omega, by simp only [Say.few]; exact ⟨o3.1, o3.2.1⟩⟩ hD1 K1
    · rw [ss_consS]
      simp [e1]
      exact k _ _ ⟨.any ss, rfl, by simpa only [Say.ok] using o1, by simp only [Say.rk]; omega, by simp only [Say.few]; exact ⟨o3, by omega⟩⟩ hD1 K1
def bc (d : Nat) : Nat := 40 * 4 ^ d
def sBody : Tr.Spec := ⟨fun ρ ds T q _ => ∃ a n c room deep, ds = [.ref a, Cs.D c, .tup [], .int room, .int (deep : Nat)] ∧ c.ok ∧ 4 + deep ≤ ρ ∧ Dk T a n ∧ n + bc deep < 2 ^ 60 ∧ ∀ d T', okSay deep c d → Dk T' a (n + bc deep) → Kp [a] T T' → q d T'⟩
theorem c_body {r i deep : Nat} {dp : Int} {X : XE} {T : TH} {Q : Kd} (h : C.G i = sBody) (hr : 4 + deep < r) {a : Addr} {n : Nat} {c : Cs} {cd : D} {room : Int} (ec : cd = c.D) (hc : c.ok) (hd : dp = deep) (hD : Dk T a n) (hn : n + bc deep < 2 ^ 60)
    (k : ∀ d T', okSay deep c d → Dk T' a (n + bc deep) → Kp [a] T T' → Q d T') : ∃ ρ, ρ < r ∧ (C.G i).sp ρ [.ref a, cd, .tup [], .int room, .int dp] T Q X := by
  rw [h]; exact ⟨4 + deep, hr, a, n, c, room, deep, by rw [hd, ec], hc, Nat.le_refl _, hD, hn, k⟩
theorem body_tail (h22 : C.G 22 = sJoined) (h23 : C.G 23 = sBody) {ρ n m deep : Nat} {a : Addr} {c : Cs} {T T1 : TH} {q : Kd} {N : TEnds} {room way many : Int} {x7 x8 : Option D} (hN : N.rt = q) (hm : many = 2 ∨ many = 3) (hc : c.ok) (hρ : 5 + deep ≤ ρ)
    (hD1 : Dk T1 a m) (hmn : m + 3 * bc deep + 1 ≤ n) (hn : n < 2 ^ 60) (K1 : Kp [a] T T1) (k : ∀ d T', okSay (deep + 1) c d → Dk T' a n → Kp [a] T T' → q d T') :
    rdSs C ρ (dropS 6 i__law_body) N [some (.ref a), some c.D, some (.tup []), some (.int room), some (.int ((deep + 1 : Nat) : Int)), some (.int way), some (.int many), x7, x8] T1 := by
  unfold i__law_body
  simp only [dropS]
  rw [ss_consS]
  simp
  refine ⟨by omega, by omega, fun p hp => ?_⟩
  have nap := hD1.ne hp
  have np : T p = none := K1.fresh hp (by simp [Ne.symm nap])
  refine lc_ind (fun l T' => ∃ acc, T' p = some (.lst acc) ∧ (∀ d ∈ acc, okSay deep c d) ∧ acc.length + l.length = many.toNat ∧ Dk T' a (m + acc.length * bc deep) ∧ Kp [a] T T') ?_ ?_ _ _ ⟨[], upd_same, (fun _ h => by cases h), by simp, by simpa using hD1.put nap, K1.put2 np⟩
  · rintro T2 ⟨acc, ep, ha, hl, hD2, K2⟩
    rw [ss_consS]
    simp [hN]
    rw [h22]
    simp at hl
    have hb : acc.length * bc deep ≤ 3 * bc deep := Nat.mul_le_mul_right _ (by omega)
    refine ⟨1, by omega, a, _, p, acc, c, deep, rfl, by omega, hD2, by omega, nap, ep, ha, by omega, by omega, fun d T3 hd hD3 K3 => ?_⟩
    exact k d T3 hd (hD3.le (by omega)) (K2.trans K3)
  · rintro d l T2 kk ⟨acc, ep, ha, hl, hD2, K2⟩ hk
    simp at hl
    have hb : (acc.length + 1) * bc deep ≤ 3 * bc deep := Nat.mul_le_mul_right _ (by omega)
    rw [Nat.add_mul, Nat.one_mul] at hb
    refine ⟨⟨by omega, by omega⟩, ?_⟩
    refine c_body h23 (deep := deep) (by omega) rfl hc (by omega) hD2 (by omega) fun d1 T3 hd1 hD3 K3 => ?_
    have e3 := K3 p _ ep (by simp [Ne.symm nap])
    simp [e3]
    refine ⟨by omega, hk _ ⟨acc ++ [d1], upd_same, fun d hd => ?_, by simp; omega, ?_, (K2.trans K3).put2 np⟩⟩
    · rw [List.mem_append] at hd
      rcases hd with hd | hd
      · exact ha d hd
      · simp at hd; rw [hd]; exact hd1
    · have e : m + (acc ++ [d1]).length * bc deep = m + acc.length * bc deep + bc deep := by simp [Nat.add_mul]; omega
      rw [e]
      exact hD3.put nap
theorem okEmpty {c : Cs} {d : D} (h : d = .tup [.str wAnd, .tup []] ∨ d = .tup [.str wOr, .tup []]) : okSay 1 c d := by
  rcases h with rfl | rfl
  · exact ⟨.all .nil, rfl, by simp only [Say.ok, Says.ok], by simp [Say.rk, Says.rk], by simp [Say.few, Says.few, Says.len]⟩
  · exact ⟨.any .nil, rfl, by simp only [Say.ok, Says.ok], by simp [Say.rk, Says.rk], by simp [Say.few, Says.few, Says.len]⟩
theorem p_body (h13 : C.G 13 = sDraw) (h21 : C.G 21 = sDF 30 3 (okSay 0)) (h22 : C.G 22 = sJoined) (h23 : C.G 23 = sBody) : Body C sBody i__law_body 9 5 := by
  rintro ρ ds T q x - ⟨a, n, c, room, deep, rfl, hc, hρ, hD, hn, k⟩
  have b40 : 40 ≤ bc deep := by unfold bc; have := Nat.one_le_pow deep 4 (by omega); omega
  unfold i__law_body
  rw [ss_consS]
  simp [startD]
  refine c_draw h13 (by omega) hD (by omega) (by omega) (by omega) fun way T1 w0 w1 hD1 K1 => ?_
  rw [ss_consS]
  have leaf : ∀ N : TEnds, N.rt = q → rdSs C ρ (Sms.cons (Sm.ret (Ex.call 21 (Exs.cons (Ex.var 0) (Exs.cons (Ex.var 1) (Exs.cons (Ex.var 2) Exs.nil))))) Sms.nil) N [some (.ref a), some c.D, some (.tup []), some (.int room), some (.int deep), some (.int way), none, none, none] T1 := by
    intro N hN
    rw [ss_consS]
    simp [hN]
    refine c_DF h21 (by omega) rfl hc hD1 (by omega) fun d1 T2 hd1 hD2 K2 => ?_
    exact k _ _ (hd1.le (by omega)) (hD2.le (by omega)) (K1.trans K2)
  by_cases h0 : deep = 0
  · subst h0; simp; exact leaf _ rfl
  by_cases h1 : room < 2
  · simp [h0, h1]; exact leaf _ rfl
  by_cases h2 : way < 4
  · simp [h0, h1, h2]; exact leaf _ rfl
  simp [h0, h1, h2]
  obtain ⟨dp, rfl⟩ : ∃ dp, deep = dp + 1 := ⟨deep - 1, by omega⟩
  have b4 : bc (dp + 1) = 4 * bc dp := by unfold bc; rw [Nat.pow_succ]; omega
  have b10 : 40 ≤ bc dp := by unfold bc; have := Nat.one_le_pow dp 4 (by omega); omega
  rw [ss_consS]
  simp
  split
  · rw [ss_consS]
    simp
    refine c_body h23 (deep := dp) (by omega) rfl hc (by omega) hD1 (by omega) fun d1 T2 hd1 hD2 K2 => ?_
    obtain ⟨s, rfl, o1, o2, o3⟩ := hd1
    exact k _ _ ⟨.nt s, rfl, by simpa only [Say.ok] using o1, by simp only [Say.rk]; omega, by simpa only [Say.few] using o3⟩ (hD2.le (by omega)) (K1.trans K2)
  · have more : ∀ (T2 : TH), Dk T2 a (n + 2) → Kp [a] T T2 → rdSs C ρ (dropS 4 i__law_body) (endD q x) [some (.ref a), some c.D, some (.tup []), some (.int room), some (.int ((dp + 1 : Nat) : Int)), some (.int way), none, none, none] T2 := by
      intro T2 hD2 K2
      unfold i__law_body
      simp only [dropS]
      rw [ss_consS]
      simp
      intro p0 hp0
      refine c_pickL h13 hp0 (by omega) (isI 2 3) hD2 (by omega) (by simp) (by simp) (by simp) (by decide) fun d T3 hd hD3 K3 => ?_
      obtain ⟨many, rfl, m0, m1⟩ := isI_ok hd
      rw [ss_consS]
      simp
      split
      · rw [ss_consS]
        simp
        exact body_tail h22 h23 rfl (.inl rfl) hc (by omega) hD3 (n := n + bc (dp + 1)) (by omega) hn (K2.trans K3) k
      · exact body_tail h22 h23 rfl (by omega) hc (by omega) hD3 (n := n + bc (dp + 1)) (by omega) hn (K2.trans K3) k
    rw [ss_consS]
    simp
    split
    · refine c_draw h13 (by omega) hD1 (by omega) (by omega) (by omega) fun j T2 j0 j1 hD2 K2 => ?_
      simp
      split
      · rw [ss_consS]
        simp
        intro p0 hp0
        refine c_pickLm h13 hp0 (by omega) hD2 (by omega) (by simp) (by simp) (by simp) fun d T3 hd hD3 K3 => ?_
        exact k _ _ ((okEmpty (by simpa using hd)).le (by omega)) (hD3.le (by omega)) ((K1.trans K2).trans K3)
      · exact more T2 hD2 (K1.trans K2)
    · exact more T1 (hD1.le (by omega)) K1
end T72

/-! R7: deeds, blocks of them. -/
namespace T72
open Tr
open PySem (Addr PyData)
variable {C : Tr.Ctx}
abbrev wPut : List Nat := [112, 117, 116]
abbrev wSwap : List Nat := [115, 119, 97, 112]
abbrev wSet : List Nat := [115, 101, 116]
abbrev wStand : List Nat := [115, 116, 97, 110, 100]
abbrev wBegin : List Nat := [98, 101, 103, 105, 110]
abbrev wGo : List Nat := [103, 111]
/-- a plain deed -/
inductive Deed where
  | put (x y : List Nat) (s : Sz) | swap (x y z : List Nat) | set (x : List Nat) (s : Sz) | stand (x y : List Nat) | bgn (x : List Nat) | go (x : List Nat)
namespace Deed
def w : Deed → List Nat
  | put _ _ _ => wPut | swap _ _ _ => wSwap | set _ _ => wSet | stand _ _ => wStand | bgn _ => wBegin | go _ => wGo
def xs : Deed → List D
  | put x y s => [.str x, .str y, s.toD]
  | swap x y z => [.str x, .str y, .str z]
  | set x s => [.str x, s.toD]
  | stand x y => [.str x, .str y]
  | bgn x => [.str x]
  | go x => [.str x]
def toD (d : Deed) : D := .tup (.str d.w :: d.xs)
def ok (c : Cs) : Deed → Prop
  | put x y s => x ∈ c.r ∧ SpOk c y ∧ s.ok c
  | swap x y z => x ∈ c.r ∧ SpOk c y ∧ SpOk c z
  | set x s => x ∈ c.u ∧ s.ok c
  | stand x y => x ∈ c.p ∧ SpOk c y
  | bgn x => x ∈ c.p
  | go x => x ∈ c.p
theorem w_pu (d : Deed) : T72.pu (.str d.w) = true := by cases d <;> simp [w, pu_str]
theorem w_ne (d : Deed) : d.w ≠ cIf ∧ d.w ≠ cWh := by cases d <;> simp [w]
theorem xs_pu {c : Cs} (hc : c.ok) : ∀ {d : Deed}, d.ok c → d.xs.all T72.pu = true
  | put x y s, h => by simp [xs, pu_mem hc.sr h.1, h.2.1.sgn hc, Sz.pu hc h.2.2]
  | swap x y z, h => by simp [xs, pu_mem hc.sr h.1, h.2.1.sgn hc, h.2.2.sgn hc]
  | set x s, h => by simp [xs, pu_mem hc.su h.1, Sz.pu hc h.2]
  | stand x y, h => by simp [xs, pu_mem hc.sp h.1, h.2.sgn hc]
  | bgn x, h => by simp [xs, pu_mem hc.sp h]
  | go x, h => by simp [xs, pu_mem hc.sp h]
end Deed
/-- a block, typed -/
inductive Tk where
  | nil
  | oth (d : Deed) (r : Tk)
  | ifs (q : Say) (a b r : Tk)
  | whl (q : Say) (k : D) (a r : Tk)
namespace Tk
def er : Tk → Bk
  | nil => .nil
  | oth d r => .oth d.w d.xs r.er
  | ifs q a b r => .ifs q.toD a.er b.er r.er
  | whl q k a r => .whl q.toD k a.er r.er
def ok (c : Cs) : Tk → Prop
  | nil => True
  | oth d r => d.ok c ∧ r.ok c
  | ifs q a b r => (q.ok c ∧ q.rk ≤ 4 ∧ q.few) ∧ a.ok c ∧ b.ok c ∧ r.ok c
  | whl q k a r => (q.ok c ∧ q.rk ≤ 4 ∧ q.few) ∧ pu k = true ∧ a.ok c ∧ r.ok c
def app : Tk → Tk → Tk
  | nil, c => c
  | oth d r, c => oth d (r.app c)
  | ifs q a b r, c => ifs q a b (r.app c)
  | whl q k a r, c => whl q k a (r.app c)
theorem app_er : ∀ b c : Tk, (b.app c).er = b.er.app c.er
  | nil, c => rfl
  | oth d r, c => by simp [app, er, Bk.app, app_er r c]
  | ifs q a b r, c => by simp [app, er, Bk.app, app_er r c]
  | whl q k a r, c => by simp [app, er, Bk.app, app_er r c]
theorem app_ok {s : Cs} : ∀ b c : Tk, b.ok s → c.ok s → (b.app c).ok s
  | nil, c, _, h => h
  | oth d r, c, h, h' => ⟨h.1, app_ok r c h.2 h'⟩
  | ifs q a b r, c, h, h' => ⟨h.1, h.2.1, h.2.2.1, app_ok r c h.2.2.2 h'⟩
  | whl q k a r, c, h, h' => ⟨h.1, h.2.1, h.2.2.1, app_ok r c h.2.2.2 h'⟩
theorem er_ok {s : Cs} (hs : s.ok) : ∀ b : Tk, b.ok s → b.er.ok = true
  | nil, _ => rfl
  | oth d r, h => by
    have h1 := d.w_ne
    have h2 := Deed.xs_pu hs h.1
    simp only [er, Bk.ok, h1.1, h1.2, d.w_pu, er_ok hs r h.2, h2, decide_false]; rfl
  | ifs q a b r, h => by simp only [er, Bk.ok, Say.pu hs q h.1.1, er_ok hs a h.2.1, er_ok hs b h.2.2.1, er_ok hs r h.2.2.2]; rfl
  | whl q k a r, h => by simp only [er, Bk.ok, Say.pu hs q h.1.1, h.2.1, er_ok hs a h.2.2.1, er_ok hs r h.2.2.2]; rfl
end Tk
/-- what is left: deeds, whiles, ifs -/
def Lf (T : TH) (l : Addr) (x y z : Nat) : Prop := T l = some (.lst [.int x, .int y, .int z])
/-- block, deed: extra draws e, extra deeds f, the form of the result R -/
def sBD (e f rk : Nat) (R : Bk → D → Prop) : Tr.Spec := ⟨fun ρ ds T q _ => ∃ a n c rest l x y z deep, ds = [.ref a, .tup [Cs.D c, .tup rest], .ref l, .int (deep : Nat)] ∧ c.ok ∧ a ≠ l ∧ rk + 2 * deep ≤ ρ ∧ Dk T a n ∧ Lf T l x y z ∧ n + 1000 * x + 3000 * (deep + 1) < 2 ^ 60 ∧ x ≤ 1000 ∧
    ∀ (b : Tk) d x' y' z' m T', R b.er d → b.ok c → b.er.nd + x' ≤ x + f → b.er.nw + y' ≤ y → b.er.ni + z' ≤ z → b.er.ns ≤ deep → m + 1000 * x' ≤ n + 1000 * x + e → Dk T' a m → Lf T' l x' y' z' → Kp [a, l] T T' → q d T'⟩
def sDeed := sBD 990 1 10 fun b d => b.toD = [d]
def sBlock := sBD 1 0 11 fun b d => d = .tup b.toD
theorem c_BD {r i e f rk deep : Nat} {dp : Int} {R : Bk → D → Prop} {X : XE} {T : TH} {Q : Kd} (h : C.G i = sBD e f rk R) (hr : rk + 2 * deep < r) {a l : Addr} {n x y z : Nat} {c : Cs} {cd : D} {rest : List D} (ec : cd = c.D) (hd : dp = deep) (hc : c.ok) (hal : a ≠ l) (hD : Dk T a n) (hL : Lf T l x y z)
    (hn : n + 1000 * x + 3000 * (deep + 1) < 2 ^ 60) (hx : x ≤ 1000) (k : ∀ (b : Tk) d x' y' z' m T', R b.er d → b.ok c → b.er.nd + x' ≤ x + f → b.er.nw + y' ≤ y → b.er.ni + z' ≤ z → b.er.ns ≤ deep → m + 1000 * x' ≤ n + 1000 * x + e → Dk T' a m → Lf T' l x' y' z' → Kp [a, l] T T' → Q d T') :
    ∃ ρ, ρ < r ∧ (C.G i).sp ρ [.ref a, .tup [cd, .tup rest], .ref l, .int dp] T Q X := by
  rw [h]; exact ⟨_, hr, a, n, c, rest, l, x, y, z, deep, by rw [hd, ec], hc, hal, Nat.le_refl _, hD, hL, hn, hx, k⟩
theorem p_block (h13 : C.G 13 = sDraw) (h24 : C.G 24 = sDeed) : Body C sBlock i__law_block 6 4 := by
  rintro ρ ds T q X - ⟨a, n, c, rest, l, x, y, z, deep, rfl, hc, hal, hρ, hD, hL, hn, hx, k⟩
  unfold i__law_block
  rw [ss_consS]
  simp [startD]
  intro p hp
  have nap := hD.ne hp
  have nlp := ne_new hL hp
  rw [ss_consS]
  simp
  intro p0 hp0
  obtain ⟨m0, hp0'⟩ := fresh_if hp0
  have hD1 : Dk (upd T p (.lst [])) a n := hD.put nap
  refine c_pickL h13 (show upd T p (.lst []) p0 = none by simpa using hp0) (by omega) (isI 0 5) hD1 (by omega) (by simp) (by simp) (by simp) (by decide) fun d T1 hd hD2 K2 => ?_
  obtain ⟨j, rfl, j0, j1⟩ := isI_ok hd
  have ep := K2 p _ upd_same (by simp [Ne.symm nap])
  have hL2 : Lf T1 l x y z := K2 l _ (by rw [upd_at, if_neg nlp]; exact hL) (by simp [Ne.symm hal])
  have K0 : Kp [a, l] T T1 := (Kp.new hp).trans (K2.sub (by simp))
  simp
  refine ⟨by omega, by omega, ?_⟩
  refine for_ind (fun li τ T' => ∃ (d5 : Option D) (b : Tk) (x' y' z' m : Nat), τ = [some (.ref a), some (.tup [Cs.D c, .tup rest]), some (.ref l), some (.int deep), some (.ref p), d5] ∧ T' p = some (.lst b.er.toD) ∧ b.ok c ∧ b.er.nd + x' ≤ x ∧ b.er.nw + y' ≤ y ∧ b.er.ni + z' ≤ z ∧ b.er.ns ≤ deep ∧
    m + 1000 * x' ≤ n + 1000 * x + 1 ∧ Dk T' a m ∧ Lf T' l x' y' z' ∧ Kp [a, l] T T') ?_ ?_ _ _ _ ⟨none, .nil, x, y, z, n + 1, rfl, ep, True.intro, by simp [Tk.er, Bk.nd], by simp [Tk.er, Bk.nw], by simp [Tk.er, Bk.ni], by simp [Tk.er, Bk.ns], by omega, hD2, hL2, K0⟩
  · rintro τ T' ⟨d5, b, x', y', z', m, rfl, eb, b1, b2, b3, b4, b5, b6, hD', hL', K'⟩
    rw [ss_consS]
    simp [eb]
    exact k b _ x' y' z' m T' rfl b1 (by omega) b3 b4 b5 b6 hD' hL' K'
  · rintro d li τ T' kk ⟨d5, b, x', y', z', m, rfl, eb, b1, b2, b3, b4, b5, b6, hD', hL', K'⟩ hk
    have hL'' := hL'
    unfold Lf at hL'
    have npl : l ≠ p := nlp
    simp
    rw [ss_consS]
    simp [hL']
    split
    · rename_i hx0
      obtain ⟨x1, rfl⟩ : ∃ x1, x' = x1 + 1 := ⟨x' - 1, by omega⟩
      rw [ss_consS]
      simp [hL', L2.ixN]
      rw [ss_consS]
      simp
      refine ⟨⟨b.er.toD, by simp [Ne.symm npl, eb]⟩, ?_⟩
      have hL3 : Lf (upd T' l (.lst [.int (x1 : Nat), .int y', .int z'])) l x1 y' z' := upd_same
      refine c_BD h24 (deep := deep) (by omega) rfl rfl hc hal (hD'.put hal) hL3 (by omega) (by omega) fun b9 d9 x9 y9 z9 m9 T9 r1 r2 r3 r4 r5 r6 r7 hD9 hL9 K9 => ?_
      have npa : ¬ p = a := Ne.symm nap
      have npl2 : ¬ p = l := Ne.symm npl
      have e9 := K9 p (.lst b.er.toD) (by simp [npl2, eb]) (by simp [npa, npl2])
      simp [e9]
      have hlen := Bk.toD_len b.er
      refine ⟨by omega, hk _ _ ⟨_, b.app b9, x9, y9, z9, m9, rfl, by rw [Tk.app_er, Bk.app_toD, r1]; simp, Tk.app_ok _ _ b1 r2, by rw [Tk.app_er, Bk.app_nd]; omega, by rw [Tk.app_er, Bk.app_nw]; omega, by rw [Tk.app_er, Bk.app_ni]; omega, by rw [Tk.app_er, Bk.app_ns]; omega, by omega, hD9.put nap, ?_, ?_⟩⟩
      · unfold Lf at hL9 ⊢; simp [npl, hL9]
      · refine Kp.put2 (K'.trans ?_) hp
        exact (Kp.put (by simp)).trans K9
    · exact hk _ _ ⟨_, b, x', y', z', m, rfl, eb, b1, b2, b3, b4, b5, b6, hD', hL'', K'⟩
end T72

/-! Q8: deeds. -/
namespace T72
open Tr
open PySem (Addr PyData)
variable {C : Tr.Ctx}
/-- which words may be drawn -/
def okW (bu bp bi bw : Bool) : D → Bool
  | .str w => decide (w = [112, 117, 116]) || decide (w = [115, 119, 97, 112]) || (bu && decide (w = [115, 101, 116])) || (bp && (decide (w = [115, 116, 97, 110, 100]) || decide (w = [98, 101, 103, 105, 110]) || decide (w = [103, 111]))) || (bi && decide (w = cIf)) || (bw && decide (w = cWh))
  | _ => false
theorem x_opt {r : Nat} {eA eW cond : Ex} {X : XE} {τ : Env} {T : TH} {Q : Kd} {xs ws : List D} {b : Bool} (hx : xs.length ≤ 1000) (hw : ws.length ≤ 1000)
    (hA : ∀ Q : Kd, (∀ T1 p1, Kp [] T T1 → T1 p1 = some (.lst xs) → Q (.ref p1) T1) → rdE C r eA X τ T Q)
    (hW : ∀ T1 (Q : Kd), (∀ p, T1 p = none → Q (.ref p) (upd T1 p (.lst ws))) → rdE C r eW X τ T1 Q)
    (hC : ∀ T1 (Q : Kd), Kp [] T T1 → Q (.bl b) T1 → rdE C r cond X τ T1 Q)
    (k : ∀ T' p', Kp [] T T' → T' p' = some (.lst (xs ++ if b = true then ws else [])) → Q (.ref p') T') : rdE C r (.bin .add eA (.bin .mul eW (.blt .int_ (.cons cond .nil)))) X τ T Q := by
  rw [e_bin]
  refine hA _ fun T1 p1 K1 e1 => ?_
  rw [e_bin]
  refine hW T1 _ fun p2 hp2 => ?_
  rw [e_blt, es_cons]
  refine hC _ _ (K1.trans (Kp.new hp2)) ?_
  rw [es_nil, l_int, n_bl, b_mulR, upd_same]
  have n12 := ne_new e1 hp2
  have e : (List.replicate (if b = true then (1 : Int) else 0).toNat ws).flatten = if b = true then ws else [] := by cases b <;> simp
  refine ⟨by cases b <;> decide, by cases b <;> decide, by cases b <;> simp <;> omega, fun p3 hp3 => ?_⟩
  rw [e]
  have hp3' := hp3
  rw [upd_at] at hp3'
  obtain ⟨n32, h3⟩ := fresh_if hp3'
  have n13 := ne_new e1 h3
  rw [b_addR, upd_same]
  have e4 : upd (upd T1 p2 (.lst ws)) p3 (.lst (if b = true then ws else [])) p1 = some (.lst xs) := by simp [n12, n13, e1]
  rw [e4]
  refine ⟨by cases b <;> simp <;> omega, fun p4 hp4 => k _ p4 ?_ upd_same⟩
  exact ((K1.trans (Kp.new hp2)).trans (Kp.new hp3)).trans (Kp.new hp4)
theorem c_pickR {i r : Nat} {X : XE} {T : TH} (h : C.G i = sDraw) (hr : 0 < r) {a p : Addr} {k : Int} {n : Nat} {xs : List D} {V : D → TH → Prop} (P : D → Bool) (hD : Dk T a n) (hap : p ≠ a) (ep : T p = some (.lst xs)) (hn : n < 2 ^ 60) (hk : k = xs.length) (hk0 : 0 < xs.length) (hk2 : xs.length < 2 ^ 29) (hp : xs.all P = true)
    (kk : ∀ v T', P v = true → Dk T' a (n + 1) → Kp [a] T T' → V v T') : ∃ ρ, ρ < r ∧ (C.G i).sp ρ [.ref a, .int k] T (fun d T2 => ixR (.ref p) d T2 fun v => V v T2) X := by
  refine c_draw h hr hD hn (by omega) (by omega) fun j T2 j0 j1 hD2 K2 => ?_
  have e1 := K2 p _ ep (by simp [hap])
  rw [x_refI, e1]
  obtain ⟨v, ev, hv⟩ := atI_pick (xs := xs) j0 (by omega)
  exact ⟨v, ev, kk v T2 (List.all_eq_true.mp hp v hv) hD2 K2⟩
/-- the word is drawn -/
theorem deed_word (h13 : C.G 13 = sDraw) (h19 : C.G 19 = sDF 1 1 okSp) (h20 : C.G 20 = sDF 10 2 okSz) (h23 : C.G 23 = sBody) (h25 : C.G 25 = sBlock) {ρ n m x y z deep : Nat} {a l : Addr} {T T2 : TH} {q : Kd} {X : XE} {r p u : List (List Nat)} {rest : List D} {w : List Nat} {bu bp bi bw : Bool} {x5 : Option D}
    (hcast : (⟨r, p, u⟩ : Cs).ok) (hr : r ≠ []) (lr : r.length ≤ 18) (lp : p.length ≤ 18) (lu : u.length ≤ 18) (sr : SOk r) (sp : SOk p) (su : SOk u) (hal : a ≠ l) (hρ : 10 + 2 * deep ≤ ρ) (hD2 : Dk T2 a m) (hm : m ≤ n + 1) (hL2 : Lf T2 l x y z)
    (hn : n + 1000 * x + 3000 * (deep + 1) < 2 ^ 60) (hx : x ≤ 1000) (K2 : Kp [a, l] T T2)
    (k : ∀ (b : Tk) d x' y' z' m T', b.er.toD = [d] → b.ok ⟨r, p, u⟩ → b.er.nd + x' ≤ x + 1 → b.er.nw + y' ≤ y → b.er.ni + z' ≤ z → b.er.ns ≤ deep → m + 1000 * x' ≤ n + 1000 * x + 990 → Dk T' a m → Lf T' l x' y' z' → Kp [a, l] T T' → q d T')
    (hw : okW bu bp bi bw (.str w) = true) (hbu : bu = true → u ≠ []) (hbp : bp = true → p ≠ []) (hbi : bi = true → 0 < z ∧ 0 < deep) (hbw : bw = true → 0 < y ∧ 0 < deep) :
    rdSs C ρ (dropS 5 i__law_deed) (endD q X) [some (.ref a), some (.tup [.tup [.tup (r.map D.str), .tup (p.map D.str), .tup (u.map D.str)], .tup rest]), some (.ref l), some (.int deep), some (.tup [.tup (r.map D.str), .tup (p.map D.str), .tup (u.map D.str)]), x5, some (.str w), none, none, none, none, none, none] T2 := by
  have hr0 : 0 < r.length := List.length_pos_iff.mpr hr
  have sub : ∀ {T' T'' : TH}, Kp [a] T' T'' → Kp [a, l] T' T'' := fun h => h.sub (by simp)
  have lf : ∀ {T' T'' : TH}, Kp [a] T' T'' → Lf T' l x y z → Lf T'' l x y z := fun h e => h l _ e (by simp [Ne.symm hal])
  -- a plain deed
  have plain : ∀ (de : Deed) m' T', de.ok ⟨r, p, u⟩ → m' ≤ n + 500 → Dk T' a m' → Kp [a] T2 T' → q de.toD T' := fun de m' T' h1 h5 h6 h7 =>
    k (.oth de .nil) _ x y z m' T' rfl ⟨h1, True.intro⟩ (by simp [Tk.er, Bk.nd]; omega) (by simp [Tk.er, Bk.nw]) (by simp [Tk.er, Bk.ni]) (by simp [Tk.er, Bk.ns]) (by omega) h6 (lf h7 hL2) (K2.trans (sub h7))
  unfold i__law_deed
  simp only [dropS]
  rw [ss_consS]
  simp [okW] at hw
  simp
  refine ⟨rfl, ⟨rfl, rfl⟩, ?_⟩
  have inn : inF (.str w) [.str [112, 117, 116], .str [115, 119, 97, 112]] = (decide (w = [112, 117, 116]) || decide (w = [115, 119, 97, 112])) := by
    have := inF_map (s := w) [[112, 117, 116], [115, 119, 97, 112]]
    simpa using this
  rw [inn]
  have in3 : ∀ w : List Nat, inF (.str w) [.str [115, 116, 97, 110, 100], .str [98, 101, 103, 105, 110], .str [103, 111]] = (decide (w = [115, 116, 97, 110, 100]) || decide (w = [98, 101, 103, 105, 110]) || decide (w = [103, 111])) := fun w => by
    have := inF_map (s := w) [[115, 116, 97, 110, 100], [98, 101, 103, 105, 110], [103, 111]]
    simpa [Bool.or_assoc] using this
  rcases hw with ((((rfl | rfl) | ⟨h, rfl⟩) | ⟨h, (rfl | rfl) | rfl⟩) | ⟨h, rfl⟩) | ⟨h, rfl⟩
  · simp
    rw [ss_consS]
    simp
    refine c_pickTm h13 (by omega) hD2 (by omega) (by simp) (by simpa using hr0) (by simp; omega) fun d1 T3 hd1 hD3 K3 => ?_
    obtain ⟨s1, hs1, rfl⟩ := List.mem_map.mp hd1
    rw [ss_consS]
    simp
    refine c_DF h19 (c := ⟨r, p, u⟩) (by omega) rfl hcast hD3 (by omega) fun d2 T4 hd2 hD4 K4 => ?_
    rw [ss_consS]
    simp
    rw [ss_consS]
    simp
    refine c_DF h20 (c := ⟨r, p, u⟩) (by omega) rfl hcast hD4 (by omega) fun d3 T5 hd3 hD5 K5 => ?_
    obtain ⟨s2, rfl, o2⟩ := hd2
    obtain ⟨s3, rfl, o3⟩ := hd3
    exact plain (.put s1 s2 s3) _ _ ⟨hs1, o2, o3⟩ (by omega) hD5 ((K3.trans K4).trans K5)
  · simp
    rw [ss_consS]
    simp
    refine c_pickTm h13 (by omega) hD2 (by omega) (by simp) (by simpa using hr0) (by simp; omega) fun d1 T3 hd1 hD3 K3 => ?_
    obtain ⟨s1, hs1, rfl⟩ := List.mem_map.mp hd1
    rw [ss_consS]
    simp
    refine c_DF h19 (c := ⟨r, p, u⟩) (by omega) rfl hcast hD3 (by omega) fun d2 T4 hd2 hD4 K4 => ?_
    rw [ss_consS]
    simp
    rw [ss_consS]
    simp
    refine c_DF h19 (c := ⟨r, p, u⟩) (by omega) rfl hcast hD4 (by omega) fun d3 T5 hd3 hD5 K5 => ?_
    obtain ⟨s2, rfl, o2⟩ := hd2
    obtain ⟨s3, rfl, o3⟩ := hd3
    exact plain (.swap s1 s2 s3) _ _ ⟨hs1, o2, o3⟩ (by omega) hD5 ((K3.trans K4).trans K5)
  · simp
    rw [ss_consS]
    simp
    rw [ss_consS]
    simp
    have hu0 : 0 < u.length := List.length_pos_iff.mpr (hbu h)
    refine c_pickTm h13 (by omega) hD2 (by omega) (by simp) (by simpa using hu0) (by simp; omega) fun d1 T3 hd1 hD3 K3 => ?_
    obtain ⟨s1, hs1, rfl⟩ := List.mem_map.mp hd1
    refine c_DF h20 (c := ⟨r, p, u⟩) (by omega) rfl hcast hD3 (by omega) fun d3 T5 hd3 hD5 K5 => ?_
    obtain ⟨s3, rfl, o3⟩ := hd3
    exact plain (.set s1 s3) _ _ ⟨hs1, o3⟩ (by omega) hD5 (K3.trans K5)
  · simp
    rw [ss_consS]
    simp
    rw [ss_consS]
    simp
    refine ⟨rfl, ⟨rfl, rfl, rfl⟩, ?_⟩
    rw [in3, if_pos (by decide)]
    have hp0 : 0 < p.length := List.length_pos_iff.mpr (hbp h)
    rw [ss_consS]
    simp
    refine c_pickTm h13 (by omega) hD2 (by omega) (by simp) (by simpa using hp0) (by simp; omega) fun d1 T3 hd1 hD3 K3 => ?_
    obtain ⟨s1, hs1, rfl⟩ := List.mem_map.mp hd1
    rw [ss_consS]
    simp
    rw [ss_consS]
    simp
    refine c_DF h19 (c := ⟨r, p, u⟩) (by omega) rfl hcast hD3 (by omega) fun d3 T5 hd3 hD5 K5 => ?_
    obtain ⟨s3, rfl, o3⟩ := hd3
    exact plain (.stand s1 s3) _ _ ⟨hs1, o3⟩ (by omega) hD5 (K3.trans K5)
  · simp
    rw [ss_consS]
    simp
    rw [ss_consS]
    simp
    refine ⟨rfl, ⟨rfl, rfl, rfl⟩, ?_⟩
    rw [in3, if_pos (by decide)]
    have hp0 : 0 < p.length := List.length_pos_iff.mpr (hbp h)
    rw [ss_consS]
    simp
    refine c_pickTm h13 (by omega) hD2 (by omega) (by simp) (by simpa using hp0) (by simp; omega) fun d1 T3 hd1 hD3 K3 => ?_
    obtain ⟨s1, hs1, rfl⟩ := List.mem_map.mp hd1
    rw [ss_consS]
    simp
    rw [ss_consS]
    simp
    exact plain (.bgn s1) _ _ hs1 (by omega) hD3 K3
  · simp
    rw [ss_consS]
    simp
    rw [ss_consS]
    simp
    refine ⟨rfl, ⟨rfl, rfl, rfl⟩, ?_⟩
    rw [in3, if_pos (by decide)]
    have hp0 : 0 < p.length := List.length_pos_iff.mpr (hbp h)
    rw [ss_consS]
    simp
    refine c_pickTm h13 (by omega) hD2 (by omega) (by simp) (by simpa using hp0) (by simp; omega) fun d1 T3 hd1 hD3 K3 => ?_
    obtain ⟨s1, hs1, rfl⟩ := List.mem_map.mp hd1
    rw [ss_consS]
    simp
    rw [ss_consS]
    simp
    exact plain (.go s1) _ _ hs1 (by omega) hD3 K3
  · obtain ⟨hz, hd0⟩ := hbi h
    obtain ⟨dp, rfl⟩ : ∃ dp, deep = dp + 1 := ⟨deep - 1, by omega⟩
    simp
    rw [ss_consS]
    simp
    rw [ss_consS]
    simp
    refine ⟨rfl, ⟨rfl, rfl, rfl⟩, ?_⟩
    rw [in3, if_neg (by decide)]
    rw [ss_consS]
    simp
    have bc2 : bc 2 = 640 := by decide
    refine c_body h23 (deep := 2) (c := ⟨r, p, u⟩) (by omega) rfl hcast rfl hD2 (by rw [bc2]; omega) fun dq T3 hdq hD3 K3 => ?_
    rw [bc2] at hD3
    have hL3 := lf K3 hL2
    have hL3' : T3 l = some (.lst [.int x, .int y, .int z]) := hL3
    rw [ss_consS]
    simp
    rw [ss_consS]
    simp [hL3', L2.ixN]
    obtain ⟨z1, rfl⟩ : ∃ z1, z = z1 + 1 := ⟨z - 1, by omega⟩
    simp
    rw [ss_consS]
    simp
    have hL4 : Lf (upd T3 l (.lst [.int x, .int y, .int (z1 : Nat)])) l x y z1 := upd_same
    refine c_BD h25 (deep := dp) (c := ⟨r, p, u⟩) (by omega) rfl (by omega) hcast hal (hD3.put hal) hL4 (by omega) hx fun b1 d1 x1 y1 zz1 m1 T5 r1 r2 r3 r4 r5 r6 r7 hD5 hL5 K5 => ?_
    subst r1
    rw [ss_consS]
    simp
    refine c_BD h25 (deep := dp) (c := ⟨r, p, u⟩) (by omega) rfl (by omega) hcast hal hD5 hL5 (by omega) (by omega) fun b2 d2 x2 y2 z2 m2 T6 s1 s2 s3 s4 s5 s6 s7 hD6 hL6 K6 => ?_
    subst s1
    obtain ⟨sq, rfl, q1, q2, q3⟩ := hdq
    exact k (.ifs sq b1 b2 .nil) _ x2 y2 z2 m2 T6 rfl ⟨⟨q1, by omega, q3⟩, r2, s2, True.intro⟩ (by simp [Tk.er, Bk.nd]; omega) (by simp [Tk.er, Bk.nw]; omega) (by simp [Tk.er, Bk.ni]; omega) (by simp [Tk.er, Bk.ns]; omega) (by omega) hD6 hL6 (((K2.trans (sub K3)).trans (Kp.put (by simp))).trans (K5.trans K6))
  · obtain ⟨hz, hd0⟩ := hbw h
    obtain ⟨dp, rfl⟩ : ∃ dp, deep = dp + 1 := ⟨deep - 1, by omega⟩
    simp
    rw [ss_consS]
    simp
    rw [ss_consS]
    simp
    refine ⟨rfl, ⟨rfl, rfl, rfl⟩, ?_⟩
    rw [in3, if_neg (by decide)]
    rw [ss_consS]
    simp
    have bc2 : bc 2 = 640 := by decide
    refine c_body h23 (deep := 2) (c := ⟨r, p, u⟩) (by omega) rfl hcast rfl hD2 (by rw [bc2]; omega) fun dq T3 hdq hD3 K3 => ?_
    rw [bc2] at hD3
    have hL3 := lf K3 hL2
    have hL3' : T3 l = some (.lst [.int x, .int y, .int z]) := hL3
    rw [ss_consS]
    simp
    rw [ss_consS]
    simp [hL3', L2.ixN]
    obtain ⟨y1, rfl⟩ : ∃ y1, y = y1 + 1 := ⟨y - 1, by omega⟩
    simp
    have hL4 : Lf (upd T3 l (.lst [.int x, .int (y1 : Nat), .int z])) l x y1 z := upd_same
    rw [ss_consS]
    simp
    intro p0 hp0
    refine c_pickL h13 (show upd T3 l _ p0 = none by rw [upd_at]; exact hp0) (by omega) pu (hD3.put hal) (by omega) (by simp) (by simp) (by simp) (by simp [pu_str, hdq.pu hcast]) fun dk T4 hdk hD4 K4 => ?_
    have hL5 : Lf T4 l x y1 z := K4 l _ hL4 (by simp [Ne.symm hal])
    rw [ss_consS]
    simp
    refine c_BD h25 (deep := dp) (c := ⟨r, p, u⟩) (by omega) rfl (by omega) hcast hal hD4 hL5 (by omega) hx fun b1 d1 x1 yy1 zz1 m1 T5 r1 r2 r3 r4 r5 r6 r7 hD5 hL6 K5 => ?_
    subst r1
    obtain ⟨sq, rfl, q1, q2, q3⟩ := hdq
    exact k (.whl sq dk b1 .nil) _ x1 yy1 zz1 m1 T5 rfl ⟨⟨q1, by omega, q3⟩, hdk, r2, True.intro⟩ (by simp [Tk.er, Bk.nd]; omega) (by simp [Tk.er, Bk.nw]; omega) (by simp [Tk.er, Bk.ni]; omega) (by simp [Tk.er, Bk.ns]; omega) (by omega) hD5 hL6 (((K2.trans (sub K3)).trans (Kp.put (by simp))).trans ((sub K4).trans K5))
theorem p_deed (h13 : C.G 13 = sDraw) (h19 : C.G 19 = sDF 1 1 okSp) (h20 : C.G 20 = sDF 10 2 okSz) (h23 : C.G 23 = sBody) (h25 : C.G 25 = sBlock) : Body C sDeed i__law_deed 13 4 := by
  rintro ρ ds T q X - ⟨a, n, ⟨r, p, u⟩, rest, l, x, y, z, deep, rfl, hcast, hal, hρ, hD, hL, hn, hx, k⟩
  obtain ⟨hr, lr, lp, lu, sr, sp, su⟩ := id hcast
  simp only at hr lr lp lu sr sp su
  unfold i__law_deed
  rw [ss_consS]
  simp [startD, Cs.D]
  have bU : ∀ T1 (Q : Kd) (τ : Env), τ[4]? = some (some (.tup [.tup (r.map D.str), .tup (p.map D.str), .tup (u.map D.str)])) → Q (.bl (!(u.map D.str).isEmpty)) T1 → rdE C ρ (.cmp .ne (.ix (.var 4) (.con (.int 2))) (.tup .nil)) (fun c T => (endD q X).xe c τ T) τ T1 Q := by
    intro T1 Q τ hτ h
    simp [hτ]
    exact ne_unit (pu_strs su) (by simpa using h)
  rw [ss_consS, s_asgS]
  obtain ⟨bu, hbu⟩ : ∃ b, b = !(u.map D.str).isEmpty := ⟨_, rfl⟩
  obtain ⟨bp, hbp⟩ : ∃ b, b = !(p.map D.str).isEmpty := ⟨_, rfl⟩
  obtain ⟨bi, hbi⟩ : ∃ b, b = (decide (0 < z) && decide (0 < deep)) := ⟨_, rfl⟩
  obtain ⟨bw, hbw⟩ : ∃ b, b = (decide (0 < y) && decide (0 < deep)) := ⟨_, rfl⟩
  refine x_opt (ws := [.str [115, 101, 116]]) (xs := [.str [112, 117, 116], .str [115, 119, 97, 112], .str [112, 117, 116]]) (b := bu) (by decide) (by decide) (fun Q h => by simp; exact fun p1 hp1 => h _ _ (Kp.new hp1) upd_same) (fun T1 Q h => by simpa using h) (fun T1 Q _ h => bU T1 Q _ rfl (by rw [← hbu]; exact h)) fun T1 p5 K1 e5 => ?_
  have w5 : ([.str [112, 117, 116], .str [115, 119, 97, 112], .str [112, 117, 116]] ++ if bu = true then [.str [115, 101, 116]] else [] : List D).all (okW bu bp bi bw) = true ∧ ([.str [112, 117, 116], .str [115, 119, 97, 112], .str [112, 117, 116]] ++ if bu = true then [.str [115, 101, 116]] else [] : List D).length ≤ 4 ∧ 3 ≤ ([.str [112, 117, 116], .str [115, 119, 97, 112], .str [112, 117, 116]] ++ if bu = true then [.str [115, 101, 116]] else [] : List D).length := by
    cases bu <;> simp [okW]
  generalize ([.str [112, 117, 116], .str [115, 119, 97, 112], .str [112, 117, 116]] ++ if bu = true then [.str [115, 101, 116]] else [] : List D) = xs5 at e5 w5
  simp only [g_nm, setv_s, setv_0]
  rw [ss_consS, s_asgS]
  refine x_opt (ws := [.str [115, 116, 97, 110, 100], .str [98, 101, 103, 105, 110], .str [103, 111], .str [103, 111]]) (xs := xs5) (b := bp) (by omega) (by decide) (fun Q h => by simp; exact h _ _ (fun _ _ h _ => h) e5) (fun T1 Q h => by simpa using h) (fun T1 Q _ h => by
    simp
    exact ne_unit (pu_strs sp) (by rw [← hbp]; exact h)) fun T2 p6 K2 e6 => ?_
  have w6 : (xs5 ++ if bp = true then [.str [115, 116, 97, 110, 100], .str [98, 101, 103, 105, 110], .str [103, 111], .str [103, 111]] else [] : List D).all (okW bu bp bi bw) = true ∧ (xs5 ++ if bp = true then [.str [115, 116, 97, 110, 100], .str [98, 101, 103, 105, 110], .str [103, 111], .str [103, 111]] else [] : List D).length ≤ 8 ∧ 3 ≤ (xs5 ++ if bp = true then [.str [115, 116, 97, 110, 100], .str [98, 101, 103, 105, 110], .str [103, 111], .str [103, 111]] else [] : List D).length := by
    rw [List.all_append, w5.1, List.length_append]
    cases bp <;> simp [okW] <;> omega
  generalize (xs5 ++ if bp = true then [.str [115, 116, 97, 110, 100], .str [98, 101, 103, 105, 110], .str [103, 111], .str [103, 111]] else [] : List D) = xs6 at e6 w6
  simp only [g_nm, setv_s, setv_0]
  have K12 : Kp [] T T2 := K1.trans K2
  have hL2 : ∀ T3, Kp [] T2 T3 → T3 l = some (.lst [.int x, .int y, .int z]) := fun T3 K => (K12.trans K) l _ hL (by simp)
  rw [ss_consS, s_asgS]
  refine x_opt (ws := [.str cWh]) (xs := xs6 ++ if bi = true then [.str cIf] else []) (b := bw) (by cases bi <;> simp <;> omega) (by decide) (fun Q h => ?_) (fun T1 Q h => by simpa using h) (fun T3 Q K3 h => by
    have e := hL2 T3 K3
    simp [e]
    by_cases hy : 0 < y
    · simpa [hy, hbw] using h
    · simpa [hy, hbw] using h) fun T3 p7 K3 e7 => ?_
  · refine x_opt (ws := [.str cIf]) (xs := xs6) (b := bi) (by omega) (by decide) (fun Q h => by simp; exact h _ _ (fun _ _ h _ => h) e6) (fun T1 Q h => by simpa using h) (fun T3 Q K3 h => by
      have e := hL2 T3 K3
      simp [e]
      by_cases hz : 0 < z
      · simpa [hz, hbi] using h
      · simpa [hz, hbi] using h) fun T4 p8 K4 e8 => h T4 p8 K4 e8
  have w7 : ((xs6 ++ if bi = true then [.str cIf] else []) ++ if bw = true then [.str cWh] else [] : List D).all (okW bu bp bi bw) = true ∧ ((xs6 ++ if bi = true then [.str cIf] else []) ++ if bw = true then [.str cWh] else [] : List D).length ≤ 10 ∧ xs6.length ≤ ((xs6 ++ if bi = true then [.str cIf] else []) ++ if bw = true then [.str cWh] else [] : List D).length := by
    rw [List.all_append, List.all_append, w6.1, List.length_append, List.length_append]
    cases bi <;> cases bw <;> simp [okW] <;> omega
  generalize ((xs6 ++ if bi = true then [.str cIf] else []) ++ if bw = true then [.str cWh] else [] : List D) = xs7 at e7 w7
  simp only [g_nm, setv_s, setv_0]
  have K123 : Kp [] T T3 := K12.trans K3
  have hD3 : Dk T3 a n := hD.kp K123 (by simp)
  have hap7 : p7 ≠ a := by
    intro e; subst e
    obtain ⟨i, j, k, e9, _⟩ := hD3
    rw [e9] at e7
    have := Option.some.inj e7
    injection this with this
    have h1 := w7.1
    rw [← this] at h1
    simp [okW] at h1
  rw [ss_consS]
  simp [e7]
  refine c_pickR h13 (by omega) (okW bu bp bi bw) hD3 hap7 e7 (by omega) rfl (by omega) (by omega) w7.1 fun d T4 hd hD4 K4 => ?_
  cases d with
  | str w =>
    refine deed_word (bu := bu) (bp := bp) (bi := bi) (bw := bw) h13 h19 h20 h23 h25 hcast hr lr lp lu sr sp su hal hρ hD4 (Nat.le_refl _) (K4 l _ (hL2 T3 K3) (by simp [Ne.symm hal])) hn hx (K123.nil.trans (K4.sub (by simp))) k hd ?_ ?_ ?_ ?_
    · intro h; rw [h] at hbu; intro e; subst e; simp at hbu
    · intro h; rw [h] at hbp; intro e; subst e; simp at hbp
    · intro h; rw [h] at hbi; simpa using hbi.symm
    · intro h; rw [h] at hbw; simpa using hbw.symm
  | _ => cases hd
end T72

/-! R9: _law_program. -/
namespace T72
open Tr
open PySem (Addr PyData)
variable {C : Tr.Ctx}
def sProgram : Tr.Spec := ⟨fun ρ ds T q _ => ∃ a n, ds = [.ref a, .int 3] ∧ 25 ≤ ρ ∧ Dk T a n ∧ n + 1000000 < 2 ^ 60 ∧ ∀ (c : Cs) (f e : D) (b : Tk) m T', c.ok → b.ok c → b.er.nd ≤ 22 → b.er.nw ≤ 3 → b.er.ni ≤ 3 → b.er.ns ≤ 3 → m ≤ n + 1000000 → Dk T' a m → Kp [a] T T' → q (.tup [c.D, f, .tup b.er.toD, e]) T'⟩
theorem Kp.drop {a l : Addr} {T T' : TH} (h : Kp [a, l] T T') (hl : T l = none) : Kp [a] T T' := fun b o e hb => h b o e (by
  simp at hb ⊢
  exact ⟨hb, fun q => by subst q; rw [hl] at e; cases e⟩)
theorem p_program (h13 : C.G 13 = sDraw) (h17 : C.G 17 = sWorld) (h23 : C.G 23 = sBody) (h25 : C.G 25 = sBlock) : Body C sProgram i__law_program 7 2 := by
  rintro ρ ds T q X - ⟨a, n, rfl, hρ, hD, hn, k⟩
  unfold i__law_program
  rw [ss_consS]
  simp [startD]
  rw [h17]
  refine ⟨3, by omega, a, n, rfl, by omega, hD, by omega, fun cd rest T1 hcd hD1 K1 => ?_⟩
  obtain ⟨c, rfl, hc⟩ := hcd.cs
  rw [ss_consS]
  simp
  intro p1 hp1 p2 hp2
  obtain ⟨m21, hp2'⟩ := fresh_if hp2
  intro p3 hp3
  obtain ⟨m32, hp3'⟩ := fresh_if hp3
  obtain ⟨m31, hp3''⟩ := fresh_if hp3'
  have na1 := hD1.ne hp1
  have na2 := hD1.ne hp2'
  have na3 := hD1.ne hp3''
  generalize hT2 : upd (upd (upd T1 p1 _) p2 _) p3 _ = T2
  have e1 : T2 p1 = some (.lst [.int 8, .int 2, .int 2]) := by rw [← hT2]; simp [Ne.symm m31, Ne.symm m21]
  have e2 : T2 p2 = some (.lst [.int 22, .int 3, .int 3]) := by rw [← hT2]; simp [Ne.symm m32]
  have e3 : T2 p3 = some (.lst [.ref p1, .ref p2]) := by rw [← hT2]; exact upd_same
  have hD2 : Dk T2 a (n + 200) := by rw [← hT2]; exact ((hD1.put na1).put na2).put na3
  have K2 : Kp [] T1 T2 := by rw [← hT2]; exact ((Kp.new hp1).put2 hp2').put2 hp3''
  clear hT2
  refine c_draw h13 (by omega) hD2 (by omega) (by omega) (by omega) fun j T3 j0 j1 hD3 K3 => ?_
  have f1 := K3 p1 _ e1 (by simp [Ne.symm na1])
  have f2 := K3 p2 _ e2 (by simp [Ne.symm na2])
  have f3 := K3 p3 _ e3 (by simp [Ne.symm na3])
  have KT : Kp [a] T T3 := (K1.trans K2.nil).trans K3
  simp [f3]
  -- which of the two
  have go : ∀ (l : Addr) (x y z : Nat), Lf T3 l x y z → a ≠ l → T l = none → x ≤ 22 → y ≤ 3 → z ≤ 3 → rdSs C ρ (dropS 2 i__law_program) (endD q X) [some (.ref a), some (.int 3), some (.tup [c.D, .tup rest]), some (.ref l), none, none, none] T3 := by
    intro l x y z hL hal hl hx hy hz
    unfold i__law_program
    simp only [dropS]
    rw [ss_consS]
    simp
    have bc1 : bc 1 = 160 := by decide
    refine c_body h23 (deep := 1) (by omega) rfl hc rfl hD3 (by rw [bc1]; omega) fun dq T4 hdq hD4 K4 => ?_
    rw [bc1] at hD4
    intro p4 hp4
    have na4 := hD4.ne hp4
    have hL4 : Lf T4 l x y z := K4 l _ hL (by simp [Ne.symm hal])
    have nl4 : l ≠ p4 := ne_new hL4 hp4
    have np4 : T p4 = none := (KT.trans K4).fresh hp4 (by simp [Ne.symm na4])
    rw [ss_consS]
    simp
    refine c_pickR h13 (by omega) pu (hD4.put na4) (Ne.symm na4) upd_same (by omega) rfl (by simp) (by simp) (by simp [pu_str, hdq.pu hc]) fun d1 T5 hd1 hD5 K5 => ?_
    have e5 := K5 p4 _ upd_same (by simp [Ne.symm na4])
    have hL5 : Lf T5 l x y z := K5 l _ (by rw [upd_at, if_neg nl4]; exact hL4) (by simp [Ne.symm hal])
    have K5T : Kp [a] T T5 := ((KT.trans K4).put2 np4).trans K5
    rw [ss_consS]
    simp
    refine c_BD h25 (deep := 3) (by omega) rfl rfl hc hal hD5 hL5 (by omega) (by omega) fun b d x' y' z' m T6 r1 r2 r3 r4 r5 r6 r7 hD6 hL6 K6 => ?_
    subst r1
    have e6 := K6 p4 _ e5 (by simp [Ne.symm na4, Ne.symm nl4])
    rw [ss_consS]
    simp
    refine c_pickR h13 (by omega) pu hD6 (Ne.symm na4) e6 (by omega) rfl (by simp) (by simp) (by simp [pu_str, hdq.pu hc]) fun d2 T7 hd2 hD7 K7 => ?_
    refine k c _ _ b _ _ hc r2 (by omega) (by omega) (by omega) r6 (by omega) hD7 ?_
    exact Kp.trans (Kp.drop ((K5T.sub (by simp)).trans K6) hl) K7
  have t1 : T p1 = none := K1.fresh hp1 (by simp [Ne.symm na1])
  have t2 : T p2 = none := K1.fresh hp2' (by simp [Ne.symm na2])
  by_cases hj : j = 5
  · simp [hj]
    exact go p2 22 3 3 f2 na2 t2 (by omega) (by omega) (by omega)
  · simp [hj]
    exact go p1 8 2 2 f1 na1 t1 (by omega) (by omega) (by omega)
end T72

set_option Elab.async false
set_option linter.all false
set_option maxRecDepth 100000
set_option maxHeartbeats 4000000
/-! RA: standings; what a place, a sum, a saying is in one. -/
namespace T72
open Tr
open PySem (Addr PyData)
variable {C : Tr.Ctx}
section
variable {T : TH} {R : Ty → Prop} {P : Bool → Prop} {Q : Kd}
@[simp ↓ high] theorem g_cc {τ : Env} {t : Tg} {ts : List Tg} {d : D} {ds : List D} {k : Env → Prop} : bindTs (t :: ts) (d :: ds) T τ k = bindT t d T τ fun τ' => bindTs ts ds T τ' k :=
  propext ⟨fun ⟨_, _, e, h⟩ => by cases e; exact h, fun h => ⟨_, _, rfl, h⟩⟩
@[simp ↓ high] theorem g_nn {τ : Env} {k : Env → Prop} : bindTs [] [] T τ k = k τ := propext ⟨fun h => h.2, fun h => ⟨rfl, h⟩⟩
@[simp ↓ high] theorem g_tpt {τ : Env} {ts : List Tg} {ds : List D} {k : Env → Prop} : bindT (.tp ts) (.tup ds) T τ k = bindTs ts ds T τ k :=
  propext ⟨fun ⟨_, e, h⟩ => by cases e; exact h, fun h => ⟨_, rfl, h⟩⟩
@[simp ↓ high] theorem g_tpw {τ : Env} {ts : List Tg} {ds : List D} {k : Env → Prop} : bindT (.tp ts) (.wtup ds) T τ k = bindTs ts ds T τ k :=
  propext ⟨fun ⟨_, e, h⟩ => by cases e; exact h, fun h => ⟨_, rfl, h⟩⟩
@[simp ↓] theorem y_bl {b : Bool} : tyR (.bl b) T R = R .bool := rfl
@[simp ↓] theorem y_int {b : Int} : tyR (.int b) T R = R .int := rfl
@[simp ↓] theorem y_str {b : List Nat} : tyR (.str b) T R = R .str := rfl
@[simp ↓] theorem y_tup {b : List D} : tyR (.tup b) T R = R .tuple := rfl
@[simp ↓] theorem y_non : tyR .non T R = R .none := rfl
@[simp ↓] theorem c_neI {a b : Int} : cmpR .ne (.int a) (.int b) T P = P (!decide (a = b)) := rfl
@[simp ↓] theorem c_neS {a b : List Nat} : cmpR .ne (.str a) (.str b) T P = P (!decide (a = b)) := rfl
@[simp ↓] theorem c_eqB {a b : Bool} : cmpR .eq (.bl a) (.bl b) T P = P (decide (a = b)) := rfl
@[simp ↓] theorem c_neB {a b : Bool} : cmpR .ne (.bl a) (.bl b) T P = P (!decide (a = b)) := rfl
@[simp ↓] theorem c_is_str {s : List Nat} : cmpR .is_ (.str s) .non T P = P false := rfl
@[simp ↓] theorem c_isn_str {s : List Nat} : cmpR .isn (.str s) .non T P = P true := rfl
@[simp ↓] theorem m_bt7 {s : List D} : bmT .tindex (.tup s) T = True := rfl
/-- the first place of a name -/
def idx (l : List (List Nat)) (s : List Nat) : Nat := (l.idxOf? s).getD 0
theorem idx_some : ∀ {l : List (List Nat)} {s : List Nat}, s ∈ l → ∃ j, l.idxOf? s = some j ∧ j < l.length
  | x :: l, s, h => by
    rw [List.idxOf?_cons]
    by_cases e : x = s
    · exact ⟨0, by simp [e], by simp⟩
    · have h' : s ∈ l := by
        rcases List.mem_cons.mp h with h | h
        · exact absurd h.symm e
        · exact h
      obtain ⟨j, e1, e2⟩ := idx_some h'
      exact ⟨j + 1, by simp [e, e1], by simp; omega⟩
theorem idx_ok {l : List (List Nat)} {s : List Nat} (h : s ∈ l) : l.idxOf? s = some (idx l s) ∧ idx l s < l.length := by
  obtain ⟨j, e1, e2⟩ := idx_some h
  unfold idx
  rw [e1]
  exact ⟨rfl, e2⟩
theorem m_tix {l : List (List Nat)} {s : List Nat} (h : s ∈ l) : bmR .tindex (.tup (l.map D.str)) [.str s] T Q = Q (.int (idx l s : Nat)) T := by
  have e := (idx_ok h).1
  show (∃ ys j, strsOf (l.map D.str) = some ys ∧ ys.idxOf? s = some j ∧ Q (.int (j : Nat)) T) = _
  apply propext
  constructor
  · rintro ⟨ys, j, e1, e2, hq⟩
    rw [strsOf_map] at e1
    cases e1
    rw [e] at e2
    cases e2
    exact hq
  · exact fun hq => ⟨l, _, strsOf_map l, e, hq⟩
end
/-- a standing -/
structure Stn where
  rows : List (List Int)
  pls : List Nat
  nums : List Int
def rowD (r : List Int) : D := .tup (r.map D.int)
def plD (n : Nat) : D := .int (n : Nat)
def Stn.D (s : Stn) : D := .tup [.tup (s.rows.map rowD), .tup (s.pls.map plD), .tup (s.nums.map D.int)]
/-- how many places -/
def Stn.many (s : Stn) : Nat := (s.rows.headD []).length
structure Stn.ok (c : Cs) (s : Stn) : Prop where
  rl : s.rows.length = c.r.length
  pl : s.pls.length = c.p.length
  nl : s.nums.length = c.u.length
  rw : ∀ r ∈ s.rows, r.length = s.many
  pw : ∀ p ∈ s.pls, p ≤ s.many
  mm : s.many ≤ 1000
theorem Stn.ok.cons {c : Cs} {s : Stn} (h : s.ok c) (hc : c.ok) : ∃ r0 rs, s.rows = r0 :: rs ∧ s.many = r0.length := by
  cases e : s.rows with
  | nil =>
    have := h.rl
    rw [e] at this
    exact absurd (List.eq_nil_of_length_eq_zero this.symm) hc.hr
  | cons r0 rs => exact ⟨r0, rs, rfl, by unfold Stn.many; rw [e]; rfl⟩
theorem Stn.ok.row {c : Cs} {s : Stn} (h : s.ok c) {x : List Nat} (hx : x ∈ c.r) : ∃ r, s.rows[idx c.r x]? = some r ∧ r.length = s.many := by
  have hl : idx c.r x < s.rows.length := by rw [h.rl]; exact (idx_ok hx).2
  exact ⟨s.rows[idx c.r x], List.getElem?_eq_getElem hl, h.rw _ (List.getElem_mem hl)⟩
theorem Stn.ok.pla {c : Cs} {s : Stn} (h : s.ok c) {x : List Nat} (hx : x ∈ c.p) : ∃ p, s.pls[idx c.p x]? = some p ∧ p ≤ s.many := by
  have hl : idx c.p x < s.pls.length := by rw [h.pl]; exact (idx_ok hx).2
  exact ⟨s.pls[idx c.p x], List.getElem?_eq_getElem hl, h.pw _ (List.getElem_mem hl)⟩
theorem Stn.ok.num {c : Cs} {s : Stn} (h : s.ok c) {x : List Nat} (hx : x ∈ c.u) : ∃ n, s.nums[idx c.u x]? = some n := by
  have hl : idx c.u x < s.nums.length := by rw [h.nl]; exact (idx_ok hx).2
  exact ⟨s.nums[idx c.u x], List.getElem?_eq_getElem hl⟩
/-- where a name stands -/
def plv (c : Cs) (s : Stn) (x : List Nat) : Nat := if x = wEnd then s.many else (s.pls[idx c.p x]?).getD 0
theorem plv_le {c : Cs} {s : Stn} (h : s.ok c) {x : List Nat} (hx : SpOk c x) : plv c s x ≤ s.many := by
  unfold plv
  split
  · exact Nat.le_refl _
  · rename_i hn
    obtain ⟨p, e, hp⟩ := h.pla (hx.resolve_right hn)
    rw [e]; exact hp
def Sz.val (c : Cs) (s : Stn) : Sz → Int
  | .num m => m
  | .nam x m => m + (s.nums[idx c.u x]?).getD 0
  | .row x y m => m + if plv c s y = s.many then 0 else (((s.rows[idx c.r x]?).getD [])[plv c s y]?).getD 0
def isSo (w : List Nat) (a b : Int) : Bool := if w = wMost then decide (a ≤ b) else if w = wLess then decide (a < b) else if w = wSame then decide (a = b) else !decide (a = b)
def stSo (w : List Nat) (a b : Nat) : Bool := if w = wAhead then decide (a < b) else decide (a = b)
mutual
def Say.val (c : Cs) (s : Stn) : Say → Bool
  | .cmp w a b => isSo w (a.val c s) (b.val c s)
  | .plc w x y => stSo w (plv c s x) (plv c s y)
  | .nt x => !x.val c s
  | .imp x y => !x.val c s || y.val c s
  | .all xs => (xs.vals c s).all id
  | .any xs => (xs.vals c s).any id
def Says.vals (c : Cs) (s : Stn) : Says → List Bool
  | .nil => []
  | .cons x xs => x.val c s :: xs.vals c s
end
/-! ### the program's own readings -/
def sLen : Tr.Spec := ⟨fun _ ds T q _ => ∃ (c : Cs) (s : Stn), ds = [s.D] ∧ c.ok ∧ s.ok c ∧ q (.int (s.many : Nat)) T⟩
theorem c_len {r i : Nat} {X : XE} {T : TH} {Q : Kd} (h : C.G i = sLen) (hr : 0 < r) {c : Cs} {s : Stn} {sd : D} (es : sd = s.D) (hc : c.ok) (hs : s.ok c) (k : Q (.int (s.many : Nat)) T) : ∃ ρ, ρ < r ∧ (C.G i).sp ρ [sd] T Q X := by
  rw [h]; exact ⟨0, hr, c, s, by rw [es], hc, hs, k⟩
theorem p_len : Body C sLen i_length_of 1 1 := by
  rintro ρ ds T q X - ⟨c, s, rfl, hc, hs, k⟩
  obtain ⟨r0, rs, e1, e2⟩ := hs.cons hc
  rw [e2] at k
  unfold i_length_of
  rw [ss_consS]
  simp [startD, Stn.D, e1, rowD]
  exact k
def sPlace : Tr.Spec := ⟨fun ρ ds T q _ => ∃ (c : Cs) (s : Stn) (x : List Nat), ds = [c.D, s.D, .str x] ∧ 1 ≤ ρ ∧ c.ok ∧ s.ok c ∧ SpOk c x ∧ q (.int (plv c s x : Nat)) T⟩
theorem c_place {r i : Nat} {X : XE} {T : TH} {Q : Kd} (h : C.G i = sPlace) (hr : 1 < r) {c : Cs} {s : Stn} {cd sd : D} {x : List Nat} (ec : cd = c.D) (es : sd = s.D) (hc : c.ok) (hs : s.ok c) (hx : SpOk c x) (k : Q (.int (plv c s x : Nat)) T) : ∃ ρ, ρ < r ∧ (C.G i).sp ρ [cd, sd, .str x] T Q X := by
  rw [h]; exact ⟨1, hr, c, s, x, by rw [ec, es], Nat.le_refl _, hc, hs, hx, k⟩
theorem p_place (hg : C.glb 0 = .str wEnd) (h27 : C.G 27 = sLen) : Body C sPlace i_place_of 3 3 := by
  rintro ρ ds T q X - ⟨c, s, x, rfl, hρ, hc, hs, hx, k⟩
  unfold i_place_of
  rw [ss_consS]
  simp [startD, hg]
  by_cases e : x = wEnd
  · simp [e]
    rw [ss_consS]
    simp
    refine c_len h27 (by omega) rfl hc hs ?_
    simpa [plv, e] using k
  · simp [e]
    rw [ss_consS]
    have hp := hx.resolve_right e
    obtain ⟨p, e1, -⟩ := hs.pla hp
    simp [Cs.D, Stn.D, m_tix hp, e1, plD]
    simpa [plv, e, e1] using k
def sNumAt : Tr.Spec := ⟨fun ρ ds T q _ => ∃ (c : Cs) (s : Stn) (x : List Nat) (p : Nat), ds = [c.D, s.D, .str x, .int (p : Nat)] ∧ 1 ≤ ρ ∧ c.ok ∧ s.ok c ∧ x ∈ c.r ∧ p ≤ s.many ∧ q (.int (if p = s.many then 0 else (((s.rows[idx c.r x]?).getD [])[p]?).getD 0)) T⟩
theorem p_numAt (h27 : C.G 27 = sLen) : Body C sNumAt i_number_at 4 4 := by
  rintro ρ ds T q X - ⟨c, s, x, p, rfl, hρ, hc, hs, hx, hp, k⟩
  unfold i_number_at
  rw [ss_consS]
  simp [startD]
  refine c_len h27 (by omega) rfl hc hs ?_
  by_cases e : p = s.many
  · simp [e]
    rw [ss_consS]
    simp
    simpa [e] using k
  · have e' : ¬ ((p : Int) = (s.many : Int)) := by omega
    simp [e']
    rw [ss_consS]
    obtain ⟨r, e1, e2⟩ := hs.row hx
    have hl : p < r.length := by omega
    simp [Cs.D, Stn.D, m_tix hx, e1, rowD, List.getElem?_eq_getElem hl]
    simpa [e, e1, List.getElem?_eq_getElem hl] using k
def sPlBy : Tr.Spec := ⟨fun ρ ds T q _ => ∃ (c : Cs) (s : Stn) (x : List Nat) (f : Addr), ds = [c.D, s.D, .ref f, .str x] ∧ 2 ≤ ρ ∧ c.ok ∧ s.ok c ∧ SpOk c x ∧ T f = some (.dic []) ∧ q (.int (plv c s x : Nat)) T⟩
theorem c_plBy {r i : Nat} {X : XE} {T : TH} {Q : Kd} (h : C.G i = sPlBy) (hr : 2 < r) {c : Cs} {s : Stn} {cd sd : D} {x : List Nat} {f : Addr} (ec : cd = c.D) (es : sd = s.D) (hc : c.ok) (hs : s.ok c) (hx : SpOk c x) (ef : T f = some (.dic [])) (k : Q (.int (plv c s x : Nat)) T) : ∃ ρ, ρ < r ∧ (C.G i).sp ρ [cd, sd, .ref f, .str x] T Q X := by
  rw [h]; exact ⟨2, hr, c, s, x, f, by rw [ec, es], Nat.le_refl _, hc, hs, hx, ef, k⟩
theorem p_plBy (h28 : C.G 28 = sPlace) : Body C sPlBy i_place_by 4 4 := by
  rintro ρ ds T q X - ⟨c, s, x, f, rfl, hρ, hc, hs, hx, ef, k⟩
  unfold i_place_by
  rw [ss_consS]
  simp [startD, ef, dkOf, dget]
  rw [ss_consS]
  simp
  exact c_place h28 (by omega) rfl rfl hc hs hx k
def sWoBy : Tr.Spec := ⟨fun ρ ds T q _ => ∃ (c : Cs) (s : Stn) (z : Sz) (f : Addr), ds = [c.D, s.D, .ref f, z.toD] ∧ 3 ≤ ρ ∧ c.ok ∧ s.ok c ∧ z.ok c ∧ T f = some (.dic []) ∧ q (.int (z.val c s)) T⟩
theorem c_woBy {r i : Nat} {X : XE} {T : TH} {Q : Kd} (h : C.G i = sWoBy) (hr : 3 < r) {c : Cs} {s : Stn} {cd sd zd : D} {z : Sz} {f : Addr} (ec : cd = c.D) (es : sd = s.D) (ez : zd = z.toD) (hc : c.ok) (hs : s.ok c) (hz : z.ok c) (ef : T f = some (.dic [])) (k : Q (.int (z.val c s)) T) : ∃ ρ, ρ < r ∧ (C.G i).sp ρ [cd, sd, .ref f, zd] T Q X := by
  rw [h]; exact ⟨3, hr, c, s, z, f, by rw [ec, es, ez], Nat.le_refl _, hc, hs, hz, ef, k⟩
theorem p_woBy (h29 : C.G 29 = sNumAt) (h30 : C.G 30 = sPlBy) : Body C sWoBy i_worth_by 6 4 := by
  rintro ρ ds T q X - ⟨c, s, z, f, rfl, hρ, hc, hs, hz, ef, k⟩
  unfold i_worth_by
  rw [ss_consS]
  cases z with
  | num m =>
    simp [startD, Sz.toD, -g_tp, -g_cn, -g_nl]
    rw [ss_consS]
    simp
    rw [ss_consS]
    simp
    exact k
  | nam x m =>
    simp [startD, Sz.toD, -g_tp, -g_cn, -g_nl]
    rw [ss_consS]
    simp
    rw [ss_consS]
    simp
    rw [ss_consS]
    have hx : x ∈ c.u := hz
    obtain ⟨n, e1⟩ := hs.num hx
    simp [Cs.D, Stn.D, m_tix hx, e1]
    simpa [Sz.val, e1] using k
  | row x y m =>
    simp [startD, Sz.toD, -g_tp, -g_cn, -g_nl]
    rw [ss_consS]
    simp
    rw [ss_consS]
    simp
    rw [ss_consS]
    simp
    refine c_plBy h30 (by omega) rfl rfl hc hs hz.2 ef ?_
    rw [h29]
    refine ⟨1, by omega, c, s, x, _, rfl, Nat.le_refl _, hc, hs, hz.1, plv_le hs hz.2, ?_⟩
    simp
    exact k
def sWorth : Tr.Spec := ⟨fun ρ ds T q _ => ∃ (c : Cs) (s : Stn) (z : Sz), ds = [c.D, s.D, z.toD] ∧ 4 ≤ ρ ∧ c.ok ∧ s.ok c ∧ z.ok c ∧ ∀ T', Kp [] T T' → q (.int (z.val c s)) T'⟩
theorem c_worth {r i : Nat} {X : XE} {T : TH} {Q : Kd} (h : C.G i = sWorth) (hr : 4 < r) {c : Cs} {s : Stn} {cd sd zd : D} {z : Sz} (ec : cd = c.D) (es : sd = s.D) (ez : zd = z.toD) (hc : c.ok) (hs : s.ok c) (hz : z.ok c) (k : ∀ T', Kp [] T T' → Q (.int (z.val c s)) T') : ∃ ρ, ρ < r ∧ (C.G i).sp ρ [cd, sd, zd] T Q X := by
  rw [h]; exact ⟨4, hr, c, s, z, by rw [ec, es, ez], Nat.le_refl _, hc, hs, hz, k⟩
theorem p_worth (h31 : C.G 31 = sWoBy) : Body C sWorth i_worth 3 3 := by
  rintro ρ ds T q X - ⟨c, s, z, rfl, hρ, hc, hs, hz, k⟩
  unfold i_worth
  rw [ss_consS]
  simp [startD]
  intro p hp
  exact c_woBy h31 (by omega) rfl rfl rfl hc hs hz upd_same (k _ (Kp.new hp))
def sIsSo : Tr.Spec := ⟨fun _ ds T q _ => ∃ (w : List Nat) (a b : Int), ds = [.str w, .int a, .int b] ∧ WSum w ∧ q (.bl (isSo w a b)) T⟩
theorem p_isSo : Body C sIsSo i_is_so 3 3 := by
  rintro ρ ds T q X - ⟨w, a, b, rfl, hw, k⟩
  unfold i_is_so
  rcases hw with rfl | rfl | rfl | rfl
  · rw [ss_consS]
    simp [startD]
    rw [ss_consS]
    simp
    simpa [isSo] using k
  · rw [ss_consS]
    simp [startD]
    rw [ss_consS]
    simp
    rw [ss_consS]
    simp
    simpa [isSo] using k
  · rw [ss_consS]
    simp [startD]
    rw [ss_consS]
    simp
    rw [ss_consS]
    simp
    rw [ss_consS]
    simp
    simpa [isSo] using k
  · rw [ss_consS]
    simp [startD]
    rw [ss_consS]
    simp
    rw [ss_consS]
    simp
    rw [ss_consS]
    simp
    rw [ss_consS]
    simp
    simpa [isSo] using k
def sStSo : Tr.Spec := ⟨fun _ ds T q _ => ∃ (w : List Nat) (a b : Nat), ds = [.str w, .int (a : Nat), .int (b : Nat)] ∧ WPlc w ∧ q (.bl (stSo w a b)) T⟩
theorem p_stSo : Body C sStSo i_stand_so 3 3 := by
  rintro ρ ds T q X - ⟨w, a, b, rfl, hw, k⟩
  unfold i_stand_so
  have e : (((a : Nat) : Int) = ((b : Nat) : Int)) = (a = b) := propext (by omega)
  rcases hw with rfl | rfl
  · rw [ss_consS]
    simp [startD]
    rw [ss_consS]
    simp
    simpa [stSo] using k
  · rw [ss_consS]
    simp [startD]
    rw [ss_consS]
    simp
    rw [ss_consS]
    simp
    simpa [stSo, e] using k
end T72

/-! RB: a saying holds. -/
namespace T72
open Tr
open PySem (Addr PyData)
variable {C : Tr.Ctx}
section
variable {T : TH} {Q : Kd}
@[simp ↓] theorem l_all {a : Addr} : bltR .all_ [.ref a] T Q = (match T a with | some (.lst xs) => ∃ bs, blsOf xs = some bs ∧ Q (.bl (bs.all id)) T | _ => False) := rfl
@[simp ↓] theorem l_any {a : Addr} : bltR .any_ [.ref a] T Q = (match T a with | some (.lst xs) => ∃ bs, blsOf xs = some bs ∧ Q (.bl (bs.any id)) T | _ => False) := rfl
end
@[simp] theorem blsOf_map : ∀ l : List Bool, blsOf (l.map D.bl) = some l
  | [] => rfl
  | b :: l => by
    show (blsOf (l.map D.bl)).map (b :: ·) = _
    rw [blsOf_map l]; rfl
def sHoBy : Tr.Spec := ⟨fun ρ ds T q _ => ∃ (c : Cs) (s : Stn) (y : Say) (f : Addr), ds = [c.D, s.D, .ref f, y.toD] ∧ y.rk + 4 ≤ ρ ∧ c.ok ∧ s.ok c ∧ y.ok c ∧ y.few ∧ T f = some (.dic []) ∧ ∀ T', Kp [] T T' → q (.bl (y.val c s)) T'⟩
theorem c_hoBy {r i : Nat} {X : XE} {T : TH} {Q : Kd} (h : C.G i = sHoBy) {c : Cs} {s : Stn} {cd sd yd : D} {y : Say} {f : Addr} (hr : y.rk + 4 < r) (ec : cd = c.D) (es : sd = s.D) (ey : yd = y.toD) (hc : c.ok) (hs : s.ok c) (hy : y.ok c) (hf : y.few) (ef : T f = some (.dic []))
    (k : ∀ T', Kp [] T T' → Q (.bl (y.val c s)) T') : ∃ ρ, ρ < r ∧ (C.G i).sp ρ [cd, sd, .ref f, yd] T Q X := by
  rw [h]; exact ⟨_, hr, c, s, y, f, by rw [ec, es, ey], Nat.le_refl _, hc, hs, hy, hf, ef, k⟩
theorem p_hoBy (h30 : C.G 30 = sPlBy) (h31 : C.G 31 = sWoBy) (h33 : C.G 33 = sIsSo) (h34 : C.G 34 = sStSo) (h35 : C.G 35 = sHoBy) : Body C sHoBy i_holds_by 9 4 := by
  rintro ρ ds T q X - ⟨c, s, y, f, rfl, hρ, hc, hs, hy, hf, ef, k⟩
  unfold i_holds_by
  cases y with
  | nt x =>
    simp only [Say.ok] at hy
    simp only [Say.rk] at hρ
    simp only [Say.few] at hf
    rw [ss_consS]
    simp [startD, Say.toD]
    rw [ss_consS]
    simp
    rw [ss_consS]
    simp
    refine c_hoBy h35 (by omega) rfl rfl rfl hc hs hy hf ef fun T' K => ?_
    simp
    have := k T' K
    simpa [Say.val] using this
  | imp x y =>
    simp only [Say.ok] at hy
    simp only [Say.rk] at hρ
    simp only [Say.few] at hf
    rw [ss_consS]
    simp [startD, Say.toD]
    rw [ss_consS]
    simp
    rw [ss_consS]
    simp
    rw [ss_consS]
    simp
    refine c_hoBy h35 (by omega) rfl rfl rfl hc hs hy.1 hf.1 ef fun T' K => ?_
    simp
    cases e : x.val c s with
    | false =>
      simp
      have := k T' K
      simpa [Say.val, e] using this
    | true =>
      simp
      refine c_hoBy h35 (by omega) rfl rfl rfl hc hs hy.2 hf.2 (K _ _ ef (by simp)) fun T2 K2 => ?_
      have := k T2 (K.trans K2)
      simpa [Say.val, e] using this
  | all xs =>
    simp only [Say.ok] at hy
    simp only [Say.rk] at hρ
    simp only [Say.few] at hf
    obtain ⟨hf, hl⟩ := hf
    rw [ss_consS]
    simp [startD, Say.toD]
    rw [ss_consS]
    simp
    rw [ss_consS]
    simp
    rw [ss_consS]
    simp
    rw [ss_consS]
    simp
    intro p hp
    refine lc_ind (fun li T' => ∃ (dn : List Bool) (td : Says), li = td.toDs ∧ xs.vals c s = dn ++ td.vals c s ∧ T' p = some (.lst (dn.map D.bl)) ∧ T' f = some (.dic []) ∧ Kp [] T T' ∧ dn.length + td.len ≤ 1000 ∧ td.ok c ∧ td.few ∧ td.rk ≤ xs.rk) ?_ ?_ _ _ ⟨[], xs, rfl, rfl, upd_same, by rw [upd_ne (ne_new ef hp)]; exact ef, Kp.new hp, by simpa using hl, hy, hf, Nat.le_refl _⟩
    · rintro T' ⟨dn, td, el, ev, ep, -, K, -⟩
      have : td = .nil := by cases td with
        | nil => rfl
        | cons _ _ => cases el
      subst this
      rw [Says.vals, List.append_nil] at ev
      simp [ep]
      have := k T' K
      simpa [Say.val, ev] using this
    · rintro d li T' kk ⟨dn, td, el, ev, ep, ef, K, hl, ho, hfw, hrk⟩ hk
      cases td with
      | nil => cases el
      | cons y ys =>
        simp only [Says.toDs, List.cons.injEq] at el
        obtain ⟨rfl, rfl⟩ := el
        simp only [Says.ok] at ho
        simp only [Says.few] at hfw
        simp only [Says.rk] at hrk
        simp only [Says.len] at hl
        have npf : p ≠ f := by
          intro z
          rw [z, ef] at ep
          cases ep
        refine c_hoBy (y := y) h35 (by omega) rfl rfl rfl hc hs ho.1 hfw.1 ef fun T2 K2 => ?_
        have ep2 := K2 _ _ ep (by simp)
        have ef2 := K2 _ _ ef (by simp)
        simp [ep2]
        refine ⟨by omega, hk _ ⟨dn ++ [y.val c s], ys, rfl, by rw [ev, Says.vals]; simp, by rw [upd_same]; simp, by rw [upd_ne (Ne.symm npf)]; exact ef2, (K.trans K2).put2 hp, by simp; omega, ho.2, hfw.2, by omega⟩⟩
  | any xs =>
    simp only [Say.ok] at hy
    simp only [Say.rk] at hρ
    simp only [Say.few] at hf
    obtain ⟨hf, hl⟩ := hf
    rw [ss_consS]
    simp [startD, Say.toD]
    rw [ss_consS]
    simp
    rw [ss_consS]
    simp
    rw [ss_consS]
    simp
    rw [ss_consS]
    simp
    rw [ss_consS]
    simp
    intro p hp
    refine lc_ind (fun li T' => ∃ (dn : List Bool) (td : Says), li = td.toDs ∧ xs.vals c s = dn ++ td.vals c s ∧ T' p = some (.lst (dn.map D.bl)) ∧ T' f = some (.dic []) ∧ Kp [] T T' ∧ dn.length + td.len ≤ 1000 ∧ td.ok c ∧ td.few ∧ td.rk ≤ xs.rk) ?_ ?_ _ _ ⟨[], xs, rfl, rfl, upd_same, by rw [upd_ne (ne_new ef hp)]; exact ef, Kp.new hp, by simpa using hl, hy, hf, Nat.le_refl _⟩
    · rintro T' ⟨dn, td, el, ev, ep, -, K, -⟩
      have : td = .nil := by cases td with
        | nil => rfl
        | cons _ _ => cases el
      subst this
      rw [Says.vals, List.append_nil] at ev
      simp [ep]
      have := k T' K
      simpa [Say.val, ev] using this
    · rintro d li T' kk ⟨dn, td, el, ev, ep, ef, K, hl, ho, hfw, hrk⟩ hk
      cases td with
      | nil => cases el
      | cons y ys =>
        simp only [Says.toDs, List.cons.injEq] at el
        obtain ⟨rfl, rfl⟩ := el
        simp only [Says.ok] at ho
        simp only [Says.few] at hfw
        simp only [Says.rk] at hrk
        simp only [Says.len] at hl
        have npf : p ≠ f := by
          intro z
          rw [z, ef] at ep
          cases ep
        refine c_hoBy (y := y) h35 (by omega) rfl rfl rfl hc hs ho.1 hfw.1 ef fun T2 K2 => ?_
        have ep2 := K2 _ _ ep (by simp)
        have ef2 := K2 _ _ ef (by simp)
        simp [ep2]
        refine ⟨by omega, hk _ ⟨dn ++ [y.val c s], ys, rfl, by rw [ev, Says.vals]; simp, by rw [upd_same]; simp, by rw [upd_ne (Ne.symm npf)]; exact ef2, (K.trans K2).put2 hp, by simp; omega, ho.2, hfw.2, by omega⟩⟩
  | cmp w a b =>
    simp only [Say.ok] at hy
    simp only [Say.rk] at hρ
    obtain ⟨hw, ha, hb⟩ := hy
    have rest : rdSs C ρ (dropS 9 i_holds_by) (endD q X) [some c.D, some s.D, some (.ref f), some (Say.cmp w a b).toD, some (.str w), none, none, none, none] T := by
      unfold i_holds_by
      simp only [dropS]
      rw [ss_consS]
      simp [Say.toD, cut_tail, lcRun_cons, lcRun_nil]
      intro p hp
      have nfp := ne_new ef hp
      have ef1 : upd T p (.lst []) f = some (.dic []) := by rw [upd_ne nfp]; exact ef
      refine c_woBy h31 (by omega) rfl rfl rfl hc hs ha ef1 ?_
      simp
      have ef2 : upd (upd T p (.lst [])) p (.lst [.int (a.val c s)]) f = some (.dic []) := by rw [upd_ne nfp, upd_ne nfp]; exact ef
      rw [upd_upd] at ef2
      simp only [upd_upd]
      refine c_woBy h31 (by omega) rfl rfl rfl hc hs hb ef2 ?_
      simp
      refine ⟨_, _, ⟨rfl, rfl⟩, _, _, rfl, rfl, ?_⟩
      rw [ss_consS]
      simp
      rw [h33]
      simp only [Say.val] at k
      refine ⟨0, by omega, w, _, _, rfl, hw, k _ ?_⟩
      exact (Kp.new hp).put2 hp
    rcases hw with rfl | rfl | rfl | rfl
    · rw [ss_consS]
      simp [startD, Say.toD]
      rw [ss_consS]
      simp
      rw [ss_consS]
      simp
      rw [ss_consS]
      simp
      rw [ss_consS]
      simp
      rw [ss_consS]
      simp
      rw [ss_consS]
      simp
      rw [ss_consS]
      simp
      rw [ss_consS]
      simp
      have inn : inF (.str wMost) [.str wAhead, .str wHere, .str [110, 101, 120, 116]] = false := by decide
      refine ⟨rfl, ⟨rfl, rfl, rfl⟩, ?_⟩
      rw [inn]
      simp
      exact rest
    · rw [ss_consS]
      simp [startD, Say.toD]
      rw [ss_consS]
      simp
      rw [ss_consS]
      simp
      rw [ss_consS]
      simp
      rw [ss_consS]
      simp
      rw [ss_consS]
      simp
      rw [ss_consS]
      simp
      rw [ss_consS]
      simp
      rw [ss_consS]
      simp
      have inn : inF (.str wLess) [.str wAhead, .str wHere, .str [110, 101, 120, 116]] = false := by decide
      refine ⟨rfl, ⟨rfl, rfl, rfl⟩, ?_⟩
      rw [inn]
      simp
      exact rest
    · rw [ss_consS]
      simp [startD, Say.toD]
      rw [ss_consS]
      simp
      rw [ss_consS]
      simp
      rw [ss_consS]
      simp
      rw [ss_consS]
      simp
      rw [ss_consS]
      simp
      rw [ss_consS]
      simp
      rw [ss_consS]
      simp
      rw [ss_consS]
      simp
      have inn : inF (.str wSame) [.str wAhead, .str wHere, .str [110, 101, 120, 116]] = false := by decide
      refine ⟨rfl, ⟨rfl, rfl, rfl⟩, ?_⟩
      rw [inn]
      simp
      exact rest
    · rw [ss_consS]
      simp [startD, Say.toD]
      rw [ss_consS]
      simp
      rw [ss_consS]
      simp
      rw [ss_consS]
      simp
      rw [ss_consS]
      simp
      rw [ss_consS]
      simp
      rw [ss_consS]
      simp
      rw [ss_consS]
      simp
      rw [ss_consS]
      simp
      have inn : inF (.str wUnl) [.str wAhead, .str wHere, .str [110, 101, 120, 116]] = false := by decide
      refine ⟨rfl, ⟨rfl, rfl, rfl⟩, ?_⟩
      rw [inn]
      simp
      exact rest
  | plc w x y =>
    simp only [Say.ok] at hy
    simp only [Say.rk] at hρ
    obtain ⟨hw, ha, hb⟩ := hy
    have rest : rdSs C ρ (dropS 8 i_holds_by) (endD q X) [some c.D, some s.D, some (.ref f), some (Say.plc w x y).toD, some (.str w), none, none, none, none] T := by
      unfold i_holds_by
      simp only [dropS]
      rw [ss_consS]
      have inn : inF (.str w) [.str wAhead, .str wHere, .str [110, 101, 120, 116]] = true := by rcases hw with rfl | rfl <;> decide
      simp [inn]
      refine ⟨rfl, ⟨rfl, rfl, rfl⟩, ?_⟩
      rw [ss_consS]
      simp [Say.toD, cut_tail, lcRun_cons, lcRun_nil]
      intro p hp
      have nfp := ne_new ef hp
      have ef1 : upd T p (.lst []) f = some (.dic []) := by rw [upd_ne nfp]; exact ef
      refine c_plBy h30 (by omega) rfl rfl hc hs ha ef1 ?_
      simp
      have ef2 : upd (upd T p (.lst [])) p (.lst [.int (plv c s x : Nat)]) f = some (.dic []) := by rw [upd_ne nfp, upd_ne nfp]; exact ef
      rw [upd_upd] at ef2
      simp only [upd_upd]
      refine c_plBy h30 (by omega) rfl rfl hc hs hb ef2 ?_
      simp
      refine ⟨_, _, ⟨rfl, rfl⟩, _, _, rfl, rfl, ?_⟩
      rw [ss_consS]
      simp
      rw [h34]
      simp only [Say.val] at k
      refine ⟨0, by omega, w, _, _, rfl, hw, k _ ?_⟩
      exact (Kp.new hp).put2 hp
    rcases hw with rfl | rfl
    · rw [ss_consS]
      simp [startD, Say.toD]
      rw [ss_consS]
      simp
      rw [ss_consS]
      simp
      rw [ss_consS]
      simp
      rw [ss_consS]
      simp
      rw [ss_consS]
      simp
      rw [ss_consS]
      simp
      rw [ss_consS]
      simp
      exact rest
    · rw [ss_consS]
      simp [startD, Say.toD]
      rw [ss_consS]
      simp
      rw [ss_consS]
      simp
      rw [ss_consS]
      simp
      rw [ss_consS]
      simp
      rw [ss_consS]
      simp
      rw [ss_consS]
      simp
      rw [ss_consS]
      simp
      exact rest
def sHolds : Tr.Spec := ⟨fun ρ ds T q _ => ∃ (c : Cs) (s : Stn) (y : Say), ds = [c.D, s.D, y.toD] ∧ y.rk + 5 ≤ ρ ∧ c.ok ∧ s.ok c ∧ y.ok c ∧ y.few ∧ ∀ T', Kp [] T T' → q (.bl (y.val c s)) T'⟩
theorem c_holds {r i : Nat} {X : XE} {T : TH} {Q : Kd} (h : C.G i = sHolds) {c : Cs} {s : Stn} {cd sd yd : D} {y : Say} (hr : y.rk + 5 < r) (ec : cd = c.D) (es : sd = s.D) (ey : yd = y.toD) (hc : c.ok) (hs : s.ok c) (hy : y.ok c) (hf : y.few)
    (k : ∀ T', Kp [] T T' → Q (.bl (y.val c s)) T') : ∃ ρ, ρ < r ∧ (C.G i).sp ρ [cd, sd, yd] T Q X := by
  rw [h]; exact ⟨_, hr, c, s, y, by rw [ec, es, ey], Nat.le_refl _, hc, hs, hy, hf, k⟩
theorem p_holds (h35 : C.G 35 = sHoBy) : Body C sHolds i_holds 3 3 := by
  rintro ρ ds T q X - ⟨c, s, y, rfl, hρ, hc, hs, hy, hf, k⟩
  unfold i_holds
  rw [ss_consS]
  simp [startD]
  intro p hp
  exact c_hoBy h35 (by omega) rfl rfl rfl hc hs hy hf upd_same fun T' K => k T' ((Kp.new hp).trans K)
end T72

/-! RC: deeds done. -/
namespace T72
open Tr
open PySem (Addr PyData)
variable {C : Tr.Ctx}
abbrev wChg : List Nat := [99, 104, 97, 110, 103, 101, 100]
abbrev wExc : List Nat := [101, 120, 99, 104, 97, 110, 103, 101, 100]
theorem sIx_nat {n d i : Nat} (h : i ≤ n) : HT.sIx n d (some (i : Int)) = i := by
  unfold HT.sIx
  simp
  rw [if_neg (by omega)]
  omega
theorem cut_to {α : Type} {l : List α} {p : Nat} (h : p ≤ l.length) : cut l none (some (p : Int)) = l.take p := by
  unfold cut
  rw [sIx_nat h]
  have : HT.sIx l.length 0 none = 0 := rfl
  rw [this]
  simp
theorem cut_from {α : Type} {l : List α} {p : Nat} (h : p ≤ l.length) : cut l (some (p : Int)) none = l.drop p := by
  unfold cut
  rw [sIx_nat h]
  have : HT.sIx l.length l.length none = l.length := rfl
  rw [this]
  rw [List.take_of_length_le (by simp)]
theorem cut_set {α : Type} {l : List α} {p : Nat} {x : α} (h : p < l.length) : cut l none (some (p : Int)) ++ x :: cut l (some ((p : Int) + 1)) none = l.set p x := by
  have e : ((p : Int) + 1) = ((p + 1 : Nat) : Int) := by omega
  rw [cut_to (by omega), e, cut_from (by omega), List.set_eq_take_append_cons_drop, if_pos h]
/-- a deed, done -/
def Deed.act (c : Cs) (s : Stn) : Deed → Stn
  | .put x y z => if plv c s y = s.many then s else { s with rows := s.rows.set (idx c.r x) (((s.rows[idx c.r x]?).getD []).set (plv c s y) (z.val c s)) }
  | .swap x y z => if plv c s y = s.many ∨ plv c s z = s.many then s else { s with rows := s.rows.set (idx c.r x) ((((s.rows[idx c.r x]?).getD []).set (plv c s y) ((((s.rows[idx c.r x]?).getD [])[plv c s z]?).getD 0)).set (plv c s z) ((((s.rows[idx c.r x]?).getD [])[plv c s y]?).getD 0)) }
  | .set x z => { s with nums := s.nums.set (idx c.u x) (z.val c s) }
  | .stand x y => { s with pls := s.pls.set (idx c.p x) (plv c s y) }
  | .bgn x => { s with pls := s.pls.set (idx c.p x) 0 }
  | .go x => { s with pls := s.pls.set (idx c.p x) (min (plv c s x + 1) s.many) }
theorem many_set {s : Stn} {i : Nat} {r : List Int} (h : r.length = s.many) : ({ s with rows := s.rows.set i r } : Stn).many = s.many := by
  unfold Stn.many at h ⊢
  cases e : s.rows with
  | nil => simp
  | cons r0 rs =>
    rw [e] at h
    cases i with
    | zero => simpa using h
    | succ i => simp
theorem Stn.ok.setR {c : Cs} {s : Stn} (h : s.ok c) {i : Nat} {r : List Int} (hr : r.length = s.many) : ({ s with rows := s.rows.set i r } : Stn).ok c := by
  have hm := many_set (i := i) hr
  refine ⟨by simpa using h.rl, h.pl, h.nl, fun x hx => ?_, fun p hp => ?_, ?_⟩
  · rw [hm]
    rcases List.mem_or_eq_of_mem_set hx with hx | rfl
    · exact h.rw x hx
    · exact hr
  · rw [hm]; exact h.pw p hp
  · rw [hm]; exact h.mm
theorem Stn.ok.setP {c : Cs} {s : Stn} (h : s.ok c) {i n : Nat} (hn : n ≤ s.many) : ({ s with pls := s.pls.set i n } : Stn).ok c := by
  refine ⟨h.rl, by simpa using h.pl, h.nl, h.rw, fun p hp => ?_, h.mm⟩
  rcases List.mem_or_eq_of_mem_set hp with hp | rfl
  · exact h.pw p hp
  · exact hn
theorem Deed.act_ok {c : Cs} {s : Stn} (hc : c.ok) (h : s.ok c) : ∀ {d : Deed}, d.ok c → (d.act c s).ok c
  | .put x y z, hd => by
    simp only [Deed.act]
    split
    · exact h
    · obtain ⟨r, e1, e2⟩ := h.row hd.1
      exact h.setR (by simp [e1, e2])
  | .swap x y z, hd => by
    simp only [Deed.act]
    split
    · exact h
    · obtain ⟨r, e1, e2⟩ := h.row hd.1
      exact h.setR (by simp [e1, e2])
  | .set x z, hd => ⟨h.rl, h.pl, by simpa [Deed.act] using h.nl, h.rw, h.pw, h.mm⟩
  | .stand x y, hd => h.setP (plv_le h hd.2)
  | .bgn x, hd => h.setP (Nat.zero_le _)
  | .go x, hd => h.setP (Nat.min_le_right _ _)
def sWithN : Tr.Spec := ⟨fun _ ds T q _ => ∃ (xs : List D) (p : Nat) (v : D), ds = [.tup xs, .int (p : Nat), v] ∧ p < xs.length ∧ xs.length ≤ 100000 ∧ q (.tup (xs.set p v)) T⟩
theorem c_withN {r i : Nat} {X : XE} {T : TH} {Q : Kd} (h : C.G i = sWithN) (hr : 0 < r) {xs : List D} {p : Nat} {v : D} (hp : p < xs.length) (hl : xs.length ≤ 100000) (k : Q (.tup (xs.set p v)) T) : ∃ ρ, ρ < r ∧ (C.G i).sp ρ [.tup xs, .int (p : Nat), v] T Q X := by
  rw [h]; exact ⟨0, hr, xs, p, v, rfl, hp, hl, k⟩
theorem p_withN : Body C sWithN i_with_number 3 3 := by
  rintro ρ ds T q X - ⟨xs, p, v, rfl, hp, hl, k⟩
  unfold i_with_number
  rw [ss_consS]
  have c1 := cut_len xs none (some (p : Int))
  have c2 := cut_len xs (some ((p : Int) + 1)) none
  simp [startD, cut_set hp]
  exact ⟨by omega, by omega, k⟩
theorem p_withO : Body C sWithN i_with_one 3 3 := by
  rintro ρ ds T q X - ⟨xs, p, v, rfl, hp, hl, k⟩
  unfold i_with_one
  rw [ss_consS]
  have c1 := cut_len xs none (some (p : Int))
  have c2 := cut_len xs (some ((p : Int) + 1)) none
  simp [startD, cut_set hp]
  exact ⟨by omega, by omega, k⟩
def sWithR : Tr.Spec := ⟨fun _ ds T q _ => ∃ (c : Cs) (s : Stn) (x : List Nat) (r : List Int), ds = [c.D, s.D, .str x, rowD r] ∧ c.ok ∧ s.ok c ∧ x ∈ c.r ∧ q ({ s with rows := s.rows.set (idx c.r x) r } : Stn).D T⟩
theorem p_withR : Body C sWithR i_with_row 5 4 := by
  rintro ρ ds T q X - ⟨c, s, x, r, rfl, hc, hs, hx, k⟩
  unfold i_with_row
  rw [ss_consS]
  have hl : idx c.r x < (s.rows.map rowD).length := by rw [List.length_map, hs.rl]; exact (idx_ok hx).2
  have h18 : (s.rows.map rowD).length ≤ 18 := by rw [List.length_map, hs.rl]; exact hc.lr
  have c1 := cut_len (s.rows.map rowD) none (some ((idx c.r x : Nat) : Int))
  have c2 := cut_len (s.rows.map rowD) (some (((idx c.r x : Nat) : Int) + 1)) none
  simp [startD, Cs.D, Stn.D, m_tix hx]
  rw [ss_consS]
  simp [cut_set hl, cut_tail]
  refine ⟨by omega, by omega, ?_⟩
  simpa [Stn.D, List.map_set] using k
/-- the arguments of a put, a swap -/
def tw : Deed → List Nat
  | .put _ _ _ => wChg
  | _ => wExc
def sChg : Tr.Spec := ⟨fun ρ ds T q _ => ∃ (c : Cs) (s : Stn) (x y : List Nat) (z : Sz) (t : D), ds = [c.D, s.D, .tup [t, .str x, .str y, z.toD]] ∧ 6 ≤ ρ ∧ c.ok ∧ s.ok c ∧ (Deed.put x y z).ok c ∧ ∀ T', Kp [] T T' → q ((Deed.put x y z).act c s).D T'⟩
theorem p_chg (h27 : C.G 27 = sLen) (h28 : C.G 28 = sPlace) (h32 : C.G 32 = sWorth) (h37 : C.G 37 = sWithN) (h38 : C.G 38 = sWithR) : Body C sChg i_changed 9 3 := by
  rintro ρ ds T q X - ⟨c, s, x, y, z, t, rfl, hρ, hc, hs, ⟨hx, hy, hz⟩, k⟩
  unfold i_changed
  rw [ss_consS]
  simp [startD, -g_tp, -g_cn, -g_nl]
  rw [ss_consS]
  simp
  refine c_place h28 (by omega) rfl rfl hc hs hy ?_
  rw [ss_consS]
  simp
  refine c_len h27 (by omega) rfl hc hs ?_
  have hle := plv_le hs hy
  by_cases e : plv c s y = s.many
  · simp [e]
    rw [ss_consS]
    simp
    simpa [Deed.act, e] using k T Kp.refl
  · have e' : ¬ ((plv c s y : Int) = (s.many : Int)) := by omega
    simp [e']
    rw [ss_consS]
    obtain ⟨r, e1, e2⟩ := hs.row hx
    have hm := hs.mm
    simp [Cs.D, Stn.D, m_tix hx, e1]
    rw [ss_consS]
    simp
    refine c_worth h32 (by omega) rfl rfl rfl hc hs hz fun T1 K1 => ?_
    unfold rowD
    refine c_withN h37 (by omega) (by simp; omega) (by simp; omega) ?_
    rw [h38]
    refine ⟨0, by omega, c, s, x, r.set (plv c s y) (z.val c s), ?_, hc, hs, hx, ?_⟩
    · simp [rowD, Cs.D, Stn.D, List.map_set]
    · have := k T1 K1
      simpa [Deed.act, e, e1] using this
def sExc : Tr.Spec := ⟨fun ρ ds T q _ => ∃ (c : Cs) (s : Stn) (x y z : List Nat) (t : D), ds = [c.D, s.D, .tup [t, .str x, .str y, .str z]] ∧ 6 ≤ ρ ∧ c.ok ∧ s.ok c ∧ (Deed.swap x y z).ok c ∧ ∀ T', Kp [] T T' → q ((Deed.swap x y z).act c s).D T'⟩
theorem p_exc (h27 : C.G 27 = sLen) (h28 : C.G 28 = sPlace) (h37 : C.G 37 = sWithN) (h38 : C.G 38 = sWithR) : Body C sExc i_exchanged 10 3 := by
  rintro ρ ds T q X - ⟨c, s, x, y, z, t, rfl, hρ, hc, hs, ⟨hx, hy, hz⟩, k⟩
  unfold i_exchanged
  rw [ss_consS]
  simp [startD, -g_tp, -g_cn, -g_nl]
  rw [ss_consS]
  simp
  refine c_place h28 (by omega) rfl rfl hc hs hy ?_
  rw [ss_consS]
  simp
  refine c_place h28 (by omega) rfl rfl hc hs hz ?_
  rw [ss_consS]
  simp
  refine c_len h27 (by omega) rfl hc hs ?_
  have hle := plv_le hs hy
  have hle2 := plv_le hs hz
  have inn : inF (.int (s.many : Nat)) [.int (plv c s y : Nat), .int (plv c s z : Nat)] = decide (plv c s y = s.many ∨ plv c s z = s.many) := by
    have a1 : (((plv c s y : Nat) : Int) = ((s.many : Nat) : Int)) = (plv c s y = s.many) := propext (by omega)
    have a2 : (((plv c s z : Nat) : Int) = ((s.many : Nat) : Int)) = (plv c s z = s.many) := propext (by omega)
    simp [inF, eqF, a1, a2]
  simp [inn]
  refine ⟨rfl, ⟨rfl, rfl⟩, ?_⟩
  by_cases e : plv c s y = s.many ∨ plv c s z = s.many
  · rw [if_pos e]
    rw [ss_consS]
    simp
    simpa [Deed.act, e] using k T Kp.refl
  · rw [if_neg e]
    rw [ss_consS]
    obtain ⟨r, e1, e2⟩ := hs.row hx
    have hm := hs.mm
    have l1 : plv c s y < r.length := by omega
    have l2 : plv c s z < r.length := by omega
    simp [Cs.D, Stn.D, m_tix hx, e1]
    rw [ss_consS]
    simp [rowD, List.getElem?_eq_getElem l1, List.getElem?_eq_getElem l2]
    refine c_withN h37 (by omega) (by simp; omega) (by simp; omega) ?_
    refine c_withN h37 (by omega) (by simp; omega) (by simp; omega) ?_
    rw [h38]
    refine ⟨0, by omega, c, s, x, (r.set (plv c s y) (r[plv c s z])).set (plv c s z) (r[plv c s y]), ?_, hc, hs, hx, ?_⟩
    · simp [rowD, Cs.D, Stn.D, List.map_set]
    · have := k T Kp.refl
      simpa [Deed.act, e, e1, List.getElem?_eq_getElem l1, List.getElem?_eq_getElem l2] using this
def isT : Deed → Prop
  | .put _ _ _ => True
  | .swap _ _ _ => True
  | _ => False
def sTurned : Tr.Spec := ⟨fun ρ ds T q _ => ∃ (c : Cs) (s : Stn) (d : Deed), ds = [c.D, s.D, .tup (.str (tw d) :: d.xs)] ∧ isT d ∧ 7 ≤ ρ ∧ c.ok ∧ s.ok c ∧ d.ok c ∧ ∀ T', Kp [] T T' → q (d.act c s).D T'⟩
theorem p_turned (d1 : C.dt 0 wChg = some 39) (d2 : C.dt 0 wExc = some 40) (h39 : C.G 39 = sChg) (h40 : C.G 40 = sExc) : Body C sTurned i_turned 3 3 := by
  rintro ρ ds T q X - ⟨c, s, d, rfl, ht, hρ, hc, hs, hd, k⟩
  unfold i_turned
  rw [ss_consS]
  cases d with
  | put x y z =>
    simp [startD, tw, Deed.xs]
    refine ⟨39, d1, ?_⟩
    rw [h39]
    exact ⟨6, by omega, c, s, x, y, z, _, rfl, Nat.le_refl _, hc, hs, hd, k⟩
  | swap x y z =>
    simp [startD, tw, Deed.xs]
    refine ⟨40, d2, ?_⟩
    rw [h40]
    exact ⟨6, by omega, c, s, x, y, z, _, rfl, Nat.le_refl _, hc, hs, hd, k⟩
  | _ => exact ht.elim
def sStood : Tr.Spec := ⟨fun ρ ds T q _ => ∃ (c : Cs) (s : Stn) (x : List Nat) (n : Nat), ds = [c.D, s.D, .str x, .int (n : Nat)] ∧ 1 ≤ ρ ∧ c.ok ∧ s.ok c ∧ x ∈ c.p ∧ q ({ s with pls := s.pls.set (idx c.p x) n } : Stn).D T⟩
theorem c_stood {r i : Nat} {X : XE} {T : TH} {Q : Kd} (h : C.G i = sStood) (hr : 1 < r) {c : Cs} {s : Stn} {cd sd : D} {x : List Nat} {n : Nat} {z : Int} (ec : cd = c.D) (es : sd = s.D) (hz : z = n) (hc : c.ok) (hs : s.ok c) (hx : x ∈ c.p) (k : Q ({ s with pls := s.pls.set (idx c.p x) n } : Stn).D T) :
    ∃ ρ, ρ < r ∧ (C.G i).sp ρ [cd, sd, .str x, .int z] T Q X := by
  rw [h]; exact ⟨1, hr, c, s, x, n, by rw [ec, es, hz], Nat.le_refl _, hc, hs, hx, k⟩
theorem p_stood (h42 : C.G 42 = sWithN) : Body C sStood i_stood 4 4 := by
  rintro ρ ds T q X - ⟨c, s, x, n, rfl, hρ, hc, hs, hx, k⟩
  unfold i_stood
  rw [ss_consS]
  have hl : idx c.p x < (s.pls.map plD).length := by rw [List.length_map, hs.pl]; exact (idx_ok hx).2
  have h18 : (s.pls.map plD).length ≤ 18 := by rw [List.length_map, hs.pl]; exact hc.lp
  simp [startD, Cs.D, Stn.D, m_tix hx]
  refine c_withN h42 (by omega) hl (by omega) ?_
  simpa [Stn.D, List.map_set, plD] using k
def sActed : Tr.Spec := ⟨fun ρ ds T q _ => ∃ (c : Cs) (s : Stn) (d : Deed), ds = [c.D, s.D, d.toD] ∧ 8 ≤ ρ ∧ c.ok ∧ s.ok c ∧ d.ok c ∧ ∀ T', Kp [] T T' → q (d.act c s).D T'⟩
theorem c_acted {r i : Nat} {X : XE} {T : TH} {Q : Kd} (h : C.G i = sActed) (hr : 8 < r) {c : Cs} {s : Stn} {cd sd dd : D} {d : Deed} (ec : cd = c.D) (es : sd = s.D) (ed : dd = d.toD) (hc : c.ok) (hs : s.ok c) (hd : d.ok c) (k : ∀ T', Kp [] T T' → Q (d.act c s).D T') :
    ∃ ρ, ρ < r ∧ (C.G i).sp ρ [cd, sd, dd] T Q X := by
  rw [h]; exact ⟨8, hr, c, s, d, by rw [ec, es, ed], Nat.le_refl _, hc, hs, hd, k⟩
theorem p_acted (h27 : C.G 27 = sLen) (h28 : C.G 28 = sPlace) (h32 : C.G 32 = sWorth) (h41 : C.G 41 = sTurned) (h42 : C.G 42 = sWithN) (h43 : C.G 43 = sStood) : Body C sActed i_acted 6 3 := by
  rintro ρ ds T q X - ⟨c, s, d, rfl, hρ, hc, hs, hd, k⟩
  unfold i_acted
  cases d with
  | put x y z =>
    rw [ss_consS]
    simp [startD, Deed.toD, Deed.w, Deed.xs]
    rw [ss_consS]
    simp
    rw [ss_consS]
    simp [cut_tail]
    rw [h41]
    exact ⟨7, by omega, c, s, .put x y z, rfl, True.intro, Nat.le_refl _, hc, hs, hd, k⟩
  | swap x y z =>
    rw [ss_consS]
    simp [startD, Deed.toD, Deed.w, Deed.xs]
    rw [ss_consS]
    simp
    rw [ss_consS]
    simp
    rw [ss_consS]
    simp [cut_tail]
    rw [h41]
    exact ⟨7, by omega, c, s, .swap x y z, rfl, True.intro, Nat.le_refl _, hc, hs, hd, k⟩
  | set x z =>
    rw [ss_consS]
    simp [startD, Deed.toD, Deed.w, Deed.xs]
    rw [ss_consS]
    simp
    rw [ss_consS]
    simp
    rw [ss_consS]
    simp
    rw [ss_consS]
    simp
    refine c_worth h32 (by omega) rfl rfl rfl hc hs hd.2 fun T1 K1 => ?_
    rw [ss_consS]
    have hl : idx c.u x < (s.nums.map D.int).length := by rw [List.length_map, hs.nl]; exact (idx_ok hd.1).2
    have h18 : (s.nums.map D.int).length ≤ 18 := by rw [List.length_map, hs.nl]; exact hc.lu
    simp [Cs.D, Stn.D, m_tix hd.1]
    refine c_withN h42 (by omega) hl (by omega) ?_
    have := k T1 K1
    simpa [Deed.act, Stn.D, List.map_set] using this
  | stand x y =>
    rw [ss_consS]
    simp [startD, Deed.toD, Deed.w, Deed.xs]
    rw [ss_consS]
    simp
    rw [ss_consS]
    simp
    rw [ss_consS]
    simp
    rw [ss_consS]
    simp
    rw [ss_consS]
    simp
    refine c_place h28 (by omega) rfl rfl hc hs hd.2 ?_
    exact c_stood h43 (by omega) rfl rfl rfl hc hs hd.1 (k T Kp.refl)
  | bgn x =>
    rw [ss_consS]
    simp [startD, Deed.toD, Deed.w, Deed.xs]
    rw [ss_consS]
    simp
    rw [ss_consS]
    simp
    rw [ss_consS]
    simp
    rw [ss_consS]
    simp
    rw [ss_consS]
    simp
    rw [ss_consS]
    simp
    exact c_stood h43 (n := 0) (by omega) rfl rfl rfl hc hs hd (k T Kp.refl)
  | go x =>
    rw [ss_consS]
    simp [startD, Deed.toD, Deed.w, Deed.xs]
    rw [ss_consS]
    simp
    rw [ss_consS]
    simp
    rw [ss_consS]
    simp
    rw [ss_consS]
    simp
    rw [ss_consS]
    simp
    rw [ss_consS]
    simp
    refine c_place h28 (by omega) rfl rfl hc hs (.inl hd) ?_
    simp
    rw [ss_consS]
    simp
    refine c_len h27 (by omega) rfl hc hs ?_
    simp
    refine c_stood h43 (n := min (plv c s x + 1) s.many) (by omega) rfl rfl ?_ hc hs hd (k T Kp.refl)
    split <;> omega
end T72

/-! RD: the tree of what is asked and done from a spot on. -/
namespace T72
open Tr
open PySem (Addr PyData)
variable {C : Tr.Ctx}
section
variable {r : Nat} {τ : Env} {T : TH} {N : TEnds}
@[simp ↓] theorem s_augA {i : Nat} {e : Ex} : rdS C r (.aug i .add e) N τ T = ∃ x, τ[i]? = some (some x) ∧ rdE C r e (fun c T => N.xe c τ T) τ T fun y T1 => ∃ a b, x = .int a ∧ y = .int b ∧ N.nx (setv τ i (.int (a + b))) T1 := rfl
end
/-- what is asked and done, to a while or the end -/
inductive Tre where
  | fin (g : Option Nat) | deed (d : Deed) (t : Tre) | ask (q : Say) (t0 t1 : Tre)
def sayOk (c : Cs) (q : Say) : Prop := q.ok c ∧ q.rk ≤ 4 ∧ q.few
theorem fm_none {α β : Type} : ∀ l : List α, l.filterMap (fun _ => (none : Option β)) = []
  | [] => rfl
  | x :: l => by rw [List.filterMap_cons]; exact fm_none l
namespace Tre
def res : Tre → Res
  | fin g => [([], g)]
  | deed _ t => t.res
  | ask _ t0 t1 => pre false t0.res ++ pre true t1.res
def ok (c : Cs) : Tre → Prop
  | fin _ => True
  | deed d t => d.ok c ∧ t.ok c
  | ask q t0 t1 => sayOk c q ∧ t0.ok c ∧ t1.ok c
def dep : Tre → Nat
  | fin _ => 0
  | deed _ t => t.dep + 1
  | ask _ t0 t1 => max t0.dep t1.dep + 1
/-- where one comes -/
def go (c : Cs) : Tre → Stn → Option Nat × Stn
  | fin g, s => (g, s)
  | deed d t, s => t.go c (d.act c s)
  | ask q t0 t1, s => if q.val c s = true then t1.go c s else t0.go c s
/-- along chosen ways -/
def alng (c : Cs) : Tre → List Bool → Stn → Option Stn
  | fin _, _, s => some s
  | deed d t, ch, s => t.alng c ch (d.act c s)
  | ask _ _ _, [], _ => none
  | ask q t0 t1, b :: ch, s => if q.val c s = b then (if b = true then t1.alng c ch s else t0.alng c ch s) else none
theorem one (c : Cs) : ∀ (t : Tre) (s : Stn), (t.res.filterMap fun x => (t.alng c x.1 s).map fun s' => (x.2, s')) = [t.go c s]
  | fin g, s => rfl
  | deed d t, s => one c t (d.act c s)
  | ask q t0 t1, s => by
    have e0 := one c t0 s
    have e1 := one c t1 s
    simp only [res, pre, List.filterMap_append, List.filterMap_map, Function.comp_def, alng, go]
    cases e : q.val c s with
    | true => simpa [fm_none] using e1
    | false => simpa [fm_none] using e0
end Tre
def segT : Tk → Nat → Tre → Tre
  | .nil, _, K => K
  | .oth d r, n, K => .deed d (segT r n K)
  | .ifs q a b r, n, K => .ask q (segT b (n + a.er.nw) (segT r (n + a.er.nw + b.er.nw) K)) (segT a n (segT r (n + a.er.nw + b.er.nw) K))
  | .whl _ _ _ _, n, _ => .fin (some n)
def wlT : Tk → Nat → Tre → List (Say × Tre × Tre)
  | .nil, _, _ => []
  | .oth _ r, n, K => wlT r n K
  | .ifs _ a b r, n, K => wlT a n (segT r (n + a.er.nw + b.er.nw) K) ++ wlT b (n + a.er.nw) (segT r (n + a.er.nw + b.er.nw) K) ++ wlT r (n + a.er.nw + b.er.nw) K
  | .whl q _ a r, n, K => (q, segT r (n + 1 + a.er.nw) K, segT a (n + 1) (.fin (some n))) :: (wlT a (n + 1) (.fin (some n)) ++ wlT r (n + 1 + a.er.nw) K)
theorem segT_res : ∀ (b : Tk) (n : Nat) (K : Tre), (segT b n K).res = seg b.er n K.res
  | .nil, _, _ => rfl
  | .oth d r, n, K => segT_res r n K
  | .ifs q a b r, n, K => by
    simp only [segT, Tre.res, Tk.er, seg, segT_res b, segT_res a, segT_res r]
  | .whl q k a r, n, K => rfl
theorem wlT_res : ∀ (b : Tk) (n : Nat) (K : Tre), (wlT b n K).map (fun w => (w.2.1.res, w.2.2.res)) = wl b.er n K.res
  | .nil, _, _ => rfl
  | .oth d r, n, K => wlT_res r n K
  | .ifs q a b r, n, K => by
    simp only [wlT, List.map_append, Tk.er, wl, wlT_res b, wlT_res a, wlT_res r, segT_res]
  | .whl q k a r, n, K => by
    simp only [wlT, List.map_cons, List.map_append, Tk.er, wl, wlT_res a, wlT_res r, segT_res, Tre.res]
theorem segT_ok {c : Cs} : ∀ (b : Tk) (n : Nat) (K : Tre), b.ok c → K.ok c → (segT b n K).ok c
  | .nil, _, _, _, h => h
  | .oth d r, n, K, h, h' => ⟨h.1, segT_ok r n K h.2 h'⟩
  | .ifs q a b r, n, K, h, h' => ⟨h.1, segT_ok b _ _ h.2.2.1 (segT_ok r _ K h.2.2.2 h'), segT_ok a _ _ h.2.1 (segT_ok r _ K h.2.2.2 h')⟩
  | .whl q k a r, n, K, h, h' => True.intro
theorem segT_dep : ∀ (b : Tk) (n : Nat) (K : Tre), (segT b n K).dep ≤ b.er.nd + K.dep
  | .nil, _, _ => by simp [segT, Tk.er, Bk.nd]
  | .oth d r, n, K => by
    have := segT_dep r n K
    simp only [segT, Tre.dep, Tk.er, Bk.nd]; omega
  | .ifs q a b r, n, K => by
    have h1 := segT_dep r (n + a.er.nw + b.er.nw) K
    have h2 := segT_dep a n (segT r (n + a.er.nw + b.er.nw) K)
    have h3 := segT_dep b (n + a.er.nw) (segT r (n + a.er.nw + b.er.nw) K)
    simp only [segT, Tre.dep, Tk.er, Bk.nd]; omega
  | .whl q k a r, n, K => by simp only [segT, Tre.dep]; omega
theorem wlT_ok {c : Cs} : ∀ (b : Tk) (n : Nat) (K : Tre), b.ok c → K.ok c → ∀ w ∈ wlT b n K, sayOk c w.1 ∧ w.2.1.ok c ∧ w.2.2.ok c
  | .nil, _, _, _, _, w, hw => by cases hw
  | .oth d r, n, K, h, h', w, hw => wlT_ok r n K h.2 h' w hw
  | .ifs q a b r, n, K, h, h', w, hw => by
    simp only [wlT, List.mem_append] at hw
    have hr := segT_ok r (n + a.er.nw + b.er.nw) K h.2.2.2 h'
    rcases hw with (hw | hw) | hw
    · exact wlT_ok a _ _ h.2.1 hr w hw
    · exact wlT_ok b _ _ h.2.2.1 hr w hw
    · exact wlT_ok r _ K h.2.2.2 h' w hw
  | .whl q k a r, n, K, h, h', w, hw => by
    simp only [wlT, List.mem_cons, List.mem_append] at hw
    rcases hw with rfl | hw | hw
    · exact ⟨h.1, segT_ok r _ K h.2.2.2 h', segT_ok a _ _ h.2.2.1 True.intro⟩
    · exact wlT_ok a (n + 1) (.fin (some n)) h.2.2.1 True.intro w hw
    · exact wlT_ok r _ K h.2.2.2 h' w hw
theorem wlT_dep : ∀ (b : Tk) (n : Nat) (K : Tre), ∀ w ∈ wlT b n K, w.2.1.dep ≤ b.er.nd + K.dep ∧ w.2.2.dep ≤ b.er.nd + K.dep
  | .nil, _, _, w, hw => by cases hw
  | .oth d r, n, K, w, hw => by
    have := wlT_dep r n K w hw
    simp only [Tk.er, Bk.nd]; omega
  | .ifs q a b r, n, K, w, hw => by
    simp only [wlT, List.mem_append] at hw
    have hr := segT_dep r (n + a.er.nw + b.er.nw) K
    simp only [Tk.er, Bk.nd]
    rcases hw with (hw | hw) | hw
    · have := wlT_dep a _ _ w hw; omega
    · have := wlT_dep b _ _ w hw; omega
    · have := wlT_dep r _ K w hw; omega
  | .whl q k a r, n, K, w, hw => by
    simp only [wlT, List.mem_cons, List.mem_append] at hw
    simp only [Tk.er, Bk.nd]
    rcases hw with rfl | hw | hw
    · have h1 := segT_dep r (n + 1 + a.er.nw) K
      have h2 := segT_dep a (n + 1) (.fin (some n))
      have h3 : (Tre.fin (some n)).dep = 0 := rfl
      rw [h3] at h2
      constructor
      · show (segT r (n + 1 + a.er.nw) K).dep ≤ _; omega
      · show (segT a (n + 1) (.fin (some n))).dep ≤ _; omega
    · have := wlT_dep a (n + 1) (.fin (some n)) w hw
      have h3 : (Tre.fin (some n)).dep = 0 := rfl
      rw [h3] at this; omega
    · have := wlT_dep r _ K w hw; omega
theorem wlT_len (b : Tk) (n : Nat) (K : Tre) : (wlT b n K).length = b.er.nw := by
  have := congrArg List.length (wlT_res b n K)
  rw [List.length_map, wl_len] at this
  exact this
theorem wlT_heads : ∀ (b : Tk) (n : Nat) (K : Tre) (i : Nat) (w : Say × Tre × Tre), (wlT b n K)[i]? = some w → ∃ k a, b.er.heads[i]? = some (.tup [.str cWh, w.1.toD, k, a])
  | .nil, _, _, i, w, h => by simp [wlT] at h
  | .oth d r, n, K, i, w, h => wlT_heads r n K i w h
  | .ifs q a b r, n, K, i, w, h => by
    have la := wlT_len a n (segT r (n + a.er.nw + b.er.nw) K)
    have lb := wlT_len b (n + a.er.nw) (segT r (n + a.er.nw + b.er.nw) K)
    have ha := Bk.heads_len a.er
    have hb := Bk.heads_len b.er
    simp only [wlT] at h
    simp only [Tk.er, Bk.heads]
    by_cases h1 : i < a.er.nw
    · rw [List.append_assoc, List.getElem?_append_left (by omega)] at h ⊢
      exact wlT_heads a _ _ i w h
    · by_cases h2 : i < a.er.nw + b.er.nw
      · rw [List.append_assoc, List.getElem?_append_right (by omega), List.getElem?_append_left (by omega)] at h ⊢
        rw [la] at h
        rw [ha]
        exact wlT_heads b _ _ _ w h
      · rw [List.getElem?_append_right (by rw [List.length_append]; omega), List.length_append] at h ⊢
        rw [la, lb] at h
        rw [ha, hb]
        exact wlT_heads r _ K _ w h
  | .whl q k a r, n, K, i, w, h => by
    cases i with
    | zero =>
      simp only [wlT, List.getElem?_cons_zero, Option.some.injEq] at h
      subst h
      exact ⟨_, _, rfl⟩
    | succ i =>
      have la := wlT_len a (n + 1) (.fin (some n))
      have ha := Bk.heads_len a.er
      simp only [wlT, List.getElem?_cons_succ] at h
      simp only [Tk.er, Bk.heads, List.getElem?_cons_succ]
      by_cases h1 : i < a.er.nw
      · rw [List.getElem?_append_left (by omega)] at h ⊢
        exact wlT_heads a _ _ i w h
      · rw [List.getElem?_append_right (by omega)] at h ⊢
        rw [la] at h
        rw [ha]
        exact wlT_heads r _ K _ w h
/-- at a spot stands a tree -/
inductive WT (row hd : List D) : Nat → Tre → Prop
  | fin {a : Nat} (e : row[a]? = some (.tup [.str cEnd])) : WT row hd a (.fin none)
  | whl {a n t : Nat} {x : D} (e : row[a]? = some (.tup [.str cWh, x, .int (t : Nat), .int (n : Nat)])) (h : hd[n]? = some (.int (a : Nat))) : WT row hd a (.fin (some n))
  | deed {a a1 i : Nat} {d : Deed} {t : Tre} (e : row[a]? = some (.tup [.str cDeed, d.toD])) (l : Lands row (a + 1) a1 i) (w : WT row hd a1 t) : WT row hd a (.deed d t)
  | ask {a k a2 a3 i j : Nat} {q : Say} {t0 t1 : Tre} (e : row[a]? = some (.tup [.str cIf, q.toD, .int (k : Nat)])) (l0 : Lands row k a2 i) (w0 : WT row hd a2 t0) (l1 : Lands row (a + 1) a3 j) (w1 : WT row hd a3 t1) : WT row hd a (.ask q t0 t1)
theorem segT_walk {row hd : List D} : ∀ (b : Tk) (o n : Nat) (K : Tre) (e i : Nat), At row o (b.er.code o n) → At hd n (b.er.hat o) → Lands row (o + b.er.len) e i → WT row hd e K → ∃ e' i', Lands row o e' i' ∧ WT row hd e' (segT b n K)
  | .nil, o, n, K, e, i, _, _, l, w => ⟨e, i, l, w⟩
  | .oth d r, o, n, K, e, i, at', ah, l, w' => by
    obtain ⟨h1, h2⟩ := At.cons at'
    obtain ⟨e1, i1, l1, w1⟩ := segT_walk r (o + 1) n K e i h2 ah (by rw [show o + 1 + r.er.len = o + (r.er.len + 1) by omega]; exact l) w'
    exact ⟨o, 0, .here h1 (by decide), .deed (d := d) h1 l1 w1⟩
  | .whl q k a r, o, n, K, e, i, at', ah, l, w' => by
    obtain ⟨h1, h2⟩ := At.cons at'
    obtain ⟨g1, g2⟩ := At.cons ah
    exact ⟨o, 0, .here h1 (by decide), .whl h1 g1⟩
  | .ifs q a b r, o, n, K, e, i, at', ah, l, w' => by
    obtain ⟨h1, h2⟩ := At.cons at'
    obtain ⟨h3, h4⟩ := At.app h2
    obtain ⟨h5, h6⟩ := At.cons h4
    rw [Bk.code_len] at h5 h6
    obtain ⟨h7, h8⟩ := At.app h6
    rw [Bk.code_len] at h8
    obtain ⟨g1, g2⟩ := At.app ah
    obtain ⟨g3, g4⟩ := At.app g1
    rw [Bk.hat_len] at g4
    rw [List.length_append, Bk.hat_len, Bk.hat_len] at g2
    have l' : o + (Tk.ifs q a b r).er.len = o + 2 + a.er.len + b.er.len + r.er.len := by simp [Tk.er, Bk.len]; omega
    rw [l'] at l
    have p1 : o + 1 + a.er.len + 1 = o + 2 + a.er.len := by omega
    rw [p1] at h7 h8
    obtain ⟨e1, i1, l1, w1⟩ := segT_walk r (o + 2 + a.er.len + b.er.len) (n + a.er.nw + b.er.nw) K e i h8 (by rw [Nat.add_assoc]; exact g2) l w'
    obtain ⟨e2, i2, l2, w2⟩ := segT_walk b (o + 2 + a.er.len) (n + a.er.nw) _ e1 i1 h7 g4 l1 w1
    obtain ⟨e3, i3, l3, w3⟩ := segT_walk a (o + 1) n _ e1 (i1 + 1) h3 g3 (.jump h5 l1) w1
    exact ⟨o, 0, .here h1 (by decide), .ask h1 l2 w2 l3 w3⟩
/-- a head at p: behind it, within it -/
def HdT (row hd : List D) (p : D) (w : Say × Tre × Tre) : Prop := ∃ (q n t : Nat), p = .int (q : Nat) ∧ row[q]? = some (.tup [.str cWh, w.1.toD, .int (t : Nat), .int (n : Nat)]) ∧
  (∃ e i, Lands row t e i ∧ WT row hd e w.2.1) ∧ ∃ e i, Lands row (q + 1) e i ∧ WT row hd e w.2.2
def HdsT (row hd : List D) : List D → List (Say × Tre × Tre) → Prop
  | [], [] => True
  | p :: ps, w :: ws => HdT row hd p w ∧ HdsT row hd ps ws
  | _, _ => False
theorem HdsT.app {row hd : List D} : ∀ {ps qs : List D} {ws vs : List (Say × Tre × Tre)}, HdsT row hd ps ws → HdsT row hd qs vs → HdsT row hd (ps ++ qs) (ws ++ vs)
  | [], _, [], _, _, h => h
  | p :: ps, _, w :: ws, _, h, h' => ⟨h.1, HdsT.app h.2 h'⟩
  | [], _, _ :: _, _, h, _ => h.elim
  | _ :: _, _, [], _, h, _ => h.elim
theorem HdsT.get {row hd : List D} : ∀ {ps : List D} {ws : List (Say × Tre × Tre)} {i : Nat} {p : D}, HdsT row hd ps ws → ps[i]? = some p → ∃ w, ws[i]? = some w ∧ HdT row hd p w
  | [], [], i, p, _, e => by simp at e
  | p :: ps, w :: ws, 0, _, h, e => by cases e; exact ⟨w, rfl, h.1⟩
  | p :: ps, w :: ws, i + 1, _, h, e => HdsT.get (i := i) h.2 e
  | [], _ :: _, _, _, h, _ => h.elim
  | _ :: _, [], _, _, h, _ => h.elim
theorem headsT_walk {row hd : List D} : ∀ (b : Tk) (o n : Nat) (K : Tre) (e i : Nat), At row o (b.er.code o n) → At hd n (b.er.hat o) → Lands row (o + b.er.len) e i → WT row hd e K → HdsT row hd (b.er.hat o) (wlT b n K)
  | .nil, o, n, K, e, i, _, _, _, _ => True.intro
  | .oth d r, o, n, K, e, i, at', ah, l, w' => by
    obtain ⟨h1, h2⟩ := At.cons at'
    exact headsT_walk r (o + 1) n K e i h2 ah (by rw [show o + 1 + r.er.len = o + (r.er.len + 1) by omega]; exact l) w'
  | .whl q k a r, o, n, K, e, i, at', ah, l, w' => by
    obtain ⟨h1, h2⟩ := At.cons at'
    obtain ⟨h3, h4⟩ := At.app h2
    obtain ⟨h5, h6⟩ := At.cons h4
    rw [Bk.code_len] at h5 h6
    obtain ⟨g1, g2⟩ := At.cons ah
    obtain ⟨g3, g4⟩ := At.app g2
    rw [Bk.hat_len] at g4
    have l' : o + (Tk.whl q k a r).er.len = o + 2 + a.er.len + r.er.len := by simp [Tk.er, Bk.len]; omega
    rw [l'] at l
    have p1 : o + 1 + a.er.len + 1 = o + 2 + a.er.len := by omega
    rw [p1] at h6
    have wh : WT row hd o (.fin (some n)) := .whl h1 g1
    have lw : Lands row (o + 1 + a.er.len) o 1 := .jump h5 (.here h1 (by decide))
    obtain ⟨e1, i1, l1, w1⟩ := segT_walk r (o + 2 + a.er.len) (n + 1 + a.er.nw) K e i h6 g4 l w'
    obtain ⟨e2, i2, l2, w2⟩ := segT_walk a (o + 1) (n + 1) _ o 1 h3 g3 lw wh
    refine ⟨⟨o, n, _, rfl, h1, ⟨e1, i1, l1, w1⟩, ⟨e2, i2, l2, w2⟩⟩, ?_⟩
    exact (headsT_walk a (o + 1) (n + 1) _ o 1 h3 g3 lw wh).app (headsT_walk r (o + 2 + a.er.len) _ K e i h6 g4 l w')
  | .ifs q a b r, o, n, K, e, i, at', ah, l, w' => by
    obtain ⟨h1, h2⟩ := At.cons at'
    obtain ⟨h3, h4⟩ := At.app h2
    obtain ⟨h5, h6⟩ := At.cons h4
    rw [Bk.code_len] at h5 h6
    obtain ⟨h7, h8⟩ := At.app h6
    rw [Bk.code_len] at h8
    obtain ⟨g1, g2⟩ := At.app ah
    obtain ⟨g3, g4⟩ := At.app g1
    rw [Bk.hat_len] at g4
    rw [List.length_append, Bk.hat_len, Bk.hat_len] at g2
    have g2' : At hd (n + a.er.nw + b.er.nw) (r.er.hat (o + 2 + a.er.len + b.er.len)) := by rw [Nat.add_assoc]; exact g2
    have l' : o + (Tk.ifs q a b r).er.len = o + 2 + a.er.len + b.er.len + r.er.len := by simp [Tk.er, Bk.len]; omega
    rw [l'] at l
    have p1 : o + 1 + a.er.len + 1 = o + 2 + a.er.len := by omega
    rw [p1] at h7 h8
    obtain ⟨e1, i1, l1, w1⟩ := segT_walk r (o + 2 + a.er.len + b.er.len) (n + a.er.nw + b.er.nw) K e i h8 g2' l w'
    exact ((headsT_walk a (o + 1) n _ e1 (i1 + 1) h3 g3 (.jump h5 l1) w1).app (headsT_walk b (o + 2 + a.er.len) _ _ e1 i1 h7 g4 l1 w1)).app (headsT_walk r (o + 2 + a.er.len + b.er.len) _ K e i h8 g2' l w')
/-- the whole program -/
def begT (b : Tk) : Tre := segT b 0 (.fin none)
def hdsT (b : Tk) : List (Say × Tre × Tre) := wlT b 0 (.fin none)
theorem prog_walk (b : Tk) : (∃ e i, Lands (rows b.er) 0 e i ∧ WT (rows b.er) (b.er.hat 0) e (begT b)) ∧ HdsT (rows b.er) (b.er.hat 0) (b.er.hat 0) (hdsT b) := by
  have hat : At (rows b.er) 0 (b.er.code 0 0) := fun i x e => by
    have hi := (List.getElem?_eq_some_iff.mp e).1
    rw [Nat.zero_add]
    unfold rows
    rw [List.getElem?_append_left hi]; exact e
  have ah : At (b.er.hat 0) 0 (b.er.hat 0) := fun i x e => by rw [Nat.zero_add]; exact e
  have he : (rows b.er)[b.er.len]? = some (.tup [.str cEnd]) := by
    unfold rows
    rw [List.getElem?_append_right (by rw [Bk.code_len]; exact Nat.le_refl _), Bk.code_len]; simp
  have le : Lands (rows b.er) (0 + b.er.len) b.er.len 0 := by rw [Nat.zero_add]; exact .here he (by decide)
  have we : WT (rows b.er) (b.er.hat 0) b.er.len (.fin none) := .fin he
  exact ⟨segT_walk b 0 0 _ b.er.len 0 hat ah le we, headsT_walk b 0 0 _ b.er.len 0 hat ah le we⟩
end T72

/-! RE: along a leg. -/
namespace T72
open Tr
open PySem (Addr PyData)
variable {C : Tr.Ctx}
theorem drop_at {α : Type} {all : List α} {a : Nat} {x : α} {l : List α} (h : all.drop a = x :: l) : all[a]? = some x ∧ all.drop (a + 1) = l ∧ a < all.length := by
  have ha : a < all.length := by
    apply Decidable.byContradiction
    intro z
    rw [List.drop_eq_nil_of_le (by omega)] at h
    cases h
  rw [List.drop_eq_getElem_cons ha] at h
  cases h
  exact ⟨List.getElem?_eq_getElem ha, rfl, ha⟩
abbrev wAsk : List Nat := [97, 115, 107, 101, 100]
/-- a step of a path -/
inductive Stp where
  | deed (d : Deed) | asked (q : Say) (b : Bool)
namespace Stp
def toD : Stp → D
  | deed d => .tup [.str cDeed, d.toD]
  | asked q b => .tup [.str wAsk, q.toD, .bl b]
def ok (c : Cs) : Stp → Prop
  | deed d => d.ok c
  | asked q _ => sayOk c q
end Stp
def runP (c : Cs) : List Stp → Stn → Option Stn
  | [], s => some s
  | .deed d :: p, s => runP c p (d.act c s)
  | .asked q b :: p, s => if q.val c s = b then runP c p s else none
inductive Pth : Tre → List Bool → List Stp → Prop
  | fin {g : Option Nat} : Pth (.fin g) [] []
  | deed {d : Deed} {t : Tre} {ch : List Bool} {p : List Stp} (h : Pth t ch p) : Pth (.deed d t) ch (.deed d :: p)
  | no {q : Say} {t0 t1 : Tre} {ch : List Bool} {p : List Stp} (h : Pth t0 ch p) : Pth (.ask q t0 t1) (false :: ch) (.asked q false :: p)
  | yes {q : Say} {t0 t1 : Tre} {ch : List Bool} {p : List Stp} (h : Pth t1 ch p) : Pth (.ask q t0 t1) (true :: ch) (.asked q true :: p)
theorem Pth.run {c : Cs} {t : Tre} {ch : List Bool} {p : List Stp} (h : Pth t ch p) : ∀ s, runP c p s = t.alng c ch s := by
  induction h with
  | fin => exact fun s => rfl
  | deed h ih => exact fun s => ih _
  | no h ih =>
    intro s
    simp only [runP, Tre.alng, ih]
    rfl
  | yes h ih =>
    intro s
    simp only [runP, Tre.alng, ih]
    rfl
theorem Pth.ok {c : Cs} {t : Tre} {ch : List Bool} {p : List Stp} (h : Pth t ch p) : t.ok c → ∀ x ∈ p, x.ok c := by
  induction h with
  | fin => exact fun _ x hx => by cases hx
  | deed h ih =>
    intro ht x hx
    rcases List.mem_cons.mp hx with rfl | hx
    · exact ht.1
    · exact ih ht.2 x hx
  | no h ih =>
    intro ht x hx
    rcases List.mem_cons.mp hx with rfl | hx
    · exact ht.1
    · exact ih ht.2.1 x hx
  | yes h ih =>
    intro ht x hx
    rcases List.mem_cons.mp hx with rfl | hx
    · exact ht.1
    · exact ih ht.2.2 x hx
theorem Pth.len {t : Tre} {ch : List Bool} {p : List Stp} (h : Pth t ch p) : p.length ≤ t.dep := by
  induction h with
  | fin => exact Nat.le_refl _
  | deed h ih => simp only [List.length_cons, Tre.dep]; omega
  | no h ih => simp only [List.length_cons, Tre.dep]; omega
  | yes h ih => simp only [List.length_cons, Tre.dep]; omega
theorem pth_of : ∀ (t : Tre), ∀ x ∈ t.res, ∃ p, Pth t x.1 p
  | .fin g, x, hx => by
    simp only [Tre.res, List.mem_singleton] at hx
    subst hx
    exact ⟨_, .fin⟩
  | .deed d t, x, hx => by
    obtain ⟨p, h⟩ := pth_of t x hx
    exact ⟨_, .deed h⟩
  | .ask q t0 t1, x, hx => by
    simp only [Tre.res, pre, List.mem_append, List.mem_map] at hx
    rcases hx with ⟨y, hy, rfl⟩ | ⟨y, hy, rfl⟩
    · obtain ⟨p, h⟩ := pth_of t0 y hy
      exact ⟨_, .no h⟩
    · obtain ⟨p, h⟩ := pth_of t1 y hy
      exact ⟨_, .yes h⟩
/-- a program, and what a start asks first -/
def PreOk (b : Tk) (st : D) (pre : List Stp) : Prop := (st = .non ∧ pre = []) ∨ ∃ (i : Nat) (bb : Bool) (q : Say) (k a : D), st = .tup [.int (i : Nat), .bl bb] ∧ b.er.heads[i]? = some (.tup [.str cWh, q.toD, k, a]) ∧ pre = [.asked q bb]
/-- what is known of a leg -/
structure Leg (b : Tk) (c : Cs) (st : D) (ch : List Bool) (pr p : List Stp) : Prop where
  ex : ∃ (a0 a1 i : Nat) (t : Tre), Spot (rows b.er) (b.er.hat 0) st a0 ∧ Lands (rows b.er) a0 a1 i ∧ WT (rows b.er) (b.er.hat 0) a1 t ∧ Pth t ch p
  pre : PreOk b st pr
  len : p.length ≤ 50000
  stp : ∀ x ∈ pr ++ p, x.ok c
structure PgOk (b : Tk) (c : Cs) : Prop where
  cs : c.ok
  bk : b.ok c
  nd : b.er.nd ≤ 1000
  ns : b.er.ns ≤ 40
def sPath : Tr.Spec := ⟨fun ρ ds T q _ => ∃ (b : Tk) (c : Cs) (x1 x3 gd st : D) (ch : List Bool) (pre p : List Stp), ds = [.tup [c.D, x1, .tup b.er.toD, x3], .tup [st, .tup (ch.map D.bl), gd]] ∧ PgOk b c ∧ Leg b c st ch pre p ∧ 120 ≤ ρ ∧
  ∀ pl T', T pl = none → T' pl = some (.lst ((pre ++ p).map Stp.toD)) → Kp [] T T' → q (.ref pl) T'⟩
theorem p_path (lc : LyC C) (h1 : C.G 1 = sHeadsOf) (h2 : C.G 2 = sInit) (h6 : C.G 6 = sLanded) (h8 : C.G 8 = sFirst) : Body C sPath i_path_of 10 2 := by
  rintro ρ ds T q X - ⟨b, c, x1, x3, gd, st, ch, pre, p, rfl, ⟨hc, hb, nd, ns⟩, ⟨⟨a0, a1, i, t, sp, la, wt, hp⟩, hpre, hlen, hok⟩, hρ, k⟩
  have hbo := Tk.er_ok hc b hb
  -- the loop
  have loop : ∀ (s rr hh pl : Addr) (T1 : TH), Ly T1 s rr hh (rows b.er) (b.er.hat 0) → pl ≠ s → pl ≠ rr → pl ≠ hh → T pl = none → T1 pl = some (.lst (pre.map Stp.toD)) → Kp [] T T1 →
      rdSs C ρ (dropS 4 i_path_of) (endD q X) [some (.tup [c.D, x1, .tup b.er.toD, x3]), some (.tup [st, .tup (ch.map D.bl), gd]), some (.ref s), some (.ref pl), none, none, some st, some (.tup (ch.map D.bl)), some gd, none] T1 := by
    intro s rr hh pl T1 L ns' nr' nh' npl ep K1
    have hpl : pre.length ≤ 1 := by
      rcases hpre with ⟨-, rfl⟩ | ⟨_, _, _, _, _, -, -, rfl⟩ <;> simp
    unfold i_path_of
    simp only [dropS]
    rw [ss_consS]
    simp
    rw [h8]
    refine ⟨1, by omega, s, rr, hh, _, _, st, a0, a1, i, rfl, L, sp, la, Nat.le_refl _, ?_⟩
    dsimp only
    rw [ss_consS]
    simp
    rw [ss_consS]
    simp
    refine wh_ind (fun n τ T' => ∃ (d9 : Option D) (a done : Nat) (t : Tre) (ch' : List Bool) (p0 p' : List Stp), τ = [some (.tup [c.D, x1, .tup b.er.toD, x3]), some (.tup [st, .tup (ch.map D.bl), gd]), some (.ref s), some (.ref pl), some (.int (a : Nat)), some (.int (done : Nat)), some st, some (.tup (ch.map D.bl)), some gd, d9] ∧
      n = p'.length ∧ p = p0 ++ p' ∧ WT (rows b.er) (b.er.hat 0) a t ∧ Pth t ch' p' ∧ ch.drop done = ch' ∧ T' pl = some (.lst ((pre ++ p0).map Stp.toD)) ∧ Ly T' s rr hh (rows b.er) (b.er.hat 0) ∧ Kp [] T T') ?_ ⟨none, a1, 0, t, ch, [], p, rfl, rfl, rfl, wt, hp, rfl, by simpa using ep, L, K1⟩
    rintro n τ T' kk ⟨d9, a, done, t, ch', p0, p', rfl, rfl, epp, wt, hp, hch, ep, L, K⟩ hk
    have hlp : p0.length + p'.length ≤ 50000 := by rw [epp, List.length_append] at hlen; exact hlen
    cases hp with
    | fin =>
      have fin : ∀ T' : TH, T' = T' → True := fun _ _ => True.intro
      have w0 : ∃ w xs, (rows b.er)[a]? = some (.tup (.str w :: xs)) ∧ inF (.str w) [.str cDeed, .str cIf] = false := by
        cases wt with
        | fin e => exact ⟨_, _, e, by decide⟩
        | whl e h => exact ⟨_, _, e, by decide⟩
      obtain ⟨w, xs, e, hin⟩ := w0
      simp [L.s, L.r, lc.fr, lookF, e, hin]
      refine ⟨rfl, ⟨rfl, rfl⟩, ?_⟩
      rw [ss_consS]
      simp
      rw [List.append_nil] at epp
      subst epp
      exact k pl T' npl ep K
    | @deed d t ch' p'' hp =>
      cases wt with
      | @deed _ a1' i' _ _ e l w =>
        have hin : inF (.str cDeed) [.str cDeed, .str cIf] = true := by decide
        simp [L.s, L.r, lc.fr, lookF, e, hin]
        refine ⟨rfl, ⟨rfl, rfl⟩, ?_⟩
        rw [ss_consS]
        simp [L.s, L.r, lc.fr, lookF, e]
        rw [ss_consS]
        simp
        rw [ss_consS]
        simp [ep]
        simp at hlp
        refine ⟨by omega, ?_⟩
        rw [ss_consS]
        have L2 : Ly (upd T' pl (.lst (pre.map Stp.toD ++ (p0.map Stp.toD ++ [.tup [.str cDeed, d.toD]])))) s rr hh (rows b.er) (b.er.hat 0) := ⟨by rw [upd_ne (Ne.symm ns')]; exact L.s, by rw [upd_ne (Ne.symm nr')]; exact L.r, by rw [upd_ne (Ne.symm nh')]; exact L.h, L.ne⟩
        have L2s := L2.s
        simp [Ne.symm ns', L.s, lc.m6, lc.n6, lookF]
        refine c_land h6 (by omega) L2 l (by omega) ?_
        exact hk p''.length _ _ (by simp) ⟨_, a1', done, t, _, p0 ++ [.deed d], p'', rfl, rfl, by rw [epp]; simp, w, hp, hch, by rw [upd_same]; simp [Stp.toD], L2, K.put2 npl⟩
    | @no q0 t0 t1 ch' p'' hp =>
      cases wt with
      | @ask _ kk' a2 a3 i' j' _ _ _ e l0 w0 l1 w1 =>
        have hin : inF (.str cIf) [.str cDeed, .str cIf] = true := by decide
        have hcd : (ch.map D.bl)[done]? = some (.bl false) := by
          have := drop_at hch
          rw [List.getElem?_map, this.1]; rfl
        have hch2 := (drop_at hch).2.1
        have hcb := (drop_at hch).1
        simp at hlp
        simp [L.s, L.r, lc.fr, lookF, e, hin]
        refine ⟨rfl, ⟨rfl, rfl⟩, ?_⟩
        rw [ss_consS]
        simp [L.s, L.r, lc.fr, lookF, e]
        rw [ss_consS]
        simp
        rw [ss_consS]
        simp [ep, hcd]
        refine ⟨by omega, ?_⟩
        rw [ss_consS]
        have L2 : Ly (upd T' pl (.lst (pre.map Stp.toD ++ (p0.map Stp.toD ++ [.tup [.str wAsk, q0.toD, .bl false]])))) s rr hh (rows b.er) (b.er.hat 0) := ⟨by rw [upd_ne (Ne.symm ns')]; exact L.s, by rw [upd_ne (Ne.symm nr')]; exact L.r, by rw [upd_ne (Ne.symm nh')]; exact L.h, L.ne⟩
        have epl : upd T' pl (.lst (pre.map Stp.toD ++ (p0.map Stp.toD ++ [.tup [.str wAsk, q0.toD, .bl false]]))) pl = some (.lst ((pre ++ (p0 ++ [Stp.asked q0 false])).map Stp.toD)) := by rw [upd_same]; simp [Stp.toD]
        have K2 : Kp [] T (upd T' pl (.lst (pre.map Stp.toD ++ (p0.map Stp.toD ++ [.tup [.str wAsk, q0.toD, .bl false]])))) := K.put2 npl
        generalize upd T' pl (.lst (pre.map Stp.toD ++ (p0.map Stp.toD ++ [.tup [.str wAsk, q0.toD, .bl false]]))) = T2 at L2 epl K2 ⊢
        simp [L2.s, lc.m6, lc.n6, lookF]
        intro pn hpn
        have nsn := ne_new L2.s hpn
        have nrn := ne_new L2.r hpn
        have nhn := ne_new L2.h hpn
        have nln := ne_new epl hpn
        have L3 : Ly (upd T2 pn (.lst [.int (kk' : Nat), .int ((a : Int) + 1)])) s rr hh (rows b.er) (b.er.hat 0) := ⟨by rw [upd_ne nsn]; exact L2.s, by rw [upd_ne nrn]; exact L2.r, by rw [upd_ne nhn]; exact L2.h, L2.ne⟩
        simp [hcb]
        refine c_land h6 (by omega) L3 l0 (by omega) ?_
        rw [ss_consS]
        simp
        exact hk p''.length _ _ (by simp) ⟨_, a2, done + 1, t0, ch', p0 ++ [.asked q0 false], p'', rfl, rfl, by rw [epp]; simp, w0, hp, hch2, by rw [upd_ne nln]; exact epl, L3, K2.trans (Kp.new hpn)⟩
    | @yes q0 t0 t1 ch' p'' hp =>
      cases wt with
      | @ask _ kk' a2 a3 i' j' _ _ _ e l0 w0 l1 w1 =>
        have hin : inF (.str cIf) [.str cDeed, .str cIf] = true := by decide
        have hcd : (ch.map D.bl)[done]? = some (.bl true) := by
          have := drop_at hch
          rw [List.getElem?_map, this.1]; rfl
        have hch2 := (drop_at hch).2.1
        have hcb := (drop_at hch).1
        simp at hlp
        simp [L.s, L.r, lc.fr, lookF, e, hin]
        refine ⟨rfl, ⟨rfl, rfl⟩, ?_⟩
        rw [ss_consS]
        simp [L.s, L.r, lc.fr, lookF, e]
        rw [ss_consS]
        simp
        rw [ss_consS]
        simp [ep, hcd]
        refine ⟨by omega, ?_⟩
        rw [ss_consS]
        have L2 : Ly (upd T' pl (.lst (pre.map Stp.toD ++ (p0.map Stp.toD ++ [.tup [.str wAsk, q0.toD, .bl true]])))) s rr hh (rows b.er) (b.er.hat 0) := ⟨by rw [upd_ne (Ne.symm ns')]; exact L.s, by rw [upd_ne (Ne.symm nr')]; exact L.r, by rw [upd_ne (Ne.symm nh')]; exact L.h, L.ne⟩
        have epl : upd T' pl (.lst (pre.map Stp.toD ++ (p0.map Stp.toD ++ [.tup [.str wAsk, q0.toD, .bl true]]))) pl = some (.lst ((pre ++ (p0 ++ [Stp.asked q0 true])).map Stp.toD)) := by rw [upd_same]; simp [Stp.toD]
        have K2 : Kp [] T (upd T' pl (.lst (pre.map Stp.toD ++ (p0.map Stp.toD ++ [.tup [.str wAsk, q0.toD, .bl true]])))) := K.put2 npl
        generalize upd T' pl (.lst (pre.map Stp.toD ++ (p0.map Stp.toD ++ [.tup [.str wAsk, q0.toD, .bl true]]))) = T2 at L2 epl K2 ⊢
        simp [L2.s, lc.m6, lc.n6, lookF]
        intro pn hpn
        have nsn := ne_new L2.s hpn
        have nrn := ne_new L2.r hpn
        have nhn := ne_new L2.h hpn
        have nln := ne_new epl hpn
        have L3 : Ly (upd T2 pn (.lst [.int (kk' : Nat), .int ((a : Int) + 1)])) s rr hh (rows b.er) (b.er.hat 0) := ⟨by rw [upd_ne nsn]; exact L2.s, by rw [upd_ne nrn]; exact L2.r, by rw [upd_ne nhn]; exact L2.h, L2.ne⟩
        simp [hcb]
        refine c_land h6 (by omega) L3 l1 (by omega) ?_
        rw [ss_consS]
        simp
        exact hk p''.length _ _ (by simp) ⟨_, a3, done + 1, t1, ch', p0 ++ [.asked q0 true], p'', rfl, rfl, by rw [epp]; simp, w1, hp, hch2, by rw [upd_ne nln]; exact epl, L3, K2.trans (Kp.new hpn)⟩
  unfold i_path_of
  rw [ss_consS]
  simp [startD]
  intro s hs
  rw [h2]
  refine ⟨110, by omega, b.er, s, c.D, x1, x3, rfl, upd_same, hbo, nd, by omega, fun rr hh T1 L nrr nhh K1 => ?_⟩
  simp
  have K1T : Kp [] T T1 := fun p o e _ => K1 p o ((Kp.new (S := []) hs) p o e (by simp)) (by simp; exact ne_new e hs)
  rw [ss_consS]
  simp [-g_tp, -g_cn, -g_nl]
  rw [ss_consS]
  simp
  intro pl hpl
  have npl : T pl = none := K1T.fresh hpl (by simp)
  have n1 := ne_new L.s hpl
  have n2 := ne_new L.r hpl
  have n3 := ne_new L.h hpl
  have L1 : Ly (upd T1 pl (.lst [])) s rr hh (rows b.er) (b.er.hat 0) := ⟨by rw [upd_ne n1]; exact L.s, by rw [upd_ne n2]; exact L.r, by rw [upd_ne n3]; exact L.h, L.ne⟩
  have K2T : Kp [] T (upd T1 pl (.lst [])) := K1T.trans (Kp.new hpl)
  rw [ss_consS]
  rcases hpre with ⟨rfl, rfl⟩ | ⟨ih, bb, qh, kh, ah, rfl, hhd, rfl⟩
  · simp
    exact loop s rr hh pl _ L1 (Ne.symm n1) (Ne.symm n2) (Ne.symm n3) npl upd_same K2T
  · simp
    rw [ss_consS]
    simp
    rw [h1]
    refine ⟨100, by omega, b.er, c.D, x1, x3, rfl, hbo, nd, by omega, fun T3 K3 => ?_⟩
    have e3 := K3 _ _ upd_same (by simp)
    simp [hhd, e3]
    have L3 : Ly T3 s rr hh (rows b.er) (b.er.hat 0) := ⟨K3 _ _ L1.s (by simp), K3 _ _ L1.r (by simp), K3 _ _ L1.h (by simp), L.ne⟩
    have L4 : Ly (upd T3 pl (.lst [.tup [.str wAsk, qh.toD, .bl bb]])) s rr hh (rows b.er) (b.er.hat 0) := ⟨by rw [upd_ne n1]; exact L3.s, by rw [upd_ne n2]; exact L3.r, by rw [upd_ne n3]; exact L3.h, L.ne⟩
    exact loop s rr hh pl _ L4 (Ne.symm n1) (Ne.symm n2) (Ne.symm n3) npl (by rw [upd_same]; rfl) ((K2T.trans K3).put2 npl)
end T72

/-! RF: along; whole runs. -/
namespace T72
open Tr
open PySem (Addr PyData)
variable {C : Tr.Ctx}
def optD : Option Stn → D
  | none => .non
  | some s => s.D
def sAlong : Tr.Spec := ⟨fun ρ ds T q _ => ∃ (b : Tk) (c : Cs) (x1 x3 gd st : D) (ch : List Bool) (pr p : List Stp) (s : Stn), ds = [.tup [c.D, x1, .tup b.er.toD, x3], .tup [st, .tup (ch.map D.bl), gd], s.D] ∧ PgOk b c ∧ Leg b c st ch pr p ∧ s.ok c ∧ 121 ≤ ρ ∧
  ∀ T', Kp [] T T' → q (optD (runP c (pr ++ p) s)) T'⟩
theorem p_along (h36 : C.G 36 = sHolds) (h44 : C.G 44 = sActed) (h45 : C.G 45 = sPath) : Body C sAlong i_along 4 3 := by
  rintro ρ ds T q X - ⟨b, c, x1, x3, gd, st, ch, pr, p, s, rfl, hP, hL, hs, hρ, k⟩
  have hc := hP.cs
  unfold i_along
  rw [ss_consS]
  simp [startD]
  rw [h45]
  refine ⟨120, by omega, b, c, x1, x3, gd, st, ch, pr, p, rfl, hP, hL, Nat.le_refl _, fun pl T1 npl epl K1 => ?_⟩
  simp only [z_ref, epl]
  refine ⟨trivial, ?_⟩
  refine for_ind (fun li τ T' => ∃ (d3 : Option D) (s' : Stn) (td : List Stp), τ = [some (.tup [c.D, x1, .tup b.er.toD, x3]), some (.tup [st, .tup (ch.map D.bl), gd]), some s'.D, d3] ∧ li = td.map Stp.toD ∧ runP c td s' = runP c (pr ++ p) s ∧ s'.ok c ∧ (∀ x ∈ td, x.ok c) ∧ T' pl = some (.lst ((pr ++ p).map Stp.toD)) ∧ Kp [] T T') ?_ ?_ _ _ _ ⟨none, s, pr ++ p, rfl, rfl, rfl, hs, hL.stp, epl, K1⟩
  · rintro τ T' ⟨d3, s', td, rfl, el, er, hs', -, -, K⟩
    have : td = [] := by cases td with
      | nil => rfl
      | cons _ _ => cases el
    subst this
    rw [ss_consS]
    simp
    have := k T' K
    rw [← er] at this
    exact this
  · rintro d li τ T' kk ⟨d3, s', td, rfl, el, er, hs', hk', ep, K⟩ hk
    cases td with
    | nil => cases el
    | cons x td =>
      simp only [List.map_cons, List.cons.injEq] at el
      obtain ⟨rfl, rfl⟩ := el
      have hx := hk' x (by simp)
      simp
      rw [ss_consS]
      cases x with
      | deed de =>
        simp [Stp.toD]
        rw [ss_consS]
        simp
        refine c_acted h44 (by omega) rfl rfl rfl hc hs' hx fun T2 K2 => ?_
        have ep2 := K2 _ _ ep (by simp)
        simp at ep2 ⊢
        exact ⟨ep2, hk _ _ ⟨_, de.act c s', td, rfl, rfl, er, Deed.act_ok hc hs' hx, fun x hx => hk' x (by simp [hx]), by simpa using ep2, K.trans K2⟩⟩
      | asked y bb =>
        simp [Stp.toD]
        rw [ss_consS]
        simp
        have hrk := hx.2.1
        refine c_holds h36 (by omega) rfl rfl rfl hc hs' hx.1 hx.2.2 fun T2 K2 => ?_
        have ep2 := K2 _ _ ep (by simp)
        simp
        by_cases e : y.val c s' = bb
        · simp [e]
          simp at ep2
          exact ⟨ep2, hk _ _ ⟨_, s', td, rfl, rfl, by rw [← er]; simp [runP, e], hs', fun x hx => hk' x (by simp [hx]), by simpa using ep2, K.trans K2⟩⟩
        · simp [e]
          rw [ss_consS]
          simp
          have := k T2 (K.trans K2)
          rw [← er] at this
          simpa [runP, e, optD] using this
end T72

/-! RG: one leg alone is gone along. -/
namespace T72
open Tr
open PySem (Addr PyData)
variable {C : Tr.Ctx}
/-- where one comes from a start -/
def goneOf (b : Tk) (c : Cs) (h : Option Nat) (s : Stn) : Option Nat × Stn := match h with
  | none => (begT b).go c s
  | some n => match (hdsT b)[n]? with
    | some w => (if w.1.val c s = true then w.2.2 else w.2.1).go c s
    | none => (none, s)
/-- each start, what it asks first, its tree -/
def hdTT : Nat → List (Say × Tre × Tre) → List (D × List Stp × Tre)
  | _, [] => []
  | i, w :: ws => (.tup [.int (i : Nat), .bl false], [.asked w.1 false], w.2.1) :: (.tup [.int (i : Nat), .bl true], [.asked w.1 true], w.2.2) :: hdTT (i + 1) ws
def stT (b : Tk) : List (D × List Stp × Tre) := (.non, [], begT b) :: hdTT 0 (hdsT b)
theorem hdTT_res : ∀ (ws : List (Say × Tre × Tre)) (i : Nat), (hdTT i ws).map (fun x => (x.1, x.2.2.res)) = hdR i (ws.map fun w => (w.2.1.res, w.2.2.res))
  | [], _ => rfl
  | w :: ws, i => by simp only [hdTT, List.map_cons, hdR, hdTT_res ws]
theorem stT_res (b : Tk) : (stT b).map (fun x => (x.1, x.2.2.res)) = stR b.er := by
  have h1 := wlT_res b 0 (.fin none)
  have h2 := segT_res b 0 (.fin none)
  simp only [stT, List.map_cons, hdTT_res, stR, hdsT, begT]
  rw [h1, h2]; rfl
/-- a start with one of its legs -/
def items (b : Tk) : List ((D × List Stp × Tre) × (List Bool × Option Nat)) := ((stT b).map fun x => x.2.2.res.map fun y => (x, y)).flatten
theorem legs_items (b : Tk) : legsD b.er = (items b).map fun z => legD z.1.1 z.2 := by
  unfold legsD items
  rw [← stT_res, List.map_flatten, List.map_map, List.map_map]
  congr 1
  apply List.map_congr_left
  intro x _
  simp [Function.comp_def]
def headD' : Option Nat → D
  | none => .non
  | some n => .int (n : Nat)
/-- does the start belong to the head? -/
def ofHead : Option Nat → D → Bool
  | none, .non => true
  | some n, .tup [.int i, .bl _] => decide (i = (n : Int))
  | _, _ => false
def contrib (c : Cs) (h : Option Nat) (s : Stn) (z : (D × List Stp × Tre) × (List Bool × Option Nat)) : Option (Option Nat × Stn) :=
  if ofHead h z.1.1 = true then
    match z.1.2.1 with
    | [.asked q b] => if q.val c s = b then (z.1.2.2.alng c z.2.1 s).map fun s' => (z.2.2, s') else none
    | _ => (z.1.2.2.alng c z.2.1 s).map fun s' => (z.2.2, s')
  else none
theorem grp (c : Cs) (h : Option Nat) (s : Stn) (x : D × List Stp × Tre) : ((x.2.2.res.map fun y => (x, y)).filterMap (contrib c h s)) =
    if ofHead h x.1 = true then (match x.2.1 with
      | [.asked q b] => if q.val c s = b then [x.2.2.go c s] else []
      | _ => [x.2.2.go c s]) else [] := by
  have e := Tre.one c x.2.2 s
  rw [List.filterMap_map]
  unfold contrib
  simp only [Function.comp_def]
  by_cases h1 : ofHead h x.1 = true
  · simp only [h1, if_true]
    obtain ⟨x1, x2, x3⟩ := x
    simp only at e ⊢
    split
    · rename_i q b
      by_cases h2 : q.val c s = b
      · simp only [h2, if_true]; exact e
      · simp only [h2, if_false]; exact fm_none _
    · exact e
  · simp only [h1, if_false]
    exact fm_none _
theorem hdTT_none (c : Cs) (s : Stn) : ∀ (ws : List (Say × Tre × Tre)) (i : Nat), (((hdTT i ws).map fun x => x.2.2.res.map fun y => (x, y)).flatten).filterMap (contrib c none s) = []
  | [], _ => rfl
  | w :: ws, i => by
    simp only [hdTT, List.map_cons, List.flatten_cons, List.filterMap_append, hdTT_none c s ws]
    rw [show List.filterMap (contrib c none s) (List.map (fun y => ((D.tup [.int (i : Nat), .bl false], [Stp.asked w.1 false], w.2.1), y)) w.2.1.res) = _ from grp c none s (.tup [.int (i : Nat), .bl false], [.asked w.1 false], w.2.1),
      show List.filterMap (contrib c none s) (List.map (fun y => ((D.tup [.int (i : Nat), .bl true], [Stp.asked w.1 true], w.2.2), y)) w.2.2.res) = _ from grp c none s (.tup [.int (i : Nat), .bl true], [.asked w.1 true], w.2.2)]
    simp [ofHead]
theorem hdTT_some (c : Cs) (s : Stn) : ∀ (ws : List (Say × Tre × Tre)) (i n : Nat), (((hdTT i ws).map fun x => x.2.2.res.map fun y => (x, y)).flatten).filterMap (contrib c (some n) s) =
    if i ≤ n then (match ws[n - i]? with | some w => [(if w.1.val c s = true then w.2.2 else w.2.1).go c s] | none => []) else []
  | [], i, n => by simp [hdTT]
  | w :: ws, i, n => by
    have ih := hdTT_some c s ws (i + 1) n
    simp only [hdTT, List.map_cons, List.flatten_cons, List.filterMap_append, ih]
    rw [show List.filterMap (contrib c (some n) s) (List.map (fun y => ((D.tup [.int (i : Nat), .bl false], [Stp.asked w.1 false], w.2.1), y)) w.2.1.res) = _ from grp c (some n) s (.tup [.int (i : Nat), .bl false], [.asked w.1 false], w.2.1),
      show List.filterMap (contrib c (some n) s) (List.map (fun y => ((D.tup [.int (i : Nat), .bl true], [Stp.asked w.1 true], w.2.2), y)) w.2.2.res) = _ from grp c (some n) s (.tup [.int (i : Nat), .bl true], [.asked w.1 true], w.2.2)]
    by_cases h1 : i = n
    · subst h1
      have h2 : ¬ (i + 1 ≤ i) := by omega
      simp [ofHead, h2]
      cases ev : w.1.val c s <;> simp
    · have h3 : decide ((i : Int) = (n : Int)) = false := decide_eq_false (by omega)
      by_cases h2 : i ≤ n
      · have h4 : i + 1 ≤ n := by omega
        have h5 : n - i = (n - (i + 1)) + 1 := by omega
        simp [ofHead, h3, h2, h4, h5]
      · have h4 : ¬ (i + 1 ≤ n) := by omega
        simp [ofHead, h3, h2, h4]
theorem gone_one (b : Tk) (c : Cs) (h : Option Nat) (s : Stn) (hh : ∀ n, h = some n → ∃ w, (hdsT b)[n]? = some w) : (items b).filterMap (contrib c h s) = [goneOf b c h s] := by
  unfold items stT
  rw [List.map_cons, List.flatten_cons, List.filterMap_append, grp]
  cases h with
  | none =>
    rw [hdTT_none]
    simp [ofHead, goneOf]
  | some n =>
    rw [hdTT_some]
    obtain ⟨w, hw⟩ := hh n rfl
    simp [ofHead, goneOf, hw]
end T72

/-! RH: gone along; right. -/
namespace T72
open Tr
open PySem (Addr PyData)
variable {C : Tr.Ctx}
section
variable {T : TH} {P : Bool → Prop}
theorem toPy_lst {a : Addr} {xs : List D} (h : T a = some (.lst xs)) : toPyT T (.ref a) = .list (toPys xs) := by
  show (match T a with | some (.lst ds) => PyData.list (toPys ds) | _ => .dict []) = _
  rw [h]
theorem lay_lst {a : Addr} {xs : List D} (h : T a = some (.lst xs)) (hp : xs.all pu = true) : lay T (.ref a) := by
  unfold lay
  rw [toPy_lst h]
  show PyData.canLayAll0 (toPys xs) = true
  rw [pus]; exact hp
theorem pys_refl {xs : List D} (h : xs.all pu = true) : PyData.eqvAll (toPys xs) (toPys xs) = true := PySem.SeqAt.eqvAll_refl _ (by rw [pus]; exact h)
theorem deq_sameL {p q : Addr} {xs : List D} (hp : T p = some (.lst xs)) (hq : T q = some (.lst xs)) (h : xs.all pu = true) : deq T (.ref p) (.ref q) = true := by
  unfold deq
  rw [toPy_lst hp, toPy_lst hq]
  exact pys_refl h
theorem shal_lst {p : Addr} {x : D} {xs : List D} (hp : T p = some (.lst xs)) (hd : PyData.depthAll (toPys xs) ≤ 63) : shal T (.ref p) x := by
  left
  rw [toPy_lst hp]
  show PyData.depthAll (toPys xs) + 1 ≤ 64
  omega
theorem ne_sameL {p q : Addr} {xs : List D} (hp : T p = some (.lst xs)) (hq : T q = some (.lst xs)) (h : xs.all pu = true) (hd : PyData.depthAll (toPys xs) ≤ 63) (k : P false) : cmpR .ne (.ref p) (.ref q) T P := by
  show lay T _ ∧ lay T _ ∧ shal T _ _ ∧ P (!deq T _ _)
  rw [deq_sameL hp hq h]
  exact ⟨lay_lst hp h, lay_lst hq h, shal_lst hp hd, k⟩
theorem eq_sameL {p q : Addr} {xs : List D} (hp : T p = some (.lst xs)) (hq : T q = some (.lst xs)) (h : xs.all pu = true) (hd : PyData.depthAll (toPys xs) ≤ 63) (k : P true) : cmpR .eq (.ref p) (.ref q) T P := by
  show lay T _ ∧ lay T _ ∧ shal T _ _ ∧ P (deq T _ _)
  rw [deq_sameL hp hq h]
  exact ⟨lay_lst hp h, lay_lst hq h, shal_lst hp hd, k⟩
theorem eq_in {i : Int} (k : P false) : cmpR .eq (.int i) .non T P := by
  show lay T _ ∧ lay T _ ∧ shal T _ _ ∧ P (deq T _ _)
  exact ⟨rfl, rfl, .inl (Nat.zero_le _), k⟩
end
theorem dps_le {n : Nat} : ∀ {xs : List D}, (∀ d ∈ xs, (toPy d).depth ≤ n) → PyData.depthAll (toPys xs) ≤ n
  | [], _ => Nat.zero_le _
  | d :: ds, h => by
    show max (toPy d).depth (PyData.depthAll (toPys ds)) ≤ n
    have h1 := h d (by simp)
    have h2 := dps_le (xs := ds) fun x hx => h x (by simp [hx])
    omega
theorem rowD_pu (r : List Int) : pu (rowD r) = true := by
  unfold rowD
  rw [pu_tup, List.all_eq_true]
  intro d hd
  obtain ⟨i, -, rfl⟩ := List.mem_map.mp hd
  rfl
theorem ints_dep (r : List Int) : PyData.depthAll (toPys (r.map D.int)) ≤ 0 := dps_le fun d hd => by
  obtain ⟨i, -, rfl⟩ := List.mem_map.mp hd
  exact Nat.le_refl _
theorem rowD_dep (r : List Int) : (toPy (rowD r)).depth ≤ 1 := by
  have := ints_dep r
  show PyData.depthAll (toPys (r.map D.int)) + 1 ≤ 1
  omega
theorem stn_pu (s : Stn) : pu s.D = true := by
  have h1 : (s.rows.map rowD).all pu = true := by
    rw [List.all_eq_true]
    intro d hd
    obtain ⟨r, -, rfl⟩ := List.mem_map.mp hd
    exact rowD_pu r
  have h2 : (s.pls.map plD).all pu = true := by
    rw [List.all_eq_true]
    intro d hd
    obtain ⟨r, -, rfl⟩ := List.mem_map.mp hd
    rfl
  have h3 : (s.nums.map D.int).all pu = true := by
    rw [List.all_eq_true]
    intro d hd
    obtain ⟨r, -, rfl⟩ := List.mem_map.mp hd
    rfl
  simp only [Stn.D, pu_tup, List.all_cons, h1, h2, h3, List.all_nil]; rfl
theorem stn_dep (s : Stn) : (toPy s.D).depth ≤ 3 := by
  have h1 : PyData.depthAll (toPys (s.rows.map rowD)) ≤ 1 := dps_le fun d hd => by
    obtain ⟨r, -, rfl⟩ := List.mem_map.mp hd
    exact rowD_dep r
  have h2 : PyData.depthAll (toPys (s.pls.map plD)) ≤ 0 := dps_le fun d hd => by
    obtain ⟨r, -, rfl⟩ := List.mem_map.mp hd
    exact Nat.le_refl _
  have h3 := ints_dep s.nums
  show max (PyData.depthAll (toPys (s.rows.map rowD)) + 1) (max (PyData.depthAll (toPys (s.pls.map plD)) + 1) (max (PyData.depthAll (toPys (s.nums.map D.int)) + 1) 0)) + 1 ≤ 3
  omega
def pairD (x : Option Nat × Stn) : D := .tup [goalD x.1, x.2.D]
theorem pu_goal (g : Option Nat) : pu (goalD g) = true := by cases g <;> rfl
theorem pair_pu (x : Option Nat × Stn) : ([pairD x] : List D).all pu = true := by
  simp only [pairD, List.all_cons, pu_tup, pu_goal, stn_pu, List.all_nil]; rfl
theorem pair_dep (x : Option Nat × Stn) : PyData.depthAll (toPys [pairD x]) ≤ 63 := Nat.le_trans (dps_le (n := 5) fun d hd => by
  have h1 := stn_dep x.2
  have h2 : (toPy (goalD x.1)).depth ≤ 0 := by cases x.1 <;> exact Nat.le_refl _
  simp only [List.mem_singleton] at hd
  subst hd
  show max (toPy (goalD x.1)).depth (max (toPy x.2.D).depth 0) + 1 ≤ 5
  omega) (by decide)
/-! ### a leg's facts -/
theorem hdT_leg {row hd : List D} : ∀ (ps : List D) (ws : List (Say × Tre × Tre)) (k : Nat), HdsT row hd ps ws → (∀ j x, ps[j]? = some x → hd[k + j]? = some x) → ∀ s ∈ hdTT k ws, ∃ a0 a1 i, Spot row hd s.1 a0 ∧ Lands row a0 a1 i ∧ WT row hd a1 s.2.2
  | [], [], k, _, _, s, hs => by cases hs
  | p :: ps, w :: ws, k, ⟨⟨q, n, t, e, hr, ⟨e1, i1, l1, w1⟩, e2, i2, l2, w2⟩, ho⟩, hp, s, hs => by
    have hk := hp 0 p rfl
    rw [e] at hk
    simp only [hdTT, List.mem_cons] at hs
    rcases hs with rfl | rfl | hs
    · exact ⟨t, e1, i1, .inr ⟨k, q, false, rfl, hk, .inr ⟨rfl, _, _, t, hr, rfl⟩⟩, l1, w1⟩
    · exact ⟨q + 1, e2, i2, .inr ⟨k, q, true, rfl, hk, .inl ⟨rfl, rfl⟩⟩, l2, w2⟩
    · exact hdT_leg ps ws (k + 1) ho (fun j x h => by
        have := hp (j + 1) x (by simpa using h)
        rwa [show k + (j + 1) = k + 1 + j by omega] at this) s hs
  | [], _ :: _, _, h, _, _, _ => h.elim
  | _ :: _, [], _, h, _, _, _ => h.elim
theorem hdT_pre {b : Tk} : ∀ (ws : List (Say × Tre × Tre)) (k : Nat), (∀ j w, ws[j]? = some w → (hdsT b)[k + j]? = some w) → ∀ s ∈ hdTT k ws, PreOk b s.1 s.2.1 ∧ (∃ (i : Nat) (bb : Bool) (w : Say × Tre × Tre), s.1 = .tup [.int (i : Nat), .bl bb] ∧ w ∈ hdsT b ∧ s.2.1 = [.asked w.1 bb] ∧ (s.2.2 = w.2.1 ∨ s.2.2 = w.2.2))
  | [], k, _, s, hs => by cases hs
  | w :: ws, k, hp, s, hs => by
    have hk := hp 0 w rfl
    have hm := List.mem_of_getElem? hk
    obtain ⟨kk, a, hh⟩ := wlT_heads b 0 (.fin none) k w (by rw [Nat.add_zero] at hk; exact hk)
    simp only [hdTT, List.mem_cons] at hs
    rcases hs with rfl | rfl | hs
    · exact ⟨.inr ⟨k, false, w.1, kk, a, rfl, hh, rfl⟩, k, false, w, rfl, hm, rfl, .inl rfl⟩
    · exact ⟨.inr ⟨k, true, w.1, kk, a, rfl, hh, rfl⟩, k, true, w, rfl, hm, rfl, .inr rfl⟩
    · exact hdT_pre ws (k + 1) (fun j w h => by
        have := hp (j + 1) w (by simpa using h)
        rwa [show k + (j + 1) = k + 1 + j by omega] at this) s hs
theorem item_leg {b : Tk} {c : Cs} (hP : PgOk b c) {z : (D × List Stp × Tre) × (List Bool × Option Nat)} (hz : z ∈ items b) : ∃ p, Pth z.1.2.2 z.2.1 p ∧ Leg b c z.1.1 z.2.1 z.1.2.1 p ∧ ((z.1.1 = .non ∧ z.1.2.1 = []) ∨ ∃ (i : Nat) (bb : Bool) (y : Say), z.1.1 = .tup [.int (i : Nat), .bl bb] ∧ z.1.2.1 = [.asked y bb]) := by
  unfold items at hz
  rw [List.mem_flatten] at hz
  obtain ⟨l, hl, hz⟩ := hz
  obtain ⟨x, hx, rfl⟩ := List.mem_map.mp hl
  obtain ⟨y, hy, rfl⟩ := List.mem_map.mp hz
  obtain ⟨p, hp⟩ := pth_of x.2.2 y hy
  obtain ⟨⟨e0, i0, l0, w0⟩, HT⟩ := prog_walk b
  refine ⟨p, hp, ?_⟩
  simp only [stT, List.mem_cons] at hx
  have nd := hP.nd
  rcases hx with rfl | hx
  · have hd := segT_dep b 0 (.fin none)
    have hlen := hp.len
    have h0 : (Tre.fin none).dep = 0 := rfl
    rw [h0] at hd
    have hlen : p.length ≤ (segT b 0 (.fin none)).dep := hlen
    refine ⟨⟨⟨0, e0, i0, _, .inl ⟨rfl, rfl⟩, l0, w0, hp⟩, .inl ⟨rfl, rfl⟩, by omega, fun x hx => ?_⟩, .inl ⟨rfl, rfl⟩⟩
    exact hp.ok (segT_ok b 0 _ hP.bk True.intro) x (by simpa using hx)
  · obtain ⟨a0, a1, i, sp, la, wt⟩ := hdT_leg _ _ 0 HT (fun j x h => by rwa [Nat.zero_add]) x hx
    obtain ⟨pr, i', bb, w, e1, hm, e2, e3⟩ := hdT_pre (b := b) (hdsT b) 0 (fun j w h => by rwa [Nat.zero_add]) x hx
    obtain ⟨o1, o2, o3⟩ := wlT_ok b 0 (.fin none) hP.bk True.intro w hm
    have hd := wlT_dep b 0 (.fin none) w hm
    have h0 : (Tre.fin none).dep = 0 := rfl
    rw [h0] at hd
    have hlen := hp.len
    refine ⟨⟨⟨a0, a1, i, _, sp, la, wt, hp⟩, pr, ?_, fun y hy => ?_⟩, .inr ⟨i', bb, w.1, e1, e2⟩⟩
    · rcases e3 with e3 | e3 <;> rw [e3] at hlen <;> omega
    · rw [e2] at hy
      rcases List.mem_append.mp hy with hy | hy
      · simp only [List.mem_singleton] at hy
        subst hy
        exact o1
      · exact hp.ok (by rcases e3 with e3 | e3 <;> rw [e3] <;> assumption) y hy
theorem contrib_run {c : Cs} {h : Option Nat} {s : Stn} {z : (D × List Stp × Tre) × (List Bool × Option Nat)} {p : List Stp} (hp : Pth z.1.2.2 z.2.1 p) (hf : (z.1.1 = .non ∧ z.1.2.1 = []) ∨ ∃ (i : Nat) (bb : Bool) (y : Say), z.1.1 = .tup [.int (i : Nat), .bl bb] ∧ z.1.2.1 = [.asked y bb]) (ho : ofHead h z.1.1 = true) :
    contrib c h s z = (runP c (z.1.2.1 ++ p) s).map fun s' => (z.2.2, s') := by
  unfold contrib
  rw [if_pos ho]
  have hr := hp.run (c := c) s
  rcases hf with ⟨-, e⟩ | ⟨i, bb, y, -, e⟩
  · rw [e]
    simp only [List.nil_append, hr]
  · rw [e]
    simp only [List.cons_append, List.nil_append, runP, hr]
    split <;> rfl
end T72

/-! RI: standings drawn; right; the law. -/
namespace T72
open Tr
open PySem (Addr PyData)
variable {C : Tr.Ctx}
theorem pre_len {b : Bool} {r : Res} : (pre b r).length = r.length := by simp [pre]
theorem two_le (a b : Nat) : 2 ^ a ≤ 2 ^ (a + b) := Nat.pow_le_pow_right (by decide) (Nat.le_add_right _ _)
theorem two_le' (a b : Nat) : 2 ^ b ≤ 2 ^ (a + b) := Nat.pow_le_pow_right (by decide) (Nat.le_add_left _ _)
theorem seg_len : ∀ (b : Bk) (n : Nat) (K : Res), 1 ≤ K.length → (seg b n K).length ≤ 2 ^ b.ni * K.length ∧ 1 ≤ (seg b n K).length
  | .nil, _, K, h => by simp [seg, Bk.ni]; exact h
  | .oth _ _ r, n, K, h => seg_len r n K h
  | .whl _ _ a r, n, K, h => by
    simp only [seg, List.length_cons, List.length_nil]
    refine ⟨?_, Nat.le_refl _⟩
    exact Nat.mul_pos (Nat.pow_pos (by decide)) h
  | .ifs _ a b r, n, K, h => by
    obtain ⟨r1, r2⟩ := seg_len r (n + a.nw + b.nw) K h
    obtain ⟨a1, a2⟩ := seg_len a n _ r2
    obtain ⟨b1, b2⟩ := seg_len b (n + a.nw) _ r2
    simp only [seg, List.length_append, pre_len, Bk.ni]
    refine ⟨?_, by omega⟩
    have e : 2 ^ (a.ni + b.ni + r.ni + 1) * K.length = 2 ^ (a.ni + b.ni) * (2 ^ r.ni * K.length) + 2 ^ (a.ni + b.ni) * (2 ^ r.ni * K.length) := by
      rw [Nat.pow_succ, Nat.pow_add]
      generalize 2 ^ (a.ni + b.ni) = x
      generalize 2 ^ r.ni = y
      rw [Nat.mul_assoc, Nat.mul_assoc, Nat.mul_comm 2, Nat.mul_two, ← Nat.mul_add, ← Nat.mul_add]
    rw [e]
    refine Nat.add_le_add ?_ ?_
    · exact Nat.le_trans b1 (Nat.mul_le_mul (two_le' _ _) r1)
    · exact Nat.le_trans a1 (Nat.mul_le_mul (two_le _ _) r1)
theorem pm {x y k : Nat} (h : x ≤ y) : 2 ^ x * k ≤ 2 ^ y * k := Nat.mul_le_mul_right _ (Nat.pow_le_pow_right (by decide) h)
theorem wl_few : ∀ (b : Bk) (n : Nat) (K : Res), 1 ≤ K.length → ∀ w ∈ wl b n K, w.1.length ≤ 2 ^ b.ni * K.length ∧ w.2.length ≤ 2 ^ b.ni * K.length
  | .nil, _, _, _, w, hw => by cases hw
  | .oth _ _ r, n, K, h, w, hw => wl_few r n K h w hw
  | .whl _ _ a r, n, K, h, w, hw => by
    obtain ⟨r1, r2⟩ := seg_len r (n + 1 + a.nw) K h
    obtain ⟨a1, a2⟩ := seg_len a (n + 1) [([], some n)] (Nat.le_refl _)
    have up : ∀ {x : Nat}, x ≤ 2 ^ a.ni * 1 → x ≤ 2 ^ (a.ni + r.ni) * K.length := fun hx => Nat.le_trans hx (Nat.mul_le_mul (two_le _ _) h)
    have ur : ∀ {x : Nat}, x ≤ 2 ^ r.ni * K.length → x ≤ 2 ^ (a.ni + r.ni) * K.length := fun hx => Nat.le_trans hx (pm (by omega))
    simp only [wl, List.mem_cons, List.mem_append, Bk.ni] at hw ⊢
    rcases hw with rfl | hw | hw
    · exact ⟨ur r1, up a1⟩
    · have := wl_few a (n + 1) _ (Nat.le_refl _) w hw
      exact ⟨up this.1, up this.2⟩
    · have := wl_few r _ K h w hw
      exact ⟨ur this.1, ur this.2⟩
  | .ifs _ a b r, n, K, h, w, hw => by
    obtain ⟨r1, r2⟩ := seg_len r (n + a.nw + b.nw) K h
    simp only [wl, List.mem_append, Bk.ni] at hw ⊢
    have up : ∀ {x y : Nat}, y ≤ a.ni + b.ni + 1 → x ≤ 2 ^ y * (seg r (n + a.nw + b.nw) K).length → x ≤ 2 ^ (a.ni + b.ni + r.ni + 1) * K.length := fun {x y} hy hx => by
      refine Nat.le_trans hx (Nat.le_trans (Nat.mul_le_mul_left _ r1) ?_)
      rw [← Nat.mul_assoc, ← Nat.pow_add]
      exact pm (by omega)
    rcases hw with (hw | hw) | hw
    · have := wl_few a n _ r2 w hw
      exact ⟨up (by omega) this.1, up (by omega) this.2⟩
    · have := wl_few b _ _ r2 w hw
      exact ⟨up (by omega) this.1, up (by omega) this.2⟩
    · have := wl_few r _ K h w hw
      exact ⟨Nat.le_trans this.1 (pm (by omega)), Nat.le_trans this.2 (pm (by omega))⟩
theorem hdR_mem : ∀ (ws : List (Res × Res)) (j : Nat), ∀ s ∈ hdR j ws, (∃ (i : Nat) (t : Bool), s.1 = .tup [.int (i : Nat), .bl t]) ∧ ∃ w ∈ ws, s.2 = w.1 ∨ s.2 = w.2
  | [], _, s, h => by cases h
  | w :: ws, j, s, h => by
    simp only [hdR, List.mem_cons] at h
    rcases h with rfl | rfl | h
    · exact ⟨⟨j, false, rfl⟩, w, by simp, .inl rfl⟩
    · exact ⟨⟨j, true, rfl⟩, w, by simp, .inr rfl⟩
    · obtain ⟨h1, w', hw, h2⟩ := hdR_mem ws (j + 1) s h
      exact ⟨h1, w', by simp [hw], h2⟩
theorem hdR_len : ∀ (ws : List (Res × Res)) (j : Nat), (hdR j ws).length = 2 * ws.length
  | [], _ => rfl
  | w :: ws, j => by simp [hdR, hdR_len ws]; omega
theorem flat_len {α β : Type} {f : α → List β} {M : Nat} : ∀ {l : List α}, (∀ x ∈ l, (f x).length ≤ M) → (l.map f).flatten.length ≤ l.length * M
  | [], _ => by simp
  | x :: l, h => by
    have h1 := h x (by simp)
    have h2 := flat_len (l := l) fun y hy => h y (by simp [hy])
    simp only [List.map_cons, List.flatten_cons, List.length_append, List.length_cons, Nat.add_mul]
    omega
theorem small_of {b : Bk} (ok : b.ok = true) (nd : b.nd ≤ 1000) (nw : b.nw ≤ 9) (ni : b.ni ≤ 9) (ns : b.ns ≤ 40) : small b := by
  have hM : 2 ^ b.ni * 1 ≤ 512 := Nat.le_trans (pm ni) (by decide)
  have each : ∀ s ∈ stR b, s.2.length ≤ 512 := by
    intro s hs
    simp only [stR, List.mem_cons] at hs
    rcases hs with rfl | hs
    · exact Nat.le_trans (seg_len b 0 K0 (Nat.le_refl _)).1 hM
    · obtain ⟨-, w, hw, e⟩ := hdR_mem _ _ s hs
      have := wl_few b 0 K0 (Nat.le_refl _) w hw
      rcases e with e | e
      · rw [e]; exact Nat.le_trans this.1 hM
      · rw [e]; exact Nat.le_trans this.2 hM
  refine ⟨ok, nd, by omega, ns, ?_, fun s hs => Nat.le_trans (each s hs) (by decide)⟩
  have := flat_len (l := stR b) (f := fun s => s.2.map (legD s.1)) (M := 512) fun s hs => by simpa using each s hs
  have hl : (stR b).length = 1 + 2 * b.nw := by simp [stR, hdR_len, wl_len]; omega
  unfold legsD
  rw [hl] at this
  refine Nat.le_trans this ?_
  have : (1 + 2 * b.nw) * 512 ≤ 19 * 512 := Nat.mul_le_mul_right _ (by omega)
  omega
/-- small numbers -/
def IntS (l : List Int) : Prop := ∀ i ∈ l, -(2 ^ 40) < i ∧ i < 2 ^ 40
theorem IntS.nil : IntS [] := fun _ h => by cases h
theorem IntS.snoc {l : List Int} {i : Int} (h : IntS l) (h1 : -(2 ^ 40) < i) (h2 : i < 2 ^ 40) : IntS (l ++ [i]) := fun x hx => by
  rcases List.mem_append.mp hx with hx | hx
  · exact h x hx
  · simp only [List.mem_singleton] at hx; subst hx; exact ⟨h1, h2⟩
def Stn.sm (s : Stn) : Prop := (∀ r ∈ s.rows, IntS r) ∧ IntS s.nums
def sStanding : Tr.Spec := ⟨fun ρ ds T q _ => ∃ (a : Addr) (n : Nat) (c : Cs) (lg : Nat), ds = [.ref a, c.D, .int (lg : Nat)] ∧ c.ok ∧ lg ≤ 40 ∧ Dk T a n ∧ n + 10000 < 2 ^ 60 ∧ 3 ≤ ρ ∧
  ∀ (s : Stn) m T', s.ok c → s.sm → m ≤ n + 10000 → Dk T' a m → Kp [a] T T' → q s.D T'⟩
theorem p_standing (h13 : C.G 13 = sDraw) (h18 : C.G 18 = sNumber) : Body C sStanding i__law_standing 10 3 := by
  rintro ρ ds T q X - ⟨a, n, c, lg, rfl, hc, hlg, hD, hn, hρ, k⟩
  obtain ⟨r, p, u⟩ := c
  have lr := hc.lr
  have lp := hc.lp
  have lu := hc.lu
  simp only at lr lp lu
  unfold i__law_standing
  rw [ss_consS]
  simp [startD, Cs.D]
  refine c_draw h13 (by omega) hD (by omega) (by omega) (by omega) fun mz T1 m0 m1 hD1 K1 => ?_
  obtain ⟨m, rfl⟩ : ∃ m : Nat, mz = m := ⟨mz.toNat, by omega⟩
  rw [ss_consS]
  simp
  intro p1 hp1
  have na1 := hD1.ne hp1
  have np1 : T p1 = none := K1.fresh hp1 (by simp [Ne.symm na1])
  refine lc_ind (fun l T' => ∃ (rs : List (List Int)), T' p1 = some (.lst (rs.map rowD)) ∧ rs.length + l.length = r.length ∧ (∀ x ∈ rs, x.length = m) ∧ (∀ x ∈ rs, IntS x) ∧ Dk T' a (n + 1 + 200 * rs.length) ∧ Kp [a] T T') ?_ ?_ _ _ ⟨[], upd_same, by simp, (fun _ h => by cases h), (fun _ h => by cases h), by simpa using hD1.put na1, K1.put2 np1⟩
  · rintro T2 ⟨rs, e1, e2, e3, e3s, hD2, K2⟩
    simp at e2
    simp [e1]
    rw [ss_consS]
    simp
    intro p2 hp2
    have na2 := hD2.ne hp2
    have np2 : T p2 = none := K2.fresh hp2 (by simp [Ne.symm na2])
    refine lc_ind (fun l T' => ∃ (ps : List Nat), T' p2 = some (.lst (ps.map plD)) ∧ ps.length + l.length = p.length ∧ (∀ x ∈ ps, x ≤ m) ∧ Dk T' a (n + 1 + 200 * rs.length + ps.length) ∧ Kp [a] T T') ?_ ?_ _ _ ⟨[], upd_same, by simp, (fun _ h => by cases h), by simpa using hD2.put na2, K2.put2 np2⟩
    · rintro T3 ⟨ps, f1, f2, f3, hD3, K3⟩
      simp at f2
      simp [f1]
      rw [ss_consS]
      simp
      intro p3 hp3
      have na3 := hD3.ne hp3
      have np3 : T p3 = none := K3.fresh hp3 (by simp [Ne.symm na3])
      refine lc_ind (fun l T' => ∃ (is : List Int), T' p3 = some (.lst (is.map D.int)) ∧ is.length + l.length = u.length ∧ IntS is ∧ Dk T' a (n + 1 + 200 * rs.length + ps.length + 4 * is.length) ∧ Kp [a] T T') ?_ ?_ _ _ ⟨[], upd_same, by simp, IntS.nil, by simpa using hD3.put na3, K3.put2 np3⟩
      · rintro T4 ⟨is, g1, g2, g2s, hD4, K4⟩
        simp at g2
        simp [g1]
        have hm : (⟨rs, ps, is⟩ : Stn).many = m := by
          unfold Stn.many
          cases rs with
          | nil =>
            have := hc.hr
            simp at e2
            exact absurd (List.eq_nil_of_length_eq_zero e2.symm) this
          | cons x xs => exact e3 x (by simp)
        refine k ⟨rs, ps, is⟩ _ T4 ⟨e2, f2, g2, fun x hx => by rw [hm]; exact e3 x hx, fun x hx => by rw [hm]; exact f3 x hx, by rw [hm]; omega⟩ ⟨e3s, g2s⟩ (by omega) hD4 K4
      · rintro d l T4 kk ⟨is, g1, g2, g2s, hD4, K4⟩ hk
        simp at g2
        rw [h18]
        refine ⟨1, by omega, a, _, rfl, Nat.le_refl _, hD4, by omega, fun i T5 i1 i2 hD5 K5 => ?_⟩
        have e5 := K5 _ _ g1 (by simp [Ne.symm na3])
        simp [e5]
        refine ⟨by omega, hk _ ⟨is ++ [i], by rw [upd_same]; simp, by simp; omega, g2s.snoc i1 i2, ?_, (K4.trans K5).put2 np3⟩⟩
        exact (hD5.put na3).le (by simp; omega)
    · rintro d l T3 kk ⟨ps, f1, f2, f3, hD3, K3⟩ hk
      simp at f2
      refine c_draw h13 (by omega) hD3 (by omega) (by omega) (by omega) fun pz T4 z0 z1 hD4 K4 => ?_
      obtain ⟨pn, rfl⟩ : ∃ pn : Nat, pz = pn := ⟨pz.toNat, by omega⟩
      have e4 := K4 _ _ f1 (by simp [Ne.symm na2])
      simp [e4]
      refine ⟨by omega, hk _ ⟨ps ++ [pn], by rw [upd_same]; simp [plD], by simp; omega, fun x hx => ?_, ?_, (K3.trans K4).put2 np2⟩⟩
      · rcases List.mem_append.mp hx with hx | hx
        · exact f3 x hx
        · simp at hx; omega
      · exact (hD4.put na2).le (by simp; omega)
  · rintro d l T2 kk ⟨rs, e1, e2, e3, e3s, hD2, K2⟩ hk
    simp at e2
    refine ⟨by omega, ?_⟩
    intro p2 hp2
    have na2 := hD2.ne hp2
    have n12 := ne_new e1 hp2
    have np2 : T p2 = none := K2.fresh hp2 (by simp [Ne.symm na2])
    refine lc_ind (fun l T' => ∃ (is : List Int), T' p2 = some (.lst (is.map D.int)) ∧ is.length + l.length = m ∧ IntS is ∧ T' p1 = some (.lst (rs.map rowD)) ∧ Dk T' a (n + 1 + 200 * rs.length + 4 * is.length) ∧ Kp [a] T T') ?_ ?_ _ _ ⟨[], upd_same, by simp, IntS.nil, by rw [upd_ne n12]; exact e1, by simpa using hD2.put na2, K2.put2 np2⟩
    · rintro T4 ⟨is, g1, g2, g2s, g3, hD4, K4⟩
      simp at g2
      simp [g1, g3]
      refine ⟨by omega, hk _ ⟨rs ++ [is], by rw [upd_same]; simp [rowD], by simp; omega, fun x hx => ?_, fun x hx => ?_, (hD4.put na1).le (by simp; omega), K4.put2 np1⟩⟩
      · rcases List.mem_append.mp hx with hx | hx
        · exact e3 x hx
        · simp at hx; rw [hx]; exact g2
      · rcases List.mem_append.mp hx with hx | hx
        · exact e3s x hx
        · simp at hx; rw [hx]; exact g2s
    · rintro d l T4 kk ⟨is, g1, g2, g2s, g3, hD4, K4⟩ hk
      simp at g2
      rw [h18]
      refine ⟨1, by omega, a, _, rfl, Nat.le_refl _, hD4, by omega, fun i T5 i1 i2 hD5 K5 => ?_⟩
      have e5 := K5 _ _ g1 (by simp [Ne.symm na2])
      have e6 := K5 _ _ g3 (by simp [Ne.symm na1])
      simp [e5]
      refine ⟨by omega, hk _ ⟨is ++ [i], by rw [upd_same]; simp, by simp; omega, g2s.snoc i1 i2, by rw [upd_ne n12]; exact e6, ?_, (K4.trans K5).put2 np2⟩⟩
      exact (hD5.put na2).le (by simp; omega)
end T72

set_option Elab.async false
set_option linter.all false
set_option maxRecDepth 100000
set_option maxHeartbeats 4000000
/-! SA: ways through a tree, with their steps; lists told apart. -/
namespace T72
open Tr
open PySem (Addr PyData)
variable {C : Tr.Ctx}
section
variable {T : TH} {P : Bool → Prop}
theorem deq_nil {p q : Addr} {xs : List D} (hp : T p = some (.lst xs)) (hq : T q = some (.lst [])) : deq T (.ref p) (.ref q) = xs.isEmpty := by
  unfold deq
  rw [toPy_lst hp, toPy_lst hq]
  cases xs with
  | nil => rfl
  | cons x xs => rfl
theorem shal_nil {x : D} {q : Addr} (hq : T q = some (.lst [])) : shal T x (.ref q) := by
  right
  rw [toPy_lst hq]
  show 1 ≤ 64
  decide
theorem eq_nilL {p q : Addr} {xs : List D} (hp : T p = some (.lst xs)) (hq : T q = some (.lst [])) (h : xs.all pu = true) (k : P xs.isEmpty) : cmpR .eq (.ref p) (.ref q) T P := by
  show lay T _ ∧ lay T _ ∧ shal T _ _ ∧ P (deq T _ _)
  rw [deq_nil hp hq]
  exact ⟨lay_lst hp h, lay_lst hq rfl, shal_nil hq, k⟩
theorem ne_nilL {p q : Addr} {xs : List D} (hp : T p = some (.lst xs)) (hq : T q = some (.lst [])) (h : xs.all pu = true) (k : P (!xs.isEmpty)) : cmpR .ne (.ref p) (.ref q) T P := by
  show lay T _ ∧ lay T _ ∧ shal T _ _ ∧ P (!deq T _ _)
  rw [deq_nil hp hq]
  exact ⟨lay_lst hp h, lay_lst hq rfl, shal_nil hq, k⟩
end
/-- a way through a tree: what is chosen, where it ends, its steps -/
structure Way where
  ch : List Bool
  g : Option Nat
  p : List Stp
def Tre.ways : Tre → List Way
  | fin g => [⟨[], g, []⟩]
  | deed d t => t.ways.map fun w => ⟨w.ch, w.g, .deed d :: w.p⟩
  | ask q t0 t1 => (t0.ways.map fun w => ⟨false :: w.ch, w.g, .asked q false :: w.p⟩) ++ (t1.ways.map fun w => ⟨true :: w.ch, w.g, .asked q true :: w.p⟩)
theorem Tre.ways_res : ∀ t : Tre, t.ways.map (fun w => (w.ch, w.g)) = t.res
  | fin g => rfl
  | deed d t => by
    have h := ways_res t
    simp only [ways, res, List.map_map, Function.comp_def]
    exact h
  | ask q t0 t1 => by
    have h0 := ways_res t0
    have h1 := ways_res t1
    simp only [ways, res, pre, ← h0, ← h1, List.map_append, List.map_map, Function.comp_def]
theorem Tre.ways_len (t : Tre) : t.ways.length = t.res.length := by rw [← t.ways_res, List.length_map]
theorem Tre.ways_pth : ∀ (t : Tre), ∀ w ∈ t.ways, Pth t w.ch w.p
  | fin g, w, h => by
    simp only [ways, List.mem_singleton] at h
    subst h
    exact .fin
  | deed d t, w, h => by
    simp only [ways, List.mem_map] at h
    obtain ⟨v, hv, rfl⟩ := h
    exact .deed (ways_pth t v hv)
  | ask q t0 t1, w, h => by
    simp only [ways, List.mem_append, List.mem_map] at h
    rcases h with ⟨v, hv, rfl⟩ | ⟨v, hv, rfl⟩
    · exact .no (ways_pth t0 v hv)
    · exact .yes (ways_pth t1 v hv)
theorem Pth.det {t : Tre} {ch : List Bool} {p : List Stp} (h : Pth t ch p) : ∀ {p' : List Stp}, Pth t ch p' → p = p' := by
  induction h with
  | fin => intro p' h; cases h; rfl
  | deed h ih => intro p' h'; cases h' with | deed h' => rw [ih h']
  | no h ih => intro p' h'; cases h' with | no h' => rw [ih h']
  | yes h ih => intro p' h'; cases h' with | yes h' => rw [ih h']
abbrev askS (q : Say) (b : Bool) : D := .tup [.str wAsk, q.toD, .bl b]
abbrev deedS (d : Deed) : D := .tup [.str cDeed, d.toD]
def wayD (cs : List Bool) (pth : List D) (w : Way) : D := .tup [.tup ((cs ++ w.ch).map D.bl), goalD w.g, .tup (pth ++ w.p.map Stp.toD)]
theorem ways_deed {cs : List Bool} {pth : List D} {d : Deed} {t : Tre} : (Tre.deed d t).ways.map (wayD cs pth) = t.ways.map (wayD cs (pth ++ [deedS d])) := by
  simp only [Tre.ways, List.map_append, List.map_map]
  first
    | (congr 1 <;> (apply List.map_congr_left; intro w _; simp [wayD, Stp.toD]); done)
    | (apply List.map_congr_left; intro w _; simp [wayD, Stp.toD])
theorem ways_ask {cs : List Bool} {pth : List D} {q : Say} {t0 t1 : Tre} : (Tre.ask q t0 t1).ways.map (wayD cs pth) = t0.ways.map (wayD (cs ++ [false]) (pth ++ [askS q false])) ++ t1.ways.map (wayD (cs ++ [true]) (pth ++ [askS q true])) := by
  simp only [Tre.ways, List.map_append, List.map_map]
  first
    | (congr 1 <;> (apply List.map_congr_left; intro w _; simp [wayD, Stp.toD]); done)
    | (apply List.map_congr_left; intro w _; simp [wayD, Stp.toD])
/-- a block whose whiles bear their numbers -/
def nto : Bk → Nat → List D
  | .nil, _ => []
  | .oth w xs r, n => .tup (.str w :: xs) :: nto r n
  | .ifs q a b r, n => .tup [.str cIf, q, .tup (nto a n), .tup (nto b (n + a.nw))] :: nto r (n + a.nw + b.nw)
  | .whl q k a r, n => .tup [.str cWh, q, k, .tup (nto a (n + 1)), .int (n : Int)] :: nto r (n + 1 + a.nw)
def sNumbered : Tr.Spec := ⟨fun ρ ds T q _ => ∃ (b : Bk) (n : Nat), ds = [.tup b.toD, .int (n : Nat)] ∧ b.ok = true ∧ b.nd ≤ 1000 ∧ b.ns ≤ ρ ∧ ∀ T', Kp [] T T' → q (.tup [.tup (nto b n), .int ((n + b.nw : Nat) : Int)]) T'⟩
theorem c_numbered {r i n : Nat} {z : Int} {X : XE} {T : TH} {Q : Kd} (h : C.G i = sNumbered) {b : Bk} (hr : b.ns < r) (ho : b.ok = true) (hn : b.nd ≤ 1000) (hz : z = n) (k : ∀ T', Kp [] T T' → Q (.tup [.tup (nto b n), .int ((n + b.nw : Nat) : Int)]) T') :
    ∃ ρ, ρ < r ∧ (C.G i).sp ρ [.tup b.toD, .int z] T Q X := by rw [h]; exact ⟨b.ns, hr, b, n, by rw [hz], ho, hn, Nat.le_refl _, k⟩
theorem p_numbered (h51 : C.G 51 = sNumbered) : Body C sNumbered i__law_numbered 8 2 := by
  rintro ρ ds T q X - ⟨b, n, rfl, ho, hn, hs, k⟩
  unfold i__law_numbered
  rw [ss_consS]
  simp [startD]
  intro p hp
  rw [ss_consS]
  simp
  refine for_ind (fun li τ T' => ∃ (d3 d4 d5 d6 d7 : Option D) (c : Bk) (m : Nat) (acc : List D), τ = [some (.tup b.toD), some (.int (m : Nat)), some (.ref p), d3, d4, d5, d6, d7] ∧ li = c.toD ∧ T' p = some (.lst acc) ∧ acc ++ nto c m = nto b n ∧ m + c.nw = n + b.nw ∧ acc.length + c.nd ≤ 1000 ∧ c.ok = true ∧ c.ns ≤ b.ns ∧ Kp [] T T') ?_ ?_ _ _ _ ⟨none, none, none, none, none, b, n, [], rfl, rfl, upd_same, rfl, rfl, by simpa using hn, ho, Nat.le_refl _, Kp.new hp⟩
  · rintro τ T' ⟨d3, d4, d5, d6, d7, c, m, acc, rfl, e, ep, ea, em, -, -, -, K⟩
    have : c = .nil := by cases c <;> simp [Bk.toD] at e <;> rfl
    subst this
    simp [nto] at ea
    simp [Bk.nw] at em
    rw [ss_consS]
    simp [ep]
    have := k T' K
    rw [← em, ← ea] at this
    exact this
  · rintro d li τ T' kk ⟨d3, d4, d5, d6, d7, c, m, acc, rfl, e, ep, ea, em, hl, co, cs, K⟩ hk
    simp
    rw [ss_consS]
    cases c with
    | nil => cases e
    | oth w xs r =>
      simp only [Bk.toD, List.cons.injEq] at e
      obtain ⟨rfl, rfl⟩ := e
      simp only [Bk.ok, Bool.and_eq_true, Bool.not_eq_true', decide_eq_false_iff_not] at co
      simp only [Bk.nd] at hl
      simp [co.1.1.1.1]
      rw [ss_consS]
      simp [co.1.1.1.2]
      rw [ss_consS]
      simp [ep]
      exact ⟨by omega, hk _ _ ⟨_, _, _, _, _, r, m, _, rfl, rfl, upd_same, by rw [← ea]; simp [nto], em, by simp; omega, co.2, by simp [Bk.ns] at cs; omega, K.put2 hp⟩⟩
    | ifs q1 a1 b1 r =>
      simp only [Bk.toD, List.cons.injEq] at e
      obtain ⟨rfl, rfl⟩ := e
      simp only [Bk.ok, Bool.and_eq_true] at co
      simp only [Bk.nd] at hl
      simp only [Bk.ns] at cs
      simp only [Bk.nw] at em
      simp
      rw [ss_consS]
      simp
      refine c_numbered h51 (by omega) co.1.1.2 (by omega) rfl fun T1 K1 => ?_
      simp
      refine ⟨_, _, ⟨rfl, rfl⟩, _, _, rfl, rfl, ?_⟩
      rw [ss_consS]
      simp
      refine c_numbered h51 (n := m + a1.nw) (by omega) co.1.2 (by omega) (by omega) fun T2 K2 => ?_
      have ep2 := (K1.trans K2) p _ ep (by simp)
      simp
      refine ⟨_, _, ⟨rfl, rfl⟩, _, _, rfl, rfl, ?_⟩
      rw [ss_consS]
      simp
      rw [ss_consS]
      simp
      rw [ss_consS]
      simp [ep2]
      exact ⟨by omega, hk _ _ ⟨_, _, _, _, _, r, m + a1.nw + b1.nw, _, by simp; exact ⟨rfl, rfl, rfl, rfl, rfl⟩, rfl, upd_same, by rw [← ea]; simp [nto], by omega, by simp; omega, co.2, by omega, ((K.trans K1).trans K2).put2 hp⟩⟩
    | whl q1 k1 a1 r =>
      simp only [Bk.toD, List.cons.injEq] at e
      obtain ⟨rfl, rfl⟩ := e
      simp only [Bk.ok, Bool.and_eq_true] at co
      simp only [Bk.nd] at hl
      simp only [Bk.ns] at cs
      simp only [Bk.nw] at em
      simp
      rw [ss_consS]
      simp
      rw [ss_consS]
      simp
      refine c_numbered h51 (n := m + 1) (by omega) co.1.2 (by omega) (by omega) fun T1 K1 => ?_
      have ep1 := K1 p _ ep (by simp)
      simp
      refine ⟨_, _, ⟨rfl, rfl⟩, _, _, rfl, rfl, ?_⟩
      rw [ss_consS]
      simp
      rw [ss_consS]
      simp
      rw [ss_consS]
      simp [ep1]
      exact ⟨by omega, hk _ _ ⟨_, _, _, _, _, r, m + 1 + a1.nw, _, by simp; exact ⟨rfl, rfl, rfl, rfl, rfl⟩, rfl, upd_same, by rw [← ea]; simp [nto], by omega, by simp; omega, co.2, by omega, (K.trans K1).put2 hp⟩⟩

def fr (all : List D) (at' : Nat) (ow : Option Nat) : D := .tup [.tup all, .int (at' : Nat), goalD ow]
/-- what each while stands in, by number -/
def ctx : Bk → Nat → List D → Nat → List D → Option Nat → List (DK × D)
  | .nil, _, _, _, _, _ => []
  | .oth _ _ r, n, all, a, f, ow => ctx r n all (a + 1) f ow
  | .ifs _ x y r, n, all, a, f, ow => ctx x n (nto x n) 0 (f ++ [fr all (a + 1) ow]) none ++ ctx y (n + x.nw) (nto y (n + x.nw)) 0 (f ++ [fr all (a + 1) ow]) none ++ ctx r (n + x.nw + y.nw) all (a + 1) f ow
  | .whl _ _ x r, n, all, a, f, ow => (.inl (n : Int), .tup (f ++ [fr all a ow])) :: (ctx x (n + 1) (nto x (n + 1)) 0 (f ++ [fr all a ow]) (some n) ++ ctx r (n + 1 + x.nw) all (a + 1) f ow)
theorem ctx_len : ∀ (b : Bk) (n : Nat) (all : List D) (a : Nat) (f : List D) (ow : Option Nat), (ctx b n all a f ow).length = b.nw
  | .nil, _, _, _, _, _ => rfl
  | .oth _ _ r, n, all, a, f, ow => by simp [ctx, Bk.nw, ctx_len r]
  | .ifs _ x y r, n, all, a, f, ow => by simp [ctx, Bk.nw, ctx_len x, ctx_len y, ctx_len r]; omega
  | .whl _ _ x r, n, all, a, f, ow => by simp [ctx, Bk.nw, ctx_len x, ctx_len r]
/-- keys 0 .. n-1 -/
def Keys (n : Nat) (kvs : List (DK × D)) : Prop := kvs.map (·.1) = (List.range n).map fun i : Nat => (Sum.inl (i : Int) : DK)
theorem Keys.len {n : Nat} {kvs : List (DK × D)} (h : Keys n kvs) : kvs.length = n := by
  have := congrArg List.length h
  simpa using this
theorem Keys.fresh {n : Nat} {kvs : List (DK × D)} (h : Keys n kvs) (kv : DK × D) (hm : kv ∈ kvs) : kv.1 ≠ .inl (n : Int) := by
  have : kv.1 ∈ kvs.map (·.1) := List.mem_map_of_mem hm
  rw [h] at this
  obtain ⟨i, hi, e⟩ := List.mem_map.mp this
  rw [List.mem_range] at hi
  rw [← e]
  intro z
  cases z
  omega
theorem Keys.put {n : Nat} {kvs : List (DK × D)} {d : D} (h : Keys n kvs) : dput (.inl (n : Int)) d kvs = kvs ++ [(.inl (n : Int), d)] := by
  unfold dput
  rw [if_neg]
  intro z
  rw [List.any_eq_true] at z
  obtain ⟨kv, hm, e⟩ := z
  exact h.fresh kv hm (by simpa using e)
theorem Keys.succ {n : Nat} {kvs : List (DK × D)} {d : D} (h : Keys n kvs) : Keys (n + 1) (kvs ++ [(.inl (n : Int), d)]) := by
  unfold Keys at h ⊢
  rw [List.map_append, h, List.range_succ, List.map_append]; rfl
theorem dget_app {k : DK} {d : D} : ∀ {kvs : List (DK × D)}, (∀ kv ∈ kvs, kv.1 ≠ k) → dget k (kvs ++ [(k, d)]) = some d
  | [], _ => by simp [dget]
  | kv :: kvs, h => by
    have h1 := h kv (by simp)
    obtain ⟨k', d'⟩ := kv
    simp only [List.cons_append, dget]
    rw [if_neg h1]
    exact dget_app fun kv hm => h kv (by simp [hm])
def sContexts : Tr.Spec := ⟨fun ρ ds T q _ => ∃ (b : Bk) (n : Nat) (fs : List D) (ow : Option Nat) (f : Addr) (kvs : List (DK × D)), ds = [.tup (nto b n), .tup fs, goalD ow, .ref f] ∧ b.ok = true ∧ b.nd ≤ 1000 ∧ n + b.nw ≤ 1000 ∧ b.ns ≤ ρ ∧ fs.length + b.ns ≤ 1000 ∧ T f = some (.dic kvs) ∧ Keys n kvs ∧
  ∀ kvs' T', kvs' = kvs ++ ctx b n (nto b n) 0 fs ow → Keys (n + b.nw) kvs' → T' f = some (.dic kvs') → Kp [f] T T' → q .non T'⟩
theorem c_contexts {r i n : Nat} {X : XE} {T : TH} {Q : Kd} (h : C.G i = sContexts) {b : Bk} {fs : List D} {ow : Option Nat} {o : D} {f : Addr} {kvs : List (DK × D)} (hr : b.ns < r) (ho : b.ok = true) (hn : b.nd ≤ 1000) (hw : n + b.nw ≤ 1000) (hf : fs.length + b.ns ≤ 1000) (e : T f = some (.dic kvs)) (hk : Keys n kvs) (ee : o = goalD ow)
    (k : ∀ kvs' T', kvs' = kvs ++ ctx b n (nto b n) 0 fs ow → Keys (n + b.nw) kvs' → T' f = some (.dic kvs') → Kp [f] T T' → Q .non T') :
    ∃ ρ, ρ < r ∧ (C.G i).sp ρ [.tup (nto b n), .tup fs, o, .ref f] T Q X := by
  rw [h]; exact ⟨b.ns, hr, b, n, fs, ow, f, kvs, by rw [ee], ho, hn, hw, Nat.le_refl _, hf, e, hk, k⟩
theorem p_contexts (h52 : C.G 52 = sContexts) : Body C sContexts i__law_contexts 6 4 := by
  rintro ρ ds T q X - ⟨b, n, fs, ow, f, kvs, rfl, ho, hn, hw, hs, hf, ef, hK, k⟩
  unfold i__law_contexts
  rw [ss_consS]
  simp [startD, -g_tp, -g_cn, -g_nl]
  refine for_ind (fun li τ T' => ∃ (d4 d5 : Option D) (c : Bk) (m a : Nat) (kv : List (DK × D)), τ = [some (.tup (nto b n)), some (.tup fs), some (goalD ow), some (.ref f), d4, d5] ∧ li = enumD a (nto c m) ∧ T' f = some (.dic kv) ∧ Keys m kv ∧ kv ++ ctx c m (nto b n) a fs ow = kvs ++ ctx b n (nto b n) 0 fs ow ∧ m + c.nw = n + b.nw ∧ c.ok = true ∧ c.ns ≤ b.ns ∧ c.nd ≤ 1000 ∧ Kp [f] T T') ?_ ?_ _ _ _ ⟨none, none, b, n, 0, kvs, rfl, rfl, ef, hK, rfl, rfl, ho, Nat.le_refl _, hn, Kp.refl⟩
  · rintro τ T' ⟨d4, d5, c, m, a, kv, rfl, e, ev, hk, ea, em, -, -, -, K⟩
    have : c = .nil := by cases c <;> simp [nto, enumD] at e <;> rfl
    subst this
    simp [ctx] at ea
    simp [Bk.nw] at em
    exact k _ T' ea (by rw [← em]; exact hk) ev K
  · rintro d li τ T' kk ⟨d4, d5, c, m, a, kv, rfl, e, ev, hk, ea, em, co, cs, cn, K⟩ hk2
    cases c with
    | nil => cases e
    | oth w xs r =>
      simp only [nto, enumD, List.cons.injEq] at e
      obtain ⟨rfl, rfl⟩ := e
      simp only [Bk.ok, Bool.and_eq_true, Bool.not_eq_true', decide_eq_false_iff_not] at co
      simp only [Bk.nd] at cn
      simp [-g_tp, -g_cn, -g_nl]
      rw [ss_consS]
      simp [co.1.1.1.2]
      rw [ss_consS]
      simp [co.1.1.1.1]
      exact hk2 _ _ ⟨_, _, r, m, a + 1, kv, rfl, rfl, ev, hk, ea, em, co.2, by simp [Bk.ns] at cs; omega, by omega, K⟩
    | ifs q1 a1 b1 r =>
      simp only [nto, enumD, List.cons.injEq] at e
      obtain ⟨rfl, rfl⟩ := e
      simp only [Bk.ok, Bool.and_eq_true] at co
      simp only [Bk.nd] at cn
      simp only [Bk.ns] at cs
      simp only [Bk.nw] at em
      simp [-g_tp, -g_cn, -g_nl]
      rw [ss_consS]
      simp
      rw [ss_consS]
      simp
      rw [ss_consS]
      simp
      refine ⟨by omega, ?_⟩
      refine c_contexts h52 (ow := none) (by omega) co.1.1.2 (by omega) (by omega) (by simp; omega) ev hk rfl fun kv1 T1 e1 hk1 ev1 K1 => ?_
      rw [ss_consS]
      simp
      refine ⟨by omega, ?_⟩
      refine c_contexts h52 (ow := none) (n := m + a1.nw) (by omega) co.1.2 (by omega) (by omega) (by simp; omega) ev1 hk1 rfl fun kv2 T2 e2 hk2' ev2 K2 => ?_
      exact hk2 _ _ ⟨_, _, r, m + a1.nw + b1.nw, a + 1, kv2, rfl, rfl, ev2, hk2', by rw [← ea, e2, e1]; simp [ctx, fr], by omega, co.2, by omega, by omega, (K.trans K1).trans K2⟩
    | whl q1 k1 a1 r =>
      simp only [nto, enumD, List.cons.injEq] at e
      obtain ⟨rfl, rfl⟩ := e
      simp only [Bk.ok, Bool.and_eq_true] at co
      simp only [Bk.nd] at cn
      simp only [Bk.ns] at cs
      simp only [Bk.nw] at em
      simp [-g_tp, -g_cn, -g_nl]
      rw [ss_consS]
      simp
      rw [ss_consS]
      have hl := hk.len
      simp [ev, dkOf]
      refine ⟨by omega, by omega, ?_⟩
      rw [hk.put]
      rw [ss_consS]
      simp [dget_app hk.fresh]
      refine c_contexts h52 (ow := some m) (n := m + 1) (by omega) co.1.2 (by omega) (by omega) (by simp; omega) upd_same hk.succ rfl fun kv1 T1 e1 hk1 ev1 K1 => ?_
      rw [ss_consS]
      simp
      exact hk2 _ _ ⟨_, _, r, m + 1 + a1.nw, a + 1, kv1, rfl, rfl, ev1, hk1, by rw [← ea, e1]; simp [ctx, fr], by omega, co.2, by omega, by omega, (K.trans (Kp.put (by simp))).trans K1⟩
end T72

/-! SN: the law's own paths, with their steps. -/
namespace T72
open Tr
open PySem (Addr PyData)
variable {C : Tr.Ctx}
def kf (ow : Option Nat) (K : Tre) : Tre := match ow with | some h => .fin (some h) | none => K
def ko (ow : Option Nat) (i : Nat) : Nat := match ow with | some _ => 0 | none => i
/-- frames, the top one last: what they lead to, how many ifs, how many rows -/
inductive Fs : List D → Tre → Nat → Nat → Prop
  | nil : Fs [] (.fin none) 0 0
  | snoc {fs : List D} {K : Tre} {i s : Nat} (h : Fs fs K i s) {all : List D} {a m : Nat} {ow : Option Nat} {c : Tk} (e : all.drop a = nto c.er m) (ok : c.er.ok = true) (pa : all.all pu = true) (ha : a ≤ all.length) :
      Fs (fs ++ [fr all a ow]) (segT c m (kf ow K)) (ko ow i + c.er.ni) (s + c.er.nd + 1)
theorem Fs.pu {fs : List D} {K : Tre} {i s : Nat} (h : Fs fs K i s) : fs.all T72.pu = true := by
  induction h with
  | nil => rfl
  | snoc h e ok pa ha ih => rw [List.all_append, ih]; simpa [fr, pu_goal] using pa
theorem Fs.len {fs : List D} {K : Tre} {i s : Nat} (h : Fs fs K i s) : fs.length ≤ s := by
  induction h with
  | nil => exact Nat.le_refl _
  | snoc h e ok pa ha ih => simp; omega
theorem nto_pu : ∀ (b : Bk) (n : Nat), b.ok = true → (nto b n).all pu = true
  | .nil, _, _ => rfl
  | .oth w xs r, n, h => by
    simp only [Bk.ok, Bool.and_eq_true] at h
    simp only [nto, List.all_cons, pu_tup, Bool.and_eq_true]
    exact ⟨⟨h.1.1.2, h.1.2⟩, nto_pu r n h.2⟩
  | .ifs q a b r, n, h => by
    simp only [Bk.ok, Bool.and_eq_true] at h
    have h1 := nto_pu a n h.1.1.2
    have h2 := nto_pu b (n + a.nw) h.1.2
    have h3 := nto_pu r (n + a.nw + b.nw) h.2
    simp only [nto, List.all_cons, pu_tup, h.1.1.1, h1, h2, h3, pu_str, List.all_nil]; rfl
  | .whl q k a r, n, h => by
    simp only [Bk.ok, Bool.and_eq_true] at h
    have h1 := nto_pu a (n + 1) h.1.2
    have h3 := nto_pu r (n + 1 + a.nw) h.2
    simp only [nto, List.all_cons, pu_tup, h.1.1.1, h.1.1.2, h1, h3, pu_str, List.all_nil]; rfl
theorem nto_len : ∀ (b : Bk) (n : Nat), (nto b n).length ≤ b.nd
  | .nil, _ => Nat.le_refl _
  | .oth _ _ r, n => by have := nto_len r n; simp [nto, Bk.nd]; omega
  | .ifs _ a b r, n => by have := nto_len r (n + a.nw + b.nw); simp [nto, Bk.nd]; omega
  | .whl _ _ a r, n => by have := nto_len r (n + 1 + a.nw); simp [nto, Bk.nd]; omega
theorem ixN_m1 {n : Nat} : L2.ixN (n + 1) (-1) = some n := by
  unfold L2.ixN
  rw [if_neg (by decide), if_pos (by omega)]
  congr 1
  omega
theorem set_last {α : Type} {l : List α} {x y : α} : (l ++ [x]).set l.length y = l ++ [y] := by
  rw [List.set_append_right _ _ (Nat.le_refl _)]; simp
def sPaths : Tr.Spec := ⟨fun ρ ds T q _ => ∃ (f : Addr) (fs : List D) (K : Tre) (i s : Nat) (cs : List Bool) (pth : List D), ds = [.ref f, .tup (cs.map D.bl), .tup pth] ∧ T f = some (.lst fs) ∧ Fs fs K i s ∧ K.ways.length ≤ 50000 ∧ cs.length + i ≤ 1000 ∧ pth.length + s + i ≤ 1000000 ∧ i ≤ ρ ∧
  ∀ p T', T p = none → T' p = some (.lst (K.ways.map (wayD cs pth))) → Kp [] T T' → q (.ref p) T'⟩
theorem c_paths {r j i s : Nat} {X : XE} {T : TH} {Q : Kd} (h : C.G j = sPaths) {f : Addr} {fs : List D} {K : Tre} {cs : List Bool} {pth cd : List D} (hr : i < r) (e : T f = some (.lst fs)) (F : Fs fs K i s) (hK : K.ways.length ≤ 50000) (hc : cs.length + i ≤ 1000) (hp : pth.length + s + i ≤ 1000000) (ce : cd = cs.map D.bl)
    (k : ∀ p T', T p = none → T' p = some (.lst (K.ways.map (wayD cs pth))) → Kp [] T T' → Q (.ref p) T') :
    ∃ ρ, ρ < r ∧ (C.G j).sp ρ [.ref f, .tup cd, .tup pth] T Q X := by
  rw [h]; exact ⟨i, hr, f, fs, K, i, s, cs, pth, by rw [ce], e, F, hK, hc, hp, Nat.le_refl _, k⟩
theorem p_paths (h53 : C.G 53 = sPaths) : Body C sPaths i__law_paths 10 3 := by
  rintro ρ ds T q X - ⟨f, fs, K, i, s, cs, pth, rfl, ef, F, hK, hc, hp, hr, k⟩
  unfold i__law_paths
  rw [ss_consS]
  simp [startD, ef]
  intro f' hf'
  rw [ss_consS]
  simp
  refine wh_ind (fun n τ T' => ∃ (d3 d4 d5 d6 d7 d8 d9 : Option D) (fs' : List D) (K' : Tre) (i' : Nat) (pth' : List D), τ = [some (.ref f'), some (.tup (cs.map D.bl)), some (.tup pth'), d3, d4, d5, d6, d7, d8, d9] ∧ T' f' = some (.lst fs') ∧ Fs fs' K' i' n ∧ K'.ways.map (wayD cs pth') = K.ways.map (wayD cs pth) ∧ i' ≤ i ∧ pth'.length + n + i' ≤ 1000000 ∧ Kp [] T T') ?_ ⟨none, none, none, none, none, none, none, fs, K, i, pth, rfl, upd_same, F, rfl, Nat.le_refl _, hp, Kp.new hf'⟩
  rintro n τ T' kk ⟨d3, d4, d5, d6, d7, d8, d9, fs', K', i', pth', rfl, ef', F', eK, hi', hp', Kp'⟩ hk
  simp
  intro p hp0
  have nfp := ne_new ef' hp0
  refine ne_nilL (xs := fs') (by rw [upd_ne nfp]; exact ef') upd_same F'.pu ?_
  have K1 : Kp [] T (upd T' p (.lst [])) := Kp'.trans (Kp.new hp0)
  have e1 : upd T' p (.lst []) f' = some (.lst fs') := by rw [upd_ne nfp]; exact ef'
  generalize upd T' p (.lst []) = T1 at K1 e1 ⊢
  have hK' : K'.ways.length ≤ 50000 := by
    have := congrArg List.length eK
    rw [List.length_map, List.length_map] at this
    omega
  rw [← eK] at k
  clear hK hp F ef
  cases F' with
  | nil =>
    simp
    rw [ss_consS]
    simp
    intro p2 hp2
    exact k p2 _ (K1.fresh hp2 (by simp)) (by simp [Tre.ways, wayD, goalD]) (K1.trans (Kp.new hp2))
  | @snoc fs0 K9 i0 s0 F0 all a m ow c e ok pa ha =>
    simp
    rw [ss_consS]
    simp [e1, fr, -g_tp, -g_cn, -g_nl]
    rw [ss_consS]
    cases c with
    | nil =>
      have hal : a = all.length := by
        have := congrArg List.length e
        simp [nto, Tk.er] at this; omega
      subst hal
      simp
      rw [ss_consS]
      cases ow with
      | some h =>
        simp [goalD]
        rw [ss_consS]
        simp
        intro p2 hp2
        exact k p2 _ (K1.fresh hp2 (by simp)) (by simp [segT, kf, Tre.ways, wayD, goalD]) (K1.trans (Kp.new hp2))
      | none =>
        simp [goalD]
        rw [ss_consS]
        simp [e1]
        exact hk s0 _ _ (by omega) ⟨_, _, _, _, _, _, _, fs0, K9, i0, pth', rfl, upd_same, F0, by rw [← eK]; rfl, by simpa [ko, Tk.er, Bk.ni] using hi', by simp [ko, Tk.er, Bk.nd, Bk.ni] at hp'; omega, K1.put2 hf'⟩
    | oth d r =>
      obtain ⟨hat, hdr, hlt⟩ := drop_at e
      have hne : ¬ ((a : Int) = (all.length : Int)) := by omega
      simp only [Tk.er, Bk.ok, Bool.and_eq_true, Bool.not_eq_true', decide_eq_false_iff_not] at ok
      simp only [Tk.er, Bk.nd] at hp'
      simp [hne]
      rw [ss_consS]
      simp [hat, ok.1.1.1.2]
      rw [ss_consS]
      simp [hat, ok.1.1.1.1]
      rw [ss_consS]
      simp [e1, ixN_m1, set_last]
      rw [ss_consS]
      simp [hat]
      refine ⟨by omega, hk (s0 + r.er.nd + 1) _ _ (by simp [Tk.er, Bk.nd]) ⟨_, _, _, _, _, _, _, _, segT r m (kf ow K9), ko ow i0 + r.er.ni, _, rfl, upd_same, Fs.snoc (a := a + 1) F0 hdr ok.2 pa hlt, by rw [← eK, segT, ways_deed]; rfl, by simpa [Tk.er, Bk.ni] using hi', by simp [Tk.er, Bk.ni] at hp' ⊢; omega, K1.put2 hf'⟩⟩
    | whl q1 k1 a1 r =>
      obtain ⟨hat, hdr, hlt⟩ := drop_at e
      have hne : ¬ ((a : Int) = (all.length : Int)) := by omega
      simp [hne]
      rw [ss_consS]
      simp [hat]
      rw [ss_consS]
      simp [hat]
      intro p2 hp2
      exact k p2 _ (K1.fresh hp2 (by simp)) (by simp [segT, kf, Tre.ways, wayD, goalD]) (K1.trans (Kp.new hp2))
    | ifs q1 a1 b1 r =>
      obtain ⟨hat, hdr, hlt⟩ := drop_at e
      have hne : ¬ ((a : Int) = (all.length : Int)) := by omega
      simp only [Tk.er, Bk.ok, Bool.and_eq_true] at ok
      simp only [Tk.er, Bk.nd, Bk.ni] at hp'
      simp only [Tk.er, Bk.ni] at hi'
      simp only [segT] at hK' k
      rw [ways_ask] at k
      have hK2 := hK'
      simp [Tre.ways] at hK2
      simp [hne]
      rw [ss_consS]
      simp [hat]
      rw [ss_consS]
      simp [hat]
      rw [ss_consS]
      simp [e1, ixN_m1, set_last]
      have K2 : Kp [] T (upd T1 f' (.lst (fs0 ++ [.tup [.tup all, .int ((a : Int) + 1), goalD ow]]))) := K1.put2 hf'
      have e2 : upd T1 f' (.lst (fs0 ++ [.tup [.tup all, .int ((a : Int) + 1), goalD ow]])) f' = some (.lst (fs0 ++ [fr all (a + 1) ow])) := upd_same
      generalize upd T1 f' (.lst (fs0 ++ [.tup [.tup all, .int ((a : Int) + 1), goalD ow]])) = T2 at K2 e2 ⊢
      have F2 := Fs.snoc F0 hdr ok.2 pa (ow := ow) (by omega)
      rw [ss_consS]
      simp
      intro g hg
      have npg : T g = none := K2.fresh hg (by simp)
      have nfg := ne_new e2 hg
      rw [ss_consS]
      simp
      generalize hR : segT r (m + a1.er.nw + b1.er.nw) (kf ow K9) = Rt at *
      generalize hts : [(false, b1, m + a1.er.nw), (true, a1, m)] = ts
      have tsP : ∀ t ∈ ts, t.2.1.er.ok = true ∧ L2.atI [D.str cIf, q1.toD, .tup (nto a1.er m), .tup (nto b1.er (m + a1.er.nw))] (3 - (if t.1 = true then 1 else 0)) = some (.tup (nto t.2.1.er t.2.2)) ∧ t.2.1.er.ni ≤ a1.er.ni + b1.er.ni ∧ t.2.1.er.nd ≤ a1.er.nd + b1.er.nd ∧ (segT t.2.1 t.2.2 Rt).ways.length ≤ 50000 := by
        rw [← hts]
        intro t ht
        simp at ht
        rcases ht with rfl | rfl
        · exact ⟨ok.1.2, by simp, by simp, by simp, by simp; omega⟩
        · exact ⟨ok.1.1.2, by simp, by simp, by simp, by simp; omega⟩
      have tsM : [D.bl false, .bl true] = ts.map fun t => D.bl t.1 := by rw [← hts]; rfl
      have tsR : (ts.map fun t => (segT t.2.1 t.2.2 Rt).ways.map (wayD (cs ++ [t.1]) (pth' ++ [askS q1 t.1]))).flatten = (segT b1 (m + a1.er.nw) Rt).ways.map (wayD (cs ++ [false]) (pth' ++ [askS q1 false])) ++ (segT a1 m Rt).ways.map (wayD (cs ++ [true]) (pth' ++ [askS q1 true])) := by rw [← hts]; simp
      have hKR : (ts.map fun t => (segT t.2.1 t.2.2 Rt).ways.map (wayD (cs ++ [t.1]) (pth' ++ [askS q1 t.1]))).flatten.length ≤ 50000 := by rw [tsR]; simp; omega
      rw [← tsR] at k
      rw [tsM]
      refine for_ind (fun li τ T' => ∃ (d6 d7 d8 : Option D) (g' : Addr) (dn td : List (Bool × Tk × Nat)), τ = [some (.ref f'), some (.tup (cs.map D.bl)), some (.tup pth'), some (.tup all), some (.int (a : Nat)), some (goalD ow), some (.ref g'), d6, d7, d8] ∧ ts = dn ++ td ∧ li = td.map (fun t => D.bl t.1) ∧ T g' = none ∧ T' g' = some (.lst (dn.map fun t => (segT t.2.1 t.2.2 Rt).ways.map (wayD (cs ++ [t.1]) (pth' ++ [askS q1 t.1]))).flatten) ∧
        T' f' = some (.lst (fs0 ++ [fr all (a + 1) ow])) ∧ Kp [] T T') ?_ ?_ _ _ _ ⟨d7, d8, d9, g, [], ts, rfl, rfl, rfl, npg, upd_same, by rw [upd_ne nfg]; exact e2, K2.trans (Kp.new hg)⟩
      · rintro τ T3 ⟨d6, d7, d8, g', dn, td, rfl, et, el, ng, eg, e3, K3⟩
        have : td = [] := by cases td with
          | nil => rfl
          | cons _ _ => cases el
        subst this
        rw [List.append_nil] at et
        subst et
        rw [ss_consS]
        simp
        exact k g' T3 ng eg K3
      · rintro d li τ T3 k3 ⟨d6, d7, d8, g', dn, td, rfl, et, el, ng, eg, e3, K3⟩ hk3
        cases td with
        | nil => cases el
        | cons t td =>
          simp only [List.map_cons, List.cons.injEq] at el
          obtain ⟨rfl, rfl⟩ := el
          obtain ⟨t1, t2, t3, t4, t5⟩ := tsP t (by rw [et]; simp)
          have hKR2 := hKR
          rw [et, List.map_append, List.flatten_append, List.length_append, List.map_cons, List.flatten_cons, List.length_append, List.length_map] at hKR2
          generalize hxs : (dn.map fun t => (segT t.2.1 t.2.2 Rt).ways.map (wayD (cs ++ [t.1]) (pth' ++ [askS q1 t.1]))).flatten = xs at eg hKR2
          simp
          rw [ss_consS]
          simp [hat, t2]
          rw [ss_consS]
          simp [hat]
          rw [ss_consS]
          have hfl := F0.len
          simp [e3]
          intro p4 hp4
          have n34 := ne_new e3 hp4
          simp [n34, e3]
          refine ⟨by omega, ?_⟩
          intro p5 hp5
          obtain ⟨n54, hp5'⟩ := fresh_if hp5
          have K5 : Kp [] T3 (upd (upd T3 p4 (.lst [.tup [.tup (nto t.2.1.er t.2.2), .int 0, .non]])) p5 (.lst (fs0 ++ [fr all (a + 1) ow] ++ [.tup [.tup (nto t.2.1.er t.2.2), .int 0, .non]]))) := (Kp.new hp4).put2 hp5'
          simp at K5
          refine ⟨by omega, by omega, ?_⟩
          have F3 : Fs (fs0 ++ [fr all (a + 1) ow] ++ [.tup [.tup (nto t.2.1.er t.2.2), .int 0, .non]]) (segT t.2.1 t.2.2 Rt) (ko ow i0 + r.er.ni + t.2.1.er.ni) (s0 + r.er.nd + 1 + t.2.1.er.nd + 1) := by
            have F3 := Fs.snoc F2 (all := nto t.2.1.er t.2.2) (a := 0) (m := t.2.2) (ow := none) (c := t.2.1) rfl t1 (nto_pu _ _ t1) (Nat.zero_le _)
            exact F3
          refine c_paths h53 (cs := cs ++ [t.1]) (i := ko ow i0 + r.er.ni + t.2.1.er.ni) (by omega) (by simp; rfl) (by simpa using F3) t5 (by simp; omega) (by simp; omega) (by simp) fun p6 T6 hp6 e6 K6 => ?_
          have K36 := K5.trans K6
          have eg6 := K36 _ _ eg (by simp)
          have ef6 := K36 _ _ e3 (by simp)
          simp [eg6, e6]
          refine ⟨by omega, ?_⟩
          intro p7 hp7
          have KT6 := K3.trans K36
          exact hk3 _ _ ⟨_, _, _, p7, dn ++ [t], td, rfl, by rw [et]; simp, rfl, KT6.fresh hp7 (by simp), by
            rw [upd_same, List.map_append, List.flatten_append, hxs]
            simp, by rw [upd_ne (ne_new ef6 hp7)]; exact ef6, KT6.trans (Kp.new hp7)⟩
end T72

/-! SP: the law's own legs, each with its path. -/
namespace T72
open Tr
open PySem (Addr PyData)
variable {C : Tr.Ctx}
/-- what stands in the table for a while h, and where it leads -/
def HOk (I S : Nat) (h : Nat) (v : D) (w : Say × Tre × Tre) : Prop := ∃ (f all : List D) (a : Nat) (ow : Option Nat) (K : Tre) (i s : Nat) (q : Say) (k : D) (x r : Tk), v = .tup (f ++ [fr all a ow]) ∧ all.drop a = nto (Tk.whl q k x r).er h ∧ a ≤ all.length ∧ Fs f K i s ∧ all.all pu = true ∧ (Tk.whl q k x r).er.ok = true ∧
  w = (q, segT r (h + 1 + x.er.nw) (kf ow K), segT x (h + 1) (.fin (some h))) ∧ ko ow i + r.er.ni + x.er.ni ≤ I ∧ s + r.er.nd + 2 * x.er.nd + 5 ≤ S
def HsOk (I S : Nat) : Nat → List (DK × D) → List (Say × Tre × Tre) → Prop
  | _, [], [] => True
  | n, kv :: kvs, w :: ws => kv.1 = .inl (n : Int) ∧ HOk I S n kv.2 w ∧ HsOk I S (n + 1) kvs ws
  | _, _, _ => False
theorem HsOk.app {I S : Nat} : ∀ {kvs kvs' : List (DK × D)} {ws ws' : List (Say × Tre × Tre)} {n m : Nat}, HsOk I S n kvs ws → m = n + kvs.length → HsOk I S m kvs' ws' → HsOk I S n (kvs ++ kvs') (ws ++ ws')
  | [], _, [], _, n, m, _, e, h' => by rw [e] at h'; exact h'
  | kv :: kvs, _, w :: ws, _, n, m, h, e, h' => ⟨h.1, h.2.1, HsOk.app h.2.2 (by rw [e]; simp; omega) h'⟩
  | [], _, _ :: _, _, _, _, h, _, _ => h.elim
  | _ :: _, _, [], _, _, _, h, _, _ => h.elim
theorem ctx_ok {I S : Nat} : ∀ (b : Tk) (n : Nat) (all : List D) (a : Nat) (f : List D) (ow : Option Nat) (K : Tre) (i s : Nat), Fs f K i s → all.drop a = nto b.er n → a ≤ all.length → all.all pu = true → b.er.ok = true → b.er.nd ≤ 1000 → ko ow i + b.er.ni ≤ I → s + (b.er.ns + 1) * 3010 ≤ S → HsOk I S n (ctx b.er n all a f ow) (wlT b n (kf ow K))
  | .nil, n, all, a, f, ow, K, i, s, F, e, ha, pa, ok, hn, hI, hS => True.intro
  | .oth d r, n, all, a, f, ow, K, i, s, F, e, ha, pa, ok, hn, hI, hS => by
    obtain ⟨hat, hdr, hlt⟩ := drop_at e
    simp only [Tk.er, Bk.ok, Bool.and_eq_true] at ok
    simp only [Tk.er, Bk.nd] at hn
    simp only [Tk.er, Bk.ni] at hI
    simp only [Tk.er, Bk.ns] at hS
    exact ctx_ok r n all (a + 1) f ow K i s F hdr hlt pa ok.2 (by omega) hI hS
  | .ifs q x y r, n, all, a, f, ow, K, i, s, F, e, ha, pa, ok, hn, hI, hS => by
    obtain ⟨hat, hdr, hlt⟩ := drop_at e
    simp only [Tk.er, Bk.ok, Bool.and_eq_true] at ok
    simp only [Tk.er, Bk.nd] at hn
    simp only [Tk.er, Bk.ni] at hI
    simp only [Tk.er, Bk.ns] at hS
    have F2 := Fs.snoc F hdr ok.2 pa (ow := ow) hlt
    have A := ctx_ok (I := I) (S := S) x n (nto x.er n) 0 _ none _ _ _ F2 rfl (Nat.zero_le _) (nto_pu _ _ ok.1.1.2) ok.1.1.2 (by omega) (by show ko ow i + r.er.ni + x.er.ni ≤ I; omega) (by omega)
    have B := ctx_ok (I := I) (S := S) y (n + x.er.nw) (nto y.er (n + x.er.nw)) 0 _ none _ _ _ F2 rfl (Nat.zero_le _) (nto_pu _ _ ok.1.2) ok.1.2 (by omega) (by show ko ow i + r.er.ni + y.er.ni ≤ I; omega) (by omega)
    have R := ctx_ok (I := I) (S := S) r (n + x.er.nw + y.er.nw) all (a + 1) f ow K i s F hdr hlt pa ok.2 (by omega) (by omega) (by omega)
    exact (A.app (by rw [ctx_len]) B).app (by rw [List.length_append, ctx_len, ctx_len]; omega) R
  | .whl q k x r, n, all, a, f, ow, K, i, s, F, e, ha, pa, ok, hn, hI, hS => by
    obtain ⟨hat, hdr, hlt⟩ := drop_at e
    have ok2 := ok
    simp only [Tk.er, Bk.ok, Bool.and_eq_true] at ok
    simp only [Tk.er, Bk.nd] at hn
    simp only [Tk.er, Bk.ni] at hI
    simp only [Tk.er, Bk.ns] at hS
    have F2 := Fs.snoc (c := .whl q k x r) F e ok2 pa (ow := ow) ha
    have A := ctx_ok (I := I) (S := S) x (n + 1) (nto x.er (n + 1)) 0 _ (some n) _ _ _ F2 rfl (Nat.zero_le _) (nto_pu _ _ ok.1.2) ok.1.2 (by omega) (by show 0 + x.er.ni ≤ I; omega) (by simp only [Tk.er, Bk.nd]; omega)
    have R := ctx_ok (I := I) (S := S) r (n + 1 + x.er.nw) all (a + 1) f ow K i s F hdr hlt pa ok.2 (by omega) (by omega) (by omega)
    exact ⟨rfl, ⟨f, all, a, ow, K, i, s, q, k, x, r, rfl, e, ha, F, pa, ok2, rfl, by omega, by omega⟩, A.app (by rw [ctx_len]) R⟩
theorem dget_mid {k : DK} {d : D} {r : List (DK × D)} : ∀ {l : List (DK × D)}, (∀ kv ∈ l, kv.1 ≠ k) → dget k (l ++ (k, d) :: r) = some d
  | [], _ => by simp [dget]
  | kv :: l, h => by
    have h1 := h kv (by simp)
    obtain ⟨k', d'⟩ := kv
    simp only [List.cons_append, dget]
    rw [if_neg h1]
    exact dget_mid fun kv hm => h kv (by simp [hm])
theorem cut_init {α : Type} {l : List α} {x : α} : cut (l ++ [x]) none (some (-1)) = l := by
  have e1 : HT.sIx (l ++ [x]).length 0 none = 0 := rfl
  have e2 : HT.sIx (l ++ [x]).length (l ++ [x]).length (some (-1)) = l.length := by
    unfold HT.sIx
    simp
    try omega
  unfold cut
  rw [e1, e2]
  simp
/-- a leg with its path -/
def wlD (st : D) (pr : List Stp) (w : Way) : D := .tup [legD st (w.ch, w.g), .tup ((pr ++ w.p).map Stp.toD)]
def legsP (b : Tk) : List D := ((stT b).map fun x => x.2.2.ways.map (wlD x.1 x.2.1)).flatten
def sLawLegs : Tr.Spec := ⟨fun ρ ds T q _ => ∃ (b : Tk) (x0 x1 x3 : D), ds = [.tup [x0, x1, .tup b.er.toD, x3]] ∧ small b.er ∧ 120 ≤ ρ ∧ ∀ p T', T p = none → T' p = some (.lst (legsP b)) → Kp [] T T' → q (.ref p) T'⟩
def appB (t : Bool) : Sms := .cons (.expr (.bm (.var 3) .append (.cons (.tup (.cons (.tup (.cons (.tup (.cons (.var 4) (.cons (.con (.bl t)) .nil))) (.cons (.var 11) (.cons (.var 12) .nil)))) (.cons (.var 13) .nil))) .nil))) .nil
/-- the legs of a start are added -/
theorem add_legs {r : Nat} {t : Bool} {h : Nat} {rt : Kd} {bk : Env → TH → Prop} {xe : Nat → Env → TH → Prop} {k : Env → TH → Prop} {τ : Env} {T : TH} {p : Addr} {pl : Addr} {e0 e1 e2 e5 e6 e7 e8 e9 e10 : Option D} {d11 d12 d13 : Option D} {pr : List Stp} {ws : List Way} {xs acc : List D}
    (hτ : τ = [e0, e1, e2, some (.ref pl), some (.int (h : Nat)), e5, e6, e7, e8, e9, e10, d11, d12, d13]) (hp : xs = ws.map (wayD [] (pr.map Stp.toD))) (hl : T pl = some (.lst acc)) (hn : acc.length + ws.length ≤ 60000) (hne : pl ≠ p) (hT : T p = some (.lst xs))
    (hk : ∀ T' d11 d12 d13, T' pl = some (.lst (acc ++ ws.map (wlD (.tup [.int (h : Nat), .bl t]) pr))) → Kp [pl] T T' → k [e0, e1, e2, some (.ref pl), some (.int (h : Nat)), e5, e6, e7, e8, e9, e10, d11, d12, d13] T') :
    forRun (fun d τ T k => bindT (.tp [.nm 11, .nm 12, .nm 13]) d T τ fun τ' => rdSs C r (appB t) { nx := fun τ T => T p = some (.lst xs) ∧ k τ T, rt := rt, bk := bk, ct := fun τ T => T p = some (.lst xs) ∧ k τ T, xe := xe } τ' T) k xs τ T := by
  refine for_ind (fun li τ T' => ∃ (d11 d12 d13 : Option D) (dn td : List Way), τ = [e0, e1, e2, some (.ref pl), some (.int (h : Nat)), e5, e6, e7, e8, e9, e10, d11, d12, d13] ∧ ws = dn ++ td ∧ li = td.map (wayD [] (pr.map Stp.toD)) ∧ T' pl = some (.lst (acc ++ dn.map (wlD (.tup [.int (h : Nat), .bl t]) pr))) ∧ T' p = some (.lst xs) ∧ Kp [pl] T T') ?_ ?_ _ _ _ ⟨d11, d12, d13, [], ws, hτ, rfl, hp, by simpa using hl, hT, Kp.refl⟩
  · rintro τ T' ⟨d11, d12, d13, dn, td, rfl, er, el, e1, -, K⟩
    have : td = [] := by cases td with
      | nil => rfl
      | cons _ _ => cases el
    subst this
    rw [List.append_nil] at er
    subst er
    exact hk T' _ _ _ e1 K
  · rintro d li τ T' k' ⟨d11, d12, d13, dn, td, rfl, er, el, e1, eT, K⟩ hk'
    cases td with
    | nil => cases el
    | cons w td =>
      simp only [List.map_cons, List.cons.injEq] at el
      obtain ⟨rfl, rfl⟩ := el
      have hn' : acc.length + dn.length + 1 ≤ 60000 := by rw [er] at hn; simp at hn; omega
      simp [wayD, -g_tp, -g_cn, -g_nl]
      unfold appB
      rw [ss_consS]
      simp [e1]
      refine ⟨by omega, by rw [if_neg (Ne.symm hne)]; exact eT, hk' _ _ ⟨_, _, _, dn ++ [w], td, rfl, by rw [er]; simp, rfl, ?_, by rw [upd_ne (Ne.symm hne)]; exact eT, K.trans (Kp.put (by simp))⟩⟩
      rw [upd_same]
      simp [wlD, legD]
theorem p_legs (h51 : C.G 51 = sNumbered) (h52 : C.G 52 = sContexts) (h53 : C.G 53 = sPaths) : Body C sLawLegs i__law_legs 14 1 := by
  rintro ρ ds T q X - ⟨b, x0, x1, x3, rfl, ⟨ok, nd, ni, ns, ll, lr⟩, hρ, k⟩
  have hnw := Bk.nw_nd b.er
  have hws := wl_len b.er 0 K0
  have lr' : ∀ x ∈ stT b, x.2.2.ways.length ≤ 50000 := fun x hx => by
    rw [Tre.ways_len]
    exact lr (x.1, x.2.2.res) (by rw [← stT_res]; exact List.mem_map.mpr ⟨x, hx, rfl⟩)
  have hlen : (legsP b).length ≤ 50000 := by
    rw [legs_items, List.length_map] at ll
    refine Nat.le_trans (Nat.le_of_eq ?_) ll
    unfold legsP items
    rw [List.length_flatten, List.length_flatten, List.map_map, List.map_map]
    congr 1
    apply List.map_congr_left
    intro x _
    simp [Tre.ways_len]
  unfold i__law_legs
  rw [ss_consS]
  simp [startD]
  refine c_numbered h51 (n := 0) (by omega) ok nd rfl fun T1 K1 => ?_
  simp
  rw [ss_consS]
  simp
  intro f hf
  have nf : T f = none := K1.fresh hf (by simp)
  rw [ss_consS]
  simp
  refine c_contexts h52 (n := 0) (kvs := []) (ow := none) (by omega) ok nd (by omega) (by simp; omega) upd_same rfl rfl fun kvs T2 ek hK ef K2 => ?_
  have KT2 : Kp [] T T2 := fun a o e h => K2 a o ((K1.trans (Kp.new hf)) a o e h) (by simp; exact fun z => by subst z; rw [nf] at e; cases e)
  have HS : HsOk 100 123410 0 kvs (hdsT b) := by
    rw [ek]
    exact ctx_ok b 0 (nto b.er 0) 0 [] none (.fin none) 0 0 Fs.nil rfl (Nat.zero_le _) (nto_pu _ _ ok) ok nd (by show 0 + b.er.ni ≤ 100; omega) (by omega)
  rw [Nat.zero_add] at hK
  have hkl := hK.len
  clear ek
  rw [ss_consS]
  simp [-g_tp, -g_cn, -g_nl]
  intro g hg
  have nfg := ne_new ef hg
  have F0 : Fs [fr (nto b.er 0) 0 none] (begT b) (0 + b.er.ni) (0 + b.er.nd + 1) := Fs.snoc (c := b) Fs.nil (all := nto b.er 0) (a := 0) (m := 0) (ow := none) rfl ok (nto_pu _ _ ok) (Nat.zero_le _)
  have hb0 := lr' (.non, [], begT b) (by simp [stT])
  simp only at hb0
  refine c_paths h53 (cs := []) (i := 0 + b.er.ni) (by omega) upd_same F0 hb0 (by simp; omega) (by simp; omega) rfl fun p1 T3 hp1 e1 K3 => ?_
  have KT3 : Kp [] T T3 := (KT2.trans (Kp.new hg)).trans K3
  have ef3 : T3 f = some (.dic kvs) := K3 _ _ (by rw [upd_ne nfg]; exact ef) (by simp)
  simp only [z_ref, e1]
  intro pl hpl
  have n1l := ne_new e1 hpl
  have nfl := ne_new ef3 hpl
  have nTl : T pl = none := KT3.fresh hpl (by simp)
  refine ⟨by rw [upd_ne n1l]; exact e1, ?_⟩
  refine lc_ind (fun li T' => ∃ (dn td : List Way), (begT b).ways = dn ++ td ∧ li = td.map (wayD [] []) ∧ T' pl = some (.lst (dn.map (wlD .non []))) ∧ T' p1 = some (.lst ((begT b).ways.map (wayD [] []))) ∧ T' f = some (.dic kvs) ∧ Kp [] T T') ?_ ?_ _ _ ⟨[], (begT b).ways, rfl, rfl, upd_same, by rw [upd_ne n1l]; exact e1, by rw [upd_ne nfl]; exact ef3, KT3.put2 nTl⟩
  · rintro T4 ⟨dn, td, er, el, e4, e14, ef4, K4⟩
    have : td = [] := by cases td with
      | nil => rfl
      | cons _ _ => cases el
    subst this
    rw [List.append_nil] at er
    rw [← er] at e4
    clear er el
    rw [ss_consS]
    simp [ef4, hkl, -g_tp, -g_cn, -g_nl]
    refine ⟨by omega, ?_⟩
    refine for_ind (fun li τ T' => ∃ (d4 d5 d6 d7 d8 d9 d10 d11 d12 d13 : Option D) (h : Nat) (kd kr : List (DK × D)) (wr : List (Say × Tre × Tre)) (acc : List D), τ = [some (.tup [x0, x1, .tup b.er.toD, x3]), some (.tup (nto b.er 0)), some (.ref f), some (.ref pl), d4, d5, d6, d7, d8, d9, d10, d11, d12, d13] ∧ li = (List.range' h kr.length).map (fun i => D.int (i : Nat)) ∧ kvs = kd ++ kr ∧ (∀ kv ∈ kd, ∃ j : Nat, j < h ∧ kv.1 = .inl (j : Int)) ∧ HsOk 100 123410 h kr wr ∧
      T' pl = some (.lst acc) ∧ acc ++ ((hdTT h wr).map fun x => x.2.2.ways.map (wlD x.1 x.2.1)).flatten = legsP b ∧ (∀ w ∈ wr, w.2.1.ways.length ≤ 50000 ∧ w.2.2.ways.length ≤ 50000) ∧ T' f = some (.dic kvs) ∧ Kp [] T T') ?_ ?_ _ _ _ ⟨none, none, none, none, none, none, none, none, none, none, 0, [], kvs, hdsT b, _, rfl, by rw [hkl, List.range_eq_range'], rfl, (fun _ h => by cases h), HS, e4, ?_, ?_, ef4, K4⟩
    · rintro τ T5 ⟨d4, d5, d6, d7, d8, d9, d10, d11, d12, d13, h, kd, kr, wr, acc, rfl, el, -, -, hs, e5, ey, -, -, K5⟩
      have : kr = [] := by cases kr with
        | nil => rfl
        | cons _ _ => simp [List.range'] at el
      subst this
      have : wr = [] := by cases wr with
        | nil => rfl
        | cons _ _ => exact hs.elim
      subst this
      simp [hdTT] at ey
      subst ey
      rw [ss_consS]
      simp
      exact k pl T5 nTl e5 K5
    · rintro d li τ T5 k5 ⟨d4, d5, d6, d7, d8, d9, d10, d11, d12, d13, h, kd, kr, wr, acc, rfl, el, ekv, hkd, hs, e5, ey, hwl, ef5, K5⟩ hk5
      cases kr with
      | nil => simp [List.range'] at el
      | cons kv kr =>
      cases wr with
      | nil => exact hs.elim
      | cons w wr =>
      obtain ⟨kk0, v⟩ := kv
      simp only [List.length_cons, List.range'_succ, List.map_cons, List.cons.injEq] at el
      obtain ⟨rfl, rfl⟩ := el
      obtain ⟨hkk, ⟨fs, all, a, ow, K, i, s, qq, kq, x, r, ev, hdr0, hal, F, pa, ok5, ew, hI, hS⟩, hs⟩ := hs
      simp only at hkk ev
      subst hkk ev
      obtain ⟨hat, hdr, hlt⟩ := drop_at hdr0
      have ok6 := ok5
      simp only [Tk.er, Bk.ok, Bool.and_eq_true] at ok6
      have hget : dget (.inl (h : Int)) kvs = some (.tup (fs ++ [fr all a ow])) := by
        rw [ekv]
        refine dget_mid fun kv hm => ?_
        obtain ⟨j, hj, e⟩ := hkd kv hm
        rw [e]
        intro z
        cases z
        omega
      have hyl : acc.length + w.2.1.ways.length + w.2.2.ways.length ≤ 50000 := by
        have := congrArg List.length ey
        simp only [hdTT, List.map_cons, List.flatten_cons, List.length_append, List.length_map] at this
        omega
      have hfl := F.len
      have w0 : w.1 = qq := by rw [ew]
      have w1 : w.2.1 = segT r (h + 1 + x.er.nw) (kf ow K) := by rw [ew]
      have w2 : w.2.2 = segT x (h + 1) (.fin (some h)) := by rw [ew]
      simp [-g_tp, -g_cn, -g_nl]
      rw [ss_consS]
      simp [ef5, hget, fr, -g_tp, -g_cn, -g_nl]
      rw [ss_consS]
      simp [hat]
      rw [ss_consS]
      simp [ef5, hget, cut_init]
      intro pa1 hpa1
      intro pb hpb
      obtain ⟨nab, hpb'⟩ := fresh_if hpb
      simp [Ne.symm nab]
      refine ⟨by omega, ?_⟩
      intro pc hpc
      obtain ⟨ncb, hpc'⟩ := fresh_if hpc
      obtain ⟨nca, hpc''⟩ := fresh_if hpc'
      have K6 : Kp [] T5 (upd (upd (upd T5 pa1 (.lst fs)) pb (.lst [.tup [.tup all, .int ((a : Int) + 1), goalD ow]])) pc (.lst (fs ++ [.tup [.tup all, .int ((a : Int) + 1), goalD ow]]))) := ((Kp.new hpa1).put2 hpb').put2 hpc''
      have e6 : (upd (upd (upd T5 pa1 (.lst fs)) pb (.lst [.tup [.tup all, .int ((a : Int) + 1), goalD ow]])) pc (.lst (fs ++ [.tup [.tup all, .int ((a : Int) + 1), goalD ow]]))) pc = some (.lst (fs ++ [fr all (a + 1) ow])) := upd_same
      generalize (upd (upd (upd T5 pa1 (.lst fs)) pb (.lst [.tup [.tup all, .int ((a : Int) + 1), goalD ow]])) pc (.lst (fs ++ [.tup [.tup all, .int ((a : Int) + 1), goalD ow]]))) = T6 at K6 e6 ⊢
      have FP : Fs (fs ++ [fr all (a + 1) ow]) w.2.1 (ko ow i + r.er.ni) (s + r.er.nd + 1) := by
        rw [w1]
        exact Fs.snoc F hdr ok6.2 pa hlt
      have FW : Fs (fs ++ [fr all a ow] ++ [fr (nto x.er (h + 1)) 0 (some h)]) w.2.2 (0 + x.er.ni) (s + (x.er.nd + r.er.nd + 1) + 1 + x.er.nd + 1) := by
        rw [w2]
        exact Fs.snoc (c := x) (Fs.snoc (c := .whl qq kq x r) F hdr0 ok5 pa hal) (all := nto x.er (h + 1)) (a := 0) (m := h + 1) (ow := some h) rfl ok6.1.2 (nto_pu _ _ ok6.1.2) (Nat.zero_le _)
      obtain ⟨wl1, wl2⟩ := hwl w (by simp)
      have e56 := K6 _ _ e5 (by simp)
      have ef6 := K6 _ _ ef5 (by simp)
      have K6T := K5.trans K6
      rw [ss_consS]
      simp [-g_tp, -g_cn, -g_nl]
      refine c_paths h53 (cs := []) (by omega) e6 FP wl1 (by simp; omega) (by simp; omega) rfl fun p7 T7 hp7 e7 K7 => ?_
      have e57 := K7 _ _ e56 (by simp)
      have ef7 := K7 _ _ ef6 (by simp)
      have n57 := ne_new e56 hp7
      have K7T := K6T.trans K7
      simp only [z_ref, e7]
      refine ⟨trivial, ?_⟩
      refine add_legs (t := false) (pr := [.asked qq false]) rfl rfl e57 (by omega) n57 e7 fun T8 d11 d12 d13 e8 K8 => ?_
      have ef8 := K8 _ _ ef7 (by simp; exact fun z => by rw [z, e57] at ef7; cases ef7)
      have K8T : Kp [] T T8 := fun p o e h => K8 p o (K7T p o e h) (by simp; exact fun z => by rw [z, nTl] at e; cases e)
      rw [ss_consS]
      simp [ef8, hget, hat]
      intro pd hpd
      intro pe hpe
      obtain ⟨ned, hpe'⟩ := fresh_if hpe
      simp [Ne.symm ned]
      refine ⟨by omega, ?_⟩
      intro pg hpg
      obtain ⟨nge, hpg'⟩ := fresh_if hpg
      obtain ⟨ngd, hpg''⟩ := fresh_if hpg'
      have K9 : Kp [] T8 (upd (upd (upd T8 pd (.lst (fs ++ [fr all a ow]))) pe (.lst [.tup [.tup (nto x.er (h + 1)), .int 0, .int (h : Nat)]])) pg (.lst (fs ++ [fr all a ow, .tup [.tup (nto x.er (h + 1)), .int 0, .int (h : Nat)]]))) := ((Kp.new hpd).put2 hpe').put2 hpg''
      have e9 : (upd (upd (upd T8 pd (.lst (fs ++ [fr all a ow]))) pe (.lst [.tup [.tup (nto x.er (h + 1)), .int 0, .int (h : Nat)]])) pg (.lst (fs ++ [fr all a ow, .tup [.tup (nto x.er (h + 1)), .int 0, .int (h : Nat)]]))) pg = some (.lst (fs ++ [fr all a ow] ++ [fr (nto x.er (h + 1)) 0 (some h)])) := by rw [upd_same, List.append_assoc]; rfl
      generalize (upd (upd (upd T8 pd (.lst (fs ++ [fr all a ow]))) pe (.lst [.tup [.tup (nto x.er (h + 1)), .int 0, .int (h : Nat)]])) pg (.lst (fs ++ [fr all a ow, .tup [.tup (nto x.er (h + 1)), .int 0, .int (h : Nat)]]))) = T9 at K9 e9 ⊢
      have e59 := K9 _ _ e8 (by simp)
      have ef9 := K9 _ _ ef8 (by simp)
      have K9T := K8T.trans K9
      rw [ss_consS]
      simp [-g_tp, -g_cn, -g_nl]
      refine c_paths h53 (cs := []) (by omega) e9 FW wl2 (by simp; omega) (by simp; omega) rfl fun pj Tj hpj ej Kj => ?_
      have e5j := Kj _ _ e59 (by simp)
      have efj := Kj _ _ ef9 (by simp)
      have n5j := ne_new e59 hpj
      have KjT := K9T.trans Kj
      simp only [z_ref, ej]
      refine ⟨trivial, ?_⟩
      refine add_legs (t := true) (pr := [.asked qq true]) rfl rfl e5j (by simp; omega) n5j ej fun Tk d11 d12 d13 ek Kk => ?_
      have efk := Kk _ _ efj (by simp; exact fun z => by rw [z, e5j] at efj; cases efj)
      have KkT : Kp [] T Tk := fun p o e h => Kk p o (KjT p o e h) (by simp; exact fun z => by rw [z, nTl] at e; cases e)
      refine hk5 _ _ ⟨_, _, _, _, _, _, _, _, _, _, h + 1, kd ++ [(.inl (h : Int), .tup (fs ++ [fr all a ow]))], kr, wr, _, rfl, rfl, by rw [ekv]; simp, ?_, hs, ek, ?_, fun w hw => hwl w (by simp [hw]), efk, KkT⟩
      · intro kv hm
        rw [List.mem_append] at hm
        rcases hm with hm | hm
        · obtain ⟨j, hj, e⟩ := hkd kv hm
          exact ⟨j, by omega, e⟩
        · simp at hm
          exact ⟨h, by omega, by rw [hm]⟩
      · rw [← ey]
        simp [hdTT, w0]
    · simp only [legsP, stT, List.map_cons, List.flatten_cons]
    · have key : ∀ (ws : List (Say × Tre × Tre)) (j : Nat), (∀ s ∈ hdTT j ws, s.2.2.ways.length ≤ 50000) → ∀ w ∈ ws, w.2.1.ways.length ≤ 50000 ∧ w.2.2.ways.length ≤ 50000 := by
        intro ws
        induction ws with
        | nil => intro j _ w hw; cases hw
        | cons w0 ws ih =>
          intro j hj w hw
          simp only [List.mem_cons] at hw
          rcases hw with rfl | hw
          · exact ⟨hj (.tup [.int (j : Nat), .bl false], [.asked w.1 false], w.2.1) (by simp [hdTT]), hj (.tup [.int (j : Nat), .bl true], [.asked w.1 true], w.2.2) (by simp [hdTT])⟩
          · exact ih (j + 1) (fun s hs => hj s (by simp [hdTT, hs])) w hw
      exact key (hdsT b) 0 fun s hs => lr' s (by simp [stT, hs])
  · rintro d li T4 k4 ⟨dn, td, er, el, e4, e14, ef4, K4⟩ hk4
    cases td with
    | nil => cases el
    | cons w td =>
      simp only [List.map_cons, List.cons.injEq] at el
      obtain ⟨rfl, rfl⟩ := el
      have hl4 : dn.length + 1 ≤ 50000 := by
        have := congrArg List.length er
        simp at this
        omega
      simp [wayD, e4, e14, n1l, -g_tp, -g_cn, -g_nl]
      refine ⟨by omega, hk4 _ ⟨dn ++ [w], td, by rw [er]; simp, rfl, ?_, by rw [upd_ne n1l]; exact e14, by rw [upd_ne nfl]; exact ef4, K4.put2 nTl⟩⟩
      rw [upd_same]
      simp [wlD, legD]
end T72

/-! SB: the law's own places, sums, sayings. -/
namespace T72
open Tr
open PySem (Addr PyData)
variable {C : Tr.Ctx}
def sLPlace : Tr.Spec := ⟨fun _ ds T q _ => ∃ (c : Cs) (s : Stn) (x : List Nat) (f : Addr), ds = [c.D, s.D, .ref f, .str x] ∧ c.ok ∧ s.ok c ∧ SpOk c x ∧ T f = some (.dic []) ∧ q (.int (plv c s x : Nat)) T⟩
theorem c_lplace {r i : Nat} {X : XE} {T : TH} {Q : Kd} (h : C.G i = sLPlace) (hr : 0 < r) {c : Cs} {s : Stn} {cd sd : D} {x : List Nat} {f : Addr} (ec : cd = c.D) (es : sd = s.D) (hc : c.ok) (hs : s.ok c) (hx : SpOk c x) (ef : T f = some (.dic [])) (k : Q (.int (plv c s x : Nat)) T) : ∃ ρ, ρ < r ∧ (C.G i).sp ρ [cd, sd, .ref f, .str x] T Q X := by
  rw [h]; exact ⟨0, hr, c, s, x, f, by rw [ec, es], hc, hs, hx, ef, k⟩
theorem p_lplace : Body C sLPlace i__law_place 4 4 := by
  rintro ρ ds T q X - ⟨c, s, x, f, rfl, hc, hs, hx, ef, k⟩
  obtain ⟨r0, rs, e1, e2⟩ := hs.cons hc
  unfold i__law_place
  rw [ss_consS]
  simp [startD]
  by_cases e : x = wEnd
  · simp [e]
    rw [ss_consS]
    simp [Stn.D, e1, rowD]
    simpa [plv, e, e2] using k
  · simp [e]
    rw [ss_consS]
    simp [ef, dkOf, dget]
    rw [ss_consS]
    have hp := hx.resolve_right e
    obtain ⟨p, e3, -⟩ := hs.pla hp
    simp [Cs.D, Stn.D, m_tix hp, e3, plD]
    simpa [plv, e, e3] using k
def sLWorth : Tr.Spec := ⟨fun ρ ds T q _ => ∃ (c : Cs) (s : Stn) (z : Sz) (f : Addr), ds = [c.D, s.D, .ref f, z.toD] ∧ 1 ≤ ρ ∧ c.ok ∧ s.ok c ∧ z.ok c ∧ T f = some (.dic []) ∧ q (.int (z.val c s)) T⟩
theorem c_lworth {r i : Nat} {X : XE} {T : TH} {Q : Kd} (h : C.G i = sLWorth) (hr : 1 < r) {c : Cs} {s : Stn} {cd sd zd : D} {z : Sz} {f : Addr} (ec : cd = c.D) (es : sd = s.D) (ez : zd = z.toD) (hc : c.ok) (hs : s.ok c) (hz : z.ok c) (ef : T f = some (.dic [])) (k : Q (.int (z.val c s)) T) : ∃ ρ, ρ < r ∧ (C.G i).sp ρ [cd, sd, .ref f, zd] T Q X := by
  rw [h]; exact ⟨1, hr, c, s, z, f, by rw [ec, es, ez], Nat.le_refl _, hc, hs, hz, ef, k⟩
theorem p_lworth (h7 : C.G 7 = sLPlace) : Body C sLWorth i__law_worth 7 4 := by
  rintro ρ ds T q X - ⟨c, s, z, f, rfl, hρ, hc, hs, hz, ef, k⟩
  unfold i__law_worth
  rw [ss_consS]
  cases z with
  | num m =>
    simp [startD, Sz.toD, -g_tp, -g_cn, -g_nl]
    rw [ss_consS]
    simp
    rw [ss_consS]
    simp
    exact k
  | nam x m =>
    simp [startD, Sz.toD, -g_tp, -g_cn, -g_nl]
    rw [ss_consS]
    simp
    rw [ss_consS]
    simp
    rw [ss_consS]
    have hx : x ∈ c.u := hz
    obtain ⟨n, e1⟩ := hs.num hx
    simp [Cs.D, Stn.D, m_tix hx, e1]
    simpa [Sz.val, e1] using k
  | row x y m =>
    simp [startD, Sz.toD, -g_tp, -g_cn, -g_nl]
    rw [ss_consS]
    simp
    rw [ss_consS]
    simp
    rw [ss_consS]
    obtain ⟨r, e1, e2⟩ := hs.row hz.1
    have hmm := hs.mm
    have hp := plv_le hs hz.2
    have hat : (r.map D.int ++ [D.int 0])[plv c s y]? = some (.int (if plv c s y = s.many then 0 else (((s.rows[idx c.r x]?).getD [])[plv c s y]?).getD 0)) := by
      by_cases e : plv c s y = s.many
      · rw [if_pos e, e, ← e2, List.getElem?_append_right (by simp)]
        simp
      · rw [if_neg e, List.getElem?_append_left (by simp; omega), List.getElem?_map, e1]
        have hl : plv c s y < r.length := by omega
        simp [List.getElem?_eq_getElem hl]
    simp [Cs.D, Stn.D, m_tix hz.1, e1, rowD]
    refine ⟨by omega, ?_⟩
    rw [ss_consS]
    simp
    refine c_lplace h7 (by omega) rfl rfl hc hs hz.2 ef ?_
    simp [hat]
    exact k
mutual
def Say.lk : Say → Nat
  | .cmp _ _ _ => 0
  | .plc _ _ _ => 0
  | .nt x => x.lk + 1
  | .imp x y => max (x.lk + 1) y.lk + 1
  | .all xs => xs.lk + 1
  | .any xs => xs.lk + 1
def Says.lk : Says → Nat
  | .nil => 0
  | .cons x xs => max x.lk xs.lk
end
mutual
theorem Say.lk_le : ∀ y : Say, y.lk ≤ 2 * y.rk
  | .cmp _ _ _ => by simp [Say.lk]
  | .plc _ _ _ => by simp [Say.lk]
  | .nt x => by have := Say.lk_le x; simp only [Say.lk, Say.rk]; omega
  | .imp x y => by have := Say.lk_le x; have := Say.lk_le y; simp only [Say.lk, Say.rk]; omega
  | .all xs => by have := Says.lk_le xs; simp only [Say.lk, Say.rk]; omega
  | .any xs => by have := Says.lk_le xs; simp only [Say.lk, Say.rk]; omega
theorem Says.lk_le : ∀ y : Says, y.lk ≤ 2 * y.rk
  | .nil => by simp [Says.lk]
  | .cons x xs => by have := Say.lk_le x; have := Says.lk_le xs; simp only [Says.lk, Says.rk]; omega
end
theorem in_false (bs : List Bool) : inF (.bl false) (bs.map D.bl) = !bs.all id := by
  induction bs with
  | nil => rfl
  | cons b bs ih =>
    unfold inF at ih ⊢
    rw [List.map_cons, List.any_cons, ih]
    cases b <;> simp [eqF]
theorem in_true (bs : List Bool) : inF (.bl true) (bs.map D.bl) = bs.any id := by
  induction bs with
  | nil => rfl
  | cons b bs ih =>
    unfold inF at ih ⊢
    rw [List.map_cons, List.any_cons, ih]
    cases b <;> simp [eqF]
theorem fl_bl (bs : List Bool) : (bs.map D.bl).all flat = true := by
  rw [List.all_eq_true]
  intro d hd
  obtain ⟨b, -, rfl⟩ := List.mem_map.mp hd
  rfl
def sLHolds : Tr.Spec := ⟨fun ρ ds T q _ => ∃ (c : Cs) (s : Stn) (y : Say) (f : Addr), ds = [c.D, s.D, y.toD, .ref f] ∧ y.lk + 2 ≤ ρ ∧ c.ok ∧ s.ok c ∧ y.ok c ∧ y.few ∧ T f = some (.dic []) ∧ ∀ T', Kp [] T T' → q (.bl (y.val c s)) T'⟩
theorem c_lholds {r i : Nat} {X : XE} {T : TH} {Q : Kd} (h : C.G i = sLHolds) {c : Cs} {s : Stn} {cd sd yd : D} {y : Say} {f : Addr} (hr : y.lk + 2 < r) (ec : cd = c.D) (es : sd = s.D) (ey : yd = y.toD) (hc : c.ok) (hs : s.ok c) (hy : y.ok c) (hf : y.few) (ef : T f = some (.dic []))
    (k : ∀ T', Kp [] T T' → Q (.bl (y.val c s)) T') : ∃ ρ, ρ < r ∧ (C.G i).sp ρ [cd, sd, yd, .ref f] T Q X := by
  rw [h]; exact ⟨_, hr, c, s, y, f, by rw [ec, es, ey], Nat.le_refl _, hc, hs, hy, hf, ef, k⟩
theorem p_lholds (h7 : C.G 7 = sLPlace) (h9 : C.G 9 = sLWorth) (h48 : C.G 48 = sLHolds) : Body C sLHolds i__law_holds 11 4 := by
  rintro ρ ds T q X - ⟨c, s, y, f, rfl, hρ, hc, hs, hy, hf, ef, k⟩
  -- several sayings
  have rest : ∀ (w : List Nat) (yd : D) (xs : Says), xs.lk + 3 ≤ ρ → xs.ok c → xs.few → xs.len ≤ 1000 → (∀ T', Kp [] T T' → q (.bl (if w = wAnd then (xs.vals c s).all id else (xs.vals c s).any id)) T') →
      rdSs C ρ (dropS 6 i__law_holds) (endD q X) [some c.D, some s.D, some yd, some (.ref f), some (.str w), some (.tup xs.toDs), none, none, none, none, none] T := by
    intro w yd xs hr ho hfw hl k
    unfold i__law_holds
    simp only [dropS]
    rw [ss_consS]
    simp
    intro p hp
    refine lc_ind (fun li T' => ∃ (dn : List Bool) (td : Says), li = td.toDs ∧ xs.vals c s = dn ++ td.vals c s ∧ T' p = some (.lst (dn.map D.bl)) ∧ T' f = some (.dic []) ∧ Kp [] T T' ∧ dn.length + td.len ≤ 1000 ∧ td.ok c ∧ td.few ∧ td.lk ≤ xs.lk) ?_ ?_ _ _ ⟨[], xs, rfl, rfl, upd_same, by rw [upd_ne (ne_new ef hp)]; exact ef, Kp.new hp, by simpa using hl, ho, hfw, Nat.le_refl _⟩
    · rintro T' ⟨dn, td, el, ev, ep, -, K, -⟩
      have : td = .nil := by cases td with
        | nil => rfl
        | cons _ _ => cases el
      subst this
      rw [Says.vals, List.append_nil] at ev
      rw [ss_consS]
      have kk := k T' K
      rw [ev] at kk
      have fb := fl_bl dn
      simp only [List.all_map] at fb
      by_cases hw : w = wAnd
      · rw [if_pos hw] at kk
        simp [hw, ep, in_false]
        refine ⟨rfl, ⟨fun _ => rfl, fun _ => rfl⟩, ?_⟩
        simpa using kk
      · rw [if_neg hw] at kk
        simp [hw, ep, in_true]
        refine ⟨rfl, ⟨fun _ => rfl, fun _ => rfl⟩, ?_⟩
        simpa using kk
    · rintro d li T' kk ⟨dn, td, el, ev, ep, ef, K, hl, ho, hfw, hrk⟩ hk
      cases td with
      | nil => cases el
      | cons y ys =>
        simp only [Says.toDs, List.cons.injEq] at el
        obtain ⟨rfl, rfl⟩ := el
        simp only [Says.ok] at ho
        simp only [Says.few] at hfw
        simp only [Says.lk] at hrk
        simp only [Says.len] at hl
        have npf : p ≠ f := by
          intro z
          rw [z, ef] at ep
          cases ep
        refine c_lholds (y := y) h48 (by omega) rfl rfl rfl hc hs ho.1 hfw.1 ef fun T2 K2 => ?_
        have ep2 := K2 _ _ ep (by simp)
        have ef2 := K2 _ _ ef (by simp)
        simp [ep2]
        refine ⟨by omega, hk _ ⟨dn ++ [y.val c s], ys, rfl, by rw [ev, Says.vals]; simp, by rw [upd_same]; simp, by rw [upd_ne (Ne.symm npf)]; exact ef2, (K.trans K2).put2 hp, by simp; omega, ho.2, hfw.2, by omega⟩⟩
  cases y with
  | nt x =>
    simp only [Say.ok] at hy
    simp only [Say.lk] at hρ
    simp only [Say.few] at hf
    unfold i__law_holds
    rw [ss_consS]
    simp [startD, Say.toD]
    rw [ss_consS]
    have i1 : inF (.str wNot) [.str wMost, .str wLess, .str wSame, .str wUnl] = false := by decide
    have i2 : inF (.str wNot) [.str wAhead, .str wHere] = false := by decide
    simp [i1, flat]
    rw [ss_consS]
    simp [i2, flat]
    rw [ss_consS]
    simp
    rw [ss_consS]
    simp
    refine c_lholds h48 (by omega) rfl rfl rfl hc hs hy hf ef fun T' K => ?_
    simp
    have := k T' K
    simpa [Say.val] using this
  | imp x y =>
    simp only [Say.ok] at hy
    simp only [Say.lk] at hρ
    simp only [Say.few] at hf
    have rr := rest wIf (Say.imp x y).toD (.cons (.nt x) (.cons y .nil)) (by simp only [Says.lk, Say.lk]; omega) ⟨hy.1, hy.2, True.intro⟩ ⟨hf.1, hf.2, True.intro⟩ (by simp [Says.len]) (fun T' K => by
      have := k T' K
      simpa [Say.val, Says.vals] using this)
    unfold i__law_holds at rr ⊢
    simp only [dropS] at rr
    rw [ss_consS]
    simp [startD, Say.toD]
    rw [ss_consS]
    have i1 : inF (.str wIf) [.str wMost, .str wLess, .str wSame, .str wUnl] = false := by decide
    have i2 : inF (.str wIf) [.str wAhead, .str wHere] = false := by decide
    simp [i1, flat]
    rw [ss_consS]
    simp [i2, flat]
    rw [ss_consS]
    simp
    rw [ss_consS]
    simp
    rw [ss_consS]
    simp
    rw [ss_consS]
    simp
    exact rr
  | all xs =>
    simp only [Say.ok] at hy
    simp only [Say.lk] at hρ
    simp only [Say.few] at hf
    have rr := rest wAnd (Say.all xs).toD xs (by omega) hy hf.1 hf.2 (fun T' K => by
      have := k T' K
      simpa [Say.val] using this)
    unfold i__law_holds at rr ⊢
    simp only [dropS] at rr
    rw [ss_consS]
    simp [startD, Say.toD]
    rw [ss_consS]
    have i1 : inF (.str wAnd) [.str wMost, .str wLess, .str wSame, .str wUnl] = false := by decide
    have i2 : inF (.str wAnd) [.str wAhead, .str wHere] = false := by decide
    simp [i1, flat]
    rw [ss_consS]
    simp [i2, flat]
    rw [ss_consS]
    simp
    rw [ss_consS]
    simp
    rw [ss_consS]
    simp
    exact rr
  | any xs =>
    simp only [Say.ok] at hy
    simp only [Say.lk] at hρ
    simp only [Say.few] at hf
    have rr := rest wOr (Say.any xs).toD xs (by omega) hy hf.1 hf.2 (fun T' K => by
      have := k T' K
      simpa [Say.val] using this)
    unfold i__law_holds at rr ⊢
    simp only [dropS] at rr
    rw [ss_consS]
    simp [startD, Say.toD]
    rw [ss_consS]
    have i1 : inF (.str wOr) [.str wMost, .str wLess, .str wSame, .str wUnl] = false := by decide
    have i2 : inF (.str wOr) [.str wAhead, .str wHere] = false := by decide
    simp [i1, flat]
    rw [ss_consS]
    simp [i2, flat]
    rw [ss_consS]
    simp
    rw [ss_consS]
    simp
    rw [ss_consS]
    simp
    exact rr
  | cmp w a b =>
    simp only [Say.ok] at hy
    simp only [Say.lk] at hρ
    obtain ⟨hw, ha, hb⟩ := hy
    have inn : inF (.str w) [.str wMost, .str wLess, .str wSame, .str wUnl] = true := by rcases hw with rfl | rfl | rfl | rfl <;> decide
    unfold i__law_holds
    rw [ss_consS]
    simp [startD, Say.toD]
    rw [ss_consS]
    simp [inn, flat]
    rw [ss_consS]
    simp [cut_tail, lcRun_cons, lcRun_nil]
    intro p hp
    have nfp := ne_new ef hp
    have ef1 : upd T p (.lst []) f = some (.dic []) := by rw [upd_ne nfp]; exact ef
    refine c_lworth h9 (by omega) rfl rfl rfl hc hs ha ef1 ?_
    simp
    have ef2 : upd (upd T p (.lst [])) p (.lst [.int (a.val c s)]) f = some (.dic []) := by rw [upd_ne nfp, upd_ne nfp]; exact ef
    rw [upd_upd] at ef2
    simp only [upd_upd]
    refine c_lworth h9 (by omega) rfl rfl rfl hc hs hb ef2 ?_
    simp
    refine ⟨_, _, ⟨rfl, rfl⟩, _, _, rfl, rfl, ?_⟩
    simp only [upd_upd]
    rw [ss_consS]
    simp
    intro p2 hp2
    obtain ⟨n2, hp2'⟩ := fresh_if hp2
    rw [ss_consS]
    simp only [Say.val] at k
    have kk := k (upd (upd T p (.lst [.int (a.val c s), .int (b.val c s)])) p2 (.dic [(.inr wMost, .bl (decide (a.val c s ≤ b.val c s))), (.inr wLess, .bl (decide (a.val c s < b.val c s))), (.inr wSame, .bl (decide (a.val c s = b.val c s))), (.inr wUnl, .bl (!decide (a.val c s = b.val c s)))])) ((Kp.new hp).put2 hp2')
    rcases hw with rfl | rfl | rfl | rfl
    · simpa [dget, isSo, upd_upd] using kk
    · simpa [dget, isSo, upd_upd] using kk
    · simpa [dget, isSo, upd_upd] using kk
    · simpa [dget, isSo, upd_upd] using kk
  | plc w x y =>
    simp only [Say.ok] at hy
    simp only [Say.lk] at hρ
    obtain ⟨hw, ha, hb⟩ := hy
    have i1 : inF (.str w) [.str wMost, .str wLess, .str wSame, .str wUnl] = false := by rcases hw with rfl | rfl <;> decide
    have i2 : inF (.str w) [.str wAhead, .str wHere] = true := by rcases hw with rfl | rfl <;> decide
    unfold i__law_holds
    rw [ss_consS]
    simp [startD, Say.toD]
    rw [ss_consS]
    simp [i1, flat]
    rw [ss_consS]
    simp [i2, flat]
    rw [ss_consS]
    simp [cut_tail, lcRun_cons, lcRun_nil]
    intro p hp
    have nfp := ne_new ef hp
    have ef1 : upd T p (.lst []) f = some (.dic []) := by rw [upd_ne nfp]; exact ef
    refine c_lplace h7 (by omega) rfl rfl hc hs ha ef1 ?_
    simp
    have ef2 : upd (upd T p (.lst [])) p (.lst [.int (plv c s x : Nat)]) f = some (.dic []) := by rw [upd_ne nfp, upd_ne nfp]; exact ef
    rw [upd_upd] at ef2
    simp only [upd_upd]
    refine c_lplace h7 (by omega) rfl rfl hc hs hb ef2 ?_
    simp
    refine ⟨_, _, ⟨rfl, rfl⟩, _, _, rfl, rfl, ?_⟩
    simp only [upd_upd]
    rw [ss_consS]
    simp
    intro p2 hp2
    obtain ⟨n2, hp2'⟩ := fresh_if hp2
    simp only [Say.val] at k
    have e : (((plv c s x : Nat) : Int) = ((plv c s y : Nat) : Int)) = (plv c s x = plv c s y) := propext (by omega)
    have kk := k (upd (upd T p (.lst [.int (plv c s x : Nat), .int (plv c s y : Nat)])) p2 (.lst [.bl (decide (plv c s x < plv c s y)), .bl (decide (plv c s x = plv c s y))])) ((Kp.new hp).put2 hp2')
    rcases hw with rfl | rfl
    · simpa [stSo, e] using kk
    · simpa [stSo, e] using kk
end T72

set_option Elab.async false
set_option linter.all false
set_option maxRecDepth 100000
set_option maxHeartbeats 4000000
/-! SC: the law's own deeds; along. -/
namespace T72
open Tr
open PySem (Addr PyData)
variable {C : Tr.Ctx}
theorem p_lat : Body C sWithN i__law_at 3 3 := by
  rintro ρ ds T q X - ⟨xs, p, v, rfl, hp, hl, k⟩
  unfold i__law_at
  rw [ss_consS]
  have c1 := cut_len xs none (some (p : Int))
  have c2 := cut_len xs (some ((p : Int) + 1)) none
  simp [startD, cut_set hp]
  exact ⟨by omega, by omega, k⟩
theorem plv_p {c : Cs} {s : Stn} {x : List Nat} (hc : c.ok) (hx : x ∈ c.p) : plv c s x = (s.pls[idx c.p x]?).getD 0 := by
  unfold plv
  rw [if_neg (hc.sp x hx).2]
def sLActed : Tr.Spec := ⟨fun ρ ds T q _ => ∃ (c : Cs) (s : Stn) (d : Deed), ds = [c.D, s.D, d.toD] ∧ 2 ≤ ρ ∧ c.ok ∧ s.ok c ∧ d.ok c ∧ ∀ T', Kp [] T T' → q (d.act c s).D T'⟩
theorem c_lacted {r i : Nat} {X : XE} {T : TH} {Q : Kd} (h : C.G i = sLActed) (hr : 2 < r) {c : Cs} {s : Stn} {cd sd dd : D} {d : Deed} (ec : cd = c.D) (es : sd = s.D) (ed : dd = d.toD) (hc : c.ok) (hs : s.ok c) (hd : d.ok c) (k : ∀ T', Kp [] T T' → Q (d.act c s).D T') :
    ∃ ρ, ρ < r ∧ (C.G i).sp ρ [cd, sd, dd] T Q X := by
  rw [h]; exact ⟨2, hr, c, s, d, by rw [ec, es, ed], Nat.le_refl _, hc, hs, hd, k⟩
/-- behind the look at places -/
theorem p_lacted (h7 : C.G 7 = sLPlace) (h9 : C.G 9 = sLWorth) (h10 : C.G 10 = sWithN) : Body C sLActed i__law_acted 13 3 := by
  rintro ρ ds T q X - ⟨c, s, d, rfl, hρ, hc, hs, hd, k⟩
  obtain ⟨r0, rs, e1, e2⟩ := hs.cons hc
  have h0 : L2.atI (s.rows.map rowD) 0 = some (.tup (r0.map D.int)) := by rw [e1]; simp [rowD]
  have hmm := hs.mm
  have l1 : (s.rows.map rowD).length ≤ 18 := by rw [List.length_map, hs.rl]; exact hc.lr
  have l2 : (s.pls.map plD).length ≤ 18 := by rw [List.length_map, hs.pl]; exact hc.lp
  have l3 : (s.nums.map D.int).length ≤ 18 := by rw [List.length_map, hs.nl]; exact hc.lu
  -- the places' deeds
  have plc : ∀ (w : List Nat) (more : List D) (x : List Nat) (n : Nat), x ∈ c.p → w = wStand ∨ w = wBegin ∨ w = wGo →
      (w = wStand → ∃ y, more = [.str y] ∧ SpOk c y ∧ n = plv c s y) → (w = wBegin → n = 0) → (w = wGo → n = min (plv c s x + 1) s.many) → (∀ T', Kp [] T T' → q ({ s with pls := s.pls.set (idx c.p x) n } : Stn).D T') →
      rdSs C ρ (dropS 3 i__law_acted) (endD q X) [some c.D, some s.D, some (.tup (.str w :: .str x :: more)), some (.int (s.many : Nat)), none, none, none, some (.tup (s.rows.map rowD)), some (.tup (s.pls.map plD)), some (.tup (s.nums.map D.int)), none, none, none] T := by
    intro w more x n hx hw h1 h2 h3 k
    have ixl := (idx_ok hx).2
    have hil : idx c.p x < (s.pls.map plD).length := by rw [List.length_map, hs.pl]; exact ixl
    obtain ⟨pk, ep, hpk⟩ := hs.pla hx
    have epD : (s.pls.map plD)[idx c.p x]? = some (.int (pk : Nat)) := by rw [List.getElem?_map, ep]; rfl
    have pv := plv_p (s := s) hc hx
    rw [ep] at pv
    have pv : plv c s x = pk := pv
    have fin : ∀ (T2 : TH) (z : Int) (d4 : Option D) (d12 : Option D), z = n → Kp [] T T2 → ∃ ρ', ρ' < ρ ∧ (C.G 10).sp ρ' [.tup (s.pls.map plD), .int (idx c.p x : Nat), .int z] T2 (fun d T3 => q (.tup [.tup (s.rows.map rowD), d, .tup (s.nums.map D.int)]) T3) X := by
      intro T2 z d4 d12 hz K2
      refine c_withN h10 (by omega) hil (by omega) ?_
      have := k T2 K2
      rw [hz]
      simpa [Stn.D, List.map_set, plD] using this
    unfold i__law_acted
    simp only [dropS]
    rw [ss_consS]
    have inn : inF (.str w) [.str wStand, .str wBegin, .str wGo] = true := by rcases hw with rfl | rfl | rfl <;> decide
    simp [inn, flat]
    rw [ss_consS]
    simp [Cs.D, m_tix hx]
    rw [ss_consS]
    simp [epD]
    have cm : ∀ b : Bool, L2.CMul (if (pk : Int) + 1 < (s.many : Int) then (pk : Int) + 1 else (s.many : Int)) (if b = true then 1 else 0) := fun b => .inl (by split <;> omega)
    rcases hw with rfl | rfl | rfl
    · obtain ⟨y, rfl, hy, rfl⟩ := h1 rfl
      have c1 := cm false
      simp at c1
      simp [c1]
      rw [ss_consS]
      simp
      rw [ss_consS]
      simp
      intro p hp
      refine c_lplace h7 (by omega) rfl rfl hc hs hy upd_same ?_
      rw [ss_consS]
      simp
      exact fin _ _ none none rfl (Kp.new hp)
    · have c1 := cm false
      simp at c1
      simp [c1]
      rw [ss_consS]
      simp
      rw [ss_consS]
      simp
      exact fin _ _ none none (by rw [h2 rfl]; rfl) Kp.refl
    · have c1 := cm true
      simp at c1
      simp [c1]
      rw [ss_consS]
      simp
      rw [ss_consS]
      simp
      refine fin _ _ none none ?_ Kp.refl
      rw [h3 rfl, pv]
      split <;> omega
  have start : ∀ (w : List Nat) (more : List D), w ≠ wSet → rdSs C ρ (dropS 3 i__law_acted) (endD q X) [some c.D, some s.D, some (.tup (.str w :: more)), some (.int (s.many : Nat)), none, none, none, some (.tup (s.rows.map rowD)), some (.tup (s.pls.map plD)), some (.tup (s.nums.map D.int)), none, none, none] T →
      rdSs C ρ i__law_acted (endD q X) (startD 13 [c.D, s.D, .tup (.str w :: more)]) T := by
    intro w more hw rest
    unfold i__law_acted at rest ⊢
    simp only [dropS] at rest
    rw [ss_consS]
    simp [startD, Stn.D, -g_tp, -g_cn, -g_nl]
    rw [ss_consS]
    simp [h0]
    rw [ss_consS]
    simp [hw]
    rw [e2] at rest
    exact rest
  cases d with
  | set x z =>
    obtain ⟨hx, hz⟩ := hd
    have hil : idx c.u x < (s.nums.map D.int).length := by rw [List.length_map, hs.nl]; exact (idx_ok hx).2
    unfold i__law_acted
    rw [ss_consS]
    simp [startD, Deed.toD, Deed.w, Deed.xs, Stn.D, -g_tp, -g_cn, -g_nl]
    rw [ss_consS]
    simp [h0]
    rw [ss_consS]
    simp
    rw [ss_consS]
    simp
    intro p hp
    refine c_lworth (s := s) h9 (by omega) rfl rfl rfl hc hs hz upd_same ?_
    rw [ss_consS]
    simp [Cs.D, m_tix hx]
    refine c_withN h10 (by omega) hil (by omega) ?_
    have := k (upd T p (.dic [])) (Kp.new hp)
    simpa [Deed.act, Stn.D, List.map_set] using this
  | stand x y => exact start wStand _ (by decide) (plc wStand _ x _ hd.1 (.inl rfl) (fun _ => ⟨y, rfl, hd.2, rfl⟩) (fun h => by cases h) (fun h => by cases h) k)
  | bgn x => exact start wBegin _ (by decide) (plc wBegin _ x 0 hd (.inr (.inl rfl)) (fun h => by cases h) (fun _ => rfl) (fun h => by cases h) k)
  | go x => exact start wGo _ (by decide) (plc wGo _ x _ hd (.inr (.inr rfl)) (fun h => by cases h) (fun h => by cases h) (fun _ => rfl) k)
  | put x y z =>
    obtain ⟨hx, hy, hz⟩ := hd
    refine start wPut [.str x, .str y, z.toD] (by decide) ?_
    obtain ⟨r, er, hrl⟩ := hs.row hx
    have hil : idx c.r x < (s.rows.map rowD).length := by rw [List.length_map, hs.rl]; exact (idx_ok hx).2
    have erD : (s.rows.map rowD)[idx c.r x]? = some (.tup (r.map D.int)) := by rw [List.getElem?_map, er]; rfl
    have hp := plv_le hs hy
    unfold i__law_acted
    simp only [dropS]
    rw [ss_consS]
    have inn : inF (.str wPut) [.str wStand, .str wBegin, .str wGo] = false := by decide
    simp [inn, flat]
    rw [ss_consS]
    simp [Cs.D, m_tix hx]
    rw [ss_consS]
    simp [erD]
    rw [ss_consS]
    simp
    intro p1 hp1
    refine c_lplace (c := c) (s := s) h7 (by omega) rfl rfl hc hs hy upd_same ?_
    rw [ss_consS]
    by_cases e : plv c s y = s.many
    · have hn : ¬ (plv c s y < s.many) := by omega
      simp [hn]
      rw [ss_consS]
      simp
      rw [ss_consS]
      simp
      refine c_withN h10 (by omega) hil (by omega) ?_
      have := k (upd T p1 (.dic [])) (Kp.new hp1)
      have e3 : (s.rows.map rowD).set (idx c.r x) (.tup (r.map D.int)) = s.rows.map rowD := by
        apply List.ext_getElem?
        intro j
        by_cases hj : idx c.r x = j
        · subst hj
          rw [List.getElem?_set_self hil, erD]
        · rw [List.getElem?_set_ne hj]
      rw [e3]
      simpa [Deed.act, e, Stn.D] using this
    · have hn : plv c s y < s.many := by omega
      simp [hn]
      rw [ss_consS]
      simp
      intro p2 hp2
      refine c_lworth (c := c) (s := s) h9 (by omega) rfl rfl rfl hc hs hz upd_same ?_
      refine c_withN h10 (by omega) (by rw [List.length_map]; omega) (by rw [List.length_map]; omega) ?_
      rw [ss_consS]
      simp
      rw [ss_consS]
      simp
      refine c_withN h10 (by omega) hil (by omega) ?_
      have := k (upd (upd T p1 (.dic [])) p2 (.dic [])) ((Kp.new hp1).trans (Kp.new hp2))
      simpa [Deed.act, e, Stn.D, List.map_set, rowD, er] using this
  | swap x y z =>
    obtain ⟨hx, hy, hz⟩ := hd
    refine start wSwap [.str x, .str y, .str z] (by decide) ?_
    obtain ⟨r, er, hrl⟩ := hs.row hx
    have hil : idx c.r x < (s.rows.map rowD).length := by rw [List.length_map, hs.rl]; exact (idx_ok hx).2
    have erD : (s.rows.map rowD)[idx c.r x]? = some (.tup (r.map D.int)) := by rw [List.getElem?_map, er]; rfl
    have hp := plv_le hs hy
    have hp' := plv_le hs hz
    have e3 : (s.rows.map rowD).set (idx c.r x) (.tup (r.map D.int)) = s.rows.map rowD := by
      apply List.ext_getElem?
      intro j
      by_cases hj : idx c.r x = j
      · subst hj
        rw [List.getElem?_set_self hil, erD]
      · rw [List.getElem?_set_ne hj]
    unfold i__law_acted
    simp only [dropS]
    rw [ss_consS]
    have inn : inF (.str wSwap) [.str wStand, .str wBegin, .str wGo] = false := by decide
    simp [inn, flat]
    rw [ss_consS]
    simp [Cs.D, m_tix hx]
    rw [ss_consS]
    simp [erD]
    rw [ss_consS]
    simp
    intro p1 hp1
    refine c_lplace (c := c) (s := s) h7 (by omega) rfl rfl hc hs hy upd_same ?_
    rw [ss_consS]
    simp
    rw [ss_consS]
    simp
    rw [ss_consS]
    simp
    intro p2 hp2
    refine c_lplace (c := c) (s := s) h7 (by omega) rfl rfl hc hs hz upd_same ?_
    have KK : Kp [] T (upd (upd T p1 (.dic [])) p2 (.dic [])) := (Kp.new hp1).trans (Kp.new hp2)
    have kk := k _ KK
    rw [ss_consS]
    by_cases e : plv c s y = s.many
    · have hn : ¬ (plv c s y < s.many) := by omega
      simp [hn]
      rw [ss_consS]
      simp
      refine c_withN h10 (by omega) hil (by omega) ?_
      rw [e3]
      simpa [Deed.act, e, Stn.D] using kk
    · have hn : plv c s y < s.many := by omega
      by_cases e' : plv c s z = s.many
      · have hn' : ¬ (plv c s z < s.many) := by omega
        simp [hn, hn']
        rw [ss_consS]
        simp
        refine c_withN h10 (by omega) hil (by omega) ?_
        rw [e3]
        simpa [Deed.act, e', Stn.D] using kk
      · have hn' : plv c s z < s.many := by omega
        have ly : plv c s y < r.length := by omega
        have lz : plv c s z < r.length := by omega
        simp [hn, hn']
        rw [ss_consS]
        simp [List.getElem?_eq_getElem ly, List.getElem?_eq_getElem lz]
        refine c_withN h10 (by omega) (by rw [List.length_map]; omega) (by rw [List.length_map]; omega) ?_
        refine c_withN h10 (by omega) (by rw [List.length_set, List.length_map]; omega) (by rw [List.length_set, List.length_map]; omega) ?_
        rw [ss_consS]
        simp
        refine c_withN h10 (by omega) hil (by omega) ?_
        simpa [Deed.act, e, e', Stn.D, List.map_set, rowD, er, List.getElem?_eq_getElem ly, List.getElem?_eq_getElem lz] using kk
end T72

set_option Elab.async false
set_option linter.all false
set_option maxRecDepth 100000
set_option maxHeartbeats 4000000
/-! SD: the law's own along; whole; great. -/
namespace T72
open Tr
open PySem (Addr PyData)
variable {C : Tr.Ctx}
def sLAlong : Tr.Spec := ⟨fun ρ ds T q _ => ∃ (c : Cs) (l : List Stp) (s : Stn), ds = [c.D, .tup (l.map Stp.toD), s.D] ∧ c.ok ∧ (∀ x ∈ l, x.ok c) ∧ s.ok c ∧ 12 ≤ ρ ∧ ∀ T', Kp [] T T' → q (optD (runP c l s)) T'⟩
theorem p_lalong (h48 : C.G 48 = sLHolds) (h49 : C.G 49 = sLActed) : Body C sLAlong i__law_along 4 3 := by
  rintro ρ ds T q X - ⟨c, l, s, rfl, hc, hl, hs, hρ, k⟩
  unfold i__law_along
  rw [ss_consS]
  simp [startD]
  refine for_ind (fun li τ T' => ∃ (d3 : Option D) (s' : Stn) (td : List Stp), τ = [some c.D, some (.tup (l.map Stp.toD)), some s'.D, d3] ∧ li = td.map Stp.toD ∧ runP c td s' = runP c l s ∧ s'.ok c ∧ (∀ x ∈ td, x.ok c) ∧ Kp [] T T') ?_ ?_ _ _ _ ⟨none, s, l, rfl, rfl, rfl, hs, hl, Kp.refl⟩
  · rintro τ T' ⟨d3, s', td, rfl, el, er, hs', -, K⟩
    have : td = [] := by cases td with
      | nil => rfl
      | cons _ _ => cases el
    subst this
    rw [ss_consS]
    simp
    have := k T' K
    rw [← er] at this
    exact this
  · rintro d li τ T' kk ⟨d3, s', td, rfl, el, er, hs', hk', K⟩ hk
    cases td with
    | nil => cases el
    | cons x td =>
      simp only [List.map_cons, List.cons.injEq] at el
      obtain ⟨rfl, rfl⟩ := el
      have hx := hk' x (by simp)
      simp
      rw [ss_consS]
      cases x with
      | deed de =>
        simp [Stp.toD]
        rw [ss_consS]
        simp
        refine c_lacted h49 (by omega) rfl rfl rfl hc hs' hx fun T2 K2 => ?_
        exact hk _ _ ⟨_, de.act c s', td, rfl, rfl, er, Deed.act_ok hc hs' hx, fun x hx => hk' x (by simp [hx]), K.trans K2⟩
      | asked y bb =>
        simp [Stp.toD]
        rw [ss_consS]
        simp
        have hrk := hx.2.1
        have hlk := y.lk_le
        intro p hp
        refine c_lholds h48 (by omega) rfl rfl rfl hc hs' hx.1 hx.2.2 upd_same fun T2 K2 => ?_
        have KT := (K.trans (Kp.new hp)).trans K2
        simp
        by_cases e : y.val c s' = bb
        · simp [e]
          exact hk _ _ ⟨_, s', td, rfl, rfl, by rw [← er]; simp [runP, e], hs', fun x hx => hk' x (by simp [hx]), KT⟩
        · simp [e]
          rw [ss_consS]
          simp
          have := k T2 KT
          rw [← er] at this
          simpa [runP, e, optD] using this
/-! ### whole -/
inductive WD : D → Prop
  | int {i : Int} : WD (.int i)
  | tup {ds : List D} (h : ∀ d ∈ ds, WD d) : WD (.tup ds)
theorem dep_mem {d : D} : ∀ {ds : List D}, d ∈ ds → (toPy d).depth ≤ PyData.depthAll (toPys ds)
  | [], h => by cases h
  | e :: ds, h => by
    show (toPy d).depth ≤ max (toPy e).depth (PyData.depthAll (toPys ds))
    rcases List.mem_cons.mp h with rfl | h
    · omega
    · have := dep_mem h; omega
def sWhole : Tr.Spec := ⟨fun ρ ds T q _ => ∃ d, ds = [d] ∧ WD d ∧ (toPy d).depth ≤ ρ ∧ ∀ T', Kp [] T T' → q (.bl true) T'⟩
theorem p_whole (h55 : C.G 55 = sWhole) : Body C sWhole i__law_whole 2 1 := by
  rintro ρ ds T q X - ⟨d, rfl, hd, hρ, k⟩
  unfold i__law_whole
  rw [ss_consS]
  cases hd with
  | @int i =>
    simp [startD]
    rw [ss_consS]
    simp
    exact k T Kp.refl
  | @tup ds h =>
    have hρ' : PyData.depthAll (toPys ds) + 1 ≤ ρ := hρ
    simp [startD]
    rw [ss_consS]
    simp
    intro p hp
    refine lc_ind (fun l T' => (∀ d ∈ l, d ∈ ds) ∧ T' p = some (.lst []) ∧ Kp [] T T') ?_ ?_ _ _ ⟨fun _ h => h, upd_same, Kp.new hp⟩
    · rintro T' ⟨-, ep, K⟩
      intro p2 hp2
      have n2 := ne_new ep hp2
      refine eq_nilL (xs := []) (by rw [upd_ne n2]; exact ep) upd_same rfl ?_
      exact k _ (K.trans (Kp.new hp2))
    · rintro d l T' kk ⟨hm, ep, K⟩ hk
      have hd := hm d (by simp)
      have := dep_mem hd
      rw [h55]
      refine ⟨(toPy d).depth, by omega, d, rfl, h d hd, Nat.le_refl _, fun T2 K2 => ?_⟩
      simp
      exact hk _ ⟨fun x hx => hm x (by simp [hx]), K2 _ _ ep (by simp), K.trans K2⟩
theorem ints_wd (r : List Int) : WD (.tup (r.map D.int)) := .tup fun d hd => by
  obtain ⟨i, -, rfl⟩ := List.mem_map.mp hd
  exact .int
theorem stn_wd (s : Stn) : WD s.D := .tup fun d hd => by
  simp only [List.mem_cons, List.not_mem_nil, or_false] at hd
  rcases hd with rfl | rfl | rfl
  · exact .tup fun d hd => by
      obtain ⟨r, -, rfl⟩ := List.mem_map.mp hd
      exact ints_wd r
  · exact .tup fun d hd => by
      obtain ⟨r, -, rfl⟩ := List.mem_map.mp hd
      exact .int
  · exact ints_wd s.nums
/-! ### great -/
def sGreat : Tr.Spec := ⟨fun ρ ds T q _ => ∃ (a : Addr) (n : Nat) (c : Cs) (s : Stn), ds = [.ref a, s.D] ∧ c.ok ∧ s.ok c ∧ s.sm ∧ Dk T a n ∧ n + 80000 < 2 ^ 60 ∧ 2 ≤ ρ ∧
  ∀ (s' : Stn) m T', s'.ok c → m ≤ n + 80000 → Dk T' a m → Kp [a] T T' → q s'.D T'⟩
theorem p_great (h18 : C.G 18 = sNumber) : Body C sGreat i__law_great 8 2 := by
  rintro ρ ds T q X - ⟨a, n, c, s, rfl, hc, hs, hsm, hD, hn, hρ, k⟩
  have hmm := hs.mm
  have l1 : s.rows.length ≤ 18 := by rw [hs.rl]; exact hc.lr
  have l3 : s.nums.length ≤ 18 := by rw [hs.nl]; exact hc.lu
  unfold i__law_great
  rw [ss_consS]
  simp [startD, Stn.D, -g_tp, -g_cn, -g_nl]
  rw [ss_consS]
  simp
  refine ⟨by omega, ?_⟩
  intro p1 hp1
  have na1 := hD.ne hp1
  have eL : s.rows.map rowD ++ [.tup (s.nums.map D.int)] = (s.rows ++ [s.nums]).map rowD := by simp [rowD]
  rw [eL]
  have hLl : ∀ r ∈ s.rows ++ [s.nums], r.length ≤ 1000 ∧ IntS r := by
    intro r hr
    rcases List.mem_append.mp hr with hr | hr
    · exact ⟨by rw [hs.rw r hr]; exact hmm, hsm.1 r hr⟩
    · simp only [List.mem_singleton] at hr
      subst hr
      exact ⟨by omega, hsm.2⟩
  have hL : (s.rows ++ [s.nums]).length ≤ 19 := by simp; omega
  generalize hLg : s.rows ++ [s.nums] = L at hLl hL
  refine lc_ind (fun li T' => ∃ (dn td acc : List (List Int)), L = dn ++ td ∧ li = td.map rowD ∧ acc.map List.length = dn.map List.length ∧ T' p1 = some (.lst (acc.map rowD)) ∧ Dk T' a (n + 4000 * dn.length) ∧ Kp [a] T T') ?_ ?_ _ _ ⟨[], L, [], rfl, rfl, rfl, upd_same, by simpa using hD.put na1, Kp.new hp1⟩
  · rintro T2 ⟨dn, td, acc, eL2, el, elen, ep, hD2, K2⟩
    have : td = [] := by cases td with
      | nil => rfl
      | cons _ _ => cases el
    subst this
    rw [List.append_nil] at eL2
    subst eL2
    rw [← hLg, List.map_append] at elen
    rcases List.eq_nil_or_concat acc with rfl | ⟨l', b, rfl⟩
    · simp at elen
    · rw [List.concat_eq_append, List.map_append] at elen
      obtain ⟨e1, e2⟩ := List.append_inj' elen rfl
      simp at e2
      have hdl : L.length ≤ 19 := hL
      rw [ss_consS]
      simp [ep, cut_init]
      intro p2 hp2
      have n2 := ne_new ep hp2
      simp [n2, ep]
      have hmem : ∀ r ∈ l', r.length = s.many := by
        intro r hr
        have : r.length ∈ l'.map List.length := List.mem_map.mpr ⟨r, hr, rfl⟩
        rw [e1] at this
        obtain ⟨r', hr', e⟩ := List.mem_map.mp this
        rw [← e]
        exact hs.rw r' hr'
      have hlen : l'.length = c.r.length := by
        have := congrArg List.length e1
        simp at this
        rw [this, hs.rl]
      have hm : (⟨l', s.pls, b⟩ : Stn).many = s.many := by
        unfold Stn.many
        cases l' with
        | nil =>
          have := hc.hr
          simp at hlen
          exact absurd (List.eq_nil_of_length_eq_zero hlen.symm) this
        | cons x xs => exact hmem x (by simp)
      refine k ⟨l', s.pls, b⟩ _ _ ⟨hlen, hs.pl, by rw [← hs.nl]; exact e2, fun r hr => by rw [hm]; exact hmem r hr, fun x hx => by rw [hm]; exact hs.pw x hx, by rw [hm]; exact hmm⟩ (by omega) (hD2.put (hD2.ne hp2)) (K2.trans (Kp.new hp2))
  · rintro d li T2 kk ⟨dn, td, acc, eL2, el, elen, ep, hD2, K2⟩ hk
    cases td with
    | nil => cases el
    | cons row td =>
      simp only [List.map_cons, List.cons.injEq] at el
      obtain ⟨rfl, rfl⟩ := el
      have hrow := hLl row (by rw [eL2]; simp)
      have hdl : dn.length + 1 ≤ 19 := by
        have := congrArg List.length eL2
        simp at this
        omega
      have hacc : acc.length = dn.length := by
        have := congrArg List.length elen
        simpa using this
      simp [rowD]
      intro p2 hp2
      have na2 := hD2.ne hp2
      have n12 := ne_new ep hp2
      have np2 : T p2 = none := K2.fresh hp2 (by simp [Ne.symm na2])
      refine lc_ind (fun li T' => ∃ (is : List Int) (tr : List Int), li = tr.map D.int ∧ is.length + tr.length = row.length ∧ (∀ i ∈ tr, -(2 ^ 40) < i ∧ i < 2 ^ 40) ∧ T' p2 = some (.lst (is.map D.int)) ∧ T' p1 = some (.lst (acc.map rowD)) ∧ Dk T' a (n + 4000 * dn.length + 4 * is.length) ∧ Kp [a] T T') ?_ ?_ _ _ ⟨[], row, rfl, by simp, hrow.2, upd_same, by rw [upd_ne n12]; exact ep, by simpa using hD2.put na2, K2.put2 np2⟩
      · rintro T3 ⟨is, tr, el, g1, -, g2, g3, hD3, K3⟩
        have : tr = [] := by cases tr with
          | nil => rfl
          | cons _ _ => cases el
        subst this
        simp at g1
        have hr1 := hrow.1
        simp [g2, g3]
        refine ⟨by omega, hk _ ⟨dn ++ [row], td, acc ++ [is], by rw [eL2]; simp, by rfl, by simp [elen, g1], by rw [upd_same]; simp [rowD], (hD3.put na1).le (by simp; omega), K3.put2 hp1⟩⟩
      · rintro d li T3 kk3 ⟨is, tr, el, g1, gs, g2, g3, hD3, K3⟩ hk3
        cases tr with
        | nil => cases el
        | cons i tr =>
          simp only [List.map_cons, List.cons.injEq] at el
          obtain ⟨rfl, rfl⟩ := el
          simp only [List.length_cons] at g1
          have hr1 := hrow.1
          obtain ⟨i1, i2⟩ := gs i (by simp)
          simp
          refine ⟨.inl ⟨by omega, by omega⟩, ?_⟩
          rw [h18]
          refine ⟨1, by omega, a, _, rfl, Nat.le_refl _, hD3, by omega, fun j T4 j1 j2 hD4 K4 => ?_⟩
          have e5 := K4 _ _ g2 (by simp [Ne.symm na2])
          have e6 := K4 _ _ g3 (by simp [Ne.symm na1])
          simp [e5]
          refine ⟨by omega, hk3 _ ⟨is ++ [i * 10 ^ 20 + j], tr, rfl, by simp; omega, fun x hx => gs x (by simp [hx]), by rw [upd_same]; simp, by rw [upd_ne n12]; exact e6, ?_, (K3.trans K4).put2 np2⟩⟩
          exact (hD4.put na2).le (by simp; omega)
end T72

set_option Elab.async false
set_option linter.all false
set_option maxRecDepth 100000
set_option maxHeartbeats 4000000
/-! SE: right; the law. -/
namespace T72
open Tr
open PySem (Addr PyData)
variable {C : Tr.Ctx}
/-! ### legs with their paths -/
abbrev It7 := (D × List Stp × Tre) × Way
def itemsP (b : Tk) : List It7 := ((stT b).map fun x => x.2.2.ways.map fun w => (x, w)).flatten
def resOf (z : It7) : (D × List Stp × Tre) × (List Bool × Option Nat) := (z.1, (z.2.ch, z.2.g))
theorem itemsP_items (b : Tk) : (itemsP b).map resOf = items b := by
  unfold itemsP items
  rw [List.map_flatten, List.map_map]
  congr 1
  apply List.map_congr_left
  intro x _
  simp only [Function.comp_def, List.map_map, resOf]
  rw [← x.2.2.ways_res, List.map_map]
  rfl
theorem legsP_itemsP (b : Tk) : legsP b = (itemsP b).map fun z => wlD z.1.1 z.1.2.1 z.2 := by
  unfold legsP itemsP
  rw [List.map_flatten, List.map_map]
  congr 1
  apply List.map_congr_left
  intro x _
  simp [Function.comp_def]
theorem itemP_leg {b : Tk} {c : Cs} (hP : PgOk b c) {z : It7} (hz : z ∈ itemsP b) : Pth z.1.2.2 z.2.ch z.2.p ∧ Leg b c z.1.1 z.2.ch z.1.2.1 z.2.p ∧ ((z.1.1 = .non ∧ z.1.2.1 = []) ∨ ∃ (i : Nat) (bb : Bool) (y : Say), z.1.1 = .tup [.int (i : Nat), .bl bb] ∧ z.1.2.1 = [.asked y bb]) := by
  have hz' : resOf z ∈ items b := by rw [← itemsP_items]; exact List.mem_map.mpr ⟨z, hz, rfl⟩
  obtain ⟨p, h1, h2, h3⟩ := item_leg hP hz'
  unfold itemsP at hz
  rw [List.mem_flatten] at hz
  obtain ⟨l, hl, hz⟩ := hz
  obtain ⟨x, hx, rfl⟩ := List.mem_map.mp hl
  obtain ⟨w, hw, rfl⟩ := List.mem_map.mp hz
  have hp := Tre.ways_pth x.2.2 w hw
  have h1 : Pth x.2.2 w.ch p := h1
  have e := h1.det hp
  subst e
  exact ⟨hp, h2, h3⟩
/-- gone along from a head? -/
def hit (c : Cs) (s : Stn) (h : Option Nat) (z : It7) : Bool := ofHead h z.1.1 && (runP c (z.1.2.1 ++ z.2.p) s).isSome
def cnt (c : Cs) (s : Stn) (h : Option Nat) (l : List It7) : Nat := l.countP (hit c s h)
def occ (h : Option Nat) (l : List It7) : Bool := l.any fun z => ofHead h z.1.1
theorem contrib_hit {b : Tk} {c : Cs} (hP : PgOk b c) {h : Option Nat} {s : Stn} {z : It7} (hz : z ∈ itemsP b) : (contrib c h s (resOf z)).isSome = hit c s h z := by
  obtain ⟨h1, -, h3⟩ := itemP_leg hP hz
  unfold hit
  by_cases ho : ofHead h z.1.1 = true
  · rw [contrib_run (z := resOf z) (p := z.2.p) h1 h3 ho, ho]
    simp [resOf]
  · have ho' : ofHead h z.1.1 = false := by simpa using ho
    unfold contrib
    rw [if_neg (show ¬ ofHead h (resOf z).1.1 = true from ho), ho']
    rfl
theorem cnt_one {b : Tk} {c : Cs} (hP : PgOk b c) {h : Option Nat} {s : Stn} (hh : ∀ n, h = some n → ∃ w, (hdsT b)[n]? = some w) : cnt c s h (itemsP b) = 1 := by
  have e := congrArg List.length (gone_one b c h s hh)
  rw [← itemsP_items, List.filterMap_map, List.length_filterMap_eq_countP] at e
  simp only [List.length_singleton] at e
  unfold cnt
  rw [← e]
  apply List.countP_congr
  intro z hz
  rw [← contrib_hit hP hz]
  exact Iff.rfl
theorem occ_head {b : Tk} {c : Cs} (hP : PgOk b c) {h : Option Nat} (ho : occ h (itemsP b) = true) : ∀ n, h = some n → ∃ w, (hdsT b)[n]? = some w := by
  rintro n rfl
  unfold occ at ho
  rw [List.any_eq_true] at ho
  obtain ⟨z, hz, hz1⟩ := ho
  obtain ⟨h1, h2, h3⟩ := itemP_leg hP hz
  rcases h3 with ⟨e, -⟩ | ⟨i, bb, y, e, -⟩
  · rw [e] at hz1; cases hz1
  · rw [e] at hz1
    have hin : (i : Int) = (n : Int) := of_decide_eq_true hz1
    have hin : i = n := by omega
    subst hin
    rcases h2.pre with ⟨e2, -⟩ | ⟨i', b', q, k, a, e2, e3, -⟩
    · rw [e2] at e; cases e
    · rw [e2] at e
      cases e
      have hl := (List.getElem?_eq_some_iff.mp e3).1
      rw [Bk.heads_len] at hl
      have := wlT_len b 0 (.fin none)
      have hl2 : i < (hdsT b).length := by unfold hdsT; omega
      exact ⟨_, List.getElem?_eq_getElem hl2⟩
/-! ### the table of heads -/
def hkey : Option Nat → Option DK
  | none => none
  | some n => some (.inl (n : Int))
theorem hkey_inj {a b : Option Nat} (h : hkey a = hkey b) : a = b := by
  cases a with
  | none => cases b with
    | none => rfl
    | some _ => cases h
  | some a => cases b with
    | none => cases h
    | some b =>
      have h := Option.some.inj h
      have h : (a : Int) = (b : Int) := Sum.inl.inj h
      congr 1
      omega
section
variable {κ : Type} [DecidableEq κ]
theorem dget_map {k j : κ} {d : D} : ∀ {kvs : List (κ × D)}, dget j (kvs.map fun kv => if kv.1 = k then (kv.1, d) else kv) = (dget j kvs).map fun x => if j = k then d else x
  | [] => rfl
  | (k', x) :: r => by
    have ih := dget_map (k := k) (j := j) (d := d) (kvs := r)
    rw [List.map_cons]
    by_cases h : k' = k
    · rw [if_pos h]
      by_cases e : k' = j
      · simp only [dget, if_pos e, Option.map_some]
        rw [if_pos (e.symm.trans h)]
      · simp only [dget, if_neg e, ih]
    · rw [if_neg h]
      by_cases e : k' = j
      · simp only [dget, if_pos e, Option.map_some]
        rw [if_neg (fun z => h (e.trans z))]
      · simp only [dget, if_neg e, ih]
theorem dget_none {k : κ} : ∀ {kvs : List (κ × D)}, (kvs.any fun kv => decide (kv.1 = k)) = (dget k kvs).isSome
  | [] => rfl
  | (k', x) :: r => by
    rw [List.any_cons, dget_none (k := k) (kvs := r)]
    by_cases e : k' = k
    · simp [dget, e]
    · simp [dget, e]
theorem dget_snoc {k j : κ} {d : D} : ∀ {kvs : List (κ × D)}, dget k kvs = none → dget j (kvs ++ [(k, d)]) = if j = k then some d else dget j kvs
  | [], _ => by
    by_cases e : k = j
    · simp [dget, e]
    · simp [dget, e, Ne.symm e]
  | (k', x) :: r, h => by
    by_cases h1 : k' = k
    · simp [dget, h1] at h
    · simp only [dget, if_neg h1] at h
      have ih := dget_snoc (j := j) (d := d) h
      rw [List.cons_append]
      by_cases e : k' = j
      · simp only [dget, if_pos e]
        rw [if_neg (fun z => h1 (e.trans z))]
      · simp only [dget, if_neg e, ih]
theorem dget_put {k j : κ} {d : D} {kvs : List (κ × D)} : dget j (dput k d kvs) = if j = k then some d else dget j kvs := by
  unfold dput
  rw [dget_none]
  cases e : dget k kvs with
  | none => simp [dget_snoc e]
  | some x =>
    simp only [Option.isSome_some, if_true]
    rw [dget_map]
    by_cases h : j = k
    · subst h; simp [e]
    · simp [h]
theorem dput_keys {k : κ} {d : D} {kvs : List (κ × D)} : ∀ kv ∈ dput k d kvs, kv.1 = k ∨ ∃ kv' ∈ kvs, kv'.1 = kv.1 := by
  intro kv h
  unfold dput at h
  split at h
  · obtain ⟨kv', h1, rfl⟩ := List.mem_map.mp h
    right
    refine ⟨kv', h1, ?_⟩
    split <;> rfl
  · rcases List.mem_append.mp h with h | h
    · exact .inr ⟨kv, h, rfl⟩
    · simp only [List.mem_singleton] at h
      subst h
      exact .inl rfl
theorem dput_len {k : κ} {d : D} {kvs : List (κ × D)} : (dput k d kvs).length ≤ kvs.length + 1 := by
  unfold dput
  split
  · simp
  · simp
theorem dget_mem {kv : κ × D} : ∀ {kvs : List (κ × D)}, kv ∈ kvs → (dget kv.1 kvs).isSome = true := by
  intro kvs h
  rw [← dget_none, List.any_eq_true]
  exact ⟨kv, h, by simp⟩
end
/-- what the table says of the legs gone so far -/
structure Tab (c : Cs) (s : Stn) (dn : List It7) (kvs : List (Option DK × D)) : Prop where
  get : ∀ h, dget (hkey h) kvs = if occ h dn = true then some (.int (cnt c s h dn : Nat)) else none
  key : ∀ kv ∈ kvs, ∃ h, kv.1 = hkey h
  len : kvs.length ≤ dn.length
def stHead : D → Option Nat
  | .tup [.int i, .bl _] => some i.toNat
  | _ => none
theorem cnt_snoc {c : Cs} {s : Stn} {h : Option Nat} {l : List It7} {z : It7} : cnt c s h (l ++ [z]) = cnt c s h l + if hit c s h z = true then 1 else 0 := by
  unfold cnt
  rw [List.countP_append]
  simp [List.countP_cons]
theorem cnt_zero {c : Cs} {s : Stn} {h : Option Nat} {l : List It7} (ho : occ h l = false) : cnt c s h l = 0 := by
  unfold cnt
  rw [List.countP_eq_zero]
  intro z hz hh
  unfold occ at ho
  rw [List.any_eq_false] at ho
  unfold hit at hh
  rw [Bool.and_eq_true] at hh
  exact ho z hz hh.1
theorem Tab.snoc {c : Cs} {s : Stn} {dn : List It7} {kvs : List (Option DK × D)} (t : Tab c s dn kvs) {z : It7} {h0 : Option Nat} (h1 : ∀ h, ofHead h z.1.1 = decide (h = h0)) {v : Int}
    (hv : v = ((cnt c s h0 dn : Nat) : Int) + if (runP c (z.1.2.1 ++ z.2.p) s).isSome = true then 1 else 0) : Tab c s (dn ++ [z]) (dput (hkey h0) (.int v) kvs) := by
  refine ⟨fun h => ?_, fun kv hk => ?_, ?_⟩
  · rw [dget_put]
    have ho : occ h (dn ++ [z]) = (occ h dn || decide (h = h0)) := by unfold occ; simp [h1]
    rw [ho]
    by_cases e : h = h0
    · subst e
      have hh : hit c s h z = (runP c (z.1.2.1 ++ z.2.p) s).isSome := by unfold hit; rw [h1]; simp
      rw [if_pos rfl, cnt_snoc, hh, hv]
      simp
      split <;> simp
    · have hh : hit c s h z = false := by unfold hit; rw [h1]; simp [e]
      rw [if_neg (fun q => e (hkey_inj q)), t.get, cnt_snoc, hh]
      simp [e]
  · rcases dput_keys kv hk with e | ⟨kv', h2, e⟩
    · exact ⟨h0, e⟩
    · rw [← e]; exact t.key kv' h2
  · have := dput_len (k := hkey h0) (d := .int v) (kvs := kvs)
    have := t.len
    simp
    omega
section
variable {T : TH} {P : Bool → Prop}
theorem ne_opt (o : Option Stn) (k : P false) : cmpR .ne (optD o) (optD o) T P := by
  cases o with
  | none =>
    show lay T _ ∧ lay T _ ∧ shal T _ _ ∧ P (!deq T _ _)
    exact ⟨rfl, rfl, .inl (Nat.zero_le _), k⟩
  | some s =>
    have hp := stn_pu s
    have hd := stn_dep s
    show lay T s.D ∧ lay T s.D ∧ shal T s.D s.D ∧ P (!deq T s.D s.D)
    have e : deq T s.D s.D = true := by
      have hp' : ([.tup (s.rows.map rowD), .tup (s.pls.map plD), .tup (s.nums.map D.int)] : List D).all pu = true := by simpa [Stn.D] using hp
      exact pys_refl hp'
    rw [e]
    exact ⟨lay_pu hp, lay_pu hp, .inl (show (toPy s.D).depth ≤ 64 by omega), k⟩
end
def sRightL : Tr.Spec := ⟨fun ρ ds T q _ => ∃ (b : Tk) (c : Cs) (x1 x3 : D) (s : Stn) (l : Addr), ds = [.tup [c.D, x1, .tup b.er.toD, x3], .ref l, s.D] ∧ PgOk b c ∧ (legsP b).length ≤ 50000 ∧ T l = some (.lst (legsP b)) ∧ s.ok c ∧ 125 ≤ ρ ∧ ∀ T', Kp [] T T' → q (.bl true) T'⟩
theorem p_rightL (h46 : C.G 46 = sAlong) (h50 : C.G 50 = sLAlong) (h55 : C.G 55 = sWhole) : Body C sRightL i__law_right 9 3 := by
  rintro ρ ds T q X - ⟨b, c, x1, x3, s, l, rfl, hP, hll, el, hs, hρ, k⟩
  rw [legsP_itemsP] at el hll
  rw [List.length_map] at hll
  unfold i__law_right
  rw [ss_consS]
  simp [startD]
  intro g hg
  have ngl : l ≠ g := ne_new el hg
  rw [ss_consS]
  simp [ngl, el, -g_tp, -g_cn, -g_nl]
  refine for_ind (fun li τ T' => ∃ (d4 d5 d6 d7 d8 : Option D) (dn td : List It7) (kvs : List (Option DK × D)), τ = [some (.tup [c.D, x1, .tup b.er.toD, x3]), some (.ref l), some s.D, some (.ref g), d4, d5, d6, d7, d8] ∧ li = td.map (fun z => wlD z.1.1 z.1.2.1 z.2) ∧ itemsP b = dn ++ td ∧ T' g = some (.dnk none kvs) ∧ Tab c s dn kvs ∧ T' l = some (.lst ((itemsP b).map fun z => wlD z.1.1 z.1.2.1 z.2)) ∧ Kp [] T T') ?_ ?_ _ _ _ ⟨none, none, none, none, none, [], itemsP b, [], rfl, rfl, rfl, upd_same, ⟨fun h => rfl, (fun _ h => by cases h), Nat.le_refl _⟩, by rw [upd_ne ngl]; exact el, Kp.new hg⟩
  · rintro τ T' ⟨d4, d5, d6, d7, d8, dn, td, kvs, rfl, eli, ei, eg, tab, -, K⟩
    have : td = [] := by cases td with
      | nil => rfl
      | cons _ _ => cases eli
    subst this
    rw [List.append_nil] at ei
    rw [← ei] at tab
    rw [ss_consS]
    simp only [s_retS, e_cmp, e_lc, i_exdI, e_var]
    refine ⟨.ref g, rfl, g, none, kvs, rfl, eg, fun o p hp => ?_⟩
    have npg : g ≠ p := ne_new upd_same hp
    have hpT : T' p = none := by rw [upd_ne (Ne.symm npg)] at hp; exact hp
    have K2 : Kp [] T (upd (upd T' g (.dnk (some o) kvs)) p (.lst [])) := (K.put2 hg).trans (Kp.new hp)
    refine ⟨by show upd _ p _ g = _; rw [upd_ne npg, upd_same], ?_⟩
    refine lc_ind (fun li T2 => (∃ kr : List (Option DK × D), li = kr.map (fun kv => nkD kv.1) ∧ ∀ kv ∈ kr, kv ∈ kvs) ∧ T2 p = some (.lst []) ∧ T2 g = some (.dnk (some o) kvs) ∧ Kp [] T T2) ?_ ?_ _ _ ⟨⟨kvs, rfl, fun _ h => h⟩, upd_same, by rw [upd_ne npg, upd_same], K2⟩
    · rintro T2 ⟨-, ep, -, K2⟩
      simp
      intro p2 hp2
      have n2 := ne_new ep hp2
      refine eq_nilL (xs := []) (by rw [upd_ne n2]; exact ep) upd_same rfl ?_
      exact k _ (K2.trans (Kp.new hp2))
    · rintro d li T2 k2 ⟨⟨kr, eli, hkr⟩, ep, eg2, K2⟩ hk2
      cases kr with
      | nil => cases eli
      | cons kv kr =>
        simp only [List.map_cons, List.cons.injEq] at eli
        obtain ⟨rfl, rfl⟩ := eli
        obtain ⟨h, eh⟩ := tab.key kv (hkr kv (by simp))
        have hsome := dget_mem (hkr kv (by simp))
        rw [eh, tab.get] at hsome
        have ho : occ h (itemsP b) = true := by
          by_cases ho : occ h (itemsP b) = true
          · exact ho
          · rw [if_neg ho] at hsome; cases hsome
        have hget : dget (hkey h) kvs = some (.int 1) := by
          rw [tab.get, if_pos ho, cnt_one hP (occ_head hP ho)]
          rfl
        have nx : k2 T2 := hk2 _ ⟨⟨kr, rfl, fun kv h => hkr kv (by simp [h])⟩, ep, eg2, K2⟩
        rw [eh]
        cases h with
        | none =>
          simp only [hkey] at hget
          simp [hkey, nkD, eg2, hget]
          exact nx
        | some n =>
          simp only [hkey] at hget
          simp [hkey, nkD, eg2, hget]
          exact nx
  · rintro d li τ T' kk ⟨d4, d5, d6, d7, d8, dn, td, kvs, rfl, eli, ei, eg, tab, elT, K⟩ hk
    cases td with
    | nil => cases eli
    | cons z td =>
      simp only [List.map_cons, List.cons.injEq] at eli
      obtain ⟨rfl, rfl⟩ := eli
      have hz : z ∈ itemsP b := by rw [ei]; simp
      obtain ⟨hpp, hL, hf⟩ := itemP_leg hP hz
      have hdl : dn.length + 1 ≤ 50000 := by
        have := congrArg List.length ei
        simp at this
        omega
      have hkl := tab.len
      rw [show wlD z.1.1 z.1.2.1 z.2 = .tup [legD z.1.1 (z.2.ch, z.2.g), .tup ((z.1.2.1 ++ z.2.p).map Stp.toD)] from rfl]
      simp [-g_tp, -g_cn, -g_nl]
      rw [ss_consS]
      simp
      rw [h50]
      refine ⟨12, by omega, c, z.1.2.1 ++ z.2.p, s, by simp, hP.cs, hL.stp, hs, Nat.le_refl _, fun T1 K1 => ?_⟩
      have eg1 := K1 _ _ eg (by simp)
      have elT1 := K1 _ _ elT (by simp)
      dsimp only
      rw [ss_consS]
      simp
      rw [h46]
      refine ⟨121, by omega, b, c, x1, x3, goalD z.2.g, z.1.1, z.2.ch, z.1.2.1, z.2.p, s, by rfl, hP, hL, hs, Nat.le_refl _, fun T2 K2 => ?_⟩
      have eg2 := K2 _ _ eg1 (by simp)
      have elT2 := K2 _ _ elT1 (by simp)
      have KT2 := (K.trans K1).trans K2
      dsimp only
      rw [ss_consS]
      -- the head, then the table
      have rest : ∀ (T3 : TH) (N : TEnds), N.nx = (fun τ T => T l = some (.lst ((itemsP b).map fun z => wlD z.1.1 z.1.2.1 z.2)) ∧ kk τ T) → T3 g = some (.dnk none kvs) → T3 l = some (.lst ((itemsP b).map fun z => wlD z.1.1 z.1.2.1 z.2)) → Kp [] T T3 →
          rdSs C ρ (.cons (.asg (.nm 8) (.ix (.or_ (.ix (.var 4) (.con (.int 0))) (.tup (.cons (.con .non) .nil))) (.con (.int 0)))) (.cons (.asgI (.var 3) (.var 8) (.bin .add (.bm (.var 3) .dgetD (.cons (.var 8) (.cons (.con (.int 0)) .nil))) (.blt .int_ (.cons (.cmp .isn (.var 6) (.con .non)) .nil)))) .nil)) N
            [some (.tup [c.D, x1, .tup b.er.toD, x3]), some (.ref l), some s.D, some (.ref g), some (legD z.1.1 (z.2.ch, z.2.g)), some (.tup ((z.1.2.1 ++ z.2.p).map Stp.toD)), some (optD (runP c (z.1.2.1 ++ z.2.p) s)), some (optD (runP c (z.1.2.1 ++ z.2.p) s)), d8] T3 := by
        intro T3 N hN e3 e3l K3
        have isn : ∀ {T4 : TH} {P : Bool → Prop}, P (runP c (z.1.2.1 ++ z.2.p) s).isSome → cmpR .isn (optD (runP c (z.1.2.1 ++ z.2.p) s)) .non T4 P := by
          intro T4 P hp
          cases e : runP c (z.1.2.1 ++ z.2.p) s with
          | none => rw [e] at hp; exact hp
          | some s' => rw [e] at hp; exact hp
        have gd : ∀ h0, (dget (hkey h0) kvs).getD (.int 0) = .int (cnt c s h0 dn : Nat) := by
          intro h0
          rw [tab.get]
          by_cases ho : occ h0 dn = true
          · rw [if_pos ho]; rfl
          · rw [if_neg ho, cnt_zero (by simpa using ho)]; rfl
        rw [ss_consS]
        rcases hf with ⟨e1, -⟩ | ⟨i, bb, y, e1, -⟩
        · have g0 := gd none
          simp only [hkey] at g0
          simp [legD, e1]
          rw [ss_consS]
          simp [e3, nkOf, g0]
          refine isn ?_
          refine ⟨by omega, ?_⟩
          rw [hN]
          refine ⟨by rw [upd_ne ngl]; exact e3l, hk _ _ ⟨_, _, _, _, _, dn ++ [z], td, _, rfl, rfl, by rw [ei]; simp, upd_same, tab.snoc (h0 := none) (fun h => ?_) rfl, by rw [upd_ne ngl]; exact e3l, K3.put2 hg⟩⟩
          rw [e1]
          cases h <;> rfl
        · have g0 := gd (some i)
          simp only [hkey] at g0
          simp [legD, e1]
          rw [ss_consS]
          simp [e3, nkOf, g0]
          refine isn ?_
          refine ⟨by omega, ?_⟩
          rw [hN]
          refine ⟨by rw [upd_ne ngl]; exact e3l, hk _ _ ⟨_, _, _, _, _, dn ++ [z], td, _, rfl, rfl, by rw [ei]; simp, upd_same, tab.snoc (h0 := some i) (fun h => ?_) rfl, by rw [upd_ne ngl]; exact e3l, K3.put2 hg⟩⟩
          rw [e1]
          cases h with
          | none => rfl
          | some n =>
            show decide ((i : Int) = (n : Int)) = decide (some n = some i)
            exact decide_eq_decide.mpr ⟨fun e => by congr 1; omega, fun e => by cases e; rfl⟩
      simp
      refine ne_opt _ ?_
      cases er : runP c (z.1.2.1 ++ z.2.p) s with
      | none =>
        rw [er] at rest
        simp [optD]
        simp only [optD, List.map_append] at rest
        exact rest T2 _ rfl eg2 elT2 KT2
      | some s' =>
        rw [er] at rest
        simp only [optD, List.map_append] at rest
        simp [optD]
        refine (show cmpR .isn s'.D .non T2 _ from ?_)
        simp [Stn.D]
        rw [h55]
        have hd := stn_dep s'
        refine ⟨3, by omega, s'.D, by rfl, stn_wd s', by omega, fun T3 K3 => ?_⟩
        simp
        exact rest T3 _ rfl (K3 _ _ eg2 (by simp)) (K3 _ _ elT2 (by simp)) (KT2.trans K3)
end T72

set_option Elab.async false
set_option linter.all false
set_option maxRecDepth 100000
set_option maxHeartbeats 4000000
/-! ST: the law holds. -/
namespace T72
open Tr
open PySem (Addr PyData)
section
variable {C : Tr.Ctx}
theorem legsP_len {b : Tk} (h : (legsD b.er).length ≤ 50000) : (legsP b).length ≤ 50000 := by
  rw [legs_items, List.length_map, ← itemsP_items, List.length_map] at h
  rw [legsP_itemsP, List.length_map]
  exact h
def sLaw : Tr.Spec := ⟨fun ρ ds T q _ => ∃ ns : List Int, ds = [.rol (ns.map D.int)] ∧ ns.length ≤ 63 ∧ 130 ≤ ρ ∧ ∀ T', q (.bl true) T'⟩
theorem p_law (h11 : C.G 11 = sCellAt) (h12 : C.G 12 = sDeck) (h13 : C.G 13 = sDraw) (h26 : C.G 26 = sProgram) (h47 : C.G 47 = sStanding) (h54 : C.G 54 = sLawLegs) (h56 : C.G 56 = sGreat) (h57 : C.G 57 = sRightL) : Body C sLaw i_law 7 1 := by
  rintro ρ ds T q X - ⟨ns, rfl, hn, hρ, k⟩
  unfold i_law
  rw [ss_consS]
  simp [startD]
  refine ⟨by omega, by omega, ?_⟩
  refine for_ind (fun li τ T' => ∃ (d1 d2 d3 d4 d5 d6 : Option D) (ks : List Nat), τ = [some (.rol (ns.map D.int)), d1, d2, d3, d4, d5, d6] ∧ li = ks.map (fun i => D.int (i : Nat))) ?_ ?_ _ _ _ ⟨none, none, none, none, none, none, _, rfl, rfl⟩
  · rintro τ T1 ⟨d1, d2, d3, d4, d5, d6, ks, rfl, -⟩
    rw [ss_consS]
    simp
    exact k T1
  · rintro d li τ T1 k1 ⟨d1, d2, d3, d4, d5, d6, ks, rfl, el⟩ hk1
    cases ks with
    | nil => cases el
    | cons j ks =>
      simp only [List.map_cons, List.cons.injEq] at el
      obtain ⟨rfl, rfl⟩ := el
      simp
      rw [ss_consS]
      simp
      rw [h11]
      refine ⟨0, by omega, ns, j, rfl, fun i => ?_⟩
      rw [h12]
      refine ⟨0, by omega, i, rfl, fun p T2 hp hD K2 => ?_⟩
      dsimp only
      rw [ss_consS]
      simp
      rw [h26]
      refine ⟨25, by omega, p, 0, rfl, Nat.le_refl _, hD, by omega, fun c f e b m T3 hc hb nd nw ni nst hm hD3 K3 => ?_⟩
      have hbo := Tk.er_ok hc b hb
      have hsm : small b.er := small_of hbo (by omega) (by omega) (by omega) (by omega)
      have hP : PgOk b c := ⟨hc, hb, by omega, by omega⟩
      have hll : (legsP b).length ≤ 50000 := legsP_len hsm.2.2.2.2.1
      dsimp only
      rw [ss_consS]
      simp
      rw [h54]
      refine ⟨120, by omega, b, c.D, f, e, rfl, hsm, Nat.le_refl _, fun pl T4 hpl el4 K4 => ?_⟩
      have hD4 := hD3.kp K4 (by simp)
      have npl : p ≠ pl := hD3.ne hpl
      dsimp only
      rw [ss_consS]
      simp
      refine for_ind (fun li τ T' => ∃ (d5 d6 : Option D) (ts : List Nat) (m : Nat), τ = [some (.rol (ns.map D.int)), some (.int (j : Nat)), some (.ref p), some (.tup [c.D, f, .tup b.er.toD, e]), some (.ref pl), d5, d6] ∧ li = ts.map (fun i => D.int (i : Nat)) ∧ Dk T' p m ∧ T' pl = some (.lst (legsP b)) ∧ m + 100000 * ts.length ≤ 1400000) ?_ ?_ _ _ _ ⟨_, _, [0, 1, 2], m, rfl, rfl, hD4, el4, by simp; omega⟩
      · rintro τ T5 ⟨d5, d6, ts, m, rfl, -, -, -, -⟩
        exact hk1 _ _ ⟨_, _, _, _, _, _, ks, rfl, rfl⟩
      · rintro d li τ T5 k5 ⟨d5, d6, ts, m, rfl, el, hD5, el5, hm5⟩ hk5
        cases ts with
        | nil => cases el
        | cons t ts =>
          simp only [List.map_cons, List.cons.injEq] at el
          obtain ⟨rfl, rfl⟩ := el
          simp at hm5
          simp
          rw [ss_consS]
          simp
          intro p6 hp6
          have n6 := hD5.ne hp6
          have n6l := ne_new el5 hp6
          refine c_draw h13 (by omega) (hD5.put n6) (by omega) (by omega) (by omega) fun z T6 z0 z1 hD6 K6 => ?_
          have e6 := K6 p6 _ upd_same (by simp [Ne.symm n6])
          have el6 := K6 pl _ (show upd T5 p6 _ pl = _ by rw [upd_ne n6l]; exact el5) (by simp [Ne.symm npl])
          simp [e6]
          -- either length
          have go : ∀ lg : Nat, lg ≤ 40 → ∃ ρ_1, ρ_1 < ρ ∧ (C.G 47).sp ρ_1 [.ref p, c.D, .int (lg : Nat)] T6 (fun d T1 => rdSs C ρ (.cons (.if_ (.cmp .eq (.call 13 (.cons (.var 2) (.cons (.con (.int 4)) .nil))) (.con (.int 1))) (.cons (.asg (.nm 6) (.call 56 (.cons (.var 2) (.cons (.var 6) .nil)))) .nil) .nil) (.cons (.if_ (.not_ (.call 57 (.cons (.var 3) (.cons (.var 4) (.cons (.var 6) .nil))))) (.cons (.ret (.con (.bl false))) .nil) .nil) .nil))
              { nx := fun τ T => k5 τ T, rt := q, bk := fun τ T => k1 τ T, ct := fun τ T => k5 τ T, xe := (endD q X).xe } [some (.rol (ns.map D.int)), some (.int (j : Nat)), some (.ref p), some (.tup [c.D, f, .tup b.er.toD, e]), some (.ref pl), some (.int (t : Nat)), some d] T1) (fun c_1 T => (endD q X).xe c_1 [some (.rol (ns.map D.int)), some (.int (j : Nat)), some (.ref p), some (.tup [c.D, f, .tup b.er.toD, e]), some (.ref pl), some (.int (t : Nat)), d6] T) := by
            intro lg hlg
            rw [h47]
            refine ⟨3, by omega, p, m + 1, c, lg, rfl, hc, hlg, hD6, by omega, Nat.le_refl _, fun s m7 T7 hs hsm7 hm7 hD7 K7 => ?_⟩
            have el7 := K7 _ _ el6 (by simp [Ne.symm npl])
            dsimp only
            -- the rest, at any standing
            have rest : ∀ (s' : Stn) (m9 : Nat) (T9 : TH), s'.ok c → m9 ≤ m + 95000 → Dk T9 p m9 → T9 pl = some (.lst (legsP b)) → rdSs C ρ (.cons (.if_ (.not_ (.call 57 (.cons (.var 3) (.cons (.var 4) (.cons (.var 6) .nil))))) (.cons (.ret (.con (.bl false))) .nil) .nil) .nil)
                { nx := fun τ T => k5 τ T, rt := q, bk := fun τ T => k1 τ T, ct := fun τ T => k5 τ T, xe := (endD q X).xe } [some (.rol (ns.map D.int)), some (.int (j : Nat)), some (.ref p), some (.tup [c.D, f, .tup b.er.toD, e]), some (.ref pl), some (.int (t : Nat)), some s'.D] T9 := by
              intro s' m9 T9 hs' hm9 hD9 el9
              rw [ss_consS]
              simp
              rw [h57]
              refine ⟨125, by omega, b, c, f, e, s', pl, rfl, hP, hll, el9, hs', Nat.le_refl _, fun T8 K8 => ?_⟩
              simp
              exact hk5 _ _ ⟨_, _, ts, m9, rfl, rfl, hD9.kp K8 (by simp), K8 _ _ el9 (by simp), by omega⟩
            rw [ss_consS]
            simp
            refine c_draw h13 (by omega) hD7 (by omega) (by omega) (by omega) fun y T8 y0 y1 hD8 K8 => ?_
            have el8 := K8 _ _ el7 (by simp [Ne.symm npl])
            by_cases hy : y = 1
            · simp [hy]
              rw [ss_consS]
              simp
              rw [h56]
              refine ⟨2, by omega, p, m7 + 1, c, s, rfl, hc, hs, hsm7, hD8, by omega, Nat.le_refl _, fun s' m9 T9 hs' hm9 hD9 K9 => ?_⟩
              exact rest s' m9 T9 hs' (by omega) hD9 (K9 _ _ el8 (by simp [Ne.symm npl]))
            · simp [hy]
              exact rest s (m7 + 1) T8 hs (by omega) hD8 el8
          by_cases hz : z = 5
          · simp [hz]
            exact go 40 (by omega)
          · simp [hz]
            exact go 6 (by omega)
end
def gL : List Tr.Spec := [sHeadsIn, sHeadsOf, sInit, sLayB, sLayIf, sLayWh, sLanded, sLPlace, sFirst, sLWorth, sWithN, sCellAt, sDeck, sDraw, sTongue, sName, sNames, sWorld, sNumber, sDF 1 1 okSp, sDF 10 2 okSz, sDF 30 3 (okSay 0), sJoined, sBody, sDeed, sBlock, sProgram,
  sLen, sPlace, sNumAt, sPlBy, sWoBy, sWorth, sIsSo, sStSo, sHoBy, sHolds, sWithN, sWithR, sChg, sExc, sTurned, sWithN, sStood, sActed, sPath, sAlong, sStanding, sLHolds, sLActed, sLAlong, sNumbered, sContexts, sPaths, sLawLegs, sWhole, sGreat, sRightL, sLaw]
def CC : Tr.Ctx := ⟨fun i => gL.getD i sDraw, fun k => pl.mcL.getD k 0, fun k => pl.mnL.getD k [], pl.pg.fok, fun j => match pl.glL[j]? with | some x => x.2 | none => .non, fun j s => pl.dtOf j s⟩
theorem lcc : LyC CC := ⟨by decide, by decide, rfl, rfl, rfl, rfl, rfl, rfl, rfl, rfl⟩
theorem pure_ok : PureOk CC pl.pg.dfn pl.pg.n
  | 0, _ => p_heads_in (C := CC) rfl
  | 1, _ => p_heads_of (C := CC) rfl
  | 2, _ => p_init (C := CC) lcc rfl
  | 3, _ => p_layB (C := CC) lcc rfl rfl
  | 4, _ => p_layIf (C := CC) lcc rfl
  | 5, _ => p_layWh (C := CC) lcc rfl
  | 6, _ => p_landed (C := CC) lcc
  | 7, _ => p_lplace (C := CC)
  | 8, _ => p_first (C := CC) lcc rfl
  | 9, _ => p_lworth (C := CC) rfl
  | 10, _ => p_lat (C := CC)
  | 11, _ => p_cell (C := CC)
  | 12, _ => p_deck (C := CC)
  | 13, _ => p_draw (C := CC)
  | 14, _ => p_tongue (C := CC)
  | 15, _ => p_name (C := CC) rfl
  | 16, _ => p_names (C := CC) rfl rfl
  | 17, _ => p_world (C := CC) rfl rfl
  | 18, _ => p_number (C := CC) rfl
  | 19, _ => p_spot (C := CC) rfl
  | 20, _ => p_sum (C := CC) rfl rfl rfl
  | 21, _ => p_atom (C := CC) rfl rfl rfl
  | 22, _ => p_joined (C := CC) rfl
  | 23, _ => p_body (C := CC) rfl rfl rfl rfl
  | 24, _ => p_deed (C := CC) rfl rfl rfl rfl rfl
  | 25, _ => p_block (C := CC) rfl rfl
  | 26, _ => p_program (C := CC) rfl rfl rfl rfl
  | 27, _ => p_len (C := CC)
  | 28, _ => p_place (C := CC) rfl rfl
  | 29, _ => p_numAt (C := CC) rfl
  | 30, _ => p_plBy (C := CC) rfl
  | 31, _ => p_woBy (C := CC) rfl rfl
  | 32, _ => p_worth (C := CC) rfl
  | 33, _ => p_isSo (C := CC)
  | 34, _ => p_stSo (C := CC)
  | 35, _ => p_hoBy (C := CC) rfl rfl rfl rfl rfl
  | 36, _ => p_holds (C := CC) rfl
  | 37, _ => p_withN (C := CC)
  | 38, _ => p_withR (C := CC)
  | 39, _ => p_chg (C := CC) rfl rfl rfl rfl rfl
  | 40, _ => p_exc (C := CC) rfl rfl rfl rfl
  | 41, _ => p_turned (C := CC) (by decide) (by decide) rfl rfl
  | 42, _ => p_withO (C := CC)
  | 43, _ => p_stood (C := CC) rfl
  | 44, _ => p_acted (C := CC) rfl rfl rfl rfl rfl rfl
  | 45, _ => p_path (C := CC) lcc rfl rfl rfl rfl
  | 46, _ => p_along (C := CC) rfl rfl rfl
  | 47, _ => p_standing (C := CC) rfl rfl
  | 48, _ => p_lholds (C := CC) rfl rfl rfl
  | 49, _ => p_lacted (C := CC) rfl rfl rfl
  | 50, _ => p_lalong (C := CC) rfl rfl
  | 51, _ => p_numbered (C := CC) rfl
  | 52, _ => p_contexts (C := CC) rfl
  | 53, _ => p_paths (C := CC) rfl
  | 54, _ => p_legs (C := CC) rfl rfl rfl
  | 55, _ => p_whole (C := CC) rfl
  | 56, _ => p_great (C := CC) rfl
  | 57, _ => p_rightL (C := CC) rfl rfl rfl
  | 58, _ => p_law (C := CC) rfl rfl rfl rfl rfl rfl rfl rfl
  | n + 59, h => absurd h (Nat.not_lt.mpr (Nat.le_add_left 59 n))
end T72
theorem PySem.Challenge.cw_eachplace_k73_along_legs_holds : PySem.Challenge.rw_eachplace_k73_along_legs.Holds :=
  T72.fin (C := T72.CC) rfl (fun _ => rfl) (fun _ => rfl) (fun _ _ => rfl) (fun j x d h => by show (match T72.pl.glL[j]? with | some x => x.2 | none => Tr.D.non) = d; rw [h]) T72.pure_ok fun ns hl => ⟨130, by decide, ns, rfl, hl, Nat.le_refl _, fun _ => rfl⟩
