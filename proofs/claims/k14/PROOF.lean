import PyProof.Rows.All
import Wide.All
import OpenK.AllK
import Wide.FinOn
import HandS.ForMost
import HandS.TupAny
import HandS.TupMul
import HandS.IsInst
import HandS.NoneIn
import HandS.Conv
import HandS.Zip
import PySem.Challenge.RW_tokenmachine_k14_written_and_read
import HandS.Text
set_option Elab.async false
set_option linter.all false
set_option maxRecDepth 100000
/-! TkA: a small language of our own over plain data: its terms, its states, what must hold so that a term runs (w..). -/
namespace Tk
open PySem L2

/-- plain data: tuples are values; a list, a dict, an instance that may change is a place; fz: a list that stands still -/
inductive D where
  | non | bl (b : Bool) | int (i : Int) | str (x : Str) | tup (ds : List D) | fz (ds : List D) | ref (a : Addr)
  deriving Inhabited
inductive Ob where
  | lst (ds : List D)
  | dct (kvs : List (Key × D))
  | ins (c : Nat) (fs : List (Str × D))
abbrev S := Addr → Option Ob
def put (s : S) (a : Addr) (o : Ob) : S := fun b => if b = a then some o else s b
theorem put_same {s : S} {a : Addr} {o : Ob} : put s a o a = some o := if_pos rfl
theorem put_ne {s : S} {a b : Addr} {o : Ob} (h : b ≠ a) : put s a o b = s b := if_neg h
theorem put_put {s : S} {a : Addr} {o u : Ob} : put (put s a o) a u = put s a u := by
  funext b; unfold put; split <;> rfl
theorem ne_fresh {s : S} {a b : Addr} {o : Ob} (h : s a = some o) (n : s b = none) : a ≠ b := by
  intro e; subst e; rw [h] at n; cases n

/-! ### terms -/
inductive BOp where | add | sub | mul | mod | fdiv | pow
inductive COp where | eq | ne | lt | le | gt | ge | isN | notN | inn | nin
inductive BM where | append | extend | pop | popAt | join | split | get2
inductive BI where | len | int | str | tuple | list | max | min
inductive G where | nm (i : Nat) | tup (is : List Nat)
mutual
inductive E where
  | var (i : Nat) | con (x : Str) | int (i : Int) | bl (b : Bool) | non | str (x : Str)
  | bin (op : BOp) (a b : E) | cmp (op : COp) (a b : E) | chain (o1 o2 : COp) (a b c : E) | neg (a : E)
  | and (a b : E) | or (a b : E) | not (a : E) | ife (c a b : E)
  | ix (a i : E) | sl (a : E) (lo hi : O)
  | tup (es : Es) | lst (es : Es) | dct (ks : Ks)
  | fld (e : E) (f : Str)
  | call (f : Nat) (es : Es) | mk (c : Nat) (es : Es) | meth (c : Nat) (m : Str) (f : Nat) (e : E) (es : Es)
  | bm (m : BM) (e : E) (es : Es) | bi (b : BI) (es : Es) | isi (e : E) (ts : List String)
  | lrng (a b : E)
  | lc (elt : E) (g : G) (it : It) (cond : O) (own : List Nat)
inductive Es where | nil | cons (e : E) (r : Es)
inductive O where | no | so (e : E)
inductive Ks where | nil | cons (k : Str) (e : E) (r : Ks)
inductive It where | val (e : E) | r1 (a : E) | r2 (a b : E) | zip (a b : E)
end
inductive St where
  | asg (g : G) (e : E) | par (i j : Nat) (a b : E) | asgC (i : Nat) (e : E) | fset (o : E) (f : Str) (e : E) | iset (o i e : E)
  | expr (e : E) | ret (e : E) | retN | ife (c : E) (a b : List St) | whl (c : E) (b : List St) | for_ (g : G) (it : It) (b : List St)
  | pass | brk | cnt | raise

/-! ### the program -/
structure Fn where
  params : Nat
  slots : Nat
  body : List St
structure Prog where
  con : Str → Option D
  fn : Nat → Fn
  init : Nat → Option Nat
  flds : Nat → List Str

abbrev Q1 := D → S → Prop
abbrev QS := List D → S → Prop
abbrev LS := List (Option D)
abbrev CallP := Nat → List D → S → Q1 → Prop

/-! ### operations -/
/-! data as the library's comparison reads it -/
mutual
def pureP : D → Option PyData
  | .non => some .none
  | .bl b => some (.bool b)
  | .int i => some (.int i)
  | .str x => some (.str x)
  | .tup ds => (purePs ds).map .tuple
  | .fz ds => (purePs ds).map .list
  | .ref _ => none
def purePs : List D → Option (List PyData)
  | [] => some []
  | d :: r => match pureP d, purePs r with
    | some p, some ps => some (p :: ps)
    | _, _ => none
end
def toP (s : S) : D → Option PyData
  | .ref a => match s a with
    | some (.lst ds) => (purePs ds).map .list
    | _ => none
  | d => pureP d
def flV : D → Option V
  | .non => some .non
  | .bl b => some (.bl b)
  | .int i => some (.int i)
  | .str x => some (.str x)
  | _ => none
def flVs : List D → Option (List V)
  | [] => some []
  | d :: r => match flV d, flVs r with
    | some v, some vs => some (v :: vs)
    | _, _ => none
def keyOf : D → Option Key
  | .int i => some (.inl i)
  | .str x => some (.inr x)
  | _ => none
def valD : List (Key × D) → Key → Option D
  | [], _ => none
  | (j, d) :: r, k => if j = k then some d else valD r k
def putD (kvs : List (Key × D)) (k : Key) (d : D) : List (Key × D) :=
  if (kvs.any fun kv => decide (kv.1 = k)) = true then kvs.map (fun kv => if kv.1 = k then (kv.1, d) else kv) else kvs ++ [(k, d)]
def fget (f : Str) : List (Str × D) → Option D
  | [] => none
  | (g, d) :: r => if f = g then some d else fget f r
def fput (f : Str) (d : D) : List (Str × D) → List (Str × D)
  | [] => [(f, d)]
  | (g, e) :: r => if f = g then (g, d) :: r else (g, e) :: fput f d r

/-- what is there -/
def got {α : Type} : Option α → (α → Prop) → Prop
  | some x, k => k x
  | none, _ => False
theorem got.out {α : Type} {o : Option α} {k : α → Prop} (h : got o k) : ∃ x, o = some x ∧ k x := by
  cases o with
  | none => exact h.elim
  | some x => exact ⟨x, rfl, h⟩
theorem got.mk {α : Type} {o : Option α} {k : α → Prop} {x : α} (e : o = some x) (h : k x) : got o k := by
  subst e; exact h
def withL (s : S) (a : Addr) (k : List D → Prop) : Prop :=
  match s a with
  | some (.lst xs) => k xs
  | _ => False
theorem withL.out {s : S} {a : Addr} {k : List D → Prop} (h : withL s a k) : ∃ xs, s a = some (.lst xs) ∧ k xs := by
  unfold withL at h
  split at h
  · exact ⟨_, by assumption, h⟩
  · exact h.elim
theorem withL.mk {s : S} {a : Addr} {k : List D → Prop} {xs : List D} (e : s a = some (.lst xs)) (h : k xs) : withL s a k := by
  unfold withL; rw [e]; exact h
def withI (s : S) (x : D) (k : Addr → Nat → List (Str × D) → Prop) : Prop :=
  match x with
  | .ref a => match s a with
    | some (.ins c fs) => k a c fs
    | _ => False
  | _ => False
theorem withI.out {s : S} {x : D} {k : Addr → Nat → List (Str × D) → Prop} (h : withI s x k) : ∃ a c fs, x = .ref a ∧ s a = some (.ins c fs) ∧ k a c fs := by
  unfold withI at h
  split at h
  · split at h
    · exact ⟨_, _, _, rfl, by assumption, h⟩
    · exact h.elim
  · exact h.elim
theorem withI.mk {s : S} {a : Addr} {c : Nat} {fs : List (Str × D)} {k : Addr → Nat → List (Str × D) → Prop} (e : s a = some (.ins c fs)) (h : k a c fs) : withI s (.ref a) k := by
  unfold withI; simp only [e]; exact h
/-- a number -/
def isI (x : D) (k : Int → Prop) : Prop :=
  match x with
  | .int i => k i
  | _ => False
theorem isI.out {x : D} {k : Int → Prop} (h : isI x k) : ∃ i, x = .int i ∧ k i := by
  cases x <;> first | exact h.elim | exact ⟨_, rfl, h⟩

/-- a new place -/
def new (s : S) (o : Ob) (Q : Q1) : Prop := ∀ p, s p = none → Q (.ref p) (put s p o)

def wBin : BOp → D → D → S → Q1 → Prop
  | .add, .int i, .int j, s, Q => Q (.int (i + j)) s
  | .add, .str a, .str b, s, Q => a.length + b.length ≤ sizeLine ∧ Q (.str (a ++ b)) s
  | .add, .tup a, .tup b, s, Q => a.length + b.length ≤ sizeLine ∧ Q (.tup (a ++ b)) s
  | .add, .ref a, .ref b, s, Q => withL s a fun xs => withL s b fun ys => xs.length + ys.length ≤ sizeLine ∧ new s (.lst (xs ++ ys)) Q
  | .sub, .int i, .int j, s, Q => Q (.int (i - j)) s
  | .mul, .int i, .int j, s, Q => CMul i j ∧ Q (.int (i * j)) s
  | .mul, .ref a, .int k, s, Q => withL s a fun xs => -(2 ^ 63) ≤ k ∧ k < 2 ^ 63 ∧ xs.length * k.toNat ≤ sizeLine ∧ new s (.lst (List.replicate k.toNat xs).flatten) Q
  | .mul, .tup xs, .int k, s, Q => xs ≠ [] ∧ 2 ≤ k ∧ k ≤ 1000 ∧ xs.length ≤ 1000 ∧ Q (.tup (List.replicate k.toNat xs).flatten) s
  | .mod, .int i, .int j, s, Q => 0 < j ∧ Q (.int (i % j)) s
  | .fdiv, .int i, .int j, s, Q => CDiv i j ∧ Q (.int (i / j)) s
  | .pow, .int i, .int j, s, Q => CPow i j ∧ Q (.int (i ^ j.toNat)) s
  | _, _, _, _, _ => False

def wInt (f : Int → Int → Bool) : D → D → S → Q1 → Prop
  | .int i, .int j, s, Q => Q (.bl (f i j)) s
  | _, _, _, _ => False
def wEq (neg : Bool) (x y : D) (s : S) (Q : Q1) : Prop :=
  got (toP s x) fun d => got (toP s y) fun e => SeqAt.shaped d = true ∧ SeqAt.shaped e = true ∧ Q (.bl (if neg then !PyData.eqv d e else PyData.eqv d e)) s
def seqOf (s : S) : D → Option (List D)
  | .tup ds => some ds
  | .fz ds => some ds
  | .ref a => match s a with
    | some (.lst ds) => some ds
    | _ => none
  | _ => none
def wIn (neg : Bool) (x y : D) (s : S) (Q : Q1) : Prop :=
  match x, y with
  | .str ⟨c⟩, .str z => match c.toList with
    | [k] => Q (.bl (if neg then !decide (k ∈ z.cps.toList) else decide (k ∈ z.cps.toList))) s
    | _ => False
  | x, y => got (seqOf s y) fun ds => got (flV x) fun vx => got (flVs ds) fun vs => Q (.bl (if neg then !inV vx vs else inV vx vs)) s
def isNon : D → Bool
  | .non => true
  | _ => false
def wCmp : COp → D → D → S → Q1 → Prop
  | .eq, x, y, s, Q => wEq false x y s Q
  | .ne, x, y, s, Q => wEq true x y s Q
  | .lt, x, y, s, Q => wInt (fun i j => decide (i < j)) x y s Q
  | .le, x, y, s, Q => wInt (fun i j => decide (i ≤ j)) x y s Q
  | .gt, x, y, s, Q => wInt (fun i j => decide (j < i)) x y s Q
  | .ge, x, y, s, Q => wInt (fun i j => decide (j ≤ i)) x y s Q
  | .isN, x, y, s, Q => isNon y = true ∧ Q (.bl (isNon x)) s
  | .notN, x, y, s, Q => isNon y = true ∧ Q (.bl (!isNon x)) s
  | .inn, x, y, s, Q => wIn false x y s Q
  | .nin, x, y, s, Q => wIn true x y s Q

def wAt (ds : List D) (y : D) (s : S) (Q : Q1) : Prop :=
  isI y fun i => got (atI ds i) fun d => Q d s
def wIx (x y : D) (s : S) (Q : Q1) : Prop :=
  match x with
  | .tup ds => wAt ds y s Q
  | .fz ds => wAt ds y s Q
  | .str z => isI y fun i => z.length ≤ sizeLine ∧ got (atI z.cps.toList i) fun c => Q (.str ⟨#[c]⟩) s
  | .ref a => match s a with
    | some (.lst ds) => wAt ds y s Q
    | some (.dct kvs) => got (keyOf y) fun k => got (valD kvs k) fun d => Q d s
    | _ => False
  | _ => False
def cutD {α : Type} (xs : List α) (lo hi : Option Int) : List α := (xs.drop (HT.sIx xs.length 0 lo)).take (HT.sIx xs.length xs.length hi - HT.sIx xs.length 0 lo)
def wSl (x : D) (lo hi : Option Int) (s : S) (Q : Q1) : Prop :=
  match x with
  | .tup ds => Q (.tup (cutD ds lo hi)) s
  | .str z => z.length ≤ sizeLine ∧ Q (.str (cutS z lo hi)) s
  | .ref a => withL s a fun ds => new s (.lst (cutD ds lo hi)) Q
  | _ => False
def wISet (o i v : D) (s : S) (Q : S → Prop) : Prop :=
  match o with
  | .ref a => match s a with
    | some (.lst ds) => isI i fun k => got (ixN ds.length k) fun j => Q (put s a (.lst (ds.set j v)))
    | some (.dct kvs) => got (keyOf i) fun k => kvs.length < sizeLine ∧ Q (put s a (.dct (putD kvs k v)))
    | _ => False
  | _ => False
def tyD (s : S) : D → Option String
  | .non => some "NoneType"
  | .bl _ => some "bool"
  | .int _ => some "int"
  | .str _ => some "str"
  | .tup _ => some "tuple"
  | .fz _ => some "list"
  | .ref a => match s a with
    | some (.lst _) => some "list"
    | some (.dct _) => some "dict"
    | _ => none
def isTy (t u : String) : Bool := t == u || (t == "bool" && u == "int")
def strsOf : List D → Option (List Str)
  | [] => some []
  | .str x :: r => (strsOf r).map (x :: ·)
  | _ :: _ => none
def lenD (s : S) : D → Option Nat
  | .tup ds => some ds.length
  | .fz ds => some ds.length
  | .str x => some x.length
  | .ref a => match s a with
    | some (.lst ds) => some ds.length
    | _ => none
  | _ => none
def wBI : BI → List D → S → Q1 → Prop
  | .len, [x], s, Q => got (lenD s x) fun n => n ≤ sizeLine ∧ Q (.int n) s
  | .int, [.int i], s, Q => Q (.int i) s
  | .int, [.bl b], s, Q => Q (.int (if b then 1 else 0)) s
  | .int, [.str x], s, Q => got (PySem.intText? x) fun n => x.length ≤ 640 ∧ Q (.int n) s
  | .str, [.int i], s, Q => i.natAbs.log2 < 1920 ∧ Q (.str (toString i)) s
  | .tuple, [x], s, Q => got (seqOf s x) fun ds => Q (.tup ds) s
  | .list, [x], s, Q => got (seqOf s x) fun ds => new s (.lst ds) Q
  | .max, [.int i, .int j], s, Q => Q (.int (if j > i then j else i)) s
  | .min, [.int i, .int j], s, Q => Q (.int (if j < i then j else i)) s
  | _, _, _, _ => False
def wBM : BM → D → List D → S → Q1 → Prop
  | .append, .ref a, [y], s, Q => withL s a fun xs => xs.length < sizeLine ∧ Q .non (put s a (.lst (xs ++ [y])))
  | .extend, .ref a, [.ref b], s, Q => withL s a fun xs => withL s b fun ys => xs.length + ys.length ≤ sizeLine ∧ Q .non (put s a (.lst (xs ++ ys)))
  | .pop, .ref a, [], s, Q => withL s a fun xs => got xs[xs.length - 1]? fun y => Q y (put s a (.lst xs.dropLast))
  | .join, .str z, [x], s, Q => got (seqOf s x) fun ds => got (strsOf ds) fun ys => (ys.map (·.length)).sum + ys.length * z.length ≤ 16777216 ∧ Q (.str (Txt.join z ys)) s
  | .split, .str z, [.str b], s, Q => (b.length == 0) = false ∧ z.length + 2 ≤ sizeLine ∧ new s (.lst ((Txt.split z b).map .str)) Q
  | _, _, _, _, _ => False
/-- the type a method's object must be of -/
def bmTy (m : BM) (s : S) (x : D) : Prop :=
  match m with
  | .join => ∃ z, x = .str z
  | .split => ∃ z, x = .str z
  | .get2 => False
  | _ => ∃ a ds, x = .ref a ∧ s a = some (.lst ds)

/-! ### what a loop walks -/
/-- the items, and what must be true of the state at each turn -/
abbrev QI := List D → (S → Prop) → S → Prop
def wVal (x : D) (s : S) (Q : QI) : Prop :=
  match x with
  | .tup ds => Q ds (fun _ => True) s
  | .fz ds => Q ds (fun _ => True) s
  | .str z => Q (z.cps.toList.map fun c => .str ⟨#[c]⟩) (fun _ => True) s
  | .ref a => withL s a fun ds => Q ds (fun s' => s' a = some (.lst ds)) s
  | _ => False
def rng (lo : Int) (n : Nat) : List D := (List.range n).map fun i => .int (lo + (i : Nat))
def bnd (i : Int) : Prop := -(2 ^ 62) ≤ i ∧ i < 2 ^ 62
def standsAs (s : S) (x : D) (ds : List D) : S → Prop :=
  match x with
  | .ref a => fun s' => s' a = some (.lst ds)
  | _ => fun _ => True

def setAll : List Nat → List D → LS → Option LS
  | [], [], ρ => some ρ
  | i :: is, d :: ds, ρ => setAll is ds (ρ.set i (some d))
  | _, _, _ => none
def wG (g : G) (x : D) (s : S) (ρ : LS) (Q : LS → S → Prop) : Prop :=
  match g with
  | .nm i => Q (ρ.set i (some x)) s
  | .tup is => got (seqOf s x) fun ds => got (setAll is ds ρ) fun ρ' => Q ρ' s
def wipeD (ρ : LS) : List Nat → LS
  | [] => ρ
  | v :: vs => (wipeD ρ vs).set v none

/-- a comprehension's turns -/
def lcGo (chk : S → Prop) (step : D → S → (Option D → S → Prop) → Prop) : List D → List D → S → (List D → S → Prop) → Prop
  | [], acc, s, Q => chk s ∧ Q acc s
  | x :: r, acc, s, Q => chk s ∧ step x s fun o s' => match o with
    | some y => acc.length < sizeLine ∧ lcGo chk step r (acc ++ [y]) s' Q
    | none => lcGo chk step r acc s' Q

def truthB (x : D) (Q : Bool → Prop) : Prop :=
  match x with
  | .bl b => Q b
  | _ => False

section
variable (P : Prog) (C : CallP)
mutual
def wE : E → LS → S → Q1 → Prop
  | .var i, ρ, s, Q => got ρ[i]? fun o => got o fun d => Q d s
  | .con x, _, s, Q => got (P.con x) fun d => Q d s
  | .int i, _, s, Q => Q (.int i) s
  | .bl b, _, s, Q => Q (.bl b) s
  | .non, _, s, Q => Q .non s
  | .str x, _, s, Q => Q (.str x) s
  | .bin op a b, ρ, s, Q => wE a ρ s fun x s1 => wE b ρ s1 fun y s2 => wBin op x y s2 Q
  | .cmp op a b, ρ, s, Q => wE a ρ s fun x s1 => wE b ρ s1 fun y s2 => wCmp op x y s2 Q
  | .chain o1 o2 a b c, ρ, s, Q => wE a ρ s fun x s1 => wE b ρ s1 fun y s2 => wCmp o1 x y s2 fun t s3 => truthB t fun k => if k = true then wE c ρ s3 fun z s4 => wCmp o2 y z s4 Q else Q (.bl false) s3
  | .neg a, ρ, s, Q => wE a ρ s fun x s1 => isI x fun i => Q (.int (-i)) s1
  | .and a b, ρ, s, Q => wE a ρ s fun x s1 => truthB x fun k => if k = true then wE b ρ s1 Q else Q (.bl false) s1
  | .or a b, ρ, s, Q => wE a ρ s fun x s1 => truthB x fun k => if k = true then Q (.bl true) s1 else wE b ρ s1 Q
  | .not a, ρ, s, Q => wE a ρ s fun x s1 => truthB x fun k => Q (.bl (!k)) s1
  | .ife c a b, ρ, s, Q => wE c ρ s fun x s1 => truthB x fun k => if k = true then wE a ρ s1 Q else wE b ρ s1 Q
  | .ix a i, ρ, s, Q => wE a ρ s fun x s1 => wE i ρ s1 fun y s2 => wIx x y s2 Q
  | .sl a lo hi, ρ, s, Q => wE a ρ s fun x s1 => wO lo ρ s1 fun l s2 => wO hi ρ s2 fun h s3 => wSl x l h s3 Q
  | .tup es, ρ, s, Q => wEs es ρ s fun ds s1 => ds.length ≤ sizeLine ∧ Q (.tup ds) s1
  | .lst es, ρ, s, Q => wEs es ρ s fun ds s1 => ds.length ≤ sizeLine ∧ new s1 (.lst ds) Q
  | .dct ks, ρ, s, Q => wKs ks ρ s fun kvs s1 => kvs.length ≤ 15 ∧ new s1 (.dct (kvs.foldl (fun acc kv => putD acc kv.1 kv.2) [])) Q
  | .fld e f, ρ, s, Q => wE e ρ s fun x s1 => withI s1 x fun _ c fs => f ∈ P.flds c ∧ got (fget f fs) fun d => Q d s1
  | .call f es, ρ, s, Q => wEs es ρ s fun ds s1 => C f ds s1 Q
  | .mk c es, ρ, s, Q => wEs es ρ s fun ds s1 => got (P.init c) fun f => ∀ p, s1 p = none → C f (.ref p :: ds) (put s1 p (.ins c [])) fun d s2 => isNon d = true ∧ Q (.ref p) s2
  | .meth c m f e es, ρ, s, Q => wE e ρ s fun x s1 => withI s1 x fun a c' fs => c' = c ∧ fget m fs = none ∧ wEs es ρ s1 fun ds s2 => C f (.ref a :: ds) s2 Q
  | .bm m e es, ρ, s, Q => wE e ρ s fun x s1 => bmTy m s1 x ∧ wEs es ρ s1 fun ds s2 => wBM m x ds s2 Q
  | .bi b es, ρ, s, Q => wEs es ρ s fun ds s1 => wBI b ds s1 Q
  | .isi e ts, ρ, s, Q => wE e ρ s fun x s1 => got (tyD s1 x) fun t => Q (.bl (ts.any (isTy t))) s1
  | .lrng a b, ρ, s, Q => wE a ρ s fun x s1 => wE b ρ s1 fun y s2 => isI x fun i => isI y fun j => bnd i ∧ bnd j ∧ (j - i).toNat ≤ sizeLine ∧ new s2 (.lst (rng i (j - i).toNat)) Q
  | .lc elt g it cond own, ρ, s, Q => wIt it ρ s fun ds chk s1 => lcGo chk (fun x s2 K => wG g x s2 (wipeD ρ own) fun ρ' s3 => wCo cond ρ' s3 fun k s4 => if k = true then wE elt ρ' s4 fun y s5 => K (some y) s5 else K none s4) ds [] s1 fun acc s2 => new s2 (.lst acc) Q
def wEs : Es → LS → S → QS → Prop
  | .nil, _, s, Q => Q [] s
  | .cons e r, ρ, s, Q => wE e ρ s fun x s1 => wEs r ρ s1 fun xs s2 => Q (x :: xs) s2
def wO : O → LS → S → (Option Int → S → Prop) → Prop
  | .no, _, s, Q => Q none s
  | .so e, ρ, s, Q => wE e ρ s fun x s1 => isI x fun i => Q (some i) s1
def wCo : O → LS → S → (Bool → S → Prop) → Prop
  | .no, _, s, Q => Q true s
  | .so e, ρ, s, Q => wE e ρ s fun x s1 => truthB x fun k => Q k s1
def wKs : Ks → LS → S → (List (Key × D) → S → Prop) → Prop
  | .nil, _, s, Q => Q [] s
  | .cons k e r, ρ, s, Q => wE e ρ s fun x s1 => wKs r ρ s1 fun xs s2 => Q ((.inr k, x) :: xs) s2
def wIt : It → LS → S → QI → Prop
  | .val e, ρ, s, Q => wE e ρ s fun x s1 => wVal x s1 Q
  | .r1 a, ρ, s, Q => wE a ρ s fun x s1 => isI x fun j => bnd j ∧ Q (rng 0 j.toNat) (fun _ => True) s1
  | .r2 a b, ρ, s, Q => wE a ρ s fun x s1 => wE b ρ s1 fun y s2 => isI x fun i => isI y fun j => bnd i ∧ bnd j ∧ Q (rng i (j - i).toNat) (fun _ => True) s2
  | .zip a b, ρ, s, Q => wE a ρ s fun x s1 => wE b ρ s1 fun y s2 => got (seqOf s2 x) fun xs => got (seqOf s2 y) fun ys => Q ((xs.zip ys).map fun p => .tup [p.1, p.2]) (fun s' => standsAs s2 x xs s' ∧ standsAs s2 y ys s') s2
end

structure En where
  nx : LS → S → Prop
  rt : D → S → Prop
  bk : LS → S → Prop
  ct : LS → S → Prop

def whileN (cond : LS → S → (Bool → S → Prop) → Prop) (body : En → LS → S → Prop) (K : En) : Nat → LS → S → Prop
  | 0, _, _ => False
  | n + 1, ρ, s => cond ρ s fun b s1 => if b = true then body { K with nx := whileN cond body K n, ct := whileN cond body K n, bk := K.nx } ρ s1 else K.nx ρ s1
def forGo (chk : S → Prop) (g : G) (body : En → LS → S → Prop) (K : En) : List D → LS → S → Prop
  | [], ρ, s => chk s ∧ K.nx ρ s
  | x :: r, ρ, s => chk s ∧ wG g x s ρ fun ρ' s' => body { K with nx := forGo chk g body K r, ct := forGo chk g body K r, bk := K.nx } ρ' s'

mutual
def wS : St → En → LS → S → Prop
  | .asg g e, K, ρ, s => wE P C e ρ s fun x s1 => wG g x s1 ρ K.nx
  | .par i j a b, K, ρ, s => wE P C a ρ s fun x s1 => wE P C b ρ s1 fun y s2 => K.nx ((ρ.set i (some x)).set j (some y)) s2
  | .asgC i e, K, ρ, s => wE P C e ρ s fun x s1 => K.nx (ρ.set i (some x)) s1
  | .fset o f e, K, ρ, s => wE P C e ρ s fun y s1 => wE P C o ρ s1 fun x s2 => withI s2 x fun a c fs => f ∈ P.flds c ∧ fs.length < 1000 ∧ K.nx ρ (put s2 a (.ins c (fput f y fs)))
  | .iset o i e, K, ρ, s => wE P C e ρ s fun y s1 => wE P C o ρ s1 fun x s2 => wE P C i ρ s2 fun z s3 => wISet x z y s3 fun s4 => K.nx ρ s4
  | .expr e, K, ρ, s => wE P C e ρ s fun _ s1 => K.nx ρ s1
  | .ret e, K, ρ, s => wE P C e ρ s K.rt
  | .retN, K, _, s => K.rt .non s
  | .ife c a b, K, ρ, s => wE P C c ρ s fun x s1 => truthB x fun k => if k = true then wSs a K ρ s1 else wSs b K ρ s1
  | .whl c b, K, ρ, s => ∃ n, whileN (fun ρ s Q => wE P C c ρ s fun x s1 => truthB x fun k => Q k s1) (fun K ρ s => wSs b K ρ s) K n ρ s
  | .for_ g it b, K, ρ, s => wIt P C it ρ s fun ds chk s1 => forGo chk g (fun K ρ s => wSs b K ρ s) K ds ρ s1
  | .pass, K, ρ, s => K.nx ρ s
  | .brk, K, ρ, s => K.bk ρ s
  | .cnt, K, ρ, s => K.ct ρ s
  | .raise, _, _, _ => False
def wSs : List St → En → LS → S → Prop
  | [], K, ρ, s => K.nx ρ s
  | t :: r, K, ρ, s => wS t { K with nx := wSs r K } ρ s
end
/-- a def's body -/
def wBody (f : Fn) (ds : List D) (s : S) (Q : Q1) : Prop :=
  ds.length = f.params ∧ wSs P C f.body ⟨fun _ s' => Q .non s', Q, fun _ _ => False, fun _ _ => False⟩ (ds.map some ++ List.replicate (f.slots - ds.length) none) s
end
/-- calls, n deep -/
def wCall (P : Prog) : Nat → CallP
  | 0, _, _, _, _ => False
  | n + 1, f, ds, s, Q => wBody P (wCall P n) (P.fn f) ds s Q
end Tk
set_option Elab.async false
set_option linter.all false
set_option maxRecDepth 100000
/-! TkB: how plain data lie in the layer's heap; what stays when the heap grows. -/
namespace Tk
open PySem PySem.Spec PyProof.Rows L2

section
variable (K : PySem.W.Frag) (H : Hp)
/-- a list that stands still -/
def FzL (a : Addr) (xs : List V) : Prop :=
  (∃ o, H a = some (.frz o (.lst xs))) ∨
    ∃ (o : Obj) (its : Array Value) (n : Nat), K.lookup a = some o ∧ o.cls = .type "list" ∧ o.dict = none ∧ o.data = .seq its n ∧ its.size ≤ sizeLine ∧ Vals xs its.toList
theorem FzL.sq {K : PySem.W.Frag} {H : Hp} {a : Addr} {xs : List V} (h : FzL K H a xs) : SqL K H a xs := by
  rcases h with ⟨o, h⟩ | h
  · exact .inl (.inr ⟨o, h⟩)
  · exact .inr h
mutual
inductive Rep : V → D → Prop
  | non : Rep .non .non
  | bl (b : Bool) : Rep (.bl b) (.bl b)
  | int (i : Int) : Rep (.int i) (.int i)
  | str (x : Str) : Rep (.str x) (.str x)
  | tup {a : Addr} {xs : List V} {ds : List D} : SqT K H a xs → RepAll xs ds → Rep (.ref a) (.tup ds)
  | fz {a : Addr} {xs : List V} {ds : List D} : FzL K H a xs → RepAll xs ds → Rep (.ref a) (.fz ds)
  | ref (a : Addr) : Rep (.ref a) (.ref a)
inductive RepAll : List V → List D → Prop
  | nil : RepAll [] []
  | cons {v : V} {vs : List V} {d : D} {ds : List D} : Rep v d → RepAll vs ds → RepAll (v :: vs) (d :: ds)
end
end

section
variable {K : PySem.W.Frag} {H H' : Hp} {vs ws : List V} {ds es : List D}
theorem RepAll.length (h : RepAll K H vs ds) : vs.length = ds.length := by
  induction ds generalizing vs with
  | nil => cases h; rfl
  | cons d ds ih => cases h with | cons a b => rw [List.length_cons, List.length_cons, ih b]
theorem RepAll.append (h : RepAll K H vs ds) (g : RepAll K H ws es) : RepAll K H (vs ++ ws) (ds ++ es) := by
  induction ds generalizing vs with
  | nil => cases h; exact g
  | cons d ds ih => cases h with | cons a b => exact .cons a (ih b)
theorem RepAll.get (h : RepAll K H vs ds) {i : Nat} {d : D} (e : ds[i]? = some d) : ∃ v, vs[i]? = some v ∧ Rep K H v d := by
  induction ds generalizing vs i with
  | nil => simp at e
  | cons d' ds ih =>
    cases h with
    | cons a b =>
      cases i with
      | zero => simp at e; subst e; exact ⟨_, by simp, a⟩
      | succ i => obtain ⟨v, h1, h2⟩ := ih b (i := i) (by simpa using e); exact ⟨v, by simpa using h1, h2⟩
theorem RepAll.get' (h : RepAll K H vs ds) {i : Nat} {v : V} (e : vs[i]? = some v) : ∃ d, ds[i]? = some d ∧ Rep K H v d := by
  induction ds generalizing vs i with
  | nil => cases h; simp at e
  | cons d' ds ih =>
    cases h with
    | cons a b =>
      cases i with
      | zero => simp at e; subst e; exact ⟨_, by simp, a⟩
      | succ i => obtain ⟨v, h1, h2⟩ := ih b (i := i) (by simpa using e); exact ⟨v, by simpa using h1, h2⟩
theorem RepAll.set (h : RepAll K H vs ds) {v : V} {d : D} (r : Rep K H v d) (i : Nat) : RepAll K H (vs.set i v) (ds.set i d) := by
  induction ds generalizing vs i with
  | nil => cases h; exact .nil
  | cons d' ds ih =>
    cases h with
    | cons a b =>
      cases i with
      | zero => exact .cons r b
      | succ i => exact .cons a (ih b i)
theorem RepAll.take (h : RepAll K H vs ds) (n : Nat) : RepAll K H (vs.take n) (ds.take n) := by
  induction ds generalizing vs n with
  | nil => cases h; simp; exact .nil
  | cons d' ds ih =>
    cases h with
    | cons a b =>
      cases n with
      | zero => exact .nil
      | succ n => exact .cons a (ih b n)
theorem RepAll.drop (h : RepAll K H vs ds) (n : Nat) : RepAll K H (vs.drop n) (ds.drop n) := by
  induction ds generalizing vs n with
  | nil => cases h; simp; exact .nil
  | cons d' ds ih =>
    cases h with
    | cons a b =>
      cases n with
      | zero => exact .cons a b
      | succ n => exact ih b n
theorem RepAll.cut (h : RepAll K H vs ds) (lo hi : Option Int) : RepAll K H (cutV vs lo hi) (cutD ds lo hi) := by
  unfold cutV cutD
  rw [h.length]
  exact (h.drop _).take _
theorem RepAll.dropLast (h : RepAll K H vs ds) : RepAll K H vs.dropLast ds.dropLast := by
  rw [List.dropLast_eq_take, List.dropLast_eq_take, h.length]
  exact h.take _
theorem RepAll.rep (h : RepAll K H vs ds) (n : Nat) : RepAll K H (List.replicate n vs).flatten (List.replicate n ds).flatten := by
  induction n with
  | zero => exact .nil
  | succ n ih => rw [List.replicate_succ, List.replicate_succ, List.flatten_cons, List.flatten_cons]; exact h.append ih
theorem RepAll.one {v : V} {d : D} (r : Rep K H v d) : RepAll K H [v] [d] := .cons r .nil
theorem RepAll.nil_iff (h : RepAll K H vs ds) : vs = [] ↔ ds = [] := by
  cases h with
  | nil => simp
  | cons a b => simp
theorem RepAll.ints : ∀ {vs : List V} (ns : List Int), vs = ns.map V.int → RepAll K H vs (ns.map D.int)
  | _, [], e => by subst e; exact .nil
  | _, n :: r, e => by subst e; exact .cons (.int n) (RepAll.ints r rfl)
theorem RepAll.strs : ∀ {vs : List V} {ds : List D} {xs : List Str}, RepAll K H vs ds → strsOf ds = some xs → vs = xs.map V.str
  | _, [], xs, h, e => by cases h; simp [strsOf] at e; subst e; rfl
  | _, .str x :: r, xs, h, e => by
    cases h with
    | cons a b =>
      cases a
      cases q : strsOf r with
      | none => simp [strsOf, q] at e
      | some ys => simp [strsOf, q] at e; subst e; rw [List.map_cons, RepAll.strs b q]
  | _, .non :: r, _, _, e => by simp [strsOf] at e
  | _, .bl _ :: r, _, _, e => by simp [strsOf] at e
  | _, .int _ :: r, _, _, e => by simp [strsOf] at e
  | _, .tup _ :: r, _, _, e => by simp [strsOf] at e
  | _, .fz _ :: r, _, _, e => by simp [strsOf] at e
  | _, .ref _ :: r, _, _, e => by simp [strsOf] at e
theorem RepAll.ofStrs : ∀ (xs : List Str), RepAll K H (xs.map V.str) (xs.map D.str)
  | [] => .nil
  | x :: r => .cons (.str x) (RepAll.ofStrs r)
end

/-! ### growth -/
/-- what is tracked at a is neither a tuple nor a still list -/
def Soft (H : Hp) (a : Addr) : Prop := (∀ xs, H a ≠ some (.tup xs)) ∧ ∀ o u, H a ≠ some (.frz o u)
theorem Soft.none {H : Hp} {a : Addr} (h : H a = none) : Soft H a := ⟨fun _ => by rw [h]; simp, fun _ _ => by rw [h]; simp⟩
/-- tuples and still lists stay -/
def Firm (H H' : Hp) : Prop := (∀ b xs, H b = some (.tup xs) → H' b = some (.tup xs)) ∧ ∀ b o u, H b = some (.frz o u) → H' b = some (.frz o u)
theorem Firm.refl (H : Hp) : Firm H H := ⟨fun _ _ h => h, fun _ _ _ h => h⟩
theorem Firm.trans {H H1 H2 : Hp} (a : Firm H H1) (b : Firm H1 H2) : Firm H H2 := ⟨fun c xs h => b.1 c xs (a.1 c xs h), fun c o u h => b.2 c o u (a.2 c o u h)⟩
theorem Firm.updS {H : Hp} {a : Addr} {u : HO} (h : Soft H a) : Firm H (upd H a u) :=
  ⟨fun b xs q => by rw [upd_ne (show b ≠ a from fun e => h.1 xs (by rw [← e]; exact q))]; exact q, fun b o v q => by rw [upd_ne (show b ≠ a from fun e => h.2 o v (by rw [← e]; exact q))]; exact q⟩
section
variable {K : PySem.W.Frag} {H H' : Hp}
theorem Firm.sqT (f : Firm H H') {a : Addr} {xs : List V} (h : SqT K H a xs) : SqT K H' a xs := by
  rcases h with (h | ⟨o, h⟩) | h
  · exact .inl (.inl (f.1 _ _ h))
  · exact .inl (.inr ⟨o, f.2 _ _ _ h⟩)
  · exact .inr h
theorem Firm.fzL (f : Firm H H') {a : Addr} {xs : List V} (h : FzL K H a xs) : FzL K H' a xs := by
  rcases h with ⟨o, h⟩ | h
  · exact .inl ⟨o, f.2 _ _ _ h⟩
  · exact .inr h
mutual
theorem Rep.mono (f : Firm H H') : ∀ {v : V} {d : D}, Rep K H v d → Rep K H' v d
  | _, _, .non => .non
  | _, _, .bl b => .bl b
  | _, _, .int i => .int i
  | _, _, .str x => .str x
  | _, _, .tup h r => .tup (f.sqT h) (RepAll.mono f r)
  | _, _, .fz h r => .fz (f.fzL h) (RepAll.mono f r)
  | _, _, .ref a => .ref a
theorem RepAll.mono (f : Firm H H') : ∀ {vs : List V} {ds : List D}, RepAll K H vs ds → RepAll K H' vs ds
  | _, _, .nil => .nil
  | _, _, .cons a b => .cons (Rep.mono f a) (RepAll.mono f b)
end
end

/-! ### objects that change -/
/-- a class's number to its address -/
abbrev CAt := Nat → Addr
section
variable (K : PySem.W.Frag) (CA : CAt) (H : Hp)
inductive FRel : List (Str × V) → List (Str × D) → Prop
  | nil : FRel [] []
  | cons {f : Str} {v : V} {d : D} {vs : List (Str × V)} {ds : List (Str × D)} : Rep K H v d → FRel vs ds → FRel ((f, v) :: vs) ((f, d) :: ds)
inductive KRel : List (Key × V) → List (Key × D) → Prop
  | nil : KRel [] []
  | cons {f : Key} {v : V} {d : D} {vs : List (Key × V)} {ds : List (Key × D)} : Rep K H v d → KRel vs ds → KRel ((f, v) :: vs) ((f, d) :: ds)
inductive RelOb : HO → Ob → Prop
  | lst {vs : List V} {ds : List D} : RepAll K H vs ds → RelOb (.lst vs) (.lst ds)
  | dct {vs : List (Key × V)} {ds : List (Key × D)} : KRel K H vs ds → RelOb (.dK vs) (.dct ds)
  | ins {c : Nat} {dx : Addr} {vs : List (Str × V)} {ds : List (Str × D)} : FRel K H vs ds → RelOb (.ins (CA c) dx vs) (.ins c ds)
def RelS (s : S) : Prop := ∀ a o, s a = some o → ∃ u, H a = some u ∧ RelOb K CA H u o
end
section
variable {K : PySem.W.Frag} {CA : CAt} {H H' : Hp} {s s' : S}
theorem FRel.mono (f : Firm H H') : ∀ {vs : List (Str × V)} {ds : List (Str × D)}, FRel K H vs ds → FRel K H' vs ds
  | _, _, .nil => .nil
  | _, _, .cons a b => .cons (a.mono f) (FRel.mono f b)
theorem KRel.mono (f : Firm H H') : ∀ {vs : List (Key × V)} {ds : List (Key × D)}, KRel K H vs ds → KRel K H' vs ds
  | _, _, .nil => .nil
  | _, _, .cons a b => .cons (a.mono f) (KRel.mono f b)
theorem RelOb.mono (f : Firm H H') {u : HO} {o : Ob} (h : RelOb K CA H u o) : RelOb K CA H' u o := by
  cases h with
  | lst h => exact .lst (h.mono f)
  | dct h => exact .dct (h.mono f)
  | ins h => exact .ins (h.mono f)
theorem FRel.get : ∀ {vs : List (Str × V)} {ds : List (Str × D)} {f : Str} {d : D}, FRel K H vs ds → fget f ds = some d → ∃ v, vs.lookup f = some v ∧ Rep K H v d
  | _, _, f, d, .nil, e => by simp [fget] at e
  | _, _, f, d, .cons (f := g) a b, e => by
    unfold fget at e
    by_cases h : f = g
    · rw [if_pos h] at e; cases e; subst h; exact ⟨_, by simp, a⟩
    · rw [if_neg h] at e
      obtain ⟨v, h1, h2⟩ := FRel.get b e
      exact ⟨v, by rw [List.lookup_cons, beq_eq_false_iff_ne.mpr h]; exact h1, h2⟩
theorem FRel.getN : ∀ {vs : List (Str × V)} {ds : List (Str × D)} {f : Str}, FRel K H vs ds → fget f ds = none → vs.lookup f = none
  | _, _, f, .nil, e => rfl
  | _, _, f, .cons (f := g) a b, e => by
    unfold fget at e
    by_cases h : f = g
    · rw [if_pos h] at e; cases e
    · rw [if_neg h] at e
      rw [List.lookup_cons, beq_eq_false_iff_ne.mpr h]; exact FRel.getN b e
theorem FRel.length : ∀ {vs : List (Str × V)} {ds : List (Str × D)}, FRel K H vs ds → vs.length = ds.length
  | _, _, .nil => rfl
  | _, _, .cons a b => by rw [List.length_cons, List.length_cons, FRel.length b]
theorem KRel.length : ∀ {vs : List (Key × V)} {ds : List (Key × D)}, KRel K H vs ds → vs.length = ds.length
  | _, _, .nil => rfl
  | _, _, .cons a b => by rw [List.length_cons, List.length_cons, KRel.length b]
theorem RelS.get (h : RelS K CA H s) {a : Addr} {ds : List D} (e : s a = some (.lst ds)) : ∃ vs, H a = some (.lst vs) ∧ RepAll K H vs ds := by
  obtain ⟨u, h1, h2⟩ := h a _ e
  cases h2 with | lst r => exact ⟨_, h1, r⟩
theorem RelS.getD (h : RelS K CA H s) {a : Addr} {ds : List (Key × D)} (e : s a = some (.dct ds)) : ∃ vs, H a = some (.dK vs) ∧ KRel K H vs ds := by
  obtain ⟨u, h1, h2⟩ := h a _ e
  cases h2 with | dct r => exact ⟨_, h1, r⟩
theorem RelS.getI (h : RelS K CA H s) {a : Addr} {c : Nat} {ds : List (Str × D)} (e : s a = some (.ins c ds)) : ∃ dx vs, H a = some (.ins (CA c) dx vs) ∧ FRel K H vs ds := by
  obtain ⟨u, h1, h2⟩ := h a _ e
  cases h2 with | ins r => exact ⟨_, _, h1, r⟩
theorem RelS.free (h : RelS K CA H s) {p : Addr} (n : H p = none) : s p = none := by
  cases e : s p with
  | none => rfl
  | some o => obtain ⟨u, h1, _⟩ := h p o e; rw [n] at h1; cases h1
theorem RelS.soft (h : RelS K CA H s) {a : Addr} {o : Ob} (e : s a = some o) : Soft H a := by
  obtain ⟨u, h1, h2⟩ := h a o e
  refine ⟨fun xs q => ?_, fun ob w q => ?_⟩ <;> rw [h1] at q <;> cases h2 <;> cases q
theorem RelS.hard (h : RelS K CA H s) {a : Addr} {u : HO} (e : H a = some u) (n : ¬ Soft H a) : s a = none := by
  cases q : s a with
  | none => rfl
  | some o => exact absurd (h.soft q) n
end

/-- what is tracked and is no place of s stays, and stays none of s' -/
def Fr (s : S) (H : Hp) (s' : S) (H' : Hp) : Prop := ∀ b o, H b = some o → s b = none → H' b = some o ∧ s' b = none
section
variable {K : PySem.W.Frag} {CA : CAt} {H H' H1 H2 : Hp} {s s' s1 s2 : S}
theorem Fr.refl : Fr s H s H := fun _ _ h n => ⟨h, n⟩
theorem Fr.trans (a : Fr s H s1 H1) (b : Fr s1 H1 s2 H2) : Fr s H s2 H2 := fun c o h n => b c o (a c o h n).1 (a c o h n).2
theorem Fr.firm (f : Fr s H s' H') (h : RelS K CA H s) : Firm H H' :=
  ⟨fun b xs e => (f b _ e (h.hard e fun z => z.1 xs e)).1, fun b o u e => (f b _ e (h.hard e fun z => z.2 o u e)).1⟩
theorem Fr.newT {p : Addr} {u : HO} (n : H p = none) : Fr s H s (upd H p u) := fun b o h hs => ⟨by rw [upd_ne (ne_of_none h n)]; exact h, hs⟩
theorem Fr.newO {p : Addr} {u : HO} {o : Ob} (n : H p = none) : Fr s H (put s p o) (upd H p u) := fun b v h hs =>
  ⟨by rw [upd_ne (ne_of_none h n)]; exact h, by rw [put_ne (ne_of_none h n)]; exact hs⟩
theorem Fr.set {p : Addr} {u : HO} {o o' : Ob} (n : s p = some o') : Fr s H (put s p o) (upd H p u) := fun b v h hs => by
  have e : b ≠ p := fun e => by rw [e, n] at hs; cases hs
  exact ⟨by rw [upd_ne e]; exact h, by rw [put_ne e]; exact hs⟩
theorem RelS.newT (h : RelS K CA H s) {p : Addr} {xs : List V} (n : H p = none) : RelS K CA (upd H p (.tup xs)) s := fun a o e => by
  obtain ⟨u, h1, h2⟩ := h a o e
  exact ⟨u, by rw [upd_ne (ne_of_none h1 n)]; exact h1, h2.mono (Firm.updS (Soft.none n))⟩
theorem RelS.newH (h : RelS K CA H s) {p : Addr} {u : HO} (n : H p = none) : RelS K CA (upd H p u) s := fun a o e => by
  obtain ⟨u, h1, h2⟩ := h a o e
  exact ⟨u, by rw [upd_ne (ne_of_none h1 n)]; exact h1, h2.mono (Firm.updS (Soft.none n))⟩
theorem RelS.putO (h : RelS K CA H s) {p : Addr} {u : HO} {o : Ob} (f : Soft H p) (r : RelOb K CA H u o) : RelS K CA (upd H p u) (put s p o) := fun a v e => by
  have F : Firm H (upd H p u) := Firm.updS f
  by_cases c : a = p
  · subst c
    rw [put_same] at e; cases e
    exact ⟨u, upd_same, r.mono F⟩
  · rw [put_ne c] at e
    obtain ⟨w, h1, h2⟩ := h a v e
    exact ⟨w, by rw [upd_ne c]; exact h1, h2.mono F⟩
end

/-- the names' values -/
def RelL (K : PySem.W.Frag) (H : Hp) (σ : L2.St) (ρ : LS) : Prop := ρ.length = σ.length ∧ ∀ (i : Nat) (d : D), ρ[i]? = some (some d) → ∃ v, σ[i]? = some (some v) ∧ Rep K H v d
section
variable {K : PySem.W.Frag} {H H' : Hp} {σ : L2.St} {ρ : LS}
theorem RelL.mono (f : Firm H H') (h : RelL K H σ ρ) : RelL K H' σ ρ := ⟨h.1, fun i d e => let ⟨v, a, b⟩ := h.2 i d e; ⟨v, a, b.mono f⟩⟩
theorem RelL.set (h : RelL K H σ ρ) {v : V} {d : D} (r : Rep K H v d) (i : Nat) : RelL K H (σ.set i (some v)) (ρ.set i (some d)) := by
  refine ⟨by rw [List.length_set, List.length_set]; exact h.1, fun j e q => ?_⟩
  by_cases c : i = j
  · subst c
    by_cases hl : i < ρ.length
    · rw [List.getElem?_set_self hl] at q; cases q
      exact ⟨v, List.getElem?_set_self (by rw [← h.1]; exact hl), r⟩
    · rw [List.getElem?_eq_none (by rw [List.length_set]; omega)] at q; cases q
  · rw [List.getElem?_set_ne c] at q ⊢
    exact h.2 j e q
theorem RelL.wipe (h : RelL K H σ ρ) : ∀ vs : List Nat, RelL K H (wipe σ vs) (wipeD ρ vs)
  | [] => h
  | v :: vs => by
    have ih := RelL.wipe h vs
    unfold L2.wipe wipeD
    refine ⟨by rw [List.length_set, List.length_set]; exact ih.1, fun j e q => ?_⟩
    by_cases c : v = j
    · subst c
      by_cases hl : v < (wipeD ρ vs).length
      · rw [List.getElem?_set_self hl] at q; cases q
      · rw [List.getElem?_eq_none (by rw [List.length_set]; omega)] at q; cases q
    · rw [List.getElem?_set_ne c] at q ⊢
      exact ih.2 j e q
end
/-- names and places together -/
structure Sy (K : PySem.W.Frag) (CA : CAt) (σ : L2.St) (ρ : LS) (s : S) (H : Hp) : Prop where
  l : RelL K H σ ρ
  s : RelS K CA H s
theorem Sy.step {K : PySem.W.Frag} {CA : CAt} {σ : L2.St} {ρ : LS} {s s' : S} {H H' : Hp} (y : Sy K CA σ ρ s H) (f : Fr s H s' H') (h : RelS K CA H' s') : Sy K CA σ ρ s' H' := ⟨y.l.mono (f.firm y.s), h⟩

/-! ### our conditions as the layer's readings -/
section
variable (K : PySem.W.Frag) (CA : CAt)
def LE (w : LS → S → Q1 → Prop) : TE := fun σ H Q => ∃ ρ s Qd, Sy K CA σ ρ s H ∧ w ρ s Qd ∧ ∀ d s' v H', Qd d s' → RelS K CA H' s' → Rep K H' v d → Fr s H s' H' → Q v H'
def LT (w : LS → S → (Bool → S → Prop) → Prop) : TT := fun σ H Q => ∃ ρ s Qd, Sy K CA σ ρ s H ∧ w ρ s Qd ∧ ∀ b s' H', Qd b s' → RelS K CA H' s' → Fr s H s' H' → Q b H'
def LA (w : LS → S → QS → Prop) : TA := fun σ H Q => ∃ ρ s Qd, Sy K CA σ ρ s H ∧ w ρ s Qd ∧ ∀ ds s' vs H', Qd ds s' → RelS K CA H' s' → RepAll K H' vs ds → Fr s H s' H' → Q vs H'
def LO (w : LS → S → (Option Int → S → Prop) → Prop) : TO := fun σ H Q => ∃ ρ s Qd, Sy K CA σ ρ s H ∧ w ρ s Qd ∧ ∀ o s' H', Qd o s' → RelS K CA H' s' → Fr s H s' H' → Q o H'
/-- a call's promise -/
def LC (w : List D → S → Q1 → Prop) : Sp := fun vs H Q _ => ∃ ds s Qd, RepAll K H vs ds ∧ RelS K CA H s ∧ w ds s Qd ∧ ∀ d s' v H', Qd d s' → RelS K CA H' s' → Rep K H' v d → Fr s H s' H' → Q v H'
def LS' (w : En → LS → S → Prop) : TS := fun D σ H => ∃ ρ s E, Sy K CA σ ρ s H ∧ w E ρ s ∧
  (∀ σ' ρ' s' H', E.nx ρ' s' → Sy K CA σ' ρ' s' H' → Fr s H s' H' → D.nx σ' H') ∧ (∀ d s' v H', E.rt d s' → RelS K CA H' s' → Rep K H' v d → Fr s H s' H' → D.rt v H') ∧
  (∀ σ' ρ' s' H', E.bk ρ' s' → Sy K CA σ' ρ' s' H' → Fr s H s' H' → D.bk σ' H') ∧ (∀ σ' ρ' s' H', E.ct ρ' s' → Sy K CA σ' ρ' s' H' → Fr s H s' H' → D.ct σ' H')
end
theorem le_run {K : PySem.W.Frag} {CA : CAt} {w : LS → S → Q1 → Prop} {σ : L2.St} {ρ : LS} {s : S} {H : Hp} {k : Q1} {R : VK} (y : Sy K CA σ ρ s H) (h : w ρ s k)
    (f : ∀ d s' v H', k d s' → Sy K CA σ ρ s' H' → Rep K H' v d → Fr s H s' H' → R v H') : LE K CA w σ H R :=
  ⟨ρ, s, k, y, h, fun d s' v H' q hs r g => f d s' v H' q (y.step g hs) r g⟩
theorem lt_run {K : PySem.W.Frag} {CA : CAt} {w : LS → S → (Bool → S → Prop) → Prop} {σ : L2.St} {ρ : LS} {s : S} {H : Hp} {k : Bool → S → Prop} {R : Bool → Hp → Prop} (y : Sy K CA σ ρ s H) (h : w ρ s k)
    (f : ∀ b s' H', k b s' → Sy K CA σ ρ s' H' → Fr s H s' H' → R b H') : LT K CA w σ H R :=
  ⟨ρ, s, k, y, h, fun d s' H' q hs g => f d s' H' q (y.step g hs) g⟩
theorem la_run {K : PySem.W.Frag} {CA : CAt} {w : LS → S → QS → Prop} {σ : L2.St} {ρ : LS} {s : S} {H : Hp} {k : QS} {R : List V → Hp → Prop} (y : Sy K CA σ ρ s H) (h : w ρ s k)
    (f : ∀ d s' v H', k d s' → Sy K CA σ ρ s' H' → RepAll K H' v d → Fr s H s' H' → R v H') : LA K CA w σ H R :=
  ⟨ρ, s, k, y, h, fun d s' v H' q hs r g => f d s' v H' q (y.step g hs) r g⟩
theorem lo_run {K : PySem.W.Frag} {CA : CAt} {w : LS → S → (Option Int → S → Prop) → Prop} {σ : L2.St} {ρ : LS} {s : S} {H : Hp} {k : Option Int → S → Prop} {R : Option Int → Hp → Prop} (y : Sy K CA σ ρ s H) (h : w ρ s k)
    (f : ∀ b s' H', k b s' → Sy K CA σ ρ s' H' → Fr s H s' H' → R b H') : LO K CA w σ H R :=
  ⟨ρ, s, k, y, h, fun d s' H' q hs g => f d s' H' q (y.step g hs) g⟩

theorem _root_.L2.PE.imp {X : Cx} {e : Expr} {t t' : TE} (h : PE X e t) (f : ∀ σ H Q, t' σ H Q → t σ H Q) : PE X e t' := ⟨fun pins s σ H Q I q => h.run pins s σ H Q I (f σ H Q q)⟩
theorem _root_.L2.PT.imp {X : Cx} {e : Expr} {t t' : TT} (h : PT X e t) (f : ∀ σ H Q, t' σ H Q → t σ H Q) : PT X e t' := ⟨fun pins s σ H Q I q => h.run pins s σ H Q I (f σ H Q q)⟩
theorem _root_.L2.PW.imp {X : Cx} {e : Expr} {t t' : TT} (h : PW X e t) (f : ∀ σ H Q, t' σ H Q → t σ H Q) : PW X e t' := ⟨fun wh pins s σ H Q I q => h.run wh pins s σ H Q I (f σ H Q q)⟩
theorem _root_.L2.PA.imp {X : Cx} {es : List Expr} {t t' : TA} (h : PA X es t) (f : ∀ σ H Q, t' σ H Q → t σ H Q) : PA X es t' := ⟨fun pos pins s σ H Q I q => h.run pos pins s σ H Q I (f σ H Q q)⟩
theorem _root_.L2.PS.imp {X : Cx} {st : Stmt} {t t' : TS} (h : PS X st t) (f : ∀ D σ H, t' D σ H → t D σ H) : PS X st t' := ⟨fun pins s σ H D I q => h.run pins s σ H D I (f D σ H q)⟩
theorem _root_.L2.PSs.imp {X : Cx} {st : List Stmt} {t t' : TS} (h : PSs X st t) (f : ∀ D σ H, t' D σ H → t D σ H) : PSs X st t' := ⟨fun pins s σ H D I q => h.run pins s σ H D I (f D σ H q)⟩
end Tk
set_option Elab.async false
set_option linter.all false
set_option maxRecDepth 100000
set_option maxHeartbeats 1000000
/-! TkC: each operation on values keeps its condition. -/
namespace Tk
open PySem PySem.Spec PyProof.Rows L2

def pyB : BOp → Operator
  | .add => .Add | .sub => .Sub | .mul => .Mult | .mod => .Mod | .fdiv => .FloorDiv | .pow => .Pow
def pyC : COp → CmpOp
  | .eq => .Eq | .ne => .NotEq | .lt => .Lt | .le => .LtE | .gt => .Gt | .ge => .GtE | .isN => .Is | .notN => .IsNot | .inn => .In | .nin => .NotIn

/-- what a condition of ours gives behind a step from (s, H) -/
abbrev Hold (K : PySem.W.Frag) (CA : CAt) (s : S) (H : Hp) (Q : Q1) (R : VK) : Prop := ∀ d s' v H', Q d s' → RelS K CA H' s' → Rep K H' v d → Fr s H s' H' → R v H'

section
variable {K : PySem.W.Frag} {CA : CAt} {s : S} {H : Hp} {Q : Q1} {R : VK}
theorem Hold.here {d : D} {v : V} (h : Hold K CA s H Q R) (hs : RelS K CA H s) (r : Rep K H v d) (q : Q d s) : R v H := h d s v H q hs r Fr.refl
theorem Hold.newT (h : Hold K CA s H Q R) (hs : RelS K CA H s) {ds : List D} {vs : List V} {p : Addr} (n : H p = none) (r : RepAll K H vs ds) (q : Q (.tup ds) s) : R (.ref p) (upd H p (.tup vs)) :=
  h _ s _ _ q (hs.newT n) (.tup (SqT.of upd_same) (r.mono (Firm.updS (Soft.none n)))) (Fr.newT n)
theorem Hold.newO (h : Hold K CA s H Q R) (hs : RelS K CA H s) {o : Ob} {u : HO} (r : RelOb K CA H u o) (q : new s o Q) : ∀ p, H p = none → R (.ref p) (upd H p u) := fun p n =>
  h _ _ _ _ (q p (hs.free n)) (hs.putO (Soft.none n) r) (.ref p) (Fr.newO n)
theorem Hold.setO (h : Hold K CA s H Q R) (hs : RelS K CA H s) {a : Addr} {o o' : Ob} {u : HO} {d : D} {v : V} (e : s a = some o) (r : RelOb K CA H u o') (rv : Rep K H v d) (q : Q d (put s a o')) : R v (upd H a u) :=
  h _ _ _ _ q (hs.putO (hs.soft e) r) (rv.mono (Firm.updS (hs.soft e))) (Fr.set e)

/-! ### + - * % // ** -/
def rB (K : PySem.W.Frag) : BOp → R2
  | .add => fun x y H Q => rI0 (fun i j => .int (i + j)) x y H Q ∨ (∃ i j, x = .str i ∧ y = .str j ∧ i.length + j.length ≤ sizeLine ∧ Q (.str (i ++ j)) H) ∨ rCatA K x y H Q ∨ rCat x y H Q
  | .sub => rI0 fun i j => .int (i - j)
  | .mul => fun x y H Q => rI CMul (fun i j => .int (i * j)) x y H Q ∨ rRep x y H Q ∨ rRepT K x y H Q
  | .mod => rI (fun _ j => 0 < j) fun i j => .int (i % j)
  | .fdiv => rI CDiv fun i j => .int (i / j)
  | .pow => rI CPow fun i j => .int (i ^ j.toNat)
theorem op_bin {X : Cx} : ∀ op, OpR X (binaryOp (pyB op)) (rB X.K op)
  | .add => op_add.or (op_add_str.or (op_catA.or op_cat))
  | .sub => op_sub
  | .mul => op_mul.or (op_rep.or op_repT)
  | .mod => op_mod
  | .fdiv => op_fdiv
  | .pow => op_pow
theorem bin_ok {op : BOp} {d e : D} {x y : V} (hs : RelS K CA H s) (rx : Rep K H x d) (ry : Rep K H y e) (w : wBin op d e s Q) (h : Hold K CA s H Q R) : rB K op x y H R := by
  cases op with
  | add =>
    cases d <;> cases e <;> try exact w.elim
    · cases rx; cases ry; exact .inl ⟨_, _, rfl, rfl, h.here hs (.int _) w⟩
    · cases rx; cases ry; exact .inr (.inl ⟨_, _, rfl, rfl, w.1, h.here hs (.str _) w.2⟩)
    · cases rx with | tup qx ax => cases ry with | tup qy ay =>
        refine .inr (.inr (.inl ⟨_, _, _, _, rfl, rfl, qx, qy, by rw [ax.length, ay.length]; exact w.1, fun e => ?_, fun n e => ?_, fun n m p hp => h.newT hs hp (ax.append ay) w.2⟩))
        · subst e; cases ax; exact h.here hs (.tup qy ay) w.2
        · subst e; cases ay; exact h.here hs (.tup qx (by rw [List.append_nil]; exact ax)) w.2
    · rename_i a b
      cases rx; cases ry
      obtain ⟨xs, ea, w⟩ := withL.out w
      obtain ⟨ys, eb, w⟩ := withL.out w
      obtain ⟨vx, hx, ax⟩ := hs.get ea
      obtain ⟨vy, hy, ay⟩ := hs.get eb
      exact .inr (.inr (.inr ⟨_, _, _, _, rfl, rfl, hx, hy, by rw [ax.length, ay.length]; exact w.1, h.newO hs (.lst (ax.append ay)) w.2⟩))
  | sub => cases d <;> cases e <;> first | exact w.elim | (cases rx; cases ry; exact ⟨_, _, rfl, rfl, h.here hs (.int _) w⟩)
  | mul =>
    cases d <;> cases e <;> try exact w.elim
    · cases rx; cases ry; exact .inl ⟨_, _, rfl, rfl, w.1, h.here hs (.int _) w.2⟩
    · cases ry
      cases rx with | tup qx ax =>
        obtain ⟨w1, w2, w3, w4, w5⟩ := w
        exact .inr (.inr ⟨_, _, _, rfl, rfl, qx, fun z => w1 (ax.nil_iff.mp z), w2, w3, by rw [ax.length]; exact w4, fun p hp => h.newT hs hp (ax.rep _) w5⟩)
    · rename_i a k
      cases rx; cases ry
      obtain ⟨xs, ea, w1, w2, w3, w4⟩ := withL.out w
      obtain ⟨vx, hx, ax⟩ := hs.get ea
      exact .inr (.inl ⟨_, _, _, rfl, rfl, hx, w1, w2, by rw [ax.length]; exact w3, h.newO hs (.lst (ax.rep _)) w4⟩)
  | mod => cases d <;> cases e <;> first | exact w.elim | (cases rx; cases ry; exact ⟨_, _, rfl, rfl, w.1, h.here hs (.int _) w.2⟩)
  | fdiv => cases d <;> cases e <;> first | exact w.elim | (cases rx; cases ry; exact ⟨_, _, rfl, rfl, w.1, h.here hs (.int _) w.2⟩)
  | pow => cases d <;> cases e <;> first | exact w.elim | (cases rx; cases ry; exact ⟨_, _, rfl, rfl, w.1, h.here hs (.int _) w.2⟩)

/-! ### comparisons -/
mutual
theorem Rep.dp : ∀ {v : V} {d : D} {p : PyData}, Rep K H v d → pureP d = some p → Dp K H v p
  | _, .non, p, .non, e => by cases e; exact .non
  | _, .bl b, p, .bl _, e => by cases e; exact .bl b
  | _, .int i, p, .int _, e => by cases e; exact .int i
  | _, .str x, p, .str _, e => by cases e; exact .str x
  | _, .tup ds, p, .tup h r, e => by
    unfold pureP at e
    cases q : purePs ds with
    | none => rw [q] at e; cases e
    | some ps => rw [q] at e; cases e; exact .tup h (RepAll.dp r q)
  | _, .fz ds, p, .fz h r, e => by
    unfold pureP at e
    cases q : purePs ds with
    | none => rw [q] at e; cases e
    | some ps => rw [q] at e; cases e; exact .lst h.sq (RepAll.dp r q)
  | _, .ref a, p, .ref _, e => by cases e
theorem RepAll.dp : ∀ {vs : List V} {ds : List D} {ps : List PyData}, RepAll K H vs ds → purePs ds = some ps → DpAll K H vs ps
  | _, [], ps, .nil, e => by cases e; exact .nil
  | _, d :: ds, ps, .cons a b, e => by
    unfold purePs at e
    cases q1 : pureP d with
    | none => rw [q1] at e; cases e
    | some p => cases q2 : purePs ds with
      | none => rw [q1, q2] at e; cases e
      | some ps => rw [q1, q2] at e; cases e; exact .cons (Rep.dp a q1) (RepAll.dp b q2)
end
theorem dp_of (hs : RelS K CA H s) {v : V} {d : D} {p : PyData} (r : Rep K H v d) (e : toP s d = some p) : Dp K H v p := by
  cases d with
  | ref a =>
    cases r
    unfold toP at e
    cases q : s a with
    | none => simp only [q] at e; cases e
    | some o => cases o with
      | dct _ => simp only [q] at e; cases e
      | ins _ _ => simp only [q] at e; cases e
      | lst ds =>
        simp only [q] at e
        cases q2 : purePs ds with
        | none => rw [q2] at e; cases e
        | some ps =>
          rw [q2] at e; cases e
          obtain ⟨vs, h1, h2⟩ := hs.get q
          exact .lst (SqL.of h1) (RepAll.dp h2 q2)
  | non => exact Rep.dp r e
  | bl _ => exact Rep.dp r e
  | int _ => exact Rep.dp r e
  | str _ => exact Rep.dp r e
  | tup _ => exact Rep.dp r e
  | fz _ => exact Rep.dp r e
theorem seq_of (hs : RelS K CA H s) {v : V} {d : D} {ds : List D} (r : Rep K H v d) (e : seqOf s d = some ds) : ∃ p vs, v = .ref p ∧ (SqL K H p vs ∨ SqT K H p vs) ∧ RepAll K H vs ds := by
  cases d with
  | tup _ => cases e; cases r with | tup h a => exact ⟨_, _, rfl, .inr h, a⟩
  | fz _ => cases e; cases r with | fz h a => exact ⟨_, _, rfl, .inl h.sq, a⟩
  | ref a =>
    cases r
    unfold seqOf at e
    cases q : s a with
    | none => simp only [q] at e; cases e
    | some o => cases o with
      | dct _ => simp only [q] at e; cases e
      | ins _ _ => simp only [q] at e; cases e
      | lst ds' => simp only [q] at e; cases e; obtain ⟨vs, h1, h2⟩ := hs.get q; exact ⟨_, _, rfl, .inl (SqL.of h1), h2⟩
  | non => cases e
  | bl _ => cases e
  | int _ => cases e
  | str _ => cases e
theorem flV_rep {v : V} {d : D} {x : V} (r : Rep K H v d) (e : flV d = some x) : v = x ∧ flatV x = true := by
  cases d <;> cases e <;> cases r <;> exact ⟨rfl, rfl⟩
theorem flVs_rep : ∀ {vs : List V} {ds : List D} {xs : List V}, RepAll K H vs ds → flVs ds = some xs → vs = xs ∧ xs.all flatV = true
  | _, [], xs, .nil, e => by cases e; exact ⟨rfl, rfl⟩
  | _, d :: ds, xs, .cons a b, e => by
    unfold flVs at e
    cases q1 : flV d with
    | none => rw [q1] at e; cases e
    | some p => cases q2 : flVs ds with
      | none => rw [q1, q2] at e; cases e
      | some ps =>
        rw [q1, q2] at e; cases e
        obtain ⟨rfl, h1⟩ := flV_rep a q1
        obtain ⟨rfl, h2⟩ := flVs_rep b q2
        exact ⟨rfl, by rw [List.all_cons, h1, h2]; rfl⟩

def rC (K : PySem.W.Frag) : COp → R2
  | .eq => rEqD K
  | .ne => rNeD K
  | .lt => rI0 fun i j => .bl (decide (i < j))
  | .le => rI0 fun i j => .bl (decide (i ≤ j))
  | .gt => rI0 fun i j => .bl (decide (j < i))
  | .ge => rI0 fun i j => .bl (decide (j ≤ i))
  | .isN => fun x y H Q => y = .non ∧ Q (.bl (decide (x = .non))) H
  | .notN => fun x y H Q => y = .non ∧ Q (.bl (!decide (x = .non))) H
  | .inn => fun x y H Q => (∃ (c : Nat) (z : Str), x = .str ⟨#[c]⟩ ∧ y = .str z ∧ Q (.bl (decide (c ∈ z.cps.toList))) H) ∨ rIn K false x y H Q
  | .nin => fun x y H Q => (∃ (c : Nat) (z : Str), x = .str ⟨#[c]⟩ ∧ y = .str z ∧ Q (.bl (!decide (c ∈ z.cps.toList))) H) ∨ rIn K true x y H Q
theorem op_cmp {X : Cx} (hu : X.A.units + 64 < cLine) : ∀ op, OpR X (compareOp (pyC op)) (rC X.K op)
  | .eq => op_eqD hu
  | .ne => op_neD hu
  | .lt => op_lt
  | .le => op_le
  | .gt => op_gt
  | .ge => op_ge
  | .isN => op_isN
  | .notN => op_notN
  | .inn => op_in_sign.or op_in_seq
  | .nin => op_notIn_sign.or op_notIn_seq
theorem isNon_rep {v : V} {d : D} (r : Rep K H v d) : isNon d = decide (v = .non) := by
  cases r <;> simp [isNon]
theorem in_ok {neg : Bool} {d e : D} {x y : V} (hs : RelS K CA H s) (rx : Rep K H x d) (ry : Rep K H y e) (w : wIn neg d e s Q) (h : Hold K CA s H Q R) :
    (∃ (c : Nat) (z : Str), x = .str ⟨#[c]⟩ ∧ y = .str z ∧ R (.bl (if neg then !decide (c ∈ z.cps.toList) else decide (c ∈ z.cps.toList))) H) ∨ rIn K neg x y H R := by
  have seqs : ∀ ds vx vs, seqOf s e = some ds → flV d = some vx → flVs ds = some vs → Q (.bl (if neg then !inV vx vs else inV vx vs)) s → rIn K neg x y H R := fun ds vx vs h1 h2 h3 h4 => by
    obtain ⟨p, ws, rfl, hq, ha⟩ := seq_of hs ry h1
    obtain ⟨rfl, f1⟩ := flV_rep rx h2
    obtain ⟨rfl, f2⟩ := flVs_rep ha h3
    exact ⟨p, _, rfl, hq, f1, f2, h.here hs (.bl _) h4⟩
  unfold wIn at w
  split at w
  · rename_i c z
    cases rx; cases ry
    split at w
    · rename_i k hk
      have e : c = #[k] := by rw [← Array.toList_inj]; exact hk
      subst e
      exact .inl ⟨k, z, rfl, rfl, h.here hs (.bl _) w⟩
    · exact w.elim
  · obtain ⟨ds, h1, w⟩ := got.out w
    obtain ⟨vx, h2, w⟩ := got.out w
    obtain ⟨vs, h3, w⟩ := got.out w
    exact .inr (seqs ds vx vs h1 h2 h3 w)
theorem int_ok {f : Int → Int → Bool} {d e : D} {x y : V} (hs : RelS K CA H s) (rx : Rep K H x d) (ry : Rep K H y e) (w : wInt f d e s Q) (h : Hold K CA s H Q R) : rI0 (fun i j => .bl (f i j)) x y H R := by
  cases d <;> cases e <;> first | exact w.elim | (cases rx; cases ry; exact ⟨_, _, rfl, rfl, h.here hs (.bl _) w⟩)
theorem cmp_ok {op : COp} {d e : D} {x y : V} (hs : RelS K CA H s) (rx : Rep K H x d) (ry : Rep K H y e) (w : wCmp op d e s Q) (h : Hold K CA s H Q R) : rC K op x y H R := by
  have eqs : ∀ neg, wEq neg d e s Q → ∃ p q, Dp K H x p ∧ Dp K H y q ∧ SeqAt.shaped p = true ∧ SeqAt.shaped q = true ∧ R (.bl (if neg then !PyData.eqv p q else PyData.eqv p q)) H := fun neg w => by
    obtain ⟨p, h1, w⟩ := got.out w
    obtain ⟨q, h2, w⟩ := got.out w
    exact ⟨p, q, dp_of hs rx h1, dp_of hs ry h2, w.1, w.2.1, h.here hs (.bl _) w.2.2⟩
  cases op with
  | eq => exact eqs false w
  | ne => exact eqs true w
  | lt => exact int_ok hs rx ry w h
  | le => exact int_ok hs rx ry w h
  | gt => exact int_ok hs rx ry w h
  | ge => exact int_ok hs rx ry w h
  | isN =>
    obtain ⟨w1, w2⟩ := w
    rw [isNon_rep ry] at w1
    refine ⟨of_decide_eq_true w1, ?_⟩
    rw [isNon_rep rx] at w2
    exact h.here hs (.bl _) w2
  | notN =>
    obtain ⟨w1, w2⟩ := w
    rw [isNon_rep ry] at w1
    refine ⟨of_decide_eq_true w1, ?_⟩
    rw [isNon_rep rx] at w2
    exact h.here hs (.bl _) w2
  | inn => exact in_ok (neg := false) hs rx ry w h
  | nin => exact in_ok (neg := true) hs rx ry w h

/-! ### a[i], a[i:j] -/
theorem ix_dict {X : Cx} (hu : X.A.units + 1 < cLine) : IxR X (fun x y H Q => ∃ a v, x = .ref a ∧ DGet H a y (some v) ∧ Q v H) := by
  intro value slice pins s σ H x y v u Q I rx ry h hs
  obtain ⟨a, w, rfl, g, q⟩ := h
  obtain rfl : v = Value.ref a := rx
  have hT := dict_typeIs I g
  unfold subscriptTail
  refine wpAny_bind ?_
  rw [getitemInPython_of_ne hT.not_modules]
  refine wpAny_bind (wpAny_specialOf hT PySem.F.slot_dict_getitem.lookup ?_)
  have fin : wpAny (model X.prog X.w) X.A (subscripted slice false (.ref a) u) (fun r s₃ => wpAny (model X.prog X.w) X.A (letTemporaryGo value (.ref a) r >>= fun _ => pure r) (EP X pins σ Q) X.xe s₃) X.xe s := by
    rw [hs]
    exact wpAny_operating (d_getItem hu I g ry fun w' s3 I3 rw' => wpAny_bind (wpAny_letTemporaryGo (wpAny_pure ⟨w, H, I3, rw', q⟩)))
  first
    | exact wpAny_pure (wpAny_bind fin)
    | exact wpAny_bind (wpAny_pure (wpAny_bind fin))
    | exact wpAny_bind fin
def rIxA (K : PySem.W.Frag) : R2 := fun x y H Q => rIx K x y H Q ∨ ∃ a v, x = .ref a ∧ DGet H a y (some v) ∧ Q v H
theorem ix_all {X : Cx} (hu : X.A.units + 1 < cLine) : IxR X (rIxA X.K) := ix_seq.or (ix_dict hu)
theorem atI_rep {vs : List V} {ds : List D} {i : Int} {d : D} (h : RepAll K H vs ds) (e : atI ds i = some d) : ∃ v, atI vs i = some v ∧ Rep K H v d := by
  unfold atI at e ⊢
  rw [h.length]
  cases q : ixN ds.length i with
  | none => rw [q] at e; cases e
  | some j =>
    rw [q] at e
    exact h.get e
theorem key_rep {y : V} {e : D} {k : Key} (r : Rep K H y e) (q : keyOf e = some k) : y = kV k := by
  cases e <;> cases q <;> cases r <;> rfl
theorem valD_rep : ∀ {vs : List (Key × V)} {ds : List (Key × D)} {k : Key} {d : D}, KRel K H vs ds → valD ds k = some d → ∃ v, valV vs k = some v ∧ Rep K H v d
  | _, _, k, d, .nil, e => by cases e
  | _, _, k, d, .cons (f := j) a b, e => by
    unfold valD at e
    by_cases h : j = k
    · rw [if_pos h] at e; cases e
      exact ⟨_, by unfold valV; rw [List.find?_cons_of_pos (by simpa using h)]; rfl, a⟩
    · rw [if_neg h] at e
      obtain ⟨v, h1, h2⟩ := valD_rep b e
      exact ⟨v, by unfold valV at h1 ⊢; rw [List.find?_cons_of_neg (by simpa using h)]; exact h1, h2⟩
theorem at_ok {ds : List D} {e : D} {x : V} (hs : RelS K CA H s) {y : V} (ry : Rep K H y e) (w : wAt ds e s Q) (h : Hold K CA s H Q R) {vs : List V} (ha : RepAll K H vs ds) :
    ∃ i v, y = .int i ∧ atI vs i = some v ∧ R v H := by
  obtain ⟨i, rfl, w⟩ := isI.out w
  obtain ⟨d, hd, w⟩ := got.out w
  obtain ⟨v, h1, h2⟩ := atI_rep ha hd
  cases ry
  exact ⟨i, v, rfl, h1, h.here hs h2 w⟩
theorem ix_ok {d e : D} {x y : V} (hs : RelS K CA H s) (rx : Rep K H x d) (ry : Rep K H y e) (w : wIx d e s Q) (h : Hold K CA s H Q R) : rIxA K x y H R := by
  cases d with
  | tup ds =>
    cases rx with | tup hq ha =>
      obtain ⟨i, v, rfl, h1, h2⟩ := at_ok (x := y) hs ry w h ha
      exact .inl (.inr (.inl ⟨_, _, i, v, rfl, rfl, hq, h1, h2⟩))
  | fz ds =>
    cases rx with | fz hq ha =>
      obtain ⟨i, v, rfl, h1, h2⟩ := at_ok (x := y) hs ry w h ha
      exact .inl (.inl ⟨_, _, i, v, rfl, rfl, hq.sq, h1, h2⟩)
  | str z =>
    cases rx
    obtain ⟨i, rfl, w1, w⟩ := isI.out w
    obtain ⟨c, hc, w⟩ := got.out w
    cases ry
    exact .inl (.inr (.inr ⟨z, i, c, rfl, rfl, w1, hc, h.here hs (.str _) w⟩))
  | ref a =>
    cases rx
    unfold wIx at w
    simp only at w
    split at w
    · rename_i ds e1
      obtain ⟨vs, h1, ha⟩ := hs.get e1
      obtain ⟨i, v, rfl, h2, h3⟩ := at_ok (x := y) hs ry w h ha
      exact .inl (.inl ⟨_, _, i, v, rfl, rfl, SqL.of h1, h2, h3⟩)
    · rename_i kvs e1
      obtain ⟨vs, h1, ha⟩ := hs.getD e1
      obtain ⟨k, hk, w⟩ := got.out w
      obtain ⟨d, hd, w⟩ := got.out w
      obtain ⟨v, h2, h3⟩ := valD_rep ha hd
      have ey := key_rep ry hk
      subst ey
      exact .inr ⟨a, v, rfl, by rw [← h2]; exact DGet.k h1, h.here hs h3 w⟩
    · exact w.elim
  | non => exact w.elim
  | bl _ => exact w.elim
  | int _ => exact w.elim
def rSlAll (K : PySem.W.Frag) : V → Option Int → Option Int → Hp → VK → Prop := fun x lo hi H Q => rSlA K x lo hi H Q ∨ rSlL K x lo hi H Q ∨ rSlS x lo hi H Q
theorem sl_all {X : Cx} : SlR X (rSlAll X.K) := sl_tupA.or (sl_list.or sl_str)
theorem cutD_whole {α : Type} (xs : List α) {lo hi : Option Int} (h : HT.sIx xs.length 0 lo = 0 ∧ HT.sIx xs.length xs.length hi = xs.length) : cutD xs lo hi = xs := by
  unfold cutD
  rw [h.1, h.2, List.drop_zero, Nat.sub_zero, List.take_length]
theorem sl_ok {d : D} {x : V} {lo hi : Option Int} (hs : RelS K CA H s) (rx : Rep K H x d) (w : wSl d lo hi s Q) (h : Hold K CA s H Q R) : rSlAll K x lo hi H R := by
  cases d with
  | tup ds =>
    cases rx with | tup hq ha =>
      refine .inl ⟨_, _, rfl, hq, fun z => ?_, fun z p hp => h.newT hs hp (ha.cut lo hi) w⟩
      have w : Q (.tup (cutD ds lo hi)) s := w
      rw [ha.length] at z
      rw [cutD_whole ds z] at w
      exact h.here hs (.tup hq ha) w
  | str z => cases rx; exact .inr (.inr ⟨z, rfl, w.1, h.here hs (.str _) w.2⟩)
  | ref a =>
    cases rx
    obtain ⟨ds, e1, w⟩ := withL.out w
    obtain ⟨vs, h1, ha⟩ := hs.get e1
    exact .inr (.inl ⟨_, _, rfl, SqL.of h1, h.newO hs (.lst (ha.cut lo hi)) w⟩)
  | fz _ => exact w.elim
  | non => exact w.elim
  | bl _ => exact w.elim
  | int _ => exact w.elim

/-! ### a[i] = v -/
def rSetA : V → V → V → Hp → (Hp → Prop) → Prop := fun o i v H Q => rSetL o i v H Q ∨ ∃ a H', o = .ref a ∧ DPut H a i v H' ∧ Q H'
theorem set_dict {X : Cx} (hu : X.A.units + 1 < cLine) : PSet X (fun o i v H Q => ∃ a H', o = .ref a ∧ DPut H a i v H' ∧ Q H') := by
  intro pins s σ H o i v ov iv u Q I ro ri rv h
  obtain ⟨a, H', rfl, g, q⟩ := h
  obtain rfl : ov = Value.ref a := ro
  exact d_setItem hu I g ri rv fun s4 I4 => ⟨H', I4, q⟩
theorem set_all {X : Cx} (hu : X.A.units + 1 < cLine) : PSet X rSetA := by
  intro pins s σ H o i v ov iv u Q I ro ri rv h
  rcases h with h | h
  · exact set_list pins s σ H o i v ov iv u Q I ro ri rv h
  · exact set_dict hu pins s σ H o i v ov iv u Q I ro ri rv h
theorem KRel.any (k : Key) : ∀ {vs : List (Key × V)} {ds : List (Key × D)}, KRel K H vs ds → (vs.any fun kv => decide (kv.1 = k)) = ds.any fun kv => decide (kv.1 = k)
  | _, _, .nil => rfl
  | _, _, .cons a b => by rw [List.any_cons, List.any_cons, KRel.any k b]
theorem KRel.map {k : Key} {v : V} {d : D} (r : Rep K H v d) : ∀ {vs : List (Key × V)} {ds : List (Key × D)}, KRel K H vs ds → KRel K H (vs.map fun kv => if kv.1 = k then (kv.1, v) else kv) (ds.map fun kv => if kv.1 = k then (kv.1, d) else kv)
  | _, _, .nil => .nil
  | _, _, .cons (f := j) a b => by
    rw [List.map_cons, List.map_cons]
    by_cases h : j = k
    · rw [if_pos h, if_pos h]; exact .cons r (KRel.map r b)
    · rw [if_neg h, if_neg h]; exact .cons a (KRel.map r b)
theorem KRel.snoc {k : Key} {v : V} {d : D} (r : Rep K H v d) : ∀ {vs : List (Key × V)} {ds : List (Key × D)}, KRel K H vs ds → KRel K H (vs ++ [(k, v)]) (ds ++ [(k, d)])
  | _, _, .nil => .cons r .nil
  | _, _, .cons a b => .cons a (KRel.snoc r b)
theorem putD_rep {vs : List (Key × V)} {ds : List (Key × D)} {k : Key} {v : V} {d : D} (h : KRel K H vs ds) (r : Rep K H v d) : KRel K H (putK vs k v) (putD ds k d) := by
  unfold putK putD
  rw [KRel.any k h]
  split
  · exact KRel.map r h
  · exact KRel.snoc r h
theorem iset_ok {o i e : D} {x y z : V} {Q : S → Prop} {R : Hp → Prop} (hs : RelS K CA H s) (rx : Rep K H x o) (ry : Rep K H y i) (rz : Rep K H z e) (w : wISet o i e s Q)
    (h : ∀ s' H', Q s' → RelS K CA H' s' → Fr s H s' H' → R H') : rSetA x y z H R := by
  cases o with
  | ref a =>
    cases rx
    unfold wISet at w
    simp only at w
    split at w
    · rename_i ds e1
      obtain ⟨k, rfl, w⟩ := isI.out w
      obtain ⟨j, hj, w⟩ := got.out w
      obtain ⟨vs, h1, ha⟩ := hs.get e1
      cases ry
      have F : Firm H (upd H a (.lst (vs.set j z))) := Firm.updS (hs.soft e1)
      refine .inl ⟨a, vs, k, j, rfl, rfl, h1, by rw [ha.length]; exact hj, h _ _ w (hs.putO (hs.soft e1) (.lst (ha.set rz j))) (Fr.set e1)⟩
    · rename_i kvs e1
      obtain ⟨k, hk, w1, w⟩ := got.out w
      obtain ⟨vs, h1, ha⟩ := hs.getD e1
      have ey := key_rep ry hk
      subst ey
      exact .inr ⟨a, _, rfl, DPut.k h1 (by rw [ha.length]; exact w1), h _ _ w (hs.putO (hs.soft e1) (.dct (putD_rep ha rz))) (Fr.set e1)⟩
    · exact w.elim
  | tup _ => exact w.elim
  | fz _ => exact w.elim
  | str _ => exact w.elim
  | non => exact w.elim
  | bl _ => exact w.elim
  | int _ => exact w.elim

/-! ### isinstance -/
theorem ty_ok (hs : RelS K CA H s) {v : V} {d : D} {t : String} (r : Rep K H v d) (e : tyD s d = some t) : TyX K H v (.type t) ∧ t ∈ ["NoneType", "bool", "int", "str", "tuple", "list", "dict"] := by
  cases d with
  | non => cases e; cases r; exact ⟨.base .non, by simp⟩
  | bl b => cases e; cases r; exact ⟨.base (.bl b), by simp⟩
  | int i => cases e; cases r; exact ⟨.base (.int i), by simp⟩
  | str x => cases e; cases r; exact ⟨.base (.str x), by simp⟩
  | tup ds =>
    cases e
    cases r with | tup h _ =>
      refine ⟨?_, by simp⟩
      rcases h with (h | ⟨o, h⟩) | ⟨o, its, n, h, c, _⟩
      · exact .base (.tup h)
      · exact .fTuple h
      · exact .kTuple h c
  | fz ds =>
    cases e
    cases r with | fz h _ =>
      refine ⟨?_, by simp⟩
      rcases h with ⟨o, h⟩ | ⟨o, its, n, h, c, _⟩
      · exact .base (.frz h)
      · exact .kList h c
  | ref a =>
    cases r
    unfold tyD at e
    simp only at e
    split at e
    · rename_i ds e1
      cases e
      obtain ⟨vs, h1, _⟩ := hs.get e1
      exact ⟨.base (.lst h1), by simp⟩
    · rename_i ds e1
      cases e
      obtain ⟨vs, h1, _⟩ := hs.getD e1
      exact ⟨.base (.dK h1), by simp⟩
    · cases e
def tyOk (u : String) : Bool := ["int", "bool", "str", "tuple", "list"].contains u
theorem kit_all : (["NoneType", "bool", "int", "str", "tuple", "list", "dict"].all fun t => ["int", "bool", "str", "tuple", "list"].all fun u => decide (kitB t u = some (isTy t u))) = true := by decide +kernel
theorem kit_one {t u : String} (ht : t ∈ ["NoneType", "bool", "int", "str", "tuple", "list", "dict"]) (hu : tyOk u = true) : PySem.W.kitOne K (.type t) (.type u) = some (isTy t u) := by
  have h := List.all_eq_true.mp (List.all_eq_true.mp kit_all t ht) u (by simpa [tyOk] using hu)
  exact kit_ty (of_decide_eq_true h)
theorem kit_any {t : String} (ht : t ∈ ["NoneType", "bool", "int", "str", "tuple", "list", "dict"]) : ∀ {us : List String}, us.all tyOk = true → PySem.W.kitAny K (.type t) (us.map Value.type) = some (us.any (isTy t))
  | [], _ => rfl
  | u :: us, h => by
    rw [List.all_cons, Bool.and_eq_true] at h
    rw [List.map_cons, List.any_cons]
    refine kitAny_cons (kit_one ht h.1) (fun e => ?_) (fun e => by rw [e]; rfl)
    rw [e, Bool.false_or]
    exact kit_any ht h.2

/-! ### len, int, str, tuple, list, max, min -/
def biTy : BI → Option String
  | .len => none | .max => none | .min => none | .int => some "int" | .str => some "str" | .tuple => some "tuple" | .list => some "list"
def biName : BI → String
  | .len => "len" | .max => "max" | .min => "min" | .int => "int" | .str => "str" | .tuple => "tuple" | .list => "list"
def biV (b : BI) : Value := match biTy b with
  | some t => .type t
  | none => .builtin (biName b)
def rBI (K : PySem.W.Frag) : BI → List V → Hp → VK → Prop
  | .len => fun xs H Q => ∃ x n, xs = [x] ∧ LenV K x H n ∧ Q (.int n) H
  | .int => fun xs H Q => ((∃ i, xs = [.int i] ∧ Q (.int i) H) ∨ ∃ k, xs = [.bl k] ∧ Q (.int (if k then 1 else 0)) H) ∨ ∃ a n, xs = [.str a] ∧ PySem.intText? a = some n ∧ a.length ≤ 640 ∧ Q (.int n) H
  | .str => fun xs H Q => ∃ i, xs = [.int i] ∧ i.natAbs.log2 < 1920 ∧ Q (.str (toString i)) H
  | .tuple => fun xs H Q => ∃ p ys, xs = [.ref p] ∧ ((SqL K H p ys ∧ ∀ l, H l = none → Q (.ref l) (upd H l (.tup ys))) ∨ (SqT K H p ys ∧ Q (.ref p) H))
  | .list => fun xs H Q => ∃ p ys, xs = [.ref p] ∧ (SqL K H p ys ∨ SqT K H p ys) ∧ ∀ l, H l = none → Q (.ref l) (upd H l (.lst ys))
  | .max => fun xs H Q => ∃ i j, xs = [.int i, .int j] ∧ Q (.int (if j > i then j else i)) H
  | .min => fun xs H Q => ∃ i j, xs = [.int i, .int j] ∧ Q (.int (if j < i then j else i)) H
theorem call_bi {X : Cx} (hc : X.calm = true) : ∀ b, CallR X (biV b) (rBI X.K b)
  | .len => call_len
  | .int => call_int1.or call_int_str
  | .str => call_str_int
  | .tuple => call_tuple_of
  | .list => call_list_of
  | .max => call_max2 hc
  | .min => call_min2 hc
theorem len_ok (hs : RelS K CA H s) {v : V} {d : D} {n : Nat} (r : Rep K H v d) (e : lenD s d = some n) (hz : n ≤ sizeLine) : LenV K v H n := by
  cases d with
  | tup ds => cases e; cases r with | tup h a => exact .inr ⟨_, h, a.length.symm⟩
  | fz ds => cases e; cases r with | fz h a => exact .inl ⟨_, h.sq, a.length.symm⟩
  | str x => cases e; cases r; exact ⟨hz, rfl⟩
  | ref a =>
    cases r
    unfold lenD at e
    simp only at e
    split at e
    · rename_i ds e1
      cases e
      obtain ⟨vs, h1, h2⟩ := hs.get e1
      exact .inl ⟨_, SqL.of h1, h2.length.symm⟩
    · cases e
  | non => cases e
  | bl _ => cases e
  | int _ => cases e
theorem seq_of2 (hs : RelS K CA H s) {v : V} {d : D} {ds : List D} (r : Rep K H v d) (e : seqOf s d = some ds) : ∃ p vs, v = .ref p ∧ (SqL K H p vs ∨ (SqT K H p vs ∧ d = .tup ds)) ∧ RepAll K H vs ds := by
  cases d with
  | tup _ => cases e; cases r with | tup h a => exact ⟨_, _, rfl, .inr ⟨h, rfl⟩, a⟩
  | fz _ => cases e; cases r with | fz h a => exact ⟨_, _, rfl, .inl h.sq, a⟩
  | ref a => obtain ⟨p, vs, e1, h, a⟩ := seq_of hs r e
             cases r
             unfold seqOf at e
             simp only at e
             split at e
             · rename_i ds' e2
               cases e
               obtain ⟨ws, h1, h2⟩ := hs.get e2
               exact ⟨_, ws, rfl, .inl (SqL.of h1), h2⟩
             · cases e
  | non => cases e
  | bl _ => cases e
  | int _ => cases e
  | str _ => cases e
theorem bi_ok {b : BI} {ds : List D} {vs : List V} (hs : RelS K CA H s) (r : RepAll K H vs ds) (w : wBI b ds s Q) (h : Hold K CA s H Q R) : rBI K b vs H R := by
  unfold wBI at w
  split at w
  · cases r with | cons a r => cases r; obtain ⟨n, e, hz, w⟩ := got.out w; exact ⟨_, n, rfl, len_ok hs a e hz, h.here hs (.int _) w⟩
  · cases r with | cons a r => cases r; cases a; exact .inl (.inl ⟨_, rfl, h.here hs (.int _) w⟩)
  · cases r with | cons a r => cases r; cases a; exact .inl (.inr ⟨_, rfl, h.here hs (.int _) w⟩)
  · cases r with | cons a r => cases r; cases a; obtain ⟨n, e, hz, w⟩ := got.out w; exact .inr ⟨_, n, rfl, e, hz, h.here hs (.int _) w⟩
  · cases r with | cons a r => cases r; cases a; exact ⟨_, rfl, w.1, h.here hs (.str _) w.2⟩
  · cases r with | cons a r =>
      cases r
      obtain ⟨ds, e, w⟩ := got.out w
      obtain ⟨p, ws, rfl, hq, ha⟩ := seq_of2 hs a e
      rcases hq with hq | ⟨hq, rfl⟩
      · exact ⟨p, ws, rfl, .inl ⟨hq, fun l hl => h.newT hs hl ha w⟩⟩
      · exact ⟨p, ws, rfl, .inr ⟨hq, h.here hs (.tup hq ha) w⟩⟩
  · cases r with | cons a r =>
      cases r
      obtain ⟨ds, e, w⟩ := got.out w
      obtain ⟨p, ws, rfl, hq, ha⟩ := seq_of hs a e
      exact ⟨p, ws, rfl, hq, h.newO hs (.lst ha) w⟩
  · cases r with | cons a r => cases r with | cons a' r => cases r; cases a; cases a'; exact ⟨_, _, rfl, h.here hs (.int _) w⟩
  · cases r with | cons a r => cases r with | cons a' r => cases r; cases a; cases a'; exact ⟨_, _, rfl, h.here hs (.int _) w⟩
  · exact w.elim

/-! ### methods of lists and texts -/
def bmT : BM → String
  | .join => "str" | .split => "str" | _ => "list"
def bmN : BM → String
  | .append => "append" | .extend => "extend" | .pop => "pop" | .popAt => "pop" | .join => "join" | .split => "split" | .get2 => "get"
def rBM (K : PySem.W.Frag) : BM → V → List V → Hp → VK → Prop
  | .append => rAppend
  | .extend => rExtend
  | .pop => rPop
  | .join => fun x xs H Q => ∃ a p, ∃ ys : List Str, x = .str a ∧ xs = [.ref p] ∧ (SqL K H p (ys.map V.str) ∨ SqT K H p (ys.map V.str)) ∧ (ys.map (·.length)).sum + ys.length * a.length ≤ 16777216 ∧ Q (.str (Txt.join a ys)) H
  | .split => fun x xs H Q => ∃ a b, x = .str a ∧ xs = [.str b] ∧ (b.length == 0) = false ∧ a.length + 2 ≤ sizeLine ∧ rNewStrs (Txt.split a b) H Q
  | _ => fun _ _ _ _ => False
theorem bm_ok {m : BM} {d : D} {ds : List D} {x : V} {vs : List V} (hs : RelS K CA H s) (rx : Rep K H x d) (r : RepAll K H vs ds) (w : wBM m d ds s Q) (h : Hold K CA s H Q R) : rBM K m x vs H R := by
  unfold wBM at w
  split at w
  · obtain ⟨xs, e, w1, w⟩ := withL.out w
    cases rx
    cases r with | cons a r =>
      cases r
      obtain ⟨ws, h1, ha⟩ := hs.get e
      exact ⟨_, ws, _, rfl, rfl, h1, by rw [ha.length]; exact w1, h.setO hs e (.lst (ha.append (.one a))) .non w⟩
  · obtain ⟨xs, e, w⟩ := withL.out w
    obtain ⟨ys, e2, w1, w⟩ := withL.out w
    cases rx
    cases r with | cons a r =>
      cases r
      cases a
      obtain ⟨ws, h1, ha⟩ := hs.get e
      obtain ⟨us, h2, hb⟩ := hs.get e2
      exact ⟨_, _, ws, us, rfl, rfl, h1, h2, by rw [ha.length, hb.length]; exact w1, h.setO hs e (.lst (ha.append hb)) .non w⟩
  · obtain ⟨xs, e, w⟩ := withL.out w
    obtain ⟨y, e2, w⟩ := got.out w
    cases rx
    cases r
    obtain ⟨ws, h1, ha⟩ := hs.get e
    obtain ⟨v, h2, rv⟩ := ha.get e2
    exact ⟨_, ws, v, rfl, rfl, h1, by rw [ha.length]; exact h2, h.setO hs e (.lst ha.dropLast) rv w⟩
  · obtain ⟨es, e, w⟩ := got.out w
    obtain ⟨ys, e2, w1, w⟩ := got.out w
    cases rx
    cases r with | cons a r =>
      cases r
      obtain ⟨p, ws, rfl, hq, ha⟩ := seq_of hs a e
      have e3 := ha.strs e2
      subst e3
      exact ⟨_, p, ys, rfl, rfl, hq, w1, h.here hs (.str _) w⟩
  · cases rx
    cases r with | cons a r =>
      cases r
      cases a
      exact ⟨_, _, rfl, rfl, w.1, w.2.1, h.newO hs (.lst (RepAll.ofStrs _)) w.2.2⟩
  · exact w.elim
theorem bmTy_ok {m : BM} {d : D} {x : V} (hs : RelS K CA H s) (rx : Rep K H x d) (w : bmTy m s d) : tyV K (bmT m) x H := by
  cases m with
  | join => obtain ⟨z, rfl⟩ := w; cases rx; rfl
  | split => obtain ⟨z, rfl⟩ := w; cases rx; rfl
  | get2 => exact w.elim
  | append => obtain ⟨a, ds, rfl, e⟩ := w; cases rx; obtain ⟨vs, h1, _⟩ := hs.get e; exact .inl ⟨rfl, vs, SqL.of h1⟩
  | extend => obtain ⟨a, ds, rfl, e⟩ := w; cases rx; obtain ⟨vs, h1, _⟩ := hs.get e; exact .inl ⟨rfl, vs, SqL.of h1⟩
  | pop => obtain ⟨a, ds, rfl, e⟩ := w; cases rx; obtain ⟨vs, h1, _⟩ := hs.get e; exact .inl ⟨rfl, vs, SqL.of h1⟩
  | popAt => obtain ⟨a, ds, rfl, e⟩ := w; cases rx; obtain ⟨vs, h1, _⟩ := hs.get e; exact .inl ⟨rfl, vs, SqL.of h1⟩

/-! ### targets -/
theorem setAll_len : ∀ {is : List Nat} {ds : List D} {ρ ρ' : LS}, setAll is ds ρ = some ρ' → is.length = ds.length
  | [], [], _, _, _ => rfl
  | i :: is, d :: ds, ρ, ρ', e => by rw [List.length_cons, List.length_cons, setAll_len (is := is) (ds := ds) e]
  | [], _ :: _, _, _, e => nomatch e
  | _ :: _, [], _, _, e => nomatch e
end
end Tk
set_option Elab.async false
set_option linter.all false
set_option maxRecDepth 100000
set_option maxHeartbeats 1000000
/-! TkD: when a term of ours stands for a piece of the text (ck..); calls. -/
namespace Tk
open PySem PySem.Spec PyProof.Rows L2

/-! ### which term stands for which piece of text -/
structure Tab where
  fns : List (Nat × Str)
  clss : List (Nat × Str)
  mths : List (Nat × Str × Nat)
def visC (sc : Scope) (x : Str) : Bool := match sc.names.lookup x with
  | some .local => true | some .cell => true | some .free => true | _ => false
def locC (sc : Scope) (x : Str) : Bool := match sc.names.lookup x with
  | some .local => true | some .cell => true | _ => false
def onlyLoc (sc : Scope) (x : Str) : Bool := match sc.names.lookup x with
  | some .local => true | _ => false
def glC (sc : Scope) (x : Str) : Bool := match sc.names.lookup x with
  | some .globalImplicit => true | _ => false
def plainNm (x : Str) : Bool := !(x == ("__debug__" : Str)) && !(x == ("__classdict__" : Str))
def isSl : Expr → Bool
  | .Slice .. => true | _ => false
/-- what a method is asked of -/
def recv : Expr → Bool
  | .Name .. => true | .Attribute .. => true | .Constant .. => true | .Subscript .. => true | _ => false
def isLC : Expr → Bool
  | .ListComp .. => true | .SetComp .. => true | .DictComp .. => true | _ => false
def noIf : Expr → Bool
  | .IfExp .. => false | _ => true
def isBO : Expr → Bool
  | .BoolOp .. => true | _ => false
def isTupE : Expr → Bool
  | .Tuple .. => true | _ => false
def ckTs : List String → Expr → Scope → Bool
  | [t], .Name x _, sc => x == (t : Str) && tyOk t && glC sc x
  | _, _, _ => false
def ckTsT : List String → List Expr → Scope → Bool
  | [], [], _ => true
  | t :: ts, e :: es, sc => ckTs [t] e sc && ckTsT ts es sc
  | _, _, _ => false
def ckG (N : List Str) (sc : Scope) (inB : Bool) : G → Expr → Bool
  | .nm i, .Name x _ => decide (N[i]? = some x) && (if inB then onlyLoc sc x else locC sc x)
  | .tup is, .Tuple es _ _ => is.length == es.length && (is.zip es).all fun p => match p.2 with
    | .Name x _ => decide (N[p.1]? = some x) && (if inB then onlyLoc sc x else locC sc x)
    | _ => false
  | _, _ => false
def ckOwn (own : List Nat) : G → Bool
  | .nm i => own.contains i
  | .tup is => is.all own.contains
def ownP (N : List Str) (own : List Nat) : List (Str × Nat) := own.map fun i => (N.getD i ("" : Str), i)
def bmAr : BM → Nat → Bool
  | .append, 1 => true | .extend, 1 => true | .join, 1 => true | .split, 1 => true | .pop, 0 => true
  | _, _ => false
section
variable (T : Tab) (N : List Str)
mutual
def ckE (sc : Scope) (inB : Bool) : E → Expr → Bool
  | .var i, pe => match pe with
    | .Name x _ => decide (N[i]? = some x) && visC sc x && plainNm x
    | _ => false
  | .con c, pe => match pe with
    | .Name x _ => x == c && glC sc x && plainNm x
    | _ => false
  | .int i, pe => match pe with
    | .Constant (.int j) _ _ => i == j
    | _ => false
  | .bl b, pe => match pe with
    | .Constant (.bool c) _ _ => b == c
    | _ => false
  | .non, pe => match pe with
    | .Constant .none _ _ => true
    | _ => false
  | .str x, pe => match pe with
    | .Constant (.str y) _ _ => x == y
    | _ => false
  | .bin op a b, pe => match pe with
    | .BinOp l o r _ => decide (o = pyB op) && ckE sc inB a l && ckE sc inB b r
    | _ => false
  | .cmp op a b, pe => match pe with
    | .Compare l [o] [r] _ => decide (o = pyC op) && !(behindInMarks (pyC op) r) && ckE sc inB a l && ckE sc inB b r
    | _ => false
  | .chain o1 o2 a b c, pe => match pe with
    | .Compare l [p, q] [r, t] _ => decide (p = pyC o1) && decide (q = pyC o2) && !(lastMarks [pyC o1, pyC o2] [r, t]) && ckE sc inB a l && ckE sc inB b r && ckE sc inB c t
    | _ => false
  | .neg a, pe => match pe with
    | .UnaryOp .USub x _ => ckE sc inB a x
    | _ => false
  | .not a, pe => match pe with
    | .UnaryOp .Not x _ => noIf x && ckE sc inB a x
    | _ => false
  | .and a b, pe => match pe with
    | .BoolOp .And (x :: y :: r) pos => noIf x && noIf y && ckE sc inB a x && (match r with | [] => ckE sc inB b y | _ => ckE sc inB b (.BoolOp .And (y :: r) pos))
    | _ => false
  | .or a b, pe => match pe with
    | .BoolOp .Or (x :: y :: r) pos => noIf x && noIf y && ckE sc inB a x && (match r with | [] => ckE sc inB b y | _ => ckE sc inB b (.BoolOp .Or (y :: r) pos))
    | _ => false
  | .ife c a b, pe => match pe with
    | .IfExp t x y _ => noIf t && ckE sc inB c t && ckE sc inB a x && ckE sc inB b y
    | _ => false
  | .ix a i, pe => match pe with
    | .Subscript v w _ => !(isSl w) && ckE sc inB a v && ckE sc inB i w
    | _ => false
  | .sl a lo hi, pe => match pe with
    | .Subscript v (.Slice l h none _) _ => ckE sc inB a v && ckO sc inB lo l && ckO sc inB hi h
    | _ => false
  | .tup es, pe => match pe with
    | .Tuple xs _ _ => ckEs sc inB es xs
    | _ => false
  | .lst es, pe => match pe with
    | .List xs _ => ckEs sc inB es xs
    | _ => false
  | .dct ks, pe => match pe with
    | .Dict keys vals _ => !keys.isEmpty && decide (keys.length ≤ 15) && decide (keys.length = vals.length) && ckKs sc inB ks keys vals
    | _ => false
  | .fld e f, pe => match pe with
    | .Attribute v g _ => f == g && recv v && ckE sc inB e v
    | _ => false
  | .call f es, pe => match pe with
    | .Call (.Name x _) args [] _ => T.fns.contains (f, x) && glC sc x && plainNm x && ckEs sc inB es args
    | _ => false
  | .mk c es, pe => match pe with
    | .Call (.Name x _) args [] _ => T.clss.contains (c, x) && glC sc x && plainNm x && ckEs sc inB es args
    | _ => false
  | .meth c m f e es, pe => match pe with
    | .Call (.Attribute o n ap) args [] pos => m == n && T.mths.contains (c, m, f) && recv o && (ap.endLine == pos.line) && decide (args.length < 20) && ckE sc inB e o && ckEs sc inB es args
    | _ => false
  | .bm m e es, pe => match pe with
    | .Call (.Attribute o n ap) args [] pos => n == (bmN m : Str) && bmAr m args.length && recv o && (ap.endLine == pos.line) && decide (args.length < 20) && ckE sc inB e o && ckEs sc inB es args
    | _ => false
  | .bi b es, pe => match pe with
    | .Call (.Name x _) args [] _ => x == (biName b : Str) && glC sc x && !args.isEmpty && ckEs sc inB es args
    | _ => false
  | .isi e ts, pe => match pe with
    | .Call (.Name x _) [a, t] [] _ => x == ("isinstance" : Str) && glC sc x && ckE sc inB e a && (match t with | .Tuple us _ _ => ckTsT ts us sc && decide (ts.length ≤ 5) | t => ckTs ts t sc)
    | _ => false
  | .lrng a b, pe => match pe with
    | .Call (.Name x _) [.Call (.Name y _) [l, r] [] _] [] _ => x == ("list" : Str) && glC sc x && y == ("range" : Str) && glC sc y && ckE sc inB a l && ckE sc inB b r
    | _ => false
  | .lc elt g it cond own, pe => match pe with
    | .ListComp pe [⟨tg, iter, ifs, as⟩] scope _ => as == 0 && blkC N sc scope (ownP N own) && ckOwn own g && ckG N (relS scope sc) true g tg && ckIt sc inB it iter tg && ckE (relS scope sc) true elt pe &&
          (match ifs with | [] => (match cond with | .no => true | .so _ => false) | [c] => ckCo (relS scope sc) true cond c | _ => false)
    | _ => false
def ckEs (sc : Scope) (inB : Bool) : Es → List Expr → Bool
  | .nil, [] => true
  | .cons e r, x :: xs => ckE sc inB e x && ckEs sc inB r xs
  | _, _ => false
def ckO (sc : Scope) (inB : Bool) : O → Option Expr → Bool
  | .no, none => true
  | .so e, some x => ckE sc inB e x
  | _, _ => false
def ckCo (sc : Scope) (inB : Bool) : O → Expr → Bool
  | .no, _ => false
  | .so e, x => noIf x && ckE sc inB e x
def ckKs (sc : Scope) (inB : Bool) : Ks → List (Option Expr) → List Expr → Bool
  | .nil, keys, vals => match keys, vals with
    | [], [] => true
    | _, _ => false
  | .cons k e r, keys, vals => match keys, vals with
    | some (.Constant (.str x) _ _) :: ks, v :: vs => k == x && ckE sc inB e v && ckKs sc inB r ks vs
    | _, _ => false
def ckIt (sc : Scope) (inB : Bool) : It → Expr → Expr → Bool
  | .val e, x, _ => ckE sc inB e x
  | .r1 a, pe, _ => match pe with
    | .Call (.Name x _) [l] [] _ => x == ("range" : Str) && glC sc x && ckE sc inB a l
    | _ => false
  | .r2 a b, pe, _ => match pe with
    | .Call (.Name x _) [l, r] [] _ => x == ("range" : Str) && glC sc x && ckE sc inB a l && ckE sc inB b r
    | _ => false
  | .zip a b, pe, tg => match pe with
    | .Call (.Name x _) [l, r] [] _ => x == ("zip" : Str) && glC sc x && isTupE tg && ckE sc inB a l && ckE sc inB b r
    | _ => false
end
end

/-! ### room -/
structure Rc (k : Nat) (A : Around) : Prop where
  hd : A.handled = none
  dp : A.depth + 2 * k + 5 < recursionLimit
  un : A.units + 5 * k + 150 < cLine
/-- within a body -/
structure Rb (k : Nat) (A : Around) : Prop where
  hd : A.handled = none
  dp : A.depth + 2 * k + 6 < recursionLimit
  un : A.units + 5 * k + 152 < cLine
theorem Rb.rc {k : Nat} {A : Around} (r : Rb k A) : Rc k A := ⟨r.hd, by have := r.dp; omega, by have := r.un; omega⟩
theorem Rc.body {k : Nat} {A : Around} (r : Rc (k + 1) A) (env : Env) : Rb k (A.deeper env) :=
  ⟨r.hd, by have h := r.dp; show A.depth + 1 + 2 * k + 6 < _; omega, by have h := r.un; show A.units + 3 + 5 * k + 152 < _; omega⟩
theorem Rb.make {k : Nat} {A : Around} (r : Rb k A) (C : Addr) (us : List Value) : Rc k (A.under (.builtin "type.__call__" ⟨.ref C :: us, []⟩)) :=
  ⟨r.hd, by have h := r.dp; rw [make_depth]; omega, by have h := r.un; rw [make_units]; omega⟩
theorem Rb.u {k : Nat} {A : Around} (r : Rb k A) : A.units + 66 < cLine := by have h := r.un; omega

/-! ### what the module gives -/
structure CallOk (P : Program) (w : World) (K : PySem.W.Frag) (mg : Str → Option Value) (base : Heap) (k : Nat) (f : Addr) (sp : Sp) : Prop where
  run : ∀ (A : Around) (outer : List Env) (s : Shared) (H : Hp) (us : List Value) (vs : List V) (Q : VK), Rc k A → Env0 P w K mg base A outer s H → Vals vs us → sp vs H Q E0 →
    codeAny (model P w) A (.call (.ref f) ⟨us, []⟩) (CR CX0 outer P w H s Q E0) s
def bltns : List Str := ["len", "max", "min", "int", "str", "tuple", "list", "range", "zip", "isinstance", "bool"]
structure Mods (K : PySem.W.Frag) (mg : Str → Option Value) (P : Prog) (T : Tab) (CA : CAt) (FA : CAt) : Prop where
  con : ∀ x d, P.con x = some d → ∃ u v, mg x = some u ∧ RelV v u ∧ ∀ H, Rep K H v d
  fns : ∀ f x, (f, x) ∈ T.fns → mg x = some (.ref (FA f)) ∧ PySem.W.keepIn K (.ref (FA f)) = true
  clss : ∀ c x, (c, x) ∈ T.clss → mg x = some (.ref (CA c)) ∧ ∃ f, P.init c = some f ∧ Mk K (CA c) (FA f)
  mths : ∀ c m f, (c, m, f) ∈ T.mths → Cls K (CA c) ∧ Meth K (CA c) m (FA f)
  flds : ∀ c f, f ∈ P.flds c → Cls K (CA c) ∧ NoAttr K (CA c) f
  blt : ∀ x ∈ bltns, mg x = none
structure Good (P : Prog) (T : Tab) (CA FA : CAt) (C : CallP) (k : Nat) (X : Cx) (inB : Bool) : Prop where
  calm : X.calm = true
  nd : X.N.Nodup
  own : PassesOwn (model X.prog X.w) X.A X.env X.xe
  room : Rb k X.A
  mods : Mods X.K X.mg P T CA FA
  calls : ∀ f, CallOk X.prog X.w X.K X.mg X.base k (FA f) (LC X.K CA (C f))
  cells : inB = false → ∀ x, X.fn x = true

section
variable {X : Cx} {P : Prog} {T : Tab} {CA FA : CAt} {C : CallP} {k : Nat} {inB : Bool}
theorem run_own {sp : Sp} {f : Addr} {pins : List (Addr × Obj)} {σ : L2.St} {H : Hp} {s : Shared} {Q : VK} {us : List Value} {vs : List V} (c : CallOk X.prog X.w X.K X.mg X.base k f sp) (hr : Rc k X.A)
    (I : Inv X pins σ H s) (r : Vals vs us) (h : sp vs H Q E0) : wpAny (model X.prog X.w) X.A (call (.ref f) us) (EP X pins σ Q) X.xe s := by
  refine wpAny_call (codeAny_mono (c.run _ _ _ _ _ _ _ hr I.env0 r h) fun x s' hq => ?_)
  match x, hq with
  | .error _, hq => exact hq.elim
  | .ok (.ret u), hq => exact I.after hq
  | .ok .next, hq => exact False.elim hq
  | .ok .brk, hq => exact False.elim hq
  | .ok .cont, hq => exact False.elim hq
theorem run_mk {sp : Sp} {f c : Addr} {pins : List (Addr × Obj)} {σ : L2.St} {H : Hp} {s : Shared} {Q : VK} {us : List Value} {vs : List V} (M : Mk X.K c f) (F : CallOk X.prog X.w X.K X.mg X.base k f sp) (hr : Rb k X.A)
    (I : Inv X pins σ H s) (r : Vals vs us)
    (h : ∀ x dx, H x = none → H dx = none → dx ≠ x → sp (.ref x :: vs) (upd (upd H dx (.own x)) x (.ins c dx [])) (fun v H2 => v = .non ∧ Q (.ref x) H2) E0) :
    wpAny (model X.prog X.w) X.A (call (.ref c) us) (EP X pins σ Q) X.xe s := by
  have n0 : H s.heap.objs.size = none := I.hok.fresh (Nat.le_refl _)
  have n1 : H (s.heap.objs.size + 1) = none := I.hok.fresh (Nat.le_succ _)
  have hq := h (s.heap.objs.size + 1) s.heap.objs.size n1 n0 (Nat.ne_of_lt (Nat.lt_succ_self _))
  have J := Inv.made (C := c) I
  refine wpAny_call (make_map (f := f) I.kIn M.makes M.init (beq_iff_eq.mp M.fn) (codeAny_mono (F.run _ _ _ _ (Value.ref (s.heap.objs.size + 1) :: us) _ _ (hr.make c us) (J.env0.make c us []) (.cons (show RelV (.ref (s.heap.objs.size + 1)) (Value.ref (s.heap.objs.size + 1)) from rfl) r) hq) fun x s' hx => ?_))
  match x, hx with
  | .error _, hx => exact hx.elim
  | .ok (.ret u), hx =>
    obtain ⟨v, H', J', rv, ev, q⟩ := J.after hx
    subst ev
    exact ⟨rv, V.ref (s.heap.objs.size + 1), H', J', rfl, q⟩
  | .ok .next, hx => exact False.elim hx
  | .ok .brk, hx => exact False.elim hx
  | .ok .cont, hx => exact False.elim hx

/-! ### the trees of arguments -/
theorem ck_nostar {N : List Str} {sc : Scope} : ∀ {e : E} {pe : Expr}, ckE T N sc inB e pe = true → ∀ (es : List Expr) (env : Env), starEach (pe :: es) env = (false, eval pe env) :: starEach es env := by
  intro e pe h es env
  cases pe with
  | Starred v pos => cases e <;> simp [ckE] at h
  | _ => rfl
theorem ck_nostars {N : List Str} {sc : Scope} : ∀ {es : Es} {xs : List Expr}, ckEs T N sc inB es xs = true → ∀ (pos : Pos) (env : Env), (backTo pos (starEach xs env)).any (·.1) = false ∧ (backTo pos (starEach xs env)).all (fun x => !x.1) = true
  | .nil, [], _, _, _ => ⟨rfl, rfl⟩
  | .cons e r, x :: xs, h, pos, env => by
    unfold ckEs at h
    rw [Bool.and_eq_true] at h
    have ih := ck_nostars h.2 pos env
    rw [ck_nostar h.1]
    show ((false, _) :: backTo pos (starEach xs env)).any _ = false ∧ ((false, _) :: backTo pos (starEach xs env)).all _ = true
    rw [List.any_cons, List.all_cons, ih.1, ih.2]
    exact ⟨rfl, rfl⟩
  | .nil, _ :: _, h, _, _ => by simp [ckEs] at h
  | .cons _ _, [], h, _, _ => by simp [ckEs] at h
theorem base_ok {o : Expr} {m : Str} {env : Env} (h : recv o = true) : attributeBase o m env (eval o env) = eval o env := by
  cases o <;> first | rfl | (exact absurd (show false = true from h) Bool.false_ne_true)
/-- a method's call -/
theorem meth_tree {M : Model} {A : Around} {env : Env} {o : Expr} {m : Str} {apos pos : Pos} {args : List Expr} {Q E : Value → Shared → Prop} {s : Shared} (hb : attributeBase o m env (eval o env) = eval o env)
    (hf : methodCallForm (args.length + ([] : List Keyword).length) (backTo pos (starEach args env)) (backToKw pos (keywordEach [] env)) = true) (hl : (apos.endLine == pos.line) = true)
    (h : wpAny M A (eval o env) (fun ov s1 => wpAny M A (getMethod ov m (do return (← importBound o env).getD true)) (fun fx s2 => wpAny M A (callWith pos fx.1 fx.2 (backTo pos (starEach args env)) (backToKw pos (keywordEach [] env))) Q E s2) E s1) E s) :
    wpAny M A (eval (.Call (.Attribute o m apos) args [] pos) env) Q E s := by
  rw [arm_eval_Call, hb]
  refine wpAny_bind (wpAny_mono h (fun ov s1 h1 => ?_) fun _ _ e => e)
  refine wpAny_bind (wpAny_standAt ?_)
  unfold methodCall
  rw [hf]
  refine wpAny_bind (wpAny_holding (wpAny_mono h1 (fun fx s2 h2 => ?_) fun _ _ e => e))
  have hp : methodCallPos true o env apos pos = pure pos := by unfold methodCallPos; simp [hl]
  exact wpAny_bind (wpAny_of_eq hp h2)
theorem form_ok {N : List Str} {sc : Scope} {es : Es} {xs : List Expr} (h : ckEs T N sc inB es xs = true) (hl : xs.length < 20) (pos : Pos) (env : Env) :
    methodCallForm (xs.length + ([] : List Keyword).length) (backTo pos (starEach xs env)) (backToKw pos (keywordEach [] env)) = true := by
  have h1 := (ck_nostars h pos env).2
  show ((backTo pos (starEach xs env)).all (fun x => !x.1) && true && decide (xs.length + 0 + 0 < 30)) = true
  rw [h1]
  simp; omega
end
end Tk
set_option Elab.async false
set_option linter.all false
set_option maxRecDepth 100000
set_option maxHeartbeats 4000000
/-! TkE: a piece of the text runs as our term's condition says: expressions. -/
namespace Tk
open PySem PySem.Spec PyProof.Rows L2

section
variable {X : Cx} {P : Prog} {T : Tab} {CA FA : CAt} {C : CallP} {k : Nat} {inB : Bool} {K : PySem.W.Frag}
theorem truthB.out {x : D} {Q : Bool → Prop} (h : truthB x Q) : ∃ b, x = .bl b ∧ Q b := by
  cases x <;> first | exact h.elim | exact ⟨_, rfl, h⟩
theorem Good.hu (G : Good P T CA FA C k X inB) : X.A.units + 66 < cLine := G.room.u
theorem Good.hu1 (G : Good P T CA FA C k X inB) : X.A.units + 1 < cLine := by have := G.hu; omega
theorem Good.hu64 (G : Good P T CA FA C k X inB) : X.A.units + 64 < cLine := by have := G.hu; omega
theorem Good.bl (G : Good P T CA FA C k X inB) {x : Str} (h : x ∈ bltns) : X.mg x = none := G.mods.blt x h
theorem Good.hold {s : S} {H : Hp} {Qd : Q1} {Q : VK} (hQ : ∀ d s' v H', Qd d s' → RelS K CA H' s' → Rep K H' v d → Fr s H s' H' → Q v H') {s1 : S} {H1 : Hp} (f : Fr s H s1 H1) : Hold K CA s1 H1 Qd Q :=
  fun d s' v H' q hs r g => hQ d s' v H' q hs r (f.trans g)
/-- from a value's condition to a test's -/
theorem le_lt {e : Expr} {w : LS → S → Q1 → Prop} (h : PE X e (LE X.K CA w)) (he : ∀ whole, isTrue e X.env whole = (do let v ← whole; standAt e.pos; holding [v] (truthy v))) :
    PT X e (LT X.K CA fun ρ s Q => w ρ s fun x s1 => truthB x fun b => Q b s1) := by
  refine PT.imp (pt_val h he) fun σ H Q ⟨ρ, s, Qd, y, hw, hQ⟩ => ?_
  refine le_run y hw fun d s' v H' q y' r f => ?_
  obtain ⟨b, rfl, q⟩ := q.out
  cases r
  exact ⟨b, rfl, hQ b s' H' q y'.s f⟩
theorem kindOf_of {env : Env} {x : Str} {k : NameKind} (h : env.scope.names.lookup x = some k) : env.kindOf x = some k := h
theorem gl_of {x : Str} (h : glC X.env.scope x = true) : Gl X x := by
  unfold glC at h
  show X.env.scope.names.lookup x = _
  split at h
  · assumption
  · cases h
theorem vis_of {x : Str} (h : visC X.env.scope x = true) : Vis X.env.scope x := by
  unfold visC at h
  split at h
  · exact .inl (by assumption)
  · exact .inr (.inl (by assumption))
  · exact .inr (.inr (by assumption))
  · cases h
theorem nm1 {x : Str} (h : plainNm x = true) : (x == ("__debug__" : Str)) = false := by
  unfold plainNm at h
  rw [Bool.and_eq_true] at h
  simpa using h.1
theorem nm2 {x : Str} (h : plainNm x = true) : (x == ("__classdict__" : Str)) = false := by
  unfold plainNm at h
  rw [Bool.and_eq_true] at h
  simpa using h.2
theorem plainIx_of {w : Expr} (h : isSl w = false) : ∀ o i, subscripted w false o i = operate [o, i] (getItem o i) := by
  intro o i
  cases w <;> first | rfl | (exact absurd (show true = false from h) (by decide))

/-- one name of a tuple's targets -/
theorem pg_one {N : List Str} {inB : Bool} (hN : X.N = N) (nd : X.N.Nodup) (hc : inB = false → ∀ x, X.fn x = true) {i : Nat} {x : Str} {pos : Pos} (h1 : N[i]? = some x) (h2 : (if inB then onlyLoc X.env.scope x else locC X.env.scope x) = true) : PG X (.Name x pos) (gName i) := by
  subst hN
  cases inB with
  | true =>
    simp only [if_true] at h2
    unfold onlyLoc at h2
    split at h2
    · rename_i h
      exact pg_name nd h1 (.inl h) (.inr h)
    · cases h2
  | false =>
    simp only [Bool.false_eq_true, if_false] at h2
    unfold locC at h2
    split at h2
    · rename_i h
      exact pg_name nd h1 (.inl h) (.inl (hc rfl x))
    · rename_i h
      exact pg_name nd h1 (.inr h) (.inl (hc rfl x))
    · cases h2
def gAll : List Nat → TGs
  | [] => gNil
  | i :: is => gCons (gName i) (gAll is)
theorem pgs_all {N : List Str} {inB : Bool} (hN : X.N = N) (nd : X.N.Nodup) (hc : inB = false → ∀ x, X.fn x = true) : ∀ {is : List Nat} {es : List Expr}, is.length = es.length →
    ((is.zip es).all fun p => match p.2 with | .Name x _ => decide (N[p.1]? = some x) && (if inB then onlyLoc X.env.scope x else locC X.env.scope x) | _ => false) = true →
    PGs X es (gAll is) ∧ (assignEach es X.env).length = es.length ∧ (assignEach es X.env).findIdx? (·.1) = none
  | [], [], _, _ => ⟨pgs_nil, rfl, rfl⟩
  | [], _ :: _, h, _ => by cases h
  | _ :: _, [], h, _ => by cases h
  | i :: is, e :: es, hl, h => by
    rw [List.zip_cons_cons, List.all_cons, Bool.and_eq_true] at h
    obtain ⟨h1, h2⟩ := h
    obtain ⟨r1, r2, r3⟩ := pgs_all hN nd hc (is := is) (es := es) (by simpa using hl) h2
    cases e with
    | Name x pos =>
      simp only [Bool.and_eq_true, decide_eq_true_eq] at h1
      refine ⟨pgs_cons (pg_one hN nd hc h1.1 h1.2) r1 rfl, ?_, ?_⟩
      · show ((false, _) :: assignEach es X.env).length = _
        rw [List.length_cons, r2, List.length_cons]
      · show ((false, _) :: assignEach es X.env).findIdx? _ = none
        rw [List.findIdx?_cons, r3]; rfl
    | _ => cases h1
/-- what one target does -/
def gG (K : PySem.W.Frag) : G → TG
  | .nm i => gName i
  | .tup is => fun v σ H Q => gTup K is.length (gAll is) v σ H Q ∨ gUnl K is.length (gAll is) v σ H Q
theorem PG.or {e : Expr} {t u : TG} (h : PG X e t) (g : PG X e u) : PG X e fun v σ H Q => t v σ H Q ∨ u v σ H Q :=
  ⟨fun pins s σ H v u Q I r q => q.elim (fun q => h.run pins s σ H v u Q I r q) fun q => g.run pins s σ H v u Q I r q⟩
theorem pg_ok (hcalm : X.calm = true) (nd : X.N.Nodup) (hc : inB = false → ∀ x, X.fn x = true) {g : G} {tg : Expr} (h : ckG X.N X.env.scope inB g tg = true) : PG X tg (gG X.K g) := by
  cases g with
  | nm i =>
    unfold ckG at h
    split at h
    · rename_i x y i' x' pos heq
      cases heq
      rw [Bool.and_eq_true] at h
      exact pg_one rfl nd hc (of_decide_eq_true h.1) h.2
    · rename_i heq
      cases heq
    · cases h
  | tup is =>
    unfold ckG at h
    split at h
    · rename_i heq
      cases heq
    · rename_i is' es kk pos heq
      cases heq
      rw [Bool.and_eq_true] at h
      have hl : is.length = es.length := by simpa using h.1
      obtain ⟨r1, r2, r3⟩ := pgs_all rfl nd hc hl h.2
      exact PG.or (pg_tup hcalm r1 (r2.trans hl.symm) r3) (pg_unl hcalm r1 (r2.trans hl.symm) r3)
    · cases h
theorem wipe_in {x : Option V} {i : Nat} : ∀ {vs : List Nat} (σ : L2.St), (wipe (σ.set i x) vs).set i none = (wipe σ vs).set i none
  | [], σ => by show (σ.set i x).set i none = _; rw [List.set_set]; rfl
  | v :: vs, σ => by
    show ((wipe (σ.set i x) vs).set v none).set i none = ((wipe σ vs).set v none).set i none
    by_cases e : v = i
    · subst e; rw [wipe_in σ]
    · rw [List.set_comm _ _ e, List.set_comm _ _ e, wipe_in σ]
theorem wipe_mem {x : Option V} {i : Nat} : ∀ {vs : List Nat} (σ : L2.St), i ∈ vs → wipe (σ.set i x) vs = wipe σ vs
  | v :: vs, σ, h => by
    show (wipe (σ.set i x) vs).set v none = (wipe σ vs).set v none
    by_cases e : i = v
    · subst e; exact wipe_in σ
    · rw [wipe_mem σ ((List.mem_cons.mp h).resolve_left e)]
theorem wipe_none {i : Nat} : ∀ {vs : List Nat} (σ : L2.St), i ∈ vs → (wipe σ vs).set i none = wipe σ vs
  | v :: vs, σ, h => by
    show ((wipe σ vs).set v none).set i none = (wipe σ vs).set v none
    by_cases e : i = v
    · subst e; rw [List.set_set]
    · rw [List.set_comm _ _ (Ne.symm e), wipe_none σ ((List.mem_cons.mp h).resolve_left e)]
theorem wipe_sub : ∀ (ws vs : List Nat) (σ : L2.St), (∀ i ∈ ws, i ∈ vs) → wipe (wipe σ ws) vs = wipe σ vs
  | [], vs, σ, _ => rfl
  | w :: ws, vs, σ, h => by
    show wipe ((wipe σ ws).set w none) vs = _
    rw [wipe_mem _ (h w List.mem_cons_self), wipe_sub ws vs σ fun i hi => h i (List.mem_cons_of_mem _ hi)]
theorem wipe_idem (σ : L2.St) (vs : List Nat) : wipe (wipe σ vs) vs = wipe σ vs := wipe_sub vs vs σ fun _ h => h
theorem gAll_ok {H : Hp} {ρ' : LS} {R : L2.St → Hp → Prop} : ∀ {is : List Nat} {ds : List D} {vs : List V} {σ : L2.St} {ρ : LS}, RelL K H σ ρ → RepAll K H vs ds → setAll is ds ρ = some ρ' →
    (∀ σ', RelL K H σ' ρ' → (∀ ws, is.all ws.contains = true → wipe σ' ws = wipe σ ws) → R σ' H) → gAll is vs σ H R ∧ is.length = vs.length
  | [], [], _, σ, ρ, hl, .nil, e, h => by cases e; exact ⟨⟨rfl, h σ hl fun _ _ => rfl⟩, rfl⟩
  | i :: is, d :: ds, _, σ, ρ, hl, .cons a b, e, h => by
    obtain ⟨h1, h2⟩ := gAll_ok (is := is) (ds := ds) (ρ := ρ.set i (some d)) (hl.set a i) b e fun σ' h1 h2 => h σ' h1 fun ws hw => by
      rw [List.all_cons, Bool.and_eq_true] at hw
      rw [h2 ws hw.2, wipe_mem _ (by simpa using hw.1)]
    exact ⟨⟨_, _, rfl, h1⟩, by rw [List.length_cons, List.length_cons, h2]⟩
  | [], _ :: _, _, _, _, _, _, e, _ => nomatch e
  | _ :: _, [], _, _, _, _, _, e, _ => nomatch e
theorem gG_ok {H : Hp} {s : S} {g : G} {d : D} {v : V} {σ : L2.St} {ρ : LS} {Qd : LS → S → Prop} {R : L2.St → Hp → Prop} (y : Sy K CA σ ρ s H) (r : Rep K H v d) (w : wG g d s ρ Qd)
    (h : ∀ σ' ρ', Qd ρ' s → Sy K CA σ' ρ' s H → (∀ ws, ckOwn ws g = true → wipe σ' ws = wipe σ ws) → R σ' H) : gG K g v σ H R := by
  cases g with
  | nm i => exact h _ _ w ⟨y.l.set r i, y.s⟩ fun ws hw => wipe_mem σ (by simpa [ckOwn] using hw)
  | tup is =>
    obtain ⟨ds, e1, w⟩ := got.out w
    obtain ⟨ρ', e2, w⟩ := got.out w
    obtain ⟨p, vs, rfl, hq, ha⟩ := seq_of y.s r e1
    obtain ⟨g1, g2⟩ := gAll_ok (R := R) y.l ha e2 fun σ' h1 h2 => h σ' ρ' w ⟨h1, y.s⟩ h2
    rcases hq with hq | hq
    · exact .inr ⟨_, _, rfl, hq, g2.symm, g1⟩
    · exact .inl ⟨_, _, rfl, hq, g2.symm, g1⟩

/-! ### one construct after the other -/
section
variable {a b c : E} {pa pb pc : Expr} {pos : Pos} {e o f : E}
abbrev LEx (X : Cx) (P : Prog) (CA : CAt) (C : CallP) (e : E) : TE := LE X.K CA (wE P C e)
theorem l_bin {op : BOp} (ha : PE X pa (LEx X P CA C a)) (hb : PE X pb (LEx X P CA C b)) : PE X (.BinOp pa (pyB op) pb pos) (LEx X P CA C (.bin op a b)) := by
  refine PE.imp (pe_op (op_bin op) ha hb) fun σ H Q ⟨ρ, s, Qd, y, hw, hQ⟩ => ?_
  refine le_run y hw fun d1 s1 v1 H1 q1 y1 r1 f1 => le_run y1 q1 fun d2 s2 v2 H2 q2 y2 r2 f2 => ?_
  exact bin_ok y2.s (r1.mono (f2.firm y1.s)) r2 q2 (Good.hold hQ (f1.trans f2))
theorem l_cmp (hu : X.A.units + 64 < cLine) {op : COp} (ha : PE X pa (LEx X P CA C a)) (hb : PE X pb (LEx X P CA C b)) (hm : behindInMarks (pyC op) pb = false) : PE X (.Compare pa [pyC op] [pb] pos) (LEx X P CA C (.cmp op a b)) := by
  refine PE.imp (pe_cmpR (op_cmp hu op) ha hb hm) fun σ H Q ⟨ρ, s, Qd, y, hw, hQ⟩ => ?_
  refine le_run y hw fun d1 s1 v1 H1 q1 y1 r1 f1 => le_run y1 q1 fun d2 s2 v2 H2 q2 y2 r2 f2 => ?_
  exact cmp_ok y2.s (r1.mono (f2.firm y1.s)) r2 q2 (Good.hold hQ (f1.trans f2))
abbrev LTx (X : Cx) (P : Prog) (CA : CAt) (C : CallP) (e : E) : TT := LT X.K CA fun ρ s Q => wE P C e ρ s fun x s1 => truthB x fun k => Q k s1
theorem lt_cmp (hu : X.A.units + 64 < cLine) {op : COp} (ha : PE X pa (LEx X P CA C a)) (hb : PE X pb (LEx X P CA C b)) (hm : behindInMarks (pyC op) pb = false) : PT X (.Compare pa [pyC op] [pb] pos) (LTx X P CA C (.cmp op a b)) := by
  refine PT.imp (pt_cmpR (op_cmp hu op) ha hb hm) fun σ H Q ⟨ρ, s, Qd, y, hw, hQ⟩ => ?_
  refine le_run y hw fun d1 s1 v1 H1 q1 y1 r1 f1 => le_run y1 q1 fun d2 s2 v2 H2 q2 y2 r2 f2 => ?_
  refine cmp_ok y2.s (r1.mono (f2.firm y1.s)) r2 q2 fun d s' v H' q hs r g => ?_
  obtain ⟨k, rfl, q⟩ := truthB.out q
  cases r
  exact ⟨k, rfl, hQ _ _ _ q hs ((f1.trans f2).trans g)⟩
theorem chain_ok {o1 o2 : COp} {R : VK} {Qd : Q1} {σ : L2.St} {ρ : LS} {s : S} {H : Hp} (y : Sy K CA σ ρ s H) (hw : wE P C (.chain o1 o2 a b c) ρ s Qd) (h : Hold K CA s H Qd R) :
    tChain (rC K o1) (rC K o2) (LE K CA (wE P C a)) (LE K CA (wE P C b)) (LE K CA (wE P C c)) σ H R := by
  refine le_run y hw fun d1 s1 v1 H1 q1 y1 r1 f1 => le_run y1 q1 fun d2 s2 v2 H2 q2 y2 r2 f2 => ?_
  refine cmp_ok y2.s (r1.mono (f2.firm y1.s)) r2 q2 fun d s3 v H3 q hs r g => ?_
  obtain ⟨t, rfl, q⟩ := truthB.out q
  cases r
  have y3 := y2.step g hs
  refine ⟨t, rfl, ?_⟩
  cases t with
  | true =>
    simp only [if_true] at q ⊢
    refine le_run y3 q fun d4 s4 v4 H4 q4 y4 r4 f4 => ?_
    exact cmp_ok y4.s ((r2.mono (g.firm y2.s)).mono (f4.firm y3.s)) r4 q4 fun d s' v H' q hs r g' => h d s' v H' q hs r (((f1.trans f2).trans (g.trans f4)).trans g')
  | false =>
    simp only [Bool.false_eq_true, if_false] at q ⊢
    exact h _ _ _ _ q y3.s (.bl _) ((f1.trans f2).trans g)
theorem l_chain (hu : X.A.units + 64 < cLine) {o1 o2 : COp} (ha : PE X pa (LEx X P CA C a)) (hb : PE X pb (LEx X P CA C b)) (hc : PE X pc (LEx X P CA C c)) (hm : lastMarks [pyC o1, pyC o2] [pb, pc] = false) :
    PE X (.Compare pa [pyC o1, pyC o2] [pb, pc] pos) (LEx X P CA C (.chain o1 o2 a b c)) :=
  PE.imp (pe_chain (op_cmp hu o1) (op_cmp hu o2) ha hb hc hm) fun σ H Q ⟨ρ, s, Qd, y, hw, hQ⟩ => chain_ok y hw hQ
theorem lt_chain (hu : X.A.units + 64 < cLine) {o1 o2 : COp} (ha : PE X pa (LEx X P CA C a)) (hb : PE X pb (LEx X P CA C b)) (hc : PE X pc (LEx X P CA C c)) (hm : lastMarks [pyC o1, pyC o2] [pb, pc] = false) :
    PT X (.Compare pa [pyC o1, pyC o2] [pb, pc] pos) (LTx X P CA C (.chain o1 o2 a b c)) := by
  refine PT.imp (pt_chain (op_cmp hu o1) (op_cmp hu o2) ha hb hc hm) fun σ H Q ⟨ρ, s, Qd, y, hw, hQ⟩ => ?_
  refine chain_ok y hw fun d s' v H' q hs r g => ?_
  obtain ⟨k, rfl, q⟩ := truthB.out q
  cases r
  exact ⟨k, rfl, hQ _ _ _ q hs g⟩
theorem l_neg (ha : PE X pa (LEx X P CA C a)) : PE X (.UnaryOp .USub pa pos) (LEx X P CA C (.neg a)) := by
  refine PE.imp (pe_un un_neg ha) fun σ H Q ⟨ρ, s, Qd, y, hw, hQ⟩ => ?_
  refine le_run y hw fun d1 s1 v1 H1 q1 y1 r1 f1 => ?_
  obtain ⟨i, rfl, q⟩ := isI.out q1
  cases r1
  exact ⟨i, rfl, hQ _ _ _ _ q y1.s (.int _) f1⟩
theorem l_not (ha : PE X pa (LEx X P CA C a)) : PE X (.UnaryOp .Not pa pos) (LEx X P CA C (.not a)) := by
  refine PE.imp (pe_not ha) fun σ H Q ⟨ρ, s, Qd, y, hw, hQ⟩ => ?_
  refine le_run y hw fun d1 s1 v1 H1 q1 y1 r1 f1 => ?_
  obtain ⟨i, rfl, q⟩ := truthB.out q1
  cases r1
  exact ⟨i, rfl, hQ _ _ _ _ q y1.s (.bl _) f1⟩
theorem lt_not (ha : PT X pa (LTx X P CA C a)) : PT X (.UnaryOp .Not pa pos) (LTx X P CA C (.not a)) := by
  refine PT.imp (pt_not ha) fun σ H Q ⟨ρ, s, Qd, y, hw, hQ⟩ => ?_
  refine lt_run (k := fun k s1 => Qd (!k) s1) y hw fun b s1 H1 q1 y1 f1 => ?_
  exact hQ _ _ _ q1 y1.s f1
theorem l_and {r : List Expr} (ha : PE X pa (LEx X P CA C a)) (hb : PE X (.BoolOp .And (pb :: r) pos) (LEx X P CA C b)) : PE X (.BoolOp .And (pa :: pb :: r) pos) (LEx X P CA C (.and a b)) := by
  refine PE.imp (pe_and ha hb) fun σ H Q ⟨ρ, s, Qd, y, hw, hQ⟩ => ?_
  refine le_run y hw fun d1 s1 v1 H1 q1 y1 r1 f1 => ?_
  obtain ⟨i, rfl, q⟩ := truthB.out q1
  cases r1
  refine ⟨i, rfl, ?_⟩
  cases i with
  | true => simp only [if_true] at q ⊢; exact le_run y1 q fun d2 s2 v2 H2 q2 y2 r2 f2 => hQ _ _ _ _ q2 y2.s r2 (f1.trans f2)
  | false => simp only [Bool.false_eq_true, if_false] at q ⊢; exact hQ _ _ _ _ q y1.s (.bl _) f1
theorem l_or {r : List Expr} (ha : PE X pa (LEx X P CA C a)) (hb : PE X (.BoolOp .Or (pb :: r) pos) (LEx X P CA C b)) : PE X (.BoolOp .Or (pa :: pb :: r) pos) (LEx X P CA C (.or a b)) := by
  refine PE.imp (pe_or ha hb) fun σ H Q ⟨ρ, s, Qd, y, hw, hQ⟩ => ?_
  refine le_run y hw fun d1 s1 v1 H1 q1 y1 r1 f1 => ?_
  obtain ⟨i, rfl, q⟩ := truthB.out q1
  cases r1
  refine ⟨i, rfl, ?_⟩
  cases i with
  | false => simp only [Bool.false_eq_true, if_false] at q ⊢; exact le_run y1 q fun d2 s2 v2 H2 q2 y2 r2 f2 => hQ _ _ _ _ q2 y2.s r2 (f1.trans f2)
  | true => simp only [if_true] at q ⊢; exact hQ _ _ _ _ q y1.s (.bl _) f1
theorem lw_and {r : List Expr} (ha : PT X pa (LTx X P CA C a)) (hb : PW X (.BoolOp .And (pb :: r) pos) (LTx X P CA C b)) : PW X (.BoolOp .And (pa :: pb :: r) pos) (LTx X P CA C (.and a b)) := by
  refine PW.imp (pw_and ha hb) fun σ H Q ⟨ρ, s, Qd, y, hw, hQ⟩ => ?_
  refine lt_run (k := fun k s1 => if k = true then wE P C b ρ s1 (fun x s2 => truthB x fun k => Qd k s2) else Qd false s1) y hw fun i s1 H1 q y1 f1 => ?_
  cases i with
  | true => simp only [if_true] at q ⊢; exact lt_run y1 q fun b2 s2 H2 q2 y2 f2 => hQ _ _ _ q2 y2.s (f1.trans f2)
  | false => simp only [Bool.false_eq_true, if_false] at q ⊢; exact hQ _ _ _ q y1.s f1
theorem lw_or {r : List Expr} (ha : PT X pa (LTx X P CA C a)) (hb : PW X (.BoolOp .Or (pb :: r) pos) (LTx X P CA C b)) : PW X (.BoolOp .Or (pa :: pb :: r) pos) (LTx X P CA C (.or a b)) := by
  refine PW.imp (pw_or ha hb) fun σ H Q ⟨ρ, s, Qd, y, hw, hQ⟩ => ?_
  refine lt_run (k := fun k s1 => if k = true then Qd true s1 else wE P C b ρ s1 (fun x s2 => truthB x fun k => Qd k s2)) y hw fun i s1 H1 q y1 f1 => ?_
  cases i with
  | false => simp only [Bool.false_eq_true, if_false] at q ⊢; exact lt_run y1 q fun b2 s2 H2 q2 y2 f2 => hQ _ _ _ q2 y2.s (f1.trans f2)
  | true => simp only [if_true] at q ⊢; exact hQ _ _ _ q y1.s f1
theorem l_ife (hc : PT X pc (LTx X P CA C c)) (ha : PE X pa (LEx X P CA C a)) (hb : PE X pb (LEx X P CA C b)) : PE X (.IfExp pc pa pb pos) (LEx X P CA C (.ife c a b)) := by
  refine PE.imp (pe_ifExp hc ha hb) fun σ H Q ⟨ρ, s, Qd, y, hw, hQ⟩ => ?_
  refine lt_run (k := fun k s1 => if k = true then wE P C a ρ s1 Qd else wE P C b ρ s1 Qd) y hw fun i s1 H1 q y1 f1 => ?_
  cases i with
  | true => simp only [if_true] at q ⊢; exact le_run y1 q fun d2 s2 v2 H2 q2 y2 r2 f2 => hQ _ _ _ _ q2 y2.s r2 (f1.trans f2)
  | false => simp only [Bool.false_eq_true, if_false] at q ⊢; exact le_run y1 q fun d2 s2 v2 H2 q2 y2 r2 f2 => hQ _ _ _ _ q2 y2.s r2 (f1.trans f2)
theorem l_ix (hu : X.A.units + 1 < cLine) (ha : PE X pa (LEx X P CA C a)) (hb : PE X pb (LEx X P CA C b)) (hs : isSl pb = false) : PE X (.Subscript pa pb pos) (LEx X P CA C (.ix a b)) := by
  refine PE.imp (pe_ix (ix_all hu) ha hb (plainIx_of hs)) fun σ H Q ⟨ρ, s, Qd, y, hw, hQ⟩ => ?_
  refine le_run y hw fun d1 s1 v1 H1 q1 y1 r1 f1 => le_run y1 q1 fun d2 s2 v2 H2 q2 y2 r2 f2 => ?_
  exact ix_ok y2.s (r1.mono (f2.firm y1.s)) r2 q2 (Good.hold hQ (f1.trans f2))
abbrev LOx (X : Cx) (P : Prog) (CA : CAt) (C : CallP) (o : O) : TO := LO X.K CA (wO P C o)
theorem l_sl {lo hi : O} {plo phi : Option Expr} {p2 : Pos} (ha : PE X pa (LEx X P CA C a)) (hl : PO X plo (LOx X P CA C lo)) (hh : PO X phi (LOx X P CA C hi)) : PE X (.Subscript pa (.Slice plo phi none p2) pos) (LEx X P CA C (.sl a lo hi)) := by
  refine PE.imp (pe_slice sl_all ha hl hh) fun σ H Q ⟨ρ, s, Qd, y, hw, hQ⟩ => ?_
  refine le_run y hw fun d1 s1 v1 H1 q1 y1 r1 f1 => lo_run y1 q1 fun l s2 H2 q2 y2 f2 => lo_run y2 q2 fun h s3 H3 q3 y3 f3 => ?_
  exact sl_ok y3.s ((r1.mono (f2.firm y1.s)).mono (f3.firm y2.s)) q3 (Good.hold hQ (f1.trans (f2.trans f3)))
theorem PO.imp {po : Option Expr} {t t' : TO} (h : PO X po t) (f : ∀ σ H Q, t' σ H Q → t σ H Q) : PO X po t' := ⟨fun pins s σ H Q I q => h.run pins s σ H Q I (f σ H Q q)⟩
theorem l_ono : PO X none (LOx X P CA C .no) := PO.imp po_none fun σ H Q ⟨ρ, s, Qd, y, hw, hQ⟩ => hQ _ _ _ hw y.s Fr.refl
theorem l_oso (ha : PE X pa (LEx X P CA C a)) : PO X (some pa) (LOx X P CA C (.so a)) := by
  refine PO.imp (po_some ha) fun σ H Q ⟨ρ, s, Qd, y, hw, hQ⟩ => ?_
  refine le_run y hw fun d1 s1 v1 H1 q1 y1 r1 f1 => ?_
  obtain ⟨i, rfl, q⟩ := isI.out q1
  cases r1
  exact ⟨i, rfl, hQ _ _ _ q y1.s f1⟩
abbrev LAx (X : Cx) (P : Prog) (CA : CAt) (C : CallP) (es : Es) : TA := LA X.K CA (wEs P C es)
theorem l_nil : PA X [] (LAx X P CA C .nil) := PA.imp pa_nil fun σ H Q ⟨ρ, s, Qd, y, hw, hQ⟩ => hQ _ _ _ _ hw y.s .nil Fr.refl
theorem l_cons {es : Es} {ps : List Expr} (ha : PE X pa (LEx X P CA C a)) (hr : PA X ps (LAx X P CA C es)) (hs : starEach (pa :: ps) X.env = (false, eval pa X.env) :: starEach ps X.env) : PA X (pa :: ps) (LAx X P CA C (.cons a es)) := by
  refine PA.imp (pa_cons ha hr hs) fun σ H Q ⟨ρ, s, Qd, y, hw, hQ⟩ => ?_
  refine le_run y hw fun d1 s1 v1 H1 q1 y1 r1 f1 => la_run y1 q1 fun ds s2 vs H2 q2 y2 r2 f2 => ?_
  exact hQ _ _ _ _ q2 y2.s (.cons (r1.mono (f2.firm y1.s)) r2) (f1.trans f2)
theorem l_tup {es : Es} {ps : List Expr} {kk : Nat} (h : PA X ps (LAx X P CA C es)) : PE X (.Tuple ps kk pos) (LEx X P CA C (.tup es)) := by
  refine PE.imp (pe_tup h) fun σ H Q ⟨ρ, s, Qd, y, hw, hQ⟩ => ?_
  refine la_run y hw fun ds s1 vs H1 q1 y1 r1 f1 => ?_
  exact ⟨by rw [r1.length]; exact q1.1, fun p hp => Hold.newT (Good.hold hQ f1) y1.s hp r1 q1.2⟩
theorem l_lst {es : Es} {ps : List Expr} (h : PA X ps (LAx X P CA C es)) : PE X (.List ps pos) (LEx X P CA C (.lst es)) := by
  refine PE.imp (pe_lst h) fun σ H Q ⟨ρ, s, Qd, y, hw, hQ⟩ => ?_
  refine la_run y hw fun ds s1 vs H1 q1 y1 r1 f1 => ?_
  exact ⟨by rw [r1.length]; exact q1.1, Hold.newO (Good.hold hQ f1) y1.s (.lst r1) q1.2⟩
theorem l_fld (G : Good P T CA FA C k X inB) {f : Str} (ha : PE X pa (LEx X P CA C a)) (hr : recv pa = true) : PE X (.Attribute pa f pos) (LEx X P CA C (.fld a f)) := by
  refine PE.imp (pe_fld ha (base_ok hr)) fun σ H Q ⟨ρ, s, Qd, y, hw, hQ⟩ => ?_
  refine le_run y hw fun d1 s1 v1 H1 q1 y1 r1 f1 => ?_
  obtain ⟨p, c, fs, rfl, e1, hf, q1⟩ := withI.out q1
  obtain ⟨d, e2, q⟩ := got.out q1
  obtain ⟨dx, vs, h1, h2⟩ := y1.s.getI e1
  obtain ⟨v, h3, h4⟩ := h2.get e2
  cases r1
  obtain ⟨g1, g2⟩ := G.mods.flds c f hf
  exact ⟨p, CA c, dx, vs, v, rfl, h1, g1, g2, h3, hQ _ _ _ _ q y1.s h4 f1⟩

/-! calls -/
theorem l_call (G : Good P T CA FA C k X inB) {N : List Str} {sc : Scope} {f : Nat} {x : Str} {es : Es} {ps : List Expr} {p : Pos} (hf : (f, x) ∈ T.fns) (hg : Gl X x) (hd : (x == ("__debug__" : Str)) = false) (h : PA X ps (LAx X P CA C es)) (hc : ckEs T N sc inB es ps = true) :
    PE X (.Call (.Name x p) ps [] pos) (LEx X P CA C (.call f es)) := by
  obtain ⟨mx, kp⟩ := G.mods.fns f x hf
  refine ⟨fun pins s σ H Q I ⟨ρ, st, Qd, y, hw, hQ⟩ => ?_⟩
  have fin : ∀ (s1 : Shared) (us : List Value), AP X pins σ (fun vs H1 => LC X.K CA (C f) vs H1 Q E0) us s1 → wpAny (model X.prog X.w) X.A (call (.ref (FA f)) us) (EP X pins σ Q) X.xe s1 := fun s1 us ⟨vs, H1, I1, r, q⟩ => run_own (G.calls f) G.room.rc I1 r q
  have args : LAx X P CA C es σ H (fun vs H1 => LC X.K CA (C f) vs H1 Q E0) := la_run y hw fun ds s1 vs H1 q1 y1 r1 f1 => ⟨ds, s1, Qd, r1, y1.s, q1, Good.hold hQ f1⟩
  refine wpAny_Call_Name_kw (ld_glob I hg mx ?_ hd)
  cases ps with
  | nil => exact PySem.W.callWith_K0 I.kIn kp (fin s [] (by
      cases es with
      | nil => exact ⟨[], H, I, .nil, ⟨[], st, Qd, .nil, y.s, hw, hQ⟩⟩
      | cons _ _ => simp [ckEs] at hc))
  | cons e ps =>
    cases es with
    | nil => simp [ckEs] at hc
    | cons e' es =>
      have hc' := hc
      unfold ckEs at hc'
      rw [Bool.and_eq_true] at hc'
      exact PySem.W.callWith_K (h₀ := X.base) I.ok.mod.kin kp (thn (h.run pos pins s σ H _ I args) fun us s1 hq => ⟨(let ⟨_, _, I1, _⟩ := hq; I1.kIn), fin s1 us hq⟩) (ck_nostar hc'.1 ps X.env) ((ck_nostars hc'.2 pos X.env).1)
theorem l_mk (G : Good P T CA FA C k X inB) {N : List Str} {sc : Scope} {c : Nat} {x : Str} {es : Es} {ps : List Expr} {p : Pos} (hf : (c, x) ∈ T.clss) (hg : Gl X x) (hd : (x == ("__debug__" : Str)) = false) (h : PA X ps (LAx X P CA C es)) (hc : ckEs T N sc inB es ps = true) :
    PE X (.Call (.Name x p) ps [] pos) (LEx X P CA C (.mk c es)) := by
  obtain ⟨mx, f, ef, mk⟩ := G.mods.clss c x hf
  refine ⟨fun pins s σ H Q I ⟨ρ, st, Qd, y, hw, hQ⟩ => ?_⟩
  have made : ∀ {ds : List D} {s1 : S} {vs : List V} {H1 : Hp} {f : Nat}, (∀ p, s1 p = none → C f (.ref p :: ds) (put s1 p (.ins c [])) fun d s2 => isNon d = true ∧ Qd (.ref p) s2) → RelS X.K CA H1 s1 → RepAll X.K H1 vs ds → Fr st H s1 H1 →
      ∀ q dx, H1 q = none → H1 dx = none → dx ≠ q → LC X.K CA (C f) (.ref q :: vs) (upd (upd H1 dx (.own q)) q (.ins (CA c) dx [])) (fun v H2 => v = .non ∧ Q (.ref q) H2) E0 := fun {ds s1 vs H1 f} q1 hs r1 f1 q dx nq nd hne => by
    have nq2 : upd H1 dx (.own q) q = none := by rw [upd_ne (Ne.symm hne)]; exact nq
    have F1 : Fr s1 H1 s1 (upd H1 dx (.own q)) := Fr.newT nd
    have F2 : Fr s1 (upd H1 dx (.own q)) (put s1 q (.ins c [])) (upd (upd H1 dx (.own q)) q (.ins (CA c) dx [])) := Fr.newO nq2
    have hs2 : RelS X.K CA (upd H1 dx (.own q)) s1 := hs.newH nd
    refine ⟨_, _, _, .cons (.ref q) ((r1.mono (F1.firm hs)).mono (F2.firm hs2)), hs2.putO (Soft.none nq2) (.ins .nil), q1 q (hs.free nq), fun d s' v H' ⟨e, qq⟩ hs' r g => ?_⟩
    rw [isNon_rep r] at e
    exact ⟨of_decide_eq_true e, hQ _ _ _ _ qq hs' (.ref q) (f1.trans (F1.trans (F2.trans g)))⟩
  have go : ∀ (s1 : Shared) (us : List Value), AP X pins σ (fun vs H1 => ∀ q dx, H1 q = none → H1 dx = none → dx ≠ q → LC X.K CA (C f) (.ref q :: vs) (upd (upd H1 dx (.own q)) q (.ins (CA c) dx [])) (fun v H2 => v = .non ∧ Q (.ref q) H2) E0) us s1 →
      wpAny (model X.prog X.w) X.A (call (.ref (CA c)) us) (EP X pins σ Q) X.xe s1 := fun s1 us ⟨vs, H1, I1, r, q⟩ => run_mk mk (G.calls f) G.room I1 r q
  have args : LAx X P CA C es σ H (fun vs H1 => ∀ q dx, H1 q = none → H1 dx = none → dx ≠ q → LC X.K CA (C f) (.ref q :: vs) (upd (upd H1 dx (.own q)) q (.ins (CA c) dx [])) (fun v H2 => v = .non ∧ Q (.ref q) H2) E0) :=
    la_run y hw fun ds s1 vs H1 q1 y1 r1 f1 => by rw [ef] at q1; exact made q1 y1.s r1 f1
  refine wpAny_Call_Name_kw (ld_glob I hg mx ?_ hd)
  cases ps with
  | nil =>
    cases es with
    | nil =>
      have q : got (P.init c) _ := hw
      rw [ef] at q
      exact PySem.W.callWith_K0 I.kIn mk.kp (go s [] ⟨[], H, I, .nil, made q y.s .nil Fr.refl⟩)
    | cons _ _ => simp [ckEs] at hc
  | cons e ps =>
    cases es with
    | nil => simp [ckEs] at hc
    | cons e' es =>
      have hc' := hc
      unfold ckEs at hc'
      rw [Bool.and_eq_true] at hc'
      exact PySem.W.callWith_K (h₀ := X.base) I.ok.mod.kin mk.kp (thn (h.run pos pins s σ H _ I args) fun us s1 hq => ⟨(let ⟨_, _, I1, _⟩ := hq; I1.kIn), go s1 us hq⟩) (ck_nostar hc'.1 ps X.env) ((ck_nostars hc'.2 pos X.env).1)
theorem l_meth (G : Good P T CA FA C k X inB) {N : List Str} {sc : Scope} {c f : Nat} {m : Str} {es : Es} {ps : List Expr} {ap : Pos} (hf : (c, m, f) ∈ T.mths) (ha : PE X pa (LEx X P CA C a)) (h : PA X ps (LAx X P CA C es)) (hc : ckEs T N sc inB es ps = true)
    (hr : recv pa = true) (hl : (ap.endLine == pos.line) = true) (hn : ps.length < 20) : PE X (.Call (.Attribute pa m ap) ps [] pos) (LEx X P CA C (.meth c m f a es)) := by
  obtain ⟨cl, mt⟩ := G.mods.mths c m f hf
  refine ⟨fun pins s σ H Q I ⟨ρ, st, Qd, y, hw, hQ⟩ => ?_⟩
  refine meth_tree (base_ok hr) (form_ok hc hn pos X.env) hl ?_
  have recvd : LEx X P CA C a σ H (fun x H1 => ∃ p dx fs, x = .ref p ∧ H1 p = some (.ins (CA c) dx fs) ∧ fs.lookup m = none ∧ LAx X P CA C es σ H1 fun vs H2 => LC X.K CA (C f) (.ref p :: vs) H2 Q E0) := by
    refine le_run y hw fun d1 s1 v1 H1 q1 y1 r1 f1 => ?_
    obtain ⟨p, c', fs, rfl, e1, rfl, e2, q1⟩ := withI.out q1
    obtain ⟨dx, vs, h1, h2⟩ := y1.s.getI e1
    cases r1
    refine ⟨p, dx, vs, rfl, h1, h2.getN e2, la_run y1 q1 fun ds s2 ws H2 q2 y2 r2 f2 => ⟨_, s2, Qd, .cons (.ref p) r2, y2.s, q2, Good.hold hQ (f1.trans f2)⟩⟩
  refine thn (ha.run pins s σ H _ I recvd) fun u s1 ⟨x, H1, I1, rx, p, dx, fs, ex, ea, l, q⟩ => ?_
  subst ex
  obtain rfl : u = Value.ref p := rx
  refine getmeth_ok I1 ea cl mt l ?_
  have fin : ∀ (s2 : Shared) (us : List Value), AP X pins σ (fun vs H2 => LC X.K CA (C f) (.ref p :: vs) H2 Q E0) us s2 → wpAny (model X.prog X.w) X.A (call (.ref (FA f)) (.ref p :: us)) (EP X pins σ Q) X.xe s2 := fun s2 us ⟨vs, H2, I2, r, q⟩ =>
    run_own (G.calls f) G.room.rc I2 (.cons (show RelV (.ref p) (Value.ref p) from rfl) r) q
  cases ps with
  | nil =>
    cases es with
    | nil =>
      obtain ⟨ρ', s', Qd', y', hw', hQ'⟩ := q
      exact PySem.W.callWith_K0 (first := [.ref p]) I1.kIn mt.kp (fin s1 [] ⟨[], H1, I1, .nil, hQ' _ _ _ _ hw' y'.s .nil Fr.refl⟩)
    | cons _ _ => simp [ckEs] at hc
  | cons e ps =>
    cases es with
    | nil => simp [ckEs] at hc
    | cons e' es =>
      have hc' := hc
      unfold ckEs at hc'
      rw [Bool.and_eq_true] at hc'
      exact PySem.W.callWith_K (first := [.ref p]) (h₀ := X.base) I.ok.mod.kin mt.kp (thn (h.run pos pins s1 σ H1 _ I1 q) fun us s2 hq => ⟨(let ⟨_, _, I2, _⟩ := hq; I2.kIn), fin s2 us hq⟩) (ck_nostar hc'.1 ps X.env) ((ck_nostars hc'.2 pos X.env).1)
/-! built-in functions and methods -/
theorem bi_mem (b : BI) : (biName b : Str) ∈ bltns := by cases b <;> simp [biName, bltns]
theorem l_bi (G : Good P T CA FA C k X inB) {N : List Str} {sc : Scope} {b : BI} {es : Es} {ps : List Expr} {p : Pos} (hg : Gl X (biName b : Str)) (h : PA X ps (LAx X P CA C es)) (hc : ckEs T N sc inB es ps = true) (hne : ps ≠ []) :
    PE X (.Call (.Name (biName b : Str) p) ps [] pos) (LEx X P CA C (.bi b es)) := by
  have hm := G.bl (bi_mem b)
  cases ps with
  | nil => exact absurd rfl hne
  | cons e ps =>
    cases es with
    | nil => simp [ckEs] at hc
    | cons e' es =>
      have hc' := hc
      unfold ckEs at hc'
      rw [Bool.and_eq_true] at hc'
      have n1 := ck_nostar hc'.1 ps X.env
      have n2 := (ck_nostars hc'.2 pos X.env).1
      have fin : ∀ σ H Q, LEx X P CA C (.bi b (.cons e' es)) σ H Q → tCB (rBI X.K b) (LAx X P CA C (.cons e' es)) σ H Q := fun σ H Q ⟨ρ, s, Qd, y, hw, hQ⟩ =>
        la_run y hw fun ds s1 vs H1 q1 y1 r1 f1 => bi_ok y1.s r1 q1 (Good.hold hQ f1)
      cases b with
      | len => exact PE.imp (pe_callB (call_bi G.calm .len) hg hm PySem.boot_len h (by decide) (by decide) n1 n2) fin
      | max => exact PE.imp (pe_callB (call_bi G.calm .max) hg hm (by decide +kernel) h (by decide) (by decide) n1 n2) fin
      | min => exact PE.imp (pe_callB (call_bi G.calm .min) hg hm (by decide +kernel) h (by decide) (by decide) n1 n2) fin
      | int => exact PE.imp (pe_callTy (call_bi G.calm .int) hg hm (by decide +kernel) h (by decide) (by decide) n1 n2) fin
      | str => exact PE.imp (pe_callTy (call_bi G.calm .str) hg hm (by decide +kernel) h (by decide) (by decide) n1 n2) fin
      | tuple => exact PE.imp (pe_callTy (call_bi G.calm .tuple) hg hm (by decide +kernel) h (by decide) (by decide) n1 n2) fin
      | list => exact PE.imp (pe_callTy (call_bi G.calm .list) hg hm (by decide +kernel) h (by decide) (by decide) n1 n2) fin
theorem l_bm {N : List Str} {sc : Scope} {m : BM} {es : Es} {ps : List Expr} {ap : Pos} (ha : PE X pa (LEx X P CA C a)) (h : PA X ps (LAx X P CA C es)) (hc : ckEs T N sc inB es ps = true) (hr : recv pa = true) (hl : (ap.endLine == pos.line) = true) (hn : ps.length < 20) (har : bmAr m ps.length = true) :
    PE X (.Call (.Attribute pa (bmN m : Str) ap) ps [] pos) (LEx X P CA C (.bm m a es)) := by
  have hb := base_ok (m := (bmN m : Str)) (env := X.env) hr
  have hf := form_ok hc hn pos X.env
  have fin : ∀ σ H Q, LEx X P CA C (.bm m a es) σ H Q → tBM X.K (bmT m) (rBM X.K m) (LEx X P CA C a) (LAx X P CA C es) σ H Q := fun σ H Q ⟨ρ, s, Qd, y, hw, hQ⟩ => by
    refine le_run y hw fun d1 s1 v1 H1 q1 y1 r1 f1 => ⟨bmTy_ok y1.s r1 q1.1, la_run y1 q1.2 fun ds s2 vs H2 q2 y2 r2 f2 => bm_ok y2.s (r1.mono (f2.firm y1.s)) r2 q2 (Good.hold hQ (f1.trans f2))⟩
  cases ps with
  | nil =>
    cases es with
    | cons _ _ => simp [ckEs] at hc
    | nil =>
      have fin0 : ∀ σ H Q, LEx X P CA C (.bm m a .nil) σ H Q → tBM0 X.K (bmT m) (rBM X.K m) (LEx X P CA C a) σ H Q := fun σ H Q ⟨ρ, s, Qd, y, hw, hQ⟩ =>
        le_run y hw fun d1 s1 v1 H1 q1 y1 r1 f1 => ⟨bmTy_ok y1.s r1 q1.1, bm_ok (vs := []) y1.s r1 .nil q1.2 (Good.hold hQ f1)⟩
      cases m with
      | pop => exact PE.imp (pe_bm0 PySem.F.plainAttrs_list PySem.F.slot_list_pop PySem.F.type_list_pop mt_pop ha hb hl) fin0
      | _ => exact absurd (show false = true from har) Bool.false_ne_true
  | cons e ps =>
    cases es with
    | nil => simp [ckEs] at hc
    | cons e' es =>
      have hc' := hc
      unfold ckEs at hc'
      rw [Bool.and_eq_true] at hc'
      have n1 := ck_nostar hc'.1 ps X.env
      have n2 := (ck_nostars hc'.2 pos X.env).1
      cases m with
      | append => exact PE.imp (pe_bm PySem.F.plainAttrs_list PySem.F.slot_list_append PySem.F.type_list_append mt_append ha h hb hf hl n1 n2) fin
      | extend => exact PE.imp (pe_bm PySem.F.plainAttrs_list PySem.F.slot_list_extend PySem.F.type_list_extend mt_extend ha h hb hf hl n1 n2) fin
      | join => exact PE.imp (pe_bm PySem.F.plainAttrs_str PySem.F.slot_str_join PySem.F.type_str_join mt_join ha h hb hf hl n1 n2) fin
      | split => exact PE.imp (pe_bm PySem.F.plainAttrs_str PySem.F.slot_str_split PySem.F.type_str_split mt_split ha h hb hf hl n1 n2) fin
      | pop => exact absurd (show false = true from har) Bool.false_ne_true
      | popAt => exact absurd (show false = true from har) Bool.false_ne_true
      | get2 => exact absurd (show false = true from har) Bool.false_ne_true
theorem paired_ty : ∀ ts : List String, Paired ClsV (ts.map V.ty) (ts.map Value.type)
  | [] => .nil
  | t :: ts => .cons (.ty t) (paired_ty ts)
theorem pe_ty {t : String} {p : Pos} (hg : Gl X (t : Str)) (ht : tyOk t = true) (G : Good P T CA FA C k X inB) : PE X (.Name (t : Str) p) (tC (.ty t)) := by
  have hm : t = "int" ∨ t = "bool" ∨ t = "str" ∨ t = "tuple" ∨ t = "list" := by simpa [tyOk] using ht
  rcases hm with rfl | rfl | rfl | rfl | rfl
  · exact pe_bltn hg (G.bl (by simp [bltns])) (by decide +kernel) rfl
  · exact pe_bltn hg (G.bl (by simp [bltns])) (by decide +kernel) rfl
  · exact pe_bltn hg (G.bl (by simp [bltns])) (by decide +kernel) rfl
  · exact pe_bltn hg (G.bl (by simp [bltns])) (by decide +kernel) rfl
  · exact pe_bltn hg (G.bl (by simp [bltns])) (by decide +kernel) rfl
def tTys : List String → TA
  | [] => tNil
  | t :: ts => tCons (tC (.ty t)) (tTys ts)
theorem pa_tys (G : Good P T CA FA C k X inB) : ∀ {ts : List String} {us : List Expr}, ckTsT ts us X.env.scope = true → PA X us (tTys ts) ∧ ts.all tyOk = true
  | [], [], _ => ⟨pa_nil, rfl⟩
  | t :: ts, u :: us, h => by
    unfold ckTsT at h
    rw [Bool.and_eq_true] at h
    obtain ⟨r1, r2⟩ := pa_tys G h.2
    have h1 := h.1
    unfold ckTs at h1
    split at h1
    · rename_i x p sc e1
      cases e1
      simp only [Bool.and_eq_true, beq_iff_eq] at h1
      obtain ⟨⟨rfl, h3⟩, h4⟩ := h1
      exact ⟨pa_cons (pe_ty (gl_of h4) h3 G) r1 rfl, by rw [List.all_cons, h3, r2]; rfl⟩
    · cases h1
  | [], _ :: _, h => by cases h
  | _ :: _, [], h => by cases h
theorem tTys_ok {σ : L2.St} {H : Hp} : ∀ {ts : List String} {Q : List V → Hp → Prop}, Q (ts.map V.ty) H → tTys ts σ H Q
  | [], _, q => q
  | t :: ts, Q, q => tTys_ok (ts := ts) q
theorem l_isi1 (G : Good P T CA FA C k X inB) {t : String} {p p2 : Pos} (hg : Gl X "isinstance") (ha : PE X pa (LEx X P CA C a)) (hs : ∀ (es : List Expr), starEach (pa :: es) X.env = (false, eval pa X.env) :: starEach es X.env) (hg2 : Gl X (t : Str)) (ht : tyOk t = true) :
    PE X (.Call (.Name "isinstance" p) [pa, .Name (t : Str) p2] [] pos) (LEx X P CA C (.isi a [t])) := by
  refine PE.imp (pe_callB call_isi hg (G.bl (by simp [bltns])) (by decide +kernel) (pa_cons ha (pa_cons (pe_ty hg2 ht G) pa_nil rfl) (hs _)) (by decide) (by decide) (hs _) rfl) fun σ H Q ⟨ρ, s, Qd, y, hw, hQ⟩ => ?_
  refine le_run y hw fun d1 s1 v1 H1 q1 y1 r1 f1 => ?_
  obtain ⟨u, e1, q⟩ := got.out q1
  obtain ⟨t1, t2⟩ := ty_ok y1.s r1 e1
  rw [List.any_cons, List.any_nil, Bool.or_false] at q
  exact ⟨v1, .ty t, .type u, .type t, _, rfl, .ty t, t1, kit_one t2 ht, hQ _ _ _ _ q y1.s (.bl _) f1⟩
theorem l_isiT (G : Good P T CA FA C k X inB) {ts : List String} {us : List Expr} {p p2 : Pos} {kk : Nat} (hg : Gl X "isinstance") (ha : PE X pa (LEx X P CA C a)) (hs : ∀ (es : List Expr), starEach (pa :: es) X.env = (false, eval pa X.env) :: starEach es X.env) (ht : ckTsT ts us X.env.scope = true) (h5 : ts.length ≤ 5) :
    PE X (.Call (.Name "isinstance" p) [pa, .Tuple us kk p2] [] pos) (LEx X P CA C (.isi a ts)) := by
  obtain ⟨r1, r2⟩ := pa_tys G ht
  refine PE.imp (pe_callB call_isiT hg (G.bl (by simp [bltns])) (by decide +kernel) (pa_cons ha (pa_cons (pe_tup r1) pa_nil rfl) (hs _)) (by decide) (by decide) (hs _) rfl) fun σ H Q ⟨ρ, s, Qd, y, hw, hQ⟩ => ?_
  refine le_run y hw fun d1 s1 v1 H1 q1 y1 r1 f1 => ?_
  obtain ⟨u, e1, q⟩ := got.out q1
  refine tTys_ok ⟨?_, fun q' hq' => ?_⟩
  · rw [List.length_map]
    exact Nat.le_of_lt (small1000 (Nat.le_trans h5 (by decide)))
  · obtain ⟨t1, t2⟩ := ty_ok (y1.s.newH (u := .tup (ts.map V.ty)) hq') (r1.mono (Firm.updS (Soft.none hq'))) e1
    exact ⟨v1, q', ts.map V.ty, .type u, ts.map Value.type, _, rfl, upd_same, paired_ty ts, t1, kit_any t2 r2, hQ _ _ _ _ q (y1.s.newH hq') (.bl _) (f1.trans (Fr.newT hq'))⟩
theorem rng_rep {H : Hp} (lo : Int) (n : Nat) : RepAll K H ((List.range n).map fun i => V.int (lo + (i : Nat))) (rng lo n) := by
  unfold rng
  induction List.range n with
  | nil => exact .nil
  | cons x r ih => exact .cons (.int _) ih
theorem l_lrng (G : Good P T CA FA C k X inB) {p p2 p3 : Pos} (hg1 : Gl X "list") (hg2 : Gl X "range") (ha : PE X pa (LEx X P CA C a)) (hb : PE X pb (LEx X P CA C b)) (hs : ∀ (es : List Expr), starEach (pa :: es) X.env = (false, eval pa X.env) :: starEach es X.env)
    (hs2 : ∀ (es : List Expr), starEach (pb :: es) X.env = (false, eval pb X.env) :: starEach es X.env) : PE X (.Call (.Name "list" p) [.Call (.Name "range" p2) [pa, pb] [] p3] [] pos) (LEx X P CA C (.lrng a b)) := by
  refine PE.imp (pe_listRg G.calm hg1 (G.bl (by simp [bltns])) (prg_2 hg2 (G.bl (by simp [bltns])) ha hb (hs _) (hs2 _) (by rw [hs2]; rfl)) rfl) fun σ H Q ⟨ρ, s, Qd, y, hw, hQ⟩ => ?_
  refine le_run y hw fun d1 s1 v1 H1 q1 y1 r1 f1 => le_run y1 q1 fun d2 s2 v2 H2 q2 y2 r2 f2 => ?_
  obtain ⟨i, rfl, q3⟩ := isI.out q2
  obtain ⟨j, rfl, b1, b2, b3, q⟩ := isI.out q3
  cases r1; cases r2
  refine ⟨i, j, rfl, rfl, ⟨b1.1, b1.2, b2.1, b2.2, b3⟩, Hold.newO (Good.hold hQ (f1.trans f2)) y2.s (.lst (rng_rep i _)) q⟩

/-! displays of dicts -/
theorem KRel.fold : ∀ {vs : List (Key × V)} {ds : List (Key × D)} {va : List (Key × V)} {da : List (Key × D)} {H : Hp}, KRel K H vs ds → KRel K H va da → KRel K H (mergeK va vs) (ds.foldl (fun acc kv => putD acc kv.1 kv.2) da)
  | _, _, va, da, H, .nil, g => g
  | _, _, va, da, H, .cons (f := j) r b, g => by
    have h := KRel.fold b (putD_rep (k := j) g r)
    exact h
structure PairsOk (X : Cx) (P : Prog) (CA : CAt) (C : CallP) (pos : Pos) (ks : Ks) (keys : List (Option Expr)) (vals : List Expr) : Prop where
  ex : ∃ trs, PPs X pos keys vals trs ∧ ∀ (σ : L2.St) (ρ : LS) (s : S) (H : Hp) (kk : List (Key × D) → S → Prop) (R : List (V × V) → Hp → Prop), Sy X.K CA σ ρ s H → wKs P C ks ρ s kk →
    (∀ kvs s' H' vs, kk kvs s' → Sy X.K CA σ ρ s' H' → KRel X.K H' vs kvs → Fr s H s' H' → R (vs.map fun kv => (kV kv.1, kv.2)) H') → tPairs trs σ H R
  some : keys.all (·.isSome) = true
theorem pairs_nil : PairsOk X P CA C pos .nil [] [] := ⟨⟨[], pps_nil, fun σ ρ s H kk R y hw h => h _ _ _ [] hw y .nil Fr.refl⟩, rfl⟩
theorem pairs_cons {ks : Ks} {keys : List (Option Expr)} {vals : List Expr} {x : Str} {j : Nat} {p : Pos} (ha : PE X pa (LEx X P CA C a)) (h : PairsOk X P CA C pos ks keys vals) : PairsOk X P CA C pos (.cons x a ks) (some (.Constant (.str x) j p) :: keys) (pa :: vals) := by
  obtain ⟨trs, h1, h2⟩ := h.ex
  refine ⟨⟨(tC (.str x), LEx X P CA C a) :: trs, pps_cons pe_str ha h1, fun σ ρ s H kk R y hw hh => ?_⟩, by rw [List.all_cons, h.some]; rfl⟩
  refine le_run y hw fun d1 s1 v1 H1 q1 y1 r1 f1 => h2 σ ρ s1 H1 _ _ y1 q1 fun kvs s2 H2 vs q2 y2 r2 f2 => ?_
  exact hh _ s2 H2 ((.inr x, v1) :: vs) q2 y2 (.cons (r1.mono (f2.firm y1.s)) r2) (f1.trans f2)
theorem l_dct {ks : Ks} {keys : List (Option Expr)} {vals : List Expr} (h : PairsOk X P CA C pos ks keys vals) (h0 : keys ≠ []) (h15 : keys.length ≤ 15) (hl : keys.length = vals.length) : PE X (.Dict keys vals pos) (LEx X P CA C (.dct ks)) := by
  obtain ⟨trs, h1, h2⟩ := h.ex
  refine PE.imp (pe_disp h1 h.some hl h0 h15) fun σ H Q ⟨ρ, s, Qd, y, hw, hQ⟩ p hp => ?_
  have F1 : Fr s H s (upd H p (.dK [])) := Fr.newT hp
  have y1 : Sy X.K CA σ ρ s (upd H p (.dK [])) := y.step F1 (y.s.newH hp)
  refine h2 σ ρ s _ _ _ y1 hw fun kvs s' H' vs q y' r f => ?_
  obtain ⟨e1, e2⟩ := f p _ upd_same (y.s.free hp)
  have so : Soft H' p := ⟨fun xs z => (by rw [e1] at z; cases z), fun o u z => (by rw [e1] at z; cases z)⟩
  have F2 : Fr s H (put s' p (.dct (kvs.foldl (fun acc kv => putD acc kv.1 kv.2) []))) (upd H' p (.dK (mergeK [] vs))) := fun b o hb hs => by
    have hne : b ≠ p := ne_of_none hb hp
    obtain ⟨z1, z2⟩ := f b o (by rw [upd_ne hne]; exact hb) hs
    exact ⟨by rw [upd_ne hne]; exact z1, by rw [put_ne hne]; exact z2⟩
  refine ⟨e1, vs, rfl, by rw [r.length]; exact q.1, hQ _ _ _ _ (q.2 p e2) (y'.s.putO so (.dct (KRel.fold r .nil))) (.ref p) F2⟩

/-! what is walked -/
structure Walks (K : PySem.W.Frag) (CA : CAt) (J : L2.It) (items : List D) (chk : S → Prop) (s0 : S) (H0 : Hp) : Prop where
  go : ∀ i s H, RelS K CA H s → Fr s0 H0 s H → chk s → i < items.length → J.go i H
  yld : ∀ i s H x H', RelS K CA H s → Fr s0 H0 s H → chk s → i < items.length → J.yld i H x H' → ∃ d, items[i]? = some d ∧ Rep K H' x d ∧ RelS K CA H' s ∧ Fr s H s H'
  stop : ∀ s H, RelS K CA H s → Fr s0 H0 s H → chk s → J.stop items.length H
def LI (K : PySem.W.Frag) (CA : CAt) (w : LS → S → QI → Prop) : TI := fun σ H R => ∃ ρ s Qi, Sy K CA σ ρ s H ∧ w ρ s Qi ∧ ∀ items chk s' H' J, Qi items chk s' → RelS K CA H' s' → Fr s H s' H' → Walks K CA J items chk s' H' → R J H'
abbrev LIx (X : Cx) (P : Prog) (CA : CAt) (C : CallP) (it : It) : TI := LI X.K CA (wIt P C it)
theorem PI.imp {tg pe : Expr} {t t' : TI} (h : PI X tg pe t) (f : ∀ σ H R, t' σ H R → t σ H R) : PI X tg pe t' := ⟨fun pins s σ H R I q => h.run pins s σ H R I (f σ H R q)⟩
/-- a list, a tuple, a text: what its value says -/
def iAny (K : PySem.W.Frag) (te : TE) : TI := fun σ H R => te σ H fun x H1 => (∃ a, x = .ref a ∧ (∃ xs, SqL K H1 a xs) ∧ R (Itl K a) H1) ∨ (∃ a, x = .ref a ∧ (∃ xs, SqT K H1 a xs) ∧ R (Itt K a) H1) ∨ ∃ z, x = .str z ∧ R (Its z) H1
theorem pi_any {tg pe : Expr} {te : TE} (he : PE X pe te) : PI X tg pe (iAny X.K te) := by
  refine ⟨fun pins s σ H R I h => ?_⟩
  refine thn (he.run pins s σ H _ I h) fun v s1 ⟨x, H1, I1, r1, q⟩ => ?_
  have alone : ∀ b ∈ [s1.heap.objs.size], FpOk X pins H1 b := fun b hb => by
    have e : b = s1.heap.objs.size := by simpa using hb
    subst e
    exact I1.fpOk (Nat.le_refl _) (I1.hok.fresh (Nat.le_refl _))
  rcases q with ⟨p, rfl, ⟨xs, hq⟩, q⟩ | ⟨p, rfl, ⟨xs, hq⟩, q⟩ | ⟨z, rfl, q⟩
  · cases r1
    obtain ⟨its, rv, pl, _⟩ := I1.list hq
    refine wpAny_pyIter_list pl.isList ?_
    exact ⟨_, _, _, _, H1, rfl, I1.kept (t' := s1.toks) fun b o e => Heap.get?_push_of_some _ e, turn_list p _, ⟨_, Heap.get?_push_size _ rfl, rfl, rfl⟩, alone, q⟩
  · cases r1
    obtain ⟨its, rv, pl, _⟩ := I1.tuple hq
    refine wpAny_pyIter_tuple (show s1.heap.IsTuple p its.toArray from pl) ?_
    exact ⟨_, _, _, _, H1, rfl, I1.kept (t' := s1.toks) fun b o e => Heap.get?_push_of_some _ e, turn_tuple p _, ⟨_, Heap.get?_push_size _ rfl, rfl, rfl⟩, alone, q⟩
  · obtain ⟨t, rfl⟩ := r1
    cases ha : z.cps.all (· < 128)
    · exact wpAny_pyIter_wide ha (pi_one (tk := s1.toks) I1 _ (turn_str _ z t "str_iterator" (.inr rfl)) ⟨_, Heap.get?_push_size _ rfl, rfl, rfl⟩ q)
    · exact wpAny_pyIter_ascii ha (pi_one (tk := s1.toks) I1 _ (turn_str _ z t "str_ascii_iterator" (.inl rfl)) ⟨_, Heap.get?_push_size _ rfl, rfl, rfl⟩ q)
theorem get_some {α : Type} {l : List α} {i : Nat} (h : i < l.length) : ∃ x, l[i]? = some x := ⟨l[i], List.getElem?_eq_getElem h⟩
/-- a list whose place the turns leave as it is -/
theorem walks_l {p : Addr} {items : List D} {chk : S → Prop} {s0 : S} {H0 : Hp} (h : ∀ s H, RelS K CA H s → Fr s0 H0 s H → chk s → ∃ vs, SqL K H p vs ∧ RepAll K H vs items)
    (one : ∀ s H vs ws, RelS K CA H s → Fr s0 H0 s H → chk s → SqL K H p vs → SqL K H p ws → True) : Walks K CA (Itl K p) items chk s0 H0 where
  go := fun i s H hs f c hi => by
    obtain ⟨vs, h1, h2⟩ := h s H hs f c
    obtain ⟨x, e⟩ := get_some (l := vs) (i := i) (by rw [h2.length]; exact hi)
    exact ⟨vs, x, h1, e⟩
  yld := fun i s H x H' hs f c hi hy => by
    obtain ⟨rfl, hy⟩ := hy
    obtain ⟨vs, h1, h2⟩ := h s _ hs f c
    obtain ⟨d, e1, e2⟩ := h2.get' (hy vs h1)
    exact ⟨d, e1, e2, hs, Fr.refl⟩
  stop := fun s H hs f c => by
    obtain ⟨vs, h1, h2⟩ := h s H hs f c
    exact ⟨vs, h1, by rw [h2.length]; exact Nat.le_refl _⟩
theorem walks_t {p : Addr} {items : List D} {chk : S → Prop} {s0 : S} {H0 : Hp} (h : ∀ s H, RelS K CA H s → Fr s0 H0 s H → chk s → ∃ vs, SqT K H p vs ∧ RepAll K H vs items) : Walks K CA (Itt K p) items chk s0 H0 where
  go := fun i s H hs f c hi => by
    obtain ⟨vs, h1, h2⟩ := h s H hs f c
    obtain ⟨x, e⟩ := get_some (l := vs) (i := i) (by rw [h2.length]; exact hi)
    exact ⟨vs, x, h1, e⟩
  yld := fun i s H x H' hs f c hi hy => by
    obtain ⟨rfl, hy⟩ := hy
    obtain ⟨vs, h1, h2⟩ := h s _ hs f c
    obtain ⟨d, e1, e2⟩ := h2.get' (hy vs h1)
    exact ⟨d, e1, e2, hs, Fr.refl⟩
  stop := fun s H hs f c => by
    obtain ⟨vs, h1, h2⟩ := h s H hs f c
    exact ⟨vs, h1, by rw [h2.length]; exact Nat.le_refl _⟩
theorem walks_s {z : Str} {chk : S → Prop} {s0 : S} {H0 : Hp} : Walks K CA (Its z) (z.cps.toList.map fun c => .str ⟨#[c]⟩) chk s0 H0 where
  go := fun i s H hs f c hi => by
    show i < z.cps.size
    simpa using hi
  yld := fun i s H x H' hs f c hi hy => by
    obtain ⟨rfl, k, e, rfl⟩ := hy
    refine ⟨_, by rw [List.getElem?_map, Array.getElem?_toList, e]; rfl, .str _, hs, Fr.refl⟩
  stop := fun s H hs f c => by simp [Its]
theorem walks_r {lo : Int} {n : Nat} {chk : S → Prop} {s0 : S} {H0 : Hp} : Walks K CA (Itr lo n) (rng lo n) chk s0 H0 where
  go := fun i s H hs f c hi => by simpa [rng, Itr] using hi
  yld := fun i s H x H' hs f c hi hy => by
    obtain ⟨rfl, rfl⟩ := hy
    have hi' : i < n := by simpa [rng] using hi
    exact ⟨.int (lo + i), by unfold rng; rw [List.getElem?_map, List.getElem?_range hi']; rfl, .int _, hs, Fr.refl⟩
  stop := fun s H hs f c => by simp [Itr, rng]
theorem l_val {tg : Expr} (ha : PE X pa (LEx X P CA C a)) : PI X tg pa (LIx X P CA C (.val a)) := by
  refine PI.imp (pi_any ha) fun σ H R ⟨ρ, s, Qi, y, hw, hQ⟩ => ?_
  refine le_run y hw fun d1 s1 v1 H1 q1 y1 r1 f1 => ?_
  cases d1 with
  | tup ds => cases r1 with | tup hq hr => exact .inr (.inl ⟨_, rfl, ⟨_, hq⟩, hQ _ _ _ _ _ q1 y1.s f1 (walks_t fun s' H' hs f c => ⟨_, (f.firm y1.s).sqT hq, hr.mono (f.firm y1.s)⟩)⟩)
  | fz ds => cases r1 with | fz hq hr => exact .inl ⟨_, rfl, ⟨_, hq.sq⟩, hQ _ _ _ _ _ q1 y1.s f1 (walks_l (fun s' H' hs f c => ⟨_, ((f.firm y1.s).fzL hq).sq, hr.mono (f.firm y1.s)⟩) (by intros; trivial))⟩
  | str z => cases r1; exact .inr (.inr ⟨z, rfl, hQ _ _ _ _ _ q1 y1.s f1 walks_s⟩)
  | ref p =>
    obtain ⟨ds, e1, q1⟩ := withL.out q1
    cases r1
    obtain ⟨vs, h1, _⟩ := y1.s.get e1
    exact .inl ⟨_, rfl, ⟨_, SqL.of h1⟩, hQ _ _ _ _ _ q1 y1.s f1 (walks_l (fun s' H' hs f c => let ⟨ws, h1, h2⟩ := hs.get c; ⟨ws, SqL.of h1, h2⟩) (by intros; trivial))⟩
  | non => exact q1.elim
  | bl _ => exact q1.elim
  | int _ => exact q1.elim
theorem l_r1 (G : Good P T CA FA C k X inB) {tg : Expr} {p : Pos} (hg : Gl X "range") (ha : PE X pa (LEx X P CA C a)) (hs : ∀ (es : List Expr), starEach (pa :: es) X.env = (false, eval pa X.env) :: starEach es X.env) : PI X tg (.Call (.Name "range" p) [pa] [] pos) (LIx X P CA C (.r1 a)) := by
  refine PI.imp (pi_range1 hg (G.bl (by simp [bltns])) (pa_cons ha pa_nil (hs _)) (hs _)) fun σ H R ⟨ρ, s, Qi, y, hw, hQ⟩ => ?_
  refine le_run y hw fun d1 s1 v1 H1 q1 y1 r1 f1 => ?_
  obtain ⟨j, rfl, b, q⟩ := isI.out q1
  cases r1
  exact ⟨j, rfl, b.1, b.2, hQ _ _ _ _ _ q y1.s f1 walks_r⟩
theorem l_r2 (G : Good P T CA FA C k X inB) {tg : Expr} {p : Pos} (hg : Gl X "range") (ha : PE X pa (LEx X P CA C a)) (hb : PE X pb (LEx X P CA C b)) (hs : ∀ (es : List Expr), starEach (pa :: es) X.env = (false, eval pa X.env) :: starEach es X.env)
    (hs2 : ∀ (es : List Expr), starEach (pb :: es) X.env = (false, eval pb X.env) :: starEach es X.env) : PI X tg (.Call (.Name "range" p) [pa, pb] [] pos) (LIx X P CA C (.r2 a b)) := by
  refine PI.imp (pi_range2 hg (G.bl (by simp [bltns])) (pa_cons ha (pa_cons hb pa_nil (hs2 _)) (hs _)) (by rw [hs, hs2]; rfl) (hs2 _)) fun σ H R ⟨ρ, s, Qi, y, hw, hQ⟩ => ?_
  refine le_run y hw fun d1 s1 v1 H1 q1 y1 r1 f1 => le_run y1 q1 fun d2 s2 v2 H2 q2 y2 r2 f2 => ?_
  obtain ⟨i, rfl, q3⟩ := isI.out q2
  obtain ⟨j, rfl, b1, b2, q⟩ := isI.out q3
  cases r1; cases r2
  exact ⟨i, j, rfl, ⟨b1.1, b1.2, b2.1, b2.2⟩, hQ _ _ _ _ _ q y2.s (f1.trans f2) walks_r⟩

/-! comprehensions -/
theorem wipe_ok {own : List Nat} {N : List Str} : (ownP N own).map (·.2) = own := by
  unfold ownP
  rw [List.map_map]
  exact List.map_id' _
def LCo (K : PySem.W.Frag) (CA : CAt) (w : LS → S → (Bool → S → Prop) → Prop) : TT := LT K CA w
theorem RelS.free_upd {H : Hp} {s : S} {p : Addr} {u : HO} (h : RelS K CA H s) (n : s p = none) (so : Soft H p) : RelS K CA (upd H p u) s := fun a o e => by
  have F : Firm H (upd H p u) := Firm.updS so
  obtain ⟨w, h1, h2⟩ := h a o e
  have hne : a ≠ p := fun z => by rw [z, n] at e; cases e
  exact ⟨w, by rw [upd_ne hne]; exact h1, h2.mono F⟩
theorem RelS.put_at {H : Hp} {s : S} {p : Addr} {u : HO} {o : Ob} (h : RelS K CA H s) (e : H p = some u) (r : RelOb K CA H u o) : RelS K CA H (put s p o) := fun a v q => by
  by_cases c : a = p
  · subst c; rw [put_same] at q; cases q; exact ⟨u, e, r⟩
  · rw [put_ne c] at q; exact h a v q
theorem lc_ok {elt : E} {g : G} {it : It} {cond : O} {own : List Nat} {σ : L2.St} {ρ : LS} {s : S} {H : Hp} {Qd : Q1} {Q : VK} (y : Sy K CA σ ρ s H) (hw : wE P C (.lc elt g it cond own) ρ s Qd) (hown : ckOwn own g = true)
    (hQ : Hold K CA s H Qd Q) : tLc (LI K CA (wIt P C it)) (gG K g) (LT K CA (wCo P C cond)) (LE K CA (wE P C elt)) own σ H Q := by
  refine ⟨ρ, s, _, y, hw, fun items chk s1 H1 J q1 hs1 f1 W => ?_⟩
  intro dd hd
  have y1 : Sy K CA σ ρ s1 H1 := y.step f1 hs1
  let step : D → S → (Option D → S → Prop) → Prop := fun x s2 K => wG g x s2 (wipeD ρ own) fun ρ' s3 => wCo P C cond ρ' s3 fun k s4 => if k = true then wE P C elt ρ' s4 fun y s5 => K (some y) s5 else K none s4
  refine ⟨fun i m H => m = items.length - i ∧ i ≤ items.length ∧ ∃ s vs ds, RelS K CA H s ∧ Fr s1 H1 s H ∧ H dd = some (.lst vs) ∧ s dd = none ∧ RepAll K H vs ds ∧ lcGo chk step (items.drop i) ds s fun acc s2 => new s2 (.lst acc) Qd, ⟨items.length, ?_⟩, ?_⟩
  · refine ⟨by simp, Nat.zero_le _, s1, [], [], hs1.newH hd, Fr.newT hd, upd_same, hs1.free hd, .nil, ?_⟩
    rw [List.drop_zero]
    exact q1
  · rintro i m H' ⟨rfl, hi, s', vs, ds, hs', f', hD, nD, ha, go⟩
    have so : Soft H' dd := ⟨fun xs z => (by rw [hD] at z; cases z), fun o u z => (by rw [hD] at z; cases z)⟩
    by_cases hlt : i < items.length
    · obtain ⟨x, ex⟩ := get_some hlt
      have ed : items.drop i = x :: items.drop (i + 1) := by
        rw [List.drop_eq_getElem_cons hlt]
        rw [List.getElem?_eq_getElem hlt] at ex
        cases ex
        rfl
      rw [ed] at go
      obtain ⟨ck, go⟩ := go
      refine .inr ⟨W.go i s' H' hs' f' ck hlt, fun H2 => i + 1 ≤ items.length ∧ ∃ s vs ds, RelS K CA H2 s ∧ Fr s1 H1 s H2 ∧ H2 dd = some (.lst vs) ∧ s dd = none ∧ RepAll K H2 vs ds ∧ lcGo chk step (items.drop (i + 1)) ds s fun acc s2 => new s2 (.lst acc) Qd,
        fun H2 ⟨h1, h2⟩ => ⟨items.length - (i + 1), by omega, rfl, h1, h2⟩, fun v H2 hy => ?_⟩
      obtain ⟨d, e2, r2, hs2, f2⟩ := W.yld i s' H' v H2 hs' f' ck hlt hy
      rw [ex] at e2; cases e2
      have y2 : Sy K CA (wipe σ own) (wipeD ρ own) s' H2 := ⟨(y1.l.wipe own).mono ((f'.firm hs1).trans (f2.firm hs')), hs2⟩
      refine gG_ok (R := fun σ2 H2 => wipe σ2 own = wipe σ own ∧ _) y2 r2 go fun σ2 ρ2 q2 y3 hw2 => ⟨by rw [hw2 own hown]; exact wipe_idem σ own, ?_⟩
      refine lt_run y3 q2 fun b s3 H3 q3 y4 f3 => ?_
      obtain ⟨d1, d2⟩ := (f2.trans f3) dd _ hD nD
      cases b with
      | false =>
        simp only [Bool.false_eq_true, if_false] at q3 ⊢
        exact ⟨hlt, s3, vs, ds, y4.s, f'.trans (f2.trans f3), d1, d2, ha.mono ((f2.trans f3).firm hs'), q3⟩
      | true =>
        simp only [if_true] at q3 ⊢
        refine le_run y4 q3 fun d5 s5 v5 H5 q5 y5 r5 f5 => ?_
        obtain ⟨e1, e2⟩ := f5 dd _ d1 d2
        have so5 : Soft H5 dd := ⟨fun xs z => (by rw [e1] at z; cases z), fun o u z => (by rw [e1] at z; cases z)⟩
        have ha5 : RepAll K H5 vs ds := ha.mono ((f2.trans (f3.trans f5)).firm hs')
        have F : Firm H5 (upd H5 dd (.lst (vs ++ [v5]))) := Firm.updS so5
        refine ⟨vs, e1, by rw [ha5.length]; exact q5.1, hlt, s5, vs ++ [v5], ds ++ [d5], y5.s.free_upd e2 so5, fun b o hb hs => ?_, upd_same, e2, (ha5.mono F).append (.one (r5.mono F)), q5.2⟩
        obtain ⟨z1, z2⟩ := (f'.trans (f2.trans (f3.trans f5))) b o hb hs
        exact ⟨by rw [upd_ne (ne_of_none hb hd)]; exact z1, z2⟩
    · have e : i = items.length := by omega
      subst e
      rw [List.drop_length] at go
      obtain ⟨ck, go⟩ := go
      refine .inl ⟨W.stop s' H' hs' f' ck, hQ _ _ _ _ (go dd nD) (hs'.put_at hD (.lst ha)) (.ref dd) fun b o hb hs => ?_⟩
      obtain ⟨z1, z2⟩ := f1 b o hb hs
      obtain ⟨z3, z4⟩ := f' b o z1 z2
      exact ⟨z3, by rw [put_ne (ne_of_none z1 hd)]; exact z4⟩
end
end
end Tk
set_option Elab.async false
set_option linter.all false
set_option maxRecDepth 100000
set_option maxHeartbeats 8000000
/-! TkF: every term that stands for a piece of the text runs as its condition says. -/
namespace Tk
open PySem PySem.Spec PyProof.Rows L2

/-- a zip's items, of lists and tuples in any mixture -/
def ZipOk (X : Cx) (P : Prog) (CA : CAt) (C : CallP) (T : Tab) : Prop := ∀ (a b : E) (pa pb : Expr) (es : List Expr) (kk : Nat) (tp p pos : Pos), PE X pa (LEx X P CA C a) → PE X pb (LEx X P CA C b) →
  (∀ (es : List Expr), starEach (pa :: es) X.env = (false, eval pa X.env) :: starEach es X.env) → (∀ (es : List Expr), starEach (pb :: es) X.env = (false, eval pb X.env) :: starEach es X.env) → Gl X "zip" → X.mg "zip" = none → X.calm = true →
  PI X (.Tuple es kk tp) (.Call (.Name "zip" p) [pa, pb] [] pos) (LIx X P CA C (.zip a b))

section
variable {P : Prog} {T : Tab} {CA FA : CAt} {C : CallP} {k : Nat}
theorem Good.blk {X : Cx} {inB : Bool} (G : Good P T CA FA C k X inB) (s : Shared) (H : Hp) (scope : Scope) (cenv : Env) (fp : List Addr) : Good P T CA FA C k (X.blk s H scope cenv fp) true where
  calm := G.calm
  nd := G.nd
  own := PassesOwn.never
  room := G.room
  mods := G.mods
  calls := G.calls
  cells := fun h => nomatch h
structure SE (X : Cx) (P : Prog) (CA : CAt) (C : CallP) (pe : Expr) (e : E) : Prop where
  v : PE X pe (LEx X P CA C e)
  t : noIf pe = true → PT X pe (LTx X P CA C e)
  w : isBO pe = true → PW X pe (LTx X P CA C e)
theorem SE.plain {X : Cx} {pe : Expr} {e : E} (h : PE X pe (LEx X P CA C e)) (he : ∀ whole, isTrue pe X.env whole = (do let v ← whole; standAt pe.pos; holding [v] (truthy v))) (hb : isBO pe = false) : SE X P CA C pe e :=
  ⟨h, fun _ => le_lt h he, fun q => by rw [hb] at q; cases q⟩
theorem lt_so {X : Cx} {pe : Expr} {e : E} (h : PT X pe (LTx X P CA C e)) : PTs X [pe] (LT X.K CA (wCo P C (.so e))) := pts_one h
theorem lt_no {X : Cx} : PTs X [] (LT X.K CA (wCo P C .no)) :=
  ⟨fun pins s σ H Q I ⟨ρ, st, Qd, y, hw, hQ⟩ => (pts_nil (X := X)).run pins s σ H Q I (hQ true st H hw y.s Fr.refl)⟩
theorem l_lc {X : Cx} {inB : Bool} (G : Good P T CA FA C k X inB) {elt : E} {g : Tk.G} {it : It} {cond : O} {own : List Nat} {pe tg iter : Expr} {ifs : List Expr} {scope : Scope} {pos : Pos} (hown : ckOwn own g = true) (hblk : blkC X.N X.env.scope scope (ownP X.N own) = true)
    (hi : PI X tg iter (LIx X P CA C it)) (hg : ckG X.N (relS scope X.env.scope) true g tg = true) (hc : ∀ s H C' cl fp, PTs (X.blk s H scope (compEnvC scope cl C' X.env) fp) ifs (LT X.K CA (wCo P C cond)))
    (he : ∀ s H C' cl fp, PE (X.blk s H scope (compEnvC scope cl C' X.env) fp) pe (LE X.K CA (wE P C elt))) (hs : ∀ x, foldedSetIterable iter X.env x = pure x) :
    PE X (.ListComp pe [⟨tg, iter, ifs, 0⟩] scope pos) (LEx X P CA C (.lc elt g it cond own)) := by
  have h := pe_lc (own := ownP X.N own) (pos := pos) (g := gG X.K g) (te := LE X.K CA (wE P C elt)) (tt := LT X.K CA (wCo P C cond)) G.calm G.nd hi (blkOk_by hblk)
    (fun s H C' cl fp => pg_ok (X := X.blk s H scope (compEnvC scope cl C' X.env) fp) (inB := true) G.calm G.nd (fun h => nomatch h) hg) hc he hs
  rw [wipe_ok] at h
  exact PE.imp h fun σ H Q ⟨ρ, s, Qd, y, hw, hQ⟩ => lc_ok y hw hown hQ
theorem set_of {T : Tab} {N : List Str} {sc : Scope} {inB : Bool} : ∀ {it : It} {iter tg : Expr}, ckIt T N sc inB it iter tg = true → ∀ (env : Env) (x : Value), foldedSetIterable iter env x = pure x := by
  intro it iter tg h env x
  cases iter with
  | «Set» a b c =>
    cases it with
    | val e => cases e <;> simp [ckIt, ckE] at h
    | r1 a => simp [ckIt] at h
    | r2 a b => simp [ckIt] at h
    | zip a b => simp [ckIt] at h
  | _ => rfl

mutual
theorem sE (hz : ∀ (X : Cx), ZipOk X P CA C T) : ∀ (e : E) {X : Cx} {inB : Bool} {pe : Expr}, Good P T CA FA C k X inB → ckE T X.N X.env.scope inB e pe = true → SE X P CA C pe e
  | .var i, X, inB, pe, G, h => by
    unfold ckE at h
    split at h
    · simp only [Bool.and_eq_true, decide_eq_true_eq] at h
      exact SE.plain (PE.imp (pe_var h.1.1 (vis_of h.1.2) (nm1 h.2) (nm2 h.2)) fun σ H Q ⟨ρ, s, Qd, y, hw, hQ⟩ => by
        obtain ⟨o, e1, hw⟩ := got.out hw
        obtain ⟨d, e2, hw⟩ := got.out hw
        subst e2
        obtain ⟨v, h1, h2⟩ := y.l.2 i d e1
        exact ⟨v, h1, hQ _ _ _ _ hw y.s h2 Fr.refl⟩) (fun _ => rfl) rfl
    · cases h
  | .con x, X, inB, pe, G, h => by
    unfold ckE at h
    split at h
    · rename_i y p
      simp only [Bool.and_eq_true, beq_iff_eq] at h
      obtain ⟨⟨rfl, h2⟩, h3⟩ := h
      refine SE.plain ⟨fun pins s σ H Q I ⟨ρ, st, Qd, y, hw, hQ⟩ => ?_⟩ (fun _ => rfl) rfl
      obtain ⟨d, e1, hw⟩ := got.out (show got (P.con _) _ from hw)
      obtain ⟨u, v, m1, m2, m3⟩ := G.mods.con _ d e1
      exact ld_glob I (gl_of h2) m1 ⟨v, H, I, m2, hQ _ _ _ _ hw y.s (m3 H) Fr.refl⟩ (nm1 h3)
    · cases h
  | .int i, X, inB, pe, G, h => by
    unfold ckE at h
    split at h
    · simp only [beq_iff_eq] at h
      subst h
      exact SE.plain (PE.imp pe_int fun σ H Q ⟨ρ, s, Qd, y, hw, hQ⟩ => hQ _ _ _ _ hw y.s (.int _) Fr.refl) (fun _ => rfl) rfl
    · cases h
  | .bl b, X, inB, pe, G, h => by
    unfold ckE at h
    split at h
    · simp only [beq_iff_eq] at h
      subst h
      exact SE.plain (PE.imp pe_bl fun σ H Q ⟨ρ, s, Qd, y, hw, hQ⟩ => hQ _ _ _ _ hw y.s (.bl _) Fr.refl) (fun _ => rfl) rfl
    · cases h
  | .non, X, inB, pe, G, h => by
    unfold ckE at h
    split at h
    · exact SE.plain (PE.imp pe_non fun σ H Q ⟨ρ, s, Qd, y, hw, hQ⟩ => hQ _ _ _ _ hw y.s .non Fr.refl) (fun _ => rfl) rfl
    · cases h
  | .str x, X, inB, pe, G, h => by
    unfold ckE at h
    split at h
    · simp only [beq_iff_eq] at h
      subst h
      exact SE.plain (PE.imp pe_str fun σ H Q ⟨ρ, s, Qd, y, hw, hQ⟩ => hQ _ _ _ _ hw y.s (.str _) Fr.refl) (fun _ => rfl) rfl
    · cases h
  | .bin op a b, X, inB, pe, G, h => by
    unfold ckE at h
    split at h
    · simp only [Bool.and_eq_true, decide_eq_true_eq] at h
      obtain ⟨⟨rfl, h2⟩, h3⟩ := h
      exact SE.plain (l_bin (sE hz a G h2).v (sE hz b G h3).v) (fun _ => rfl) rfl
    · cases h
  | .cmp op a b, X, inB, pe, G, h => by
    unfold ckE at h
    split at h
    · simp only [Bool.and_eq_true, decide_eq_true_eq, Bool.not_eq_true'] at h
      obtain ⟨⟨⟨rfl, h1⟩, h2⟩, h3⟩ := h
      exact ⟨l_cmp G.hu64 (sE hz a G h2).v (sE hz b G h3).v h1, fun _ => lt_cmp G.hu64 (sE hz a G h2).v (sE hz b G h3).v h1, (fun q => nomatch q)⟩
    · cases h
  | .chain o1 o2 a b c, X, inB, pe, G, h => by
    unfold ckE at h
    split at h
    · simp only [Bool.and_eq_true, decide_eq_true_eq, Bool.not_eq_true'] at h
      obtain ⟨⟨⟨⟨⟨rfl, rfl⟩, h1⟩, h2⟩, h3⟩, h4⟩ := h
      exact ⟨l_chain G.hu64 (sE hz a G h2).v (sE hz b G h3).v (sE hz c G h4).v h1, fun _ => lt_chain G.hu64 (sE hz a G h2).v (sE hz b G h3).v (sE hz c G h4).v h1, (fun q => nomatch q)⟩
    · cases h
  | .neg a, X, inB, pe, G, h => by
    unfold ckE at h
    split at h
    · exact SE.plain (l_neg (sE hz a G h).v) (fun _ => rfl) rfl
    · cases h
  | .not a, X, inB, pe, G, h => by
    unfold ckE at h
    split at h
    · simp only [Bool.and_eq_true] at h
      exact ⟨l_not (sE hz a G h.2).v, fun _ => lt_not ((sE hz a G h.2).t h.1), (fun q => nomatch q)⟩
    · cases h
  | .and a b, X, inB, pe, G, h => by
    unfold ckE at h
    split at h
    · rename_i x y r pos
      simp only [Bool.and_eq_true] at h
      obtain ⟨⟨⟨n1, n2⟩, h1⟩, h2⟩ := h
      have A := sE hz a G h1
      cases r with
      | nil =>
        have B := sE hz b G h2
        have w := lw_and (pos := pos) (A.t n1) (pw_and1 (B.t n2))
        exact ⟨l_and A.v (pe_one B.v), fun _ => w.pt, fun _ => w⟩
      | cons z r =>
        have B := sE hz b G h2
        have w := lw_and (pos := pos) (A.t n1) (B.w rfl)
        exact ⟨l_and A.v B.v, fun _ => w.pt, fun _ => w⟩
    · cases h
  | .or a b, X, inB, pe, G, h => by
    unfold ckE at h
    split at h
    · rename_i x y r pos
      simp only [Bool.and_eq_true] at h
      obtain ⟨⟨⟨n1, n2⟩, h1⟩, h2⟩ := h
      have A := sE hz a G h1
      cases r with
      | nil =>
        have B := sE hz b G h2
        have w := lw_or (pos := pos) (A.t n1) (pw_or1 (B.t n2))
        exact ⟨l_or A.v (pe_one B.v), fun _ => w.pt, fun _ => w⟩
      | cons z r =>
        have B := sE hz b G h2
        have w := lw_or (pos := pos) (A.t n1) (B.w rfl)
        exact ⟨l_or A.v B.v, fun _ => w.pt, fun _ => w⟩
    · cases h
  | .ife c a b, X, inB, pe, G, h => by
    unfold ckE at h
    split at h
    · simp only [Bool.and_eq_true] at h
      exact ⟨l_ife ((sE hz c G h.1.1.2).t h.1.1.1) (sE hz a G h.1.2).v (sE hz b G h.2).v, (fun q => nomatch q), (fun q => nomatch q)⟩
    · cases h
  | .ix a i, X, inB, pe, G, h => by
    unfold ckE at h
    split at h
    · simp only [Bool.and_eq_true, Bool.not_eq_true'] at h
      exact SE.plain (l_ix G.hu1 (sE hz a G h.1.2).v (sE hz i G h.2).v h.1.1) (fun _ => rfl) rfl
    · cases h
  | .sl a lo hi, X, inB, pe, G, h => by
    unfold ckE at h
    split at h
    · simp only [Bool.and_eq_true] at h
      exact SE.plain (l_sl (sE hz a G h.1.1).v (sO hz lo G h.1.2) (sO hz hi G h.2)) (fun _ => rfl) rfl
    · cases h
  | .tup es, X, inB, pe, G, h => by
    unfold ckE at h
    split at h
    · exact SE.plain (l_tup (sEs hz es G h)) (fun _ => rfl) rfl
    · cases h
  | .lst es, X, inB, pe, G, h => by
    unfold ckE at h
    split at h
    · exact SE.plain (l_lst (sEs hz es G h)) (fun _ => rfl) rfl
    · cases h
  | .dct ks, X, inB, pe, G, h => by
    unfold ckE at h
    split at h
    · simp only [Bool.and_eq_true, decide_eq_true_eq, Bool.not_eq_true', List.isEmpty_eq_false_iff] at h
      exact SE.plain (l_dct (sKs hz ks G h.2) h.1.1.1 h.1.1.2 h.1.2) (fun _ => rfl) rfl
    · cases h
  | .fld e f, X, inB, pe, G, h => by
    unfold ckE at h
    split at h
    · simp only [Bool.and_eq_true, beq_iff_eq] at h
      obtain ⟨⟨rfl, h2⟩, h3⟩ := h
      exact SE.plain (l_fld G (sE hz e G h3).v h2) (fun _ => rfl) rfl
    · cases h
  | .call f es, X, inB, pe, G, h => by
    unfold ckE at h
    split at h
    · simp only [Bool.and_eq_true, List.contains_iff_mem] at h
      exact SE.plain (l_call G h.1.1.1 (gl_of h.1.1.2) (nm1 h.1.2) (sEs hz es G h.2) h.2) (fun _ => rfl) rfl
    · cases h
  | .mk c es, X, inB, pe, G, h => by
    unfold ckE at h
    split at h
    · simp only [Bool.and_eq_true, List.contains_iff_mem] at h
      exact SE.plain (l_mk G h.1.1.1 (gl_of h.1.1.2) (nm1 h.1.2) (sEs hz es G h.2) h.2) (fun _ => rfl) rfl
    · cases h
  | .meth c m f e es, X, inB, pe, G, h => by
    unfold ckE at h
    split at h
    · simp only [Bool.and_eq_true, List.contains_iff_mem, decide_eq_true_eq] at h
      obtain ⟨⟨⟨⟨⟨⟨h1, h2⟩, h3⟩, h4⟩, h5⟩, h6⟩, h7⟩ := h
      have h1 := beq_iff_eq.mp h1
      subst h1
      exact SE.plain (l_meth G h2 (sE hz e G h6).v (sEs hz es G h7) h7 h3 h4 h5) (fun _ => rfl) rfl
    · cases h
  | .bm m e es, X, inB, pe, G, h => by
    unfold ckE at h
    split at h
    · simp only [Bool.and_eq_true, decide_eq_true_eq] at h
      obtain ⟨⟨⟨⟨⟨⟨h1, h2⟩, h3⟩, h4⟩, h5⟩, h6⟩, h7⟩ := h
      have h1 := beq_iff_eq.mp h1
      subst h1
      exact SE.plain (l_bm (sE hz e G h6).v (sEs hz es G h7) h7 h3 h4 h5 h2) (fun _ => rfl) rfl
    · cases h
  | .bi b es, X, inB, pe, G, h => by
    unfold ckE at h
    split at h
    · simp only [Bool.and_eq_true, beq_iff_eq, Bool.not_eq_true', List.isEmpty_eq_false_iff] at h
      obtain ⟨⟨⟨rfl, h2⟩, h3⟩, h4⟩ := h
      exact SE.plain (l_bi G (gl_of h2) (sEs hz es G h4) h4 h3) (fun _ => rfl) rfl
    · cases h
  | .isi e ts, X, inB, pe, G, h => by
    unfold ckE at h
    split at h
    · rename_i x p a t pos
      simp only [Bool.and_eq_true, beq_iff_eq] at h
      obtain ⟨⟨⟨rfl, h2⟩, h3⟩, h4⟩ := h
      have A := sE hz e G h3
      split at h4
      · rename_i us kk p2
        simp only [Bool.and_eq_true, decide_eq_true_eq] at h4
        exact SE.plain (l_isiT G (gl_of h2) A.v (ck_nostar h3 · X.env) h4.1 h4.2) (fun _ => rfl) rfl
      · unfold ckTs at h4
        split at h4
        · simp only [Bool.and_eq_true, beq_iff_eq] at h4
          obtain ⟨⟨rfl, h5⟩, h6⟩ := h4
          exact SE.plain (l_isi1 G (gl_of h2) A.v (ck_nostar h3 · X.env) (gl_of h6) h5) (fun _ => rfl) rfl
        · cases h4
    · cases h
  | .lrng a b, X, inB, pe, G, h => by
    unfold ckE at h
    split at h
    · simp only [Bool.and_eq_true, beq_iff_eq] at h
      obtain ⟨⟨⟨⟨⟨rfl, h2⟩, rfl⟩, h4⟩, h5⟩, h6⟩ := h
      exact SE.plain (l_lrng G (gl_of h2) (gl_of h4) (sE hz a G h5).v (sE hz b G h6).v (ck_nostar h5 · X.env) (ck_nostar h6 · X.env)) (fun _ => rfl) rfl
    · cases h
  | .lc elt g it cond own, X, inB, pe, G, h => by
    unfold ckE at h
    split at h
    · rename_i pe tg iter ifs as scope pos
      simp only [Bool.and_eq_true, beq_iff_eq] at h
      obtain ⟨⟨⟨⟨⟨⟨rfl, h2⟩, h3⟩, h4⟩, h5⟩, h6⟩, h7⟩ := h
      refine SE.plain (l_lc G h3 h2 (sIt hz it G h5) h4 (fun s H C' cl fp => ?_) (fun s H C' cl fp => (sE hz elt (G.blk s H scope (compEnvC scope cl C' X.env) fp) h6).v) (set_of h5 X.env)) (fun _ => rfl) rfl
      split at h7
      · cases cond with
        | no => exact lt_no (X := X.blk s H scope (compEnvC scope cl C' X.env) fp)
        | so e => cases h7
      · rename_i c
        exact sCo hz cond (G.blk s H scope (compEnvC scope cl C' X.env) fp) h7
      · cases h7
    · cases h
theorem sEs (hz : ∀ (X : Cx), ZipOk X P CA C T) : ∀ (es : Es) {X : Cx} {inB : Bool} {ps : List Expr}, Good P T CA FA C k X inB → ckEs T X.N X.env.scope inB es ps = true → PA X ps (LAx X P CA C es)
  | .nil, X, inB, ps, G, h => by
    cases ps with
    | nil => exact l_nil
    | cons _ _ => simp [ckEs] at h
  | .cons e r, X, inB, ps, G, h => by
    cases ps with
    | nil => simp [ckEs] at h
    | cons x xs =>
      unfold ckEs at h
      rw [Bool.and_eq_true] at h
      exact l_cons (sE hz e G h.1).v (sEs hz r G h.2) (ck_nostar h.1 xs X.env)
theorem sO (hz : ∀ (X : Cx), ZipOk X P CA C T) : ∀ (o : O) {X : Cx} {inB : Bool} {po : Option Expr}, Good P T CA FA C k X inB → ckO T X.N X.env.scope inB o po = true → PO X po (LOx X P CA C o)
  | .no, X, inB, po, G, h => by
    cases po with
    | none => exact l_ono
    | some _ => simp [ckO] at h
  | .so e, X, inB, po, G, h => by
    cases po with
    | none => simp [ckO] at h
    | some x =>
      unfold ckO at h
      exact l_oso (sE hz e G h).v
theorem sCo (hz : ∀ (X : Cx), ZipOk X P CA C T) : ∀ (o : O) {X : Cx} {inB : Bool} {c : Expr}, Good P T CA FA C k X inB → ckCo T X.N X.env.scope inB o c = true → PTs X [c] (LT X.K CA (wCo P C o))
  | .no, X, inB, c, G, h => by simp [ckCo] at h
  | .so e, X, inB, c, G, h => by
    unfold ckCo at h
    rw [Bool.and_eq_true] at h
    exact lt_so ((sE hz e G h.2).t h.1)
theorem sKs (hz : ∀ (X : Cx), ZipOk X P CA C T) : ∀ (ks : Ks) {X : Cx} {inB : Bool} {keys : List (Option Expr)} {vals : List Expr} {pos : Pos}, Good P T CA FA C k X inB → ckKs T X.N X.env.scope inB ks keys vals = true → PairsOk X P CA C pos ks keys vals
  | .nil, X, inB, keys, vals, pos, G, h => by
    unfold ckKs at h
    split at h
    · exact pairs_nil
    · cases h
  | .cons x e r, X, inB, keys, vals, pos, G, h => by
    unfold ckKs at h
    split at h
    · simp only [Bool.and_eq_true, beq_iff_eq] at h
      obtain ⟨⟨rfl, h2⟩, h3⟩ := h
      exact pairs_cons (sE hz e G h2).v (sKs hz r G h3)
    · cases h
theorem sIt (hz : ∀ (X : Cx), ZipOk X P CA C T) : ∀ (it : It) {X : Cx} {inB : Bool} {iter tg : Expr}, Good P T CA FA C k X inB → ckIt T X.N X.env.scope inB it iter tg = true → PI X tg iter (LIx X P CA C it)
  | .val e, X, inB, iter, tg, G, h => by
    unfold ckIt at h
    exact l_val (sE hz e G h).v
  | .r1 a, X, inB, iter, tg, G, h => by
    unfold ckIt at h
    split at h
    · simp only [Bool.and_eq_true, beq_iff_eq] at h
      obtain ⟨⟨rfl, h2⟩, h3⟩ := h
      exact l_r1 G (gl_of h2) (sE hz a G h3).v (ck_nostar h3 · X.env)
    · cases h
  | .r2 a b, X, inB, iter, tg, G, h => by
    unfold ckIt at h
    split at h
    · simp only [Bool.and_eq_true, beq_iff_eq] at h
      obtain ⟨⟨⟨rfl, h2⟩, h3⟩, h4⟩ := h
      exact l_r2 G (gl_of h2) (sE hz a G h3).v (sE hz b G h4).v (ck_nostar h3 · X.env) (ck_nostar h4 · X.env)
    · cases h
  | .zip a b, X, inB, iter, tg, G, h => by
    unfold ckIt at h
    split at h
    · simp only [Bool.and_eq_true, beq_iff_eq] at h
      obtain ⟨⟨⟨⟨rfl, h2⟩, h3⟩, h4⟩, h5⟩ := h
      cases tg with
      | Tuple es kk tp => exact hz X a b _ _ es kk tp _ _ (sE hz a G h4).v (sE hz b G h5).v (ck_nostar h4 · X.env) (ck_nostar h5 · X.env) (gl_of h2) (G.bl (by simp [bltns])) G.calm
      | _ => cases h3
    · cases h
end
end
end Tk
set_option Elab.async false
set_option linter.all false
set_option maxRecDepth 100000
set_option maxHeartbeats 8000000
/-! TkG: statements, blocks, defs. -/
namespace Tk
open PySem PySem.Spec PyProof.Rows L2

def starred : Expr → Bool
  | .Starred .. => true | _ => false
section
variable (T : Tab) (N : List Str) (sc : Scope)
mutual
def ckS : St → Stmt → Bool
  | .asg g e, ps => match ps with
    | .Assign [tg] v pos => ckG N sc false g tg && ckE T N sc false e v && (match tg with | .Name x _ => !(isLC v) || (match sc.names.lookup x with | some .cell => true | _ => false) | .Tuple .. => !(isTupE v) | _ => false)
    | _ => false
  | .par i j a b, ps => match ps with
    | .Assign [.Tuple [.Name x px, .Name y py] _ _] (.Tuple [l, r] _ _) _ => decide (N[i]? = some x) && decide (N[j]? = some y) && decide (i ≠ j) && onlyLoc sc x && onlyLoc sc y && decide (x ≠ y) && (px.line == py.line) && !(starred l) && !(starred r) &&
        !([l, r].all (foldedForSure 8)) && !([l, r].all (constantsAlone 8)) && ckE T N sc false a l && ckE T N sc false b r
    | _ => false
  | .asgC i e, ps => match ps with
    | .Assign [.Name y py] (.ListComp pe gs scope pos) spos => decide (N[i]? = some y) && onlyLoc sc y && (py.line == pos.line) && !(scope.names.any fun p => p.1 == y && (p.2 == .local || p.2 == .cell)) && (match e with | .lc .. => true | _ => false) && ckE T N sc false e (.ListComp pe gs scope pos)
    | _ => false
  | .fset o f e, ps => match ps with
    | .Assign [.Attribute ob g _] v _ => f == g && ckE T N sc false o ob && ckE T N sc false e v
    | _ => false
  | .iset o i e, ps => match ps with
    | .Assign [.Subscript ob w _] v _ => !(isSl w) && ckE T N sc false o ob && ckE T N sc false i w && ckE T N sc false e v
    | _ => false
  | .expr e, ps => match ps with
    | .Expr v _ => !(isLC v) && ckE T N sc false e v
    | _ => false
  | .ret e, ps => match ps with
    | .Return (some v) _ => ckE T N sc false e v
    | _ => false
  | .retN, ps => match ps with
    | .Return none _ => true
    | _ => false
  | .ife c a b, ps => match ps with
    | .If t x y _ => noIf t && ckE T N sc false c t && ckSs a x && ckSs b y
    | _ => false
  | .whl c b, ps => match ps with
    | .While t x [] _ => noIf t && ckE T N sc false c t && ckSs b x
    | _ => false
  | .for_ g it b, ps => match ps with
    | .For tg iter x [] _ => ckG N sc false g tg && ckIt T N sc false it iter tg && ckSs b x
    | _ => false
  | .pass, ps => match ps with
    | .Pass _ => true
    | _ => false
  | .brk, ps => match ps with
    | .Break _ => true
    | _ => false
  | .cnt, ps => match ps with
    | .Continue _ => true
    | _ => false
  | .raise, _ => true
def ckSs : List St → List Stmt → Bool
  | [], ps => ps.isEmpty
  | t :: r, ps => match ps with
    | p :: ps => ckS t p && ckSs r ps
    | [] => false
end
end

/-- what the text's ends ask of ours -/
structure KOk (K : PySem.W.Frag) (CA : CAt) (s : S) (H : Hp) (E : En) (D : Ends) : Prop where
  nx : ∀ σ' ρ' s' H', E.nx ρ' s' → Sy K CA σ' ρ' s' H' → Fr s H s' H' → D.nx σ' H'
  rt : ∀ d s' v H', E.rt d s' → RelS K CA H' s' → Rep K H' v d → Fr s H s' H' → D.rt v H'
  bk : ∀ σ' ρ' s' H', E.bk ρ' s' → Sy K CA σ' ρ' s' H' → Fr s H s' H' → D.bk σ' H'
  ct : ∀ σ' ρ' s' H', E.ct ρ' s' → Sy K CA σ' ρ' s' H' → Fr s H s' H' → D.ct σ' H'
def LK (K : PySem.W.Frag) (CA : CAt) (w : En → LS → S → Prop) : TS := fun D σ H => ∃ ρ s E, Sy K CA σ ρ s H ∧ w E ρ s ∧ KOk K CA s H E D
section
variable {K : PySem.W.Frag} {CA : CAt} {s s1 : S} {H H1 : Hp} {E : En} {D : Ends}
theorem KOk.mono (h : KOk K CA s H E D) (f : Fr s H s1 H1) : KOk K CA s1 H1 E D where
  nx := fun σ' ρ' s' H' a b g => h.nx σ' ρ' s' H' a b (f.trans g)
  rt := fun d s' v H' a b c g => h.rt d s' v H' a b c (f.trans g)
  bk := fun σ' ρ' s' H' a b g => h.bk σ' ρ' s' H' a b (f.trans g)
  ct := fun σ' ρ' s' H' a b g => h.ct σ' ρ' s' H' a b (f.trans g)
end
theorem swap_no {v : Expr} {t : Option Expr} {l : Nat} {env : Env} (h : isLC v = false) : swapsWith v t l env = pure false := by
  cases v <;> first | rfl | (exact absurd (show true = false from h) (by decide))
theorem swap_cell {v : Expr} {x : Str} {p : Pos} {l : Nat} {env : Env} (h : env.kindOf x = some .cell) : swapsWith v (some (.Name x p)) l env = pure false := by
  have e : (env.kindOf x == some NameKind.local) = false := by rw [h]; rfl
  cases v <;> first | rfl | (unfold swapsWith; simp only [e, Bool.and_false, Bool.false_and])
theorem swap_tup {v : Expr} {ts : List Expr} {kk : Nat} {p : Pos} {l : Nat} {env : Env} : swapsWith v (some (.Tuple ts kk p)) l env = pure false := by
  cases v <;> rfl
theorem swap_attr {v o : Expr} {f : Str} {p : Pos} {l : Nat} {env : Env} : swapsWith v (some (.Attribute o f p)) l env = pure false := by
  cases v <;> rfl
theorem swap_sub {v o i : Expr} {p : Pos} {l : Nat} {env : Env} : swapsWith v (some (.Subscript o i p)) l env = pure false := by
  cases v <;> rfl
theorem stores_tup {v : Expr} {ts : List Expr} {kk : Nat} {p : Pos} {env : Env} (h : isTupE v = false) : swappedStores [.Tuple ts kk p] v env = pure none := by
  cases v <;> first | rfl | (exact absurd (show true = false from h) (by decide))
theorem par_names {x y : Str} {px py pt pt2 : Pos} {kt k2 : Nat} {l r : Expr} {env : Env} (hk : env.blockKind = .function) (hx : env.kindOf x = some .local) (hy : env.kindOf y = some .local) (hne : x ≠ y) (hl : (px.line == py.line) = true)
    (h1 : starred l = false) (h2 : starred r = false) (h3 : [l, r].all (foldedForSure 8) = false) (h4 : [l, r].all (constantsAlone 8) = false) :
    swappedStores [.Tuple [.Name x px, .Name y py] kt pt] (.Tuple [l, r] k2 pt2) env = pure (some [x, y]) := by
  have hl' : (py.line == px.line) = true := by rw [beq_iff_eq] at hl ⊢; exact hl.symm
  have e1 : (env.blockKind != ScopeKind.function) = false := by rw [hk]; rfl
  have e2 : (env.kindOf x == some NameKind.local) = true := by rw [hx]; rfl
  have e3 : (env.kindOf y == some NameKind.local) = true := by rw [hy]; rfl
  have e4 : (List.eraseDups [x, y]).length = 2 := by
    have q : (y == x) = false := beq_eq_false_iff_ne.mpr (Ne.symm hne)
    simp [List.eraseDups_cons, q, Ne.symm hne]
  have s1 : ([l, r].any fun e => match e with | .Starred .. => true | _ => false) = false := by
    have f : ∀ e : Expr, (match e with | .Starred .. => true | _ => false) = starred e := fun e => by cases e <;> rfl
    simp only [List.any_cons, List.any_nil, f, h1, h2]; rfl
  unfold swappedStores
  let F : List Str := List.filterMap (fun | .Name id pos => if (env.kindOf id == some .local && pos.line == (([Expr.Name x px, Expr.Name y py].head?.map (·.pos.line)).getD 0)) = true then some id else none | _ => none) [Expr.Name x px, Expr.Name y py]
  have f1 : F = [x, y] := by
    have g1 : (env.kindOf x == some .local && px.line == (([Expr.Name x px, Expr.Name y py].head?.map (·.pos.line)).getD 0)) = true := by
      rw [e2]; exact beq_self_eq_true px.line
    have g2 : (env.kindOf y == some .local && py.line == (([Expr.Name x px, Expr.Name y py].head?.map (·.pos.line)).getD 0)) = true := by
      rw [e3]; exact hl'
    simp only [F, List.filterMap_cons, g1, g2, if_true, List.filterMap_nil]
  simp only [e1, h3, h4]
  refine (if_neg ?_).trans ((if_neg ?_).trans ((if_neg ?_).trans ?_))
  · exact Bool.false_ne_true
  · exact fun h => Bool.noConfusion (s1.symm.trans h)
  · intro h
    have h' : (F.length != 2 || F.eraseDups.length != F.length) = true := h
    rw [f1, e4] at h'
    exact Bool.noConfusion h'
  · exact congrArg (fun z => pure (some z)) f1
theorem putF_rep {K : PySem.W.Frag} {H : Hp} {f : Str} {v : V} {d : D} (r : Rep K H v d) : ∀ {vs : List (Str × V)} {ds : List (Str × D)}, FRel K H vs ds → FRel K H (putF f v vs) (fput f d ds)
  | _, _, .nil => .cons r .nil
  | _, _, .cons (f := g) a b => by
    unfold putF fput
    by_cases e : f = g
    · simp only [e, if_true]
      exact .cons r b
    · simp only [e, Ne.symm e, if_false]
      exact .cons a (putF_rep r b)

section
variable {X : Cx} {P : Prog} {T : Tab} {CA FA : CAt} {C : CallP} {k : Nat} {a b c e o i : E} {pa pb pc v : Expr} {pos : Pos}
abbrev LSx (X : Cx) (P : Prog) (CA : CAt) (C : CallP) (t : St) : TS := LK X.K CA (wS P C t)
abbrev LBx (X : Cx) (P : Prog) (CA : CAt) (C : CallP) (t : List St) : TS := LK X.K CA (wSs P C t)
theorem s_asg (G : Good P T CA FA C k X false) {g : Tk.G} {tg : Expr} (hv : PE X v (LEx X P CA C e)) (hg : ckG X.N X.env.scope false g tg = true) (hs : swapsWithSole [tg] v pos.line X.env = pure false) (hw : swappedStores [tg] v X.env = pure none)
    (h1 : (assignEach [tg] X.env).map (·.2) = [assign tg X.env]) : PS X (.Assign [tg] v pos) (LSx X P CA C (.asg g e)) := by
  refine PS.imp (ps_asg hv (pg_ok G.calm G.nd G.cells hg) hs hw h1) fun D σ H ⟨ρ, s, E, y, w, Kk⟩ => ?_
  refine le_run y w fun d1 s1 v1 H1 q1 y1 r1 f1 => ?_
  exact gG_ok y1 r1 q1 fun σ' ρ' q y2 _ => Kk.nx _ _ _ _ q y2 f1
theorem s_par (G : Good P T CA FA C k X false) (hk : X.env.scope.kind = .function) {i j : Nat} {x y : Str} {px py pt pt2 : Pos} {kt k2 : Nat} (h : PA X [pa, pb] (LAx X P CA C (.cons a (.cons b .nil)))) (hi : X.N[i]? = some x) (hj : X.N[j]? = some y) (hij : i ≠ j)
    (hx : X.env.scope.names.lookup x = some .local) (hy : X.env.scope.names.lookup y = some .local) (hne : x ≠ y) (hl : (px.line == py.line) = true) (h1 : starred pa = false) (h2 : starred pb = false) (h3 : [pa, pb].all (foldedForSure 8) = false) (h4 : [pa, pb].all (constantsAlone 8) = false) :
    PS X (.Assign [.Tuple [.Name x px, .Name y py] kt pt] (.Tuple [pa, pb] k2 pt2) pos) (LSx X P CA C (.par i j a b)) := by
  have hb : X.env.blockKind = .function := by unfold Env.blockKind; rw [hk]; rfl
  refine PS.imp (ps_par G.calm G.nd hi hj hij hx hy h (par_names hb hx hy hne hl h1 h2 h3 h4)) fun D σ H ⟨ρ, s, E, yy, w, Kk⟩ => ?_
  refine la_run (k := fun ds s2 => match ds with | [d, e] => E.nx ((ρ.set i (some d)).set j (some e)) s2 | _ => False) yy w fun ds s1 vs H1 q1 y1 r1 f1 => ?_
  · split at q1
    case h_2 => exact q1.elim
    rename_i d e
    have q := q1
    cases r1 with
    | cons r1 rr =>
      cases rr with
      | cons r2 rr =>
        cases rr
        exact ⟨_, _, rfl, Kk.nx _ _ _ _ q ⟨(y1.l.set r1 i).set r2 j, y1.s⟩ f1⟩
theorem s_asgC (G : Good P T CA FA C k X false) (hk : X.env.scope.kind = .function) {elt : E} {g : Tk.G} {it : It} {cond : O} {own : List Nat} {pe tg iter : Expr} {ifs : List Expr} {scope : Scope} {i : Nat} {y : Str} {py lpos : Pos}
    (hy : X.N[i]? = some y) (hyl : X.env.scope.names.lookup y = some .local) (hl : (py.line == lpos.line) = true) (hnn : (scope.names.any fun (n, k) => n == y && (k == .local || k == .cell)) = false)
    (hown : ckOwn own g = true) (hblk : blkC X.N X.env.scope scope (ownP X.N own) = true)
    (hi : PI X tg iter (LIx X P CA C it)) (hg : ckG X.N (relS scope X.env.scope) true g tg = true) (hc : ∀ s H C' cl fp, PTs (X.blk s H scope (compEnvC scope cl C' X.env) fp) ifs (LT X.K CA (wCo P C cond)))
    (he : ∀ s H C' cl fp, PE (X.blk s H scope (compEnvC scope cl C' X.env) fp) pe (LE X.K CA (wE P C elt))) (hs : ∀ x, foldedSetIterable iter X.env x = pure x) :
    PS X (.Assign [.Name y py] (.ListComp pe [⟨tg, iter, ifs, 0⟩] scope lpos) pos) (LSx X P CA C (.asgC i (.lc elt g it cond own))) := by
  have h := ps_setLc (own := ownP X.N own) (pos := lpos) (spos := pos) (py := py) (g := gG X.K g) (te := LE X.K CA (wE P C elt)) (tt := LT X.K CA (wCo P C cond)) G.calm G.nd hy hyl (sw_true hk hyl hl hnn) hi (blkOk_by hblk)
    (fun s H C' cl fp => pg_ok (X := X.blk s H scope (compEnvC scope cl C' X.env) fp) (inB := true) G.calm G.nd (fun h => nomatch h) hg) hc he hs
  rw [wipe_ok] at h
  refine PS.imp h fun D σ H ⟨ρ, s, E, y, w, Kk⟩ => ?_
  refine lc_ok (Q := fun x H1 => gName i x σ H1 D.nx) y w hown fun d s' v H' q hs r f => ?_
  exact Kk.nx _ _ _ _ q ⟨(y.l.mono (f.firm y.s)).set r i, hs⟩ f
theorem s_fset (G : Good P T CA FA C k X false) {f : Str} {p2 : Pos} (ho : PE X pa (LEx X P CA C o)) (hv : PE X v (LEx X P CA C e)) : PS X (.Assign [.Attribute pa f p2] v pos) (LSx X P CA C (.fset o f e)) := by
  refine PS.imp (ps_fld ho hv swap_attr) fun D σ H ⟨ρ, s, E, y, w, Kk⟩ => ?_
  refine le_run y w fun d1 s1 v1 H1 q1 y1 r1 f1 => le_run y1 q1 fun d2 s2 v2 H2 q2 y2 r2 f2 => ?_
  obtain ⟨p, c, fs, rfl, e1, hf, hl, q⟩ := withI.out q2
  obtain ⟨dx, vs, h1, h2⟩ := y2.s.getI e1
  cases r2
  obtain ⟨g1, g2⟩ := G.mods.flds c f hf
  have f3 : Fr s2 H2 (put s2 p (.ins c (fput f d1 fs))) (upd H2 p (.ins (CA c) dx (putF f v1 vs))) := Fr.set e1
  have so := y2.s.soft e1
  have hs3 := y2.s.putO so (.ins (dx := dx) (c := c) (putF_rep (f := f) (r1.mono (f2.firm y1.s)) h2))
  exact ⟨p, CA c, dx, vs, rfl, h1, g1, g2, by rw [h2.length]; exact hl, Kk.nx _ _ _ _ q (y2.step f3 hs3) (f1.trans (f2.trans f3))⟩
theorem s_iset (G : Good P T CA FA C k X false) {p2 : Pos} (ho : PE X pa (LEx X P CA C o)) (hi : PE X pb (LEx X P CA C i)) (hv : PE X v (LEx X P CA C e)) (hsl : isSl pb = false) (hs : swapsWithSole [.Subscript pa pb p2] v pos.line X.env = pure false) (hw : swappedStores [.Subscript pa pb p2] v X.env = pure none) :
    PS X (.Assign [.Subscript pa pb p2] v pos) (LSx X P CA C (.iset o i e)) := by
  have ha : ∀ v, assign (.Subscript pa pb p2) X.env v = (do
      let ov ← holding [v] (eval pa X.env)
      let iv ← holding [v, ov] (eval pb X.env)
      standAt p2
      holding [v, ov, iv] (setItem ov iv v)
      release [v, ov, iv] []) := by
    intro v
    cases pb <;> first | rfl | (exact absurd (show true = false from hsl) (by decide))
  refine PS.imp (ps_asg hv (pg_sub ho hi (set_all G.hu1) ha) hs hw) fun D σ H ⟨ρ, s, E, y, w, Kk⟩ => ?_
  refine le_run y w fun d1 s1 v1 H1 q1 y1 r1 f1 => le_run y1 q1 fun d2 s2 v2 H2 q2 y2 r2 f2 => le_run y2 q2 fun d3 s3 v3 H3 q3 y3 r3 f3 => ?_
  refine iset_ok y3.s (r2.mono (f3.firm y2.s)) r3 ((r1.mono (f2.firm y1.s)).mono (f3.firm y2.s)) q3 fun s4 H4 q4 hs4 f4 => ?_
  exact Kk.nx _ _ _ _ q4 (y3.step f4 hs4) (f1.trans (f2.trans (f3.trans f4)))
theorem s_expr (hv : PE X v (LEx X P CA C e)) (hs : swapsWith v none pos.line X.env = pure false) : PS X (.Expr v pos) (LSx X P CA C (.expr e)) := by
  refine PS.imp (ps_expr hv hs) fun D σ H ⟨ρ, s, E, y, w, Kk⟩ => ?_
  exact le_run y w fun d1 s1 v1 H1 q1 y1 r1 f1 => Kk.nx _ _ _ _ q1 y1 f1
theorem s_ret (hv : PE X v (LEx X P CA C e)) : PS X (.Return (some v) pos) (LSx X P CA C (.ret e)) := by
  refine PS.imp (ps_ret hv) fun D σ H ⟨ρ, s, E, y, w, Kk⟩ => ?_
  exact le_run y w fun d1 s1 v1 H1 q1 y1 r1 f1 => Kk.rt _ _ _ _ q1 y1.s r1 f1
theorem s_if {x y : List Stmt} {p q : List St} (hc : PT X pc (LTx X P CA C c)) (ha : PSs X x (LBx X P CA C p)) (hb : PSs X y (LBx X P CA C q)) : PS X (.If pc x y pos) (LSx X P CA C (.ife c p q)) := by
  refine PS.imp (ps_if hc ha hb) fun D σ H ⟨ρ, s, E, y, w, Kk⟩ => ?_
  refine lt_run (k := fun k s1 => if k = true then wSs P C p E ρ s1 else wSs P C q E ρ s1) y w fun b s1 H1 q1 y1 f1 => ?_
  cases b with
  | true => simp only [if_true] at q1 ⊢; exact ⟨ρ, s1, E, y1, q1, Kk.mono f1⟩
  | false => simp only [Bool.false_eq_true, if_false] at q1 ⊢; exact ⟨ρ, s1, E, y1, q1, Kk.mono f1⟩
theorem s_whl (G : Good P T CA FA C k X false) {x : List Stmt} {p : List St} (hc : PT X pc (LTx X P CA C c)) (hb : PSs X x (LBx X P CA C p)) : PS X (.While pc x [] pos) (LSx X P CA C (.whl c p)) := by
  refine PS.imp (ps_while G.own hc hb) fun D σ H ⟨ρ, s, E, y, ⟨n, w⟩, Kk⟩ => ?_
  let cond : LS → S → (Bool → S → Prop) → Prop := fun ρ s Q => wE P C c ρ s fun x s1 => truthB x fun k => Q k s1
  let body : En → LS → S → Prop := fun K ρ s => wSs P C p K ρ s
  refine ⟨fun m σ' H' => ∃ ρ' s', Sy X.K CA σ' ρ' s' H' ∧ Fr s H s' H' ∧ whileN cond body E m ρ' s', ⟨n, ρ, s, y, Fr.refl, w⟩, fun m σ' H' ⟨ρ', s', y', f', w'⟩ => ?_⟩
  cases m with
  | zero => exact w'.elim
  | succ m =>
    refine lt_run (k := fun b s1 => if b = true then body { E with nx := whileN cond body E m, ct := whileN cond body E m, bk := E.nx } ρ' s1 else E.nx ρ' s1) y' w' fun b s1 H1 q1 y1 f1 => ?_
    cases b with
    | true =>
      simp only [if_true] at q1 ⊢
      refine ⟨fun σ2 H2 => ∃ ρ2 s2, Sy X.K CA σ2 ρ2 s2 H2 ∧ Fr s H s2 H2 ∧ whileN cond body E m ρ2 s2, fun σ2 H2 h => ⟨m, Nat.lt_succ_self m, h⟩, ρ', s1, _, y1, q1, ?_⟩
      have ff := f'.trans f1
      exact { nx := fun σ2 ρ2 s2 H2 q y2 f2 => ⟨ρ2, s2, y2, ff.trans f2, q⟩, rt := fun d s2 v H2 q hs r f2 => Kk.rt d s2 v H2 q hs r (ff.trans f2), bk := fun σ2 ρ2 s2 H2 q y2 f2 => Kk.nx σ2 ρ2 s2 H2 q y2 (ff.trans f2), ct := fun σ2 ρ2 s2 H2 q y2 f2 => ⟨ρ2, s2, y2, ff.trans f2, q⟩ }
    | false => simp only [Bool.false_eq_true, if_false] at q1 ⊢; exact Kk.nx _ _ _ _ q1 y1 (f'.trans f1)
theorem s_for (G : Good P T CA FA C k X false) {g : Tk.G} {it : It} {tg iter : Expr} {x : List Stmt} {p : List St} (hi : PI X tg iter (LIx X P CA C it)) (hg : ckG X.N X.env.scope false g tg = true) (hb : PSs X x (LBx X P CA C p)) (hs : ∀ x, foldedSetIterable iter X.env x = pure x) : PS X (.For tg iter x [] pos) (LSx X P CA C (.for_ g it p)) := by
  refine PS.imp (ps_for G.own G.calm hi (pg_ok G.calm G.nd G.cells hg) hb hs) fun D σ H ⟨ρ, s, E, y, w, Kk⟩ => ?_
  let body : En → LS → S → Prop := fun K ρ s => wSs P C p K ρ s
  refine ⟨ρ, s, _, y, w, fun items chk s1 H1 J q1 hs1 f1 W => ?_⟩
  have y1 : Sy X.K CA σ ρ s1 H1 := y.step f1 hs1
  refine ⟨fun i m σ' H' => m = items.length - i ∧ i ≤ items.length ∧ ∃ ρ' s', Sy X.K CA σ' ρ' s' H' ∧ Fr s1 H1 s' H' ∧ forGo chk g body E (items.drop i) ρ' s', ⟨items.length, by simp, Nat.zero_le _, ρ, s1, y1, Fr.refl, by rw [List.drop_zero]; exact q1⟩, ?_⟩
  rintro i m σ' H' ⟨rfl, hi, ρ', s', y', f', go⟩
  by_cases hlt : i < items.length
  · obtain ⟨x, ex⟩ := get_some hlt
    have ed : items.drop i = x :: items.drop (i + 1) := by
      rw [List.drop_eq_getElem_cons hlt]
      rw [List.getElem?_eq_getElem hlt] at ex
      cases ex
      rfl
    rw [ed] at go
    obtain ⟨ck, go⟩ := go
    refine .inr ⟨W.go i s' H' y'.s f' ck hlt, fun σ2 H2 => i + 1 ≤ items.length ∧ ∃ ρ2 s2, Sy X.K CA σ2 ρ2 s2 H2 ∧ Fr s1 H1 s2 H2 ∧ forGo chk g body E (items.drop (i + 1)) ρ2 s2, fun σ2 H2 ⟨h1, h2⟩ => ⟨items.length - (i + 1), by omega, rfl, h1, h2⟩, fun v H2 hy => ?_⟩
    obtain ⟨d, e2, r2, hs2, f2⟩ := W.yld i s' H' v H2 y'.s f' ck hlt hy
    rw [ex] at e2; cases e2
    have y2 : Sy X.K CA σ' ρ' s' H2 := y'.step f2 hs2
    refine gG_ok y2 r2 go fun σ3 ρ3 q3 y3 _ => ⟨ρ3, s', _, y3, q3, ?_⟩
    have ff := f'.trans f2
    exact { nx := fun σ2 ρ2 s2 H2 q y2 f2 => ⟨hlt, ρ2, s2, y2, ff.trans f2, q⟩, rt := fun d s2 v H2 q hs r f2 => Kk.rt d s2 v H2 q hs r (f1.trans (ff.trans f2)), bk := fun σ2 ρ2 s2 H2 q y2 f2 => Kk.nx σ2 ρ2 s2 H2 q y2 (f1.trans (ff.trans f2)), ct := fun σ2 ρ2 s2 H2 q y2 f2 => ⟨hlt, ρ2, s2, y2, ff.trans f2, q⟩ }
  · have e : i = items.length := by omega
    subst e
    rw [List.drop_length] at go
    obtain ⟨ck, go⟩ := go
    exact .inl ⟨W.stop s' H' y'.s f' ck, Kk.nx _ _ _ _ go y' (f1.trans f')⟩
theorem s_cons {st : Stmt} {rest : List Stmt} {t : St} {r : List St} (h1 : PS X st (LSx X P CA C t)) (h2 : PSs X rest (LBx X P CA C r)) : PSs X (st :: rest) (LBx X P CA C (t :: r)) := by
  refine PSs.imp (pss_cons h1 h2) fun D σ H ⟨ρ, s, E, y, w, Kk⟩ => ?_
  exact ⟨ρ, s, { E with nx := wSs P C r E }, y, w, { nx := fun σ' ρ' s' H' q y' f => ⟨ρ', s', E, y', q, Kk.mono f⟩, rt := Kk.rt, bk := Kk.bk, ct := Kk.ct }⟩
theorem s_nil : PSs X [] (LBx X P CA C []) := PSs.imp pss_nil fun D σ H ⟨ρ, s, E, y, w, Kk⟩ => Kk.nx _ _ _ _ w y Fr.refl

theorem only_of {sc : Scope} {x : Str} (h : onlyLoc sc x = true) : sc.names.lookup x = some .local := by
  unfold onlyLoc at h
  split at h
  · assumption
  · cases h
mutual
theorem sS (hz : ∀ (X : Cx), ZipOk X P CA C T) : ∀ (t : St) {X : Cx} {ps : Stmt}, Good P T CA FA C k X false → X.env.scope.kind = .function → ckS T X.N X.env.scope t ps = true → PS X ps (LSx X P CA C t)
  | .asg g e, X, ps, G, hk, h => by
    unfold ckS at h
    split at h
    · rename_i tg v pos
      simp only [Bool.and_eq_true] at h
      obtain ⟨⟨h1, h2⟩, h3⟩ := h
      have hv := (sE hz e G h2).v
      cases tg with
      | Name x p =>
        simp only [Bool.or_eq_true, Bool.not_eq_true'] at h3
        refine s_asg G hv h1 ?_ rfl rfl
        rcases h3 with h3 | h3
        · exact (show swapsWith v (some (.Name x p)) pos.line X.env = pure false from swap_no h3)
        · refine (show swapsWith v (some (.Name x p)) pos.line X.env = pure false from swap_cell ?_)
          split at h3
          · assumption
          · cases h3
      | Tuple ts kk p =>
        simp only [Bool.not_eq_true'] at h3
        exact s_asg G hv h1 (show swapsWith v (some (.Tuple ts kk p)) pos.line X.env = pure false from swap_tup) (stores_tup h3) rfl
      | _ => cases h3
    · cases h
  | .par i j a b, X, ps, G, hk, h => by
    unfold ckS at h
    split at h
    · simp only [Bool.and_eq_true, decide_eq_true_eq, Bool.not_eq_true'] at h
      obtain ⟨⟨⟨⟨⟨⟨⟨⟨⟨⟨⟨⟨h1, h2⟩, h3⟩, h4⟩, h5⟩, h6⟩, h7⟩, h8⟩, h9⟩, h10⟩, h11⟩, h12⟩, h13⟩ := h
      exact s_par G hk (l_cons (sE hz a G h12).v (l_cons (sE hz b G h13).v l_nil (ck_nostar h13 _ X.env)) (ck_nostar h12 _ X.env)) h1 h2 h3 (only_of h4) (only_of h5) h6 h7 h8 h9 h10 h11
    · cases h
  | .asgC i e, X, ps, G, hk, h => by
    unfold ckS at h
    split at h
    · rename_i y py pe gs scope lpos pos
      simp only [Bool.and_eq_true, decide_eq_true_eq, Bool.not_eq_true'] at h
      obtain ⟨⟨⟨⟨⟨h1, h2⟩, h3⟩, h4⟩, h5⟩, h6⟩ := h
      cases e with
      | lc elt g it cond own =>
        unfold ckE at h6
        split at h6
        · rename_i heq
          cases heq
          simp only [Bool.and_eq_true, beq_iff_eq] at h6
          obtain ⟨⟨⟨⟨⟨⟨rfl, g2⟩, g3⟩, g4⟩, g5⟩, g6⟩, g7⟩ := h6
          refine s_asgC G hk h1 (only_of h2) h3 h4 g3 g2 (sIt hz it G g5) g4 (fun s H C' cl fp => ?_) (fun s H C' cl fp => (sE hz elt (G.blk s H scope (compEnvC scope cl C' X.env) fp) g6).v) (set_of g5 X.env)
          split at g7
          · cases cond with
            | no => exact lt_no (X := X.blk s H scope (compEnvC scope cl C' X.env) fp)
            | so e => cases g7
          · exact sCo hz cond (G.blk s H scope (compEnvC scope cl C' X.env) fp) g7
          · cases g7
        · cases h6
      | _ => cases h5
    · cases h
  | .fset o f e, X, ps, G, hk, h => by
    unfold ckS at h
    split at h
    · simp only [Bool.and_eq_true, beq_iff_eq] at h
      obtain ⟨⟨rfl, h2⟩, h3⟩ := h
      exact s_fset G (sE hz o G h2).v (sE hz e G h3).v
    · cases h
  | .iset o i e, X, ps, G, hk, h => by
    unfold ckS at h
    split at h
    · rename_i ob w p2 v pos
      simp only [Bool.and_eq_true, Bool.not_eq_true'] at h
      obtain ⟨⟨⟨h1, h2⟩, h3⟩, h4⟩ := h
      exact s_iset G (sE hz o G h2).v (sE hz i G h3).v (sE hz e G h4).v h1 (show swapsWith v (some (.Subscript ob w p2)) pos.line X.env = pure false from swap_sub) rfl
    · cases h
  | .expr e, X, ps, G, hk, h => by
    unfold ckS at h
    split at h
    · simp only [Bool.and_eq_true, Bool.not_eq_true'] at h
      exact s_expr (sE hz e G h.2).v (swap_no h.1)
    · cases h
  | .ret e, X, ps, G, hk, h => by
    unfold ckS at h
    split at h
    · exact s_ret (sE hz e G h).v
    · cases h
  | .retN, X, ps, G, hk, h => by
    unfold ckS at h
    split at h
    · exact PS.imp ps_retN fun D σ H ⟨ρ, s, E, y, w, Kk⟩ => Kk.rt _ _ _ _ w y.s .non Fr.refl
    · cases h
  | .ife c p q, X, ps, G, hk, h => by
    unfold ckS at h
    split at h
    · simp only [Bool.and_eq_true] at h
      obtain ⟨⟨⟨h1, h2⟩, h3⟩, h4⟩ := h
      exact s_if ((sE hz c G h2).t h1) (sSs hz p G hk h3) (sSs hz q G hk h4)
    · cases h
  | .whl c p, X, ps, G, hk, h => by
    unfold ckS at h
    split at h
    · simp only [Bool.and_eq_true] at h
      obtain ⟨⟨h1, h2⟩, h3⟩ := h
      exact s_whl G ((sE hz c G h2).t h1) (sSs hz p G hk h3)
    · cases h
  | .for_ g it p, X, ps, G, hk, h => by
    unfold ckS at h
    split at h
    · simp only [Bool.and_eq_true] at h
      obtain ⟨⟨h1, h2⟩, h3⟩ := h
      exact s_for G (sIt hz it G h2) h1 (sSs hz p G hk h3) (set_of h2 X.env)
    · cases h
  | .pass, X, ps, G, hk, h => by
    unfold ckS at h
    split at h
    · exact PS.imp ps_pass fun D σ H ⟨ρ, s, E, y, w, Kk⟩ => Kk.nx _ _ _ _ w y Fr.refl
    · cases h
  | .brk, X, ps, G, hk, h => by
    unfold ckS at h
    split at h
    · exact PS.imp ps_break fun D σ H ⟨ρ, s, E, y, w, Kk⟩ => Kk.bk _ _ _ _ w y Fr.refl
    · cases h
  | .cnt, X, ps, G, hk, h => by
    unfold ckS at h
    split at h
    · exact PS.imp ps_continue fun D σ H ⟨ρ, s, E, y, w, Kk⟩ => Kk.ct _ _ _ _ w y Fr.refl
    · cases h
  | .raise, X, ps, G, hk, h => PS.imp ps_never fun D σ H ⟨ρ, s, E, y, w, Kk⟩ => w.elim
theorem sSs (hz : ∀ (X : Cx), ZipOk X P CA C T) : ∀ (t : List St) {X : Cx} {ps : List Stmt}, Good P T CA FA C k X false → X.env.scope.kind = .function → ckSs T X.N X.env.scope t ps = true → PSs X ps (LBx X P CA C t)
  | [], X, ps, G, hk, h => by
    unfold ckSs at h
    cases ps with
    | nil => exact s_nil
    | cons _ _ => cases h
  | t :: r, X, ps, G, hk, h => by
    unfold ckSs at h
    cases ps with
    | nil => cases h
    | cons p ps =>
      simp only [Bool.and_eq_true] at h
      exact s_cons (sS hz t G hk h.1) (sSs hz r G hk h.2)
end
end
end Tk
set_option Elab.async false
set_option linter.all false
set_option maxRecDepth 100000
set_option maxHeartbeats 4000000
/-! TkH: defs: each def of the text keeps the promise of our call condition. -/
namespace Tk
open PySem PySem.Spec PyProof.Rows L2

section
variable {Pr : Program} {w : World} {K : PySem.W.Frag} {mg : Str → Option Value} {base : Heap}
/-- the def f of our program is a def of the text -/
structure DefOk (K : PySem.W.Frag) (T : Tab) (P : Prog) (FA : CAt) (f : Nat) : Prop where
  ex : ∃ (x qual : Str) (st : Stmt) (N ps : List Str) (fd : FuncData), Fun K x qual st (FA f) fd ∧ FnScope N ps (defScope st) ∧ ps.length = (P.fn f).params ∧ N.length = (P.fn f).slots ∧ ckSs T N (defScope st) (P.fn f).body (defBody st) = true ∧
    ∀ (kV doc pm : Value) (an : Option Addr) (cdv ct : Value) (us : List Value), us.length = ps.length → bindArgs (PySem.W.fnOf x qual (defArgs st) (defBody st) (defScope st) .none kV doc pm an cdv ct) ⟨us, []⟩ = pure (ps.zip us)
theorem start_rel {H : Hp} {N : List Str} {vs : List V} {ds : List D} {m : Nat} (r : RepAll K H vs ds) (h : N.length = m) : RelL K H (L2.start N vs) (ds.map some ++ List.replicate (m - ds.length) none) := by
  subst h
  unfold L2.start
  refine ⟨by simp [r.length], fun i d e => ?_⟩
  by_cases hi : i < ds.length
  · rw [List.getElem?_append_left (by simpa using hi), List.getElem?_map] at e
    cases q : ds[i]? with
    | none => rw [q] at e; cases e
    | some d' =>
      rw [q] at e; cases e
      obtain ⟨v, h1, h2⟩ := r.get q
      refine ⟨v, ?_, h2⟩
      rw [List.getElem?_append_left (by rw [List.length_map, r.length]; exact hi), List.getElem?_map, h1]; rfl
  · rw [List.getElem?_append_right (by simpa using hi), List.getElem?_replicate] at e
    split at e <;> cases e
theorem step_run {P : Prog} {T : Tab} {CA FA : CAt} {C : CallP} {k f : Nat} {x qual : Str} {st : Stmt} {N ps : List Str} {fd : FuncData} (hz : ∀ (X : Cx), ZipOk X P CA C T) (M : Mods K mg P T CA FA) (F : Fun K x qual st (FA f) fd) (S : FnScope N ps (defScope st))
    (hp : ps.length = (P.fn f).params) (hn : N.length = (P.fn f).slots) (hck : ckSs T N (defScope st) (P.fn f).body (defBody st) = true) (hC : ∀ g, CallOk Pr w K mg base k (FA g) (LC K CA (C g)))
    (A : Around) (outer : List Env) (s : Shared) (H : Hp) (args : Args) (us : List Value) (vs : List V) (Q : VK) (EE : XK) (hr : Rc (k + 1) A) (e0 : Env0 Pr w K mg base A outer s H) (hbd : BindsTo s fd args (ps.zip us)) (r : Vals vs us)
    (hsp : LC K CA (wBody P C (P.fn f)) vs H Q E0) : codeAny (model Pr w) A (.call (.ref (FA f)) args) (CR CX0 outer Pr w H s Q EE) s := by
  obtain ⟨oc, od, kV, doc, pm, an, cdv, ct, osl, rfl, lk, hcd⟩ := F.ex
  obtain ⟨ds, t, Qd, hrep, hs, ⟨hlen, hw⟩, hQ⟩ := hsp
  have hl : vs.length = ps.length := by rw [hrep.length, hlen, hp]
  have hlu : us.length = ps.length := by rw [← r.length, hl]
  have KX : K.In s.heap := e0.mod.kin.keeps fun b o e => (e0.bs b o e).1
  have lim : s.heap.NoLimit := e0.mod.nolimit.keeps fun b o e => (e0.bs b o e).1
  have hkind : ∀ y ∈ ps.zip us, (defScope st).names.lookup y.1 = some .local ∨ ((defScope st).names.lookup y.1 = some .cell ∧ ((cellsFrom (s.heap.objs.size + 1) (defScope st).names []).lookup y.1).isSome = true) := by
    intro ⟨n, v⟩ hy
    rcases S.par n (List.of_mem_zip hy).1 with q | q
    · exact .inl q
    · exact .inr ⟨q, PySem.W.cellsFrom_some _ _ _ (.inl q)⟩
  have hdep : A.depth < recursionLimit := by have := hr.dp; omega
  refine codeAny_call_function hdep (KX _ _ lk) rfl S.co S.gen rfl (PySem.W.codeRec_of KX hcd) (hbd _ _ _ _ ?_)
  refine wpAny_newFunctionEnv_cells S.kind hkind fun env he s1 xx => ?_
  subst he
  refine ⟨lim.keeps xx.toInCall.keep, codeAny_func ?_⟩
  let X : Cx := (cxOf CX0 Pr w K mg base N qual (defScope st) (FA f) cdv A outer s H EE).nox
  have G : Good P T CA FA C k X false := ⟨rfl, S.nd, PassesOwn.never, hr.body _, M, hC, fun _ _ => rfl⟩
  have body := sSs hz (P.fn f).body G S.kind hck
  have I : Inv X [] (L2.start N vs) H s1 := (inv_start (CX := CX0) (E := EE) S hr.hd e0 hl r xx).wish _
  have go : LBx X P CA C (P.fn f).body { nx := fun _ H' => Q .non H', rt := Q } (L2.start N vs) H := by
    refine ⟨_, t, _, ⟨start_rel hrep hn, hs⟩, hw, ?_⟩
    exact { nx := fun σ' ρ' s' H' q y f => hQ _ _ _ _ q y.s .non f, rt := fun d s' v H' q hs' r' f => hQ _ _ _ _ q hs' r' f, bk := fun _ _ _ _ q _ _ => q.elim, ct := fun _ _ _ _ q _ _ => q.elim }
  refine wpAny_mono (body.run [] s1 (L2.start N vs) H _ I go) (fun fl s' hs => ?_) fun e s' hs => False.elim hs
  have fin : ∀ {σ' : L2.St} {H' : Hp} {v : V} {u : Value}, Inv X [] σ' H' s' → RelV v u → Q v H' → CE outer Pr w H s Q u s' :=
    fun {σ' H' v u} J rv q => ⟨v, H', J.os, J.bare, J.base, J.hok, rv, q⟩
  cases fl with
  | ret u =>
    obtain ⟨v, σ', H', J, rv, q⟩ := hs
    exact fin J rv q
  | next =>
    obtain ⟨σ', H', J, q⟩ := hs
    exact fin (v := V.non) (u := Value.none) J rfl q
  | brk =>
    obtain ⟨_, _, _, q⟩ := hs
    exact False.elim q
  | cont =>
    obtain ⟨_, _, _, q⟩ := hs
    exact False.elim q
theorem call_step {P : Prog} {T : Tab} {CA FA : CAt} {C : CallP} {k f : Nat} (hz : ∀ (X : Cx), ZipOk X P CA C T) (M : Mods K mg P T CA FA) (D : DefOk K T P FA f) (hC : ∀ g, CallOk Pr w K mg base k (FA g) (LC K CA (C g))) :
    CallOk Pr w K mg base (k + 1) (FA f) (LC K CA (wBody P C (P.fn f))) := by
  obtain ⟨x, qual, st, N, ps, fd, F, S, hp, hn, hck, hb⟩ := D.ex
  refine ⟨fun A outer s H us vs Q hr e0 r hsp => ?_⟩
  refine step_run hz M F S hp hn hck hC A outer s H ⟨us, []⟩ us vs Q E0 hr e0 ?_ r hsp
  obtain ⟨oc, od, kV, doc, pm, an, cdv, ct, osl, rfl, lk, hcd⟩ := F.ex
  obtain ⟨ds, t, Qd, hrep, hs, ⟨hlen, hw⟩, hQ⟩ := hsp
  exact .of_eq (hb kV doc pm an cdv ct us (by rw [← r.length, hrep.length, hlen, hp]))
theorem CallOk.void {k : Nat} {f : Addr} {sp : Sp} (h : ∀ vs H Q E, ¬ sp vs H Q E) : CallOk Pr w K mg base k f sp := ⟨fun _ _ _ _ _ _ _ _ _ _ q => absurd q (h _ _ _ _)⟩
theorem calls_ok {P : Prog} {T : Tab} {CA FA : CAt} (hz : ∀ (C : CallP) (X : Cx), ZipOk X P CA C T) (M : Mods K mg P T CA FA) (hd : ∀ f, DefOk K T P FA f ∨ (P.fn f).body = [.raise]) :
    ∀ n f, CallOk Pr w K mg base n (FA f) (LC K CA (wCall P n f))
  | 0, f => .void fun _ _ _ _ ⟨_, _, _, _, _, q, _⟩ => q.elim
  | n + 1, f => by
    rcases hd f with D | e
    · exact call_step (hz _) M D (calls_ok hz M hd n)
    · refine .void fun _ _ _ _ ⟨ds, s, Qd, _, _, q, _⟩ => ?_
      obtain ⟨_, q⟩ := (show wBody P (wCall P n) (P.fn f) ds s Qd from q)
      rw [e] at q
      exact q
/-- law's promise: a script of at most 63 ints, that stands still -/
def spLaw (K : PySem.W.Frag) : Sp := fun vs H Q _ => ∃ (a : Addr) (ns : List Int), vs = [.ref a] ∧ FzL K H a (ns.map V.int) ∧ ns.length ≤ 63 ∧ ∀ H', Q (.bl true) H'
theorem rc_of_room {A : Around} (r : Room 231 A) : Rc 346 A := ⟨r.hd, by have := r.dp; omega, by have h1 := r.dp; have h2 := r.un; omega⟩
theorem law_fn {P : Prog} {T : Tab} {CA FA : CAt} {f : Nat} {x nm qual : Str} {st : Stmt} {N : List Str} {fd : FuncData} (hz : ∀ (C : CallP) (X : Cx), ZipOk X P CA C T) (M : Mods K mg P T CA FA) (hd : ∀ f, DefOk K T P FA f ∨ (P.fn f).body = [.raise])
    (F : Fun K nm qual st (FA f) fd) (S : FnScope N [x] (defScope st)) (hp : 1 = (P.fn f).params) (hn : N.length = (P.fn f).slots) (hck : ckSs T N (defScope st) (P.fn f).body (defBody st) = true)
    (law : ∀ ns : List Int, ns.length ≤ 63 → wCall P 346 f [.fz (ns.map D.int)] (fun _ => none) fun d _ => d = .bl true) : FnOk Pr w K mg base CX0 231 (FA f) fd [x] (spLaw K) := by
  refine ⟨fun vs H Q E ⟨a, ns, e, _⟩ => by rw [e]; rfl, fun A outer s H args us vs Q E hr e0 hb r hsp => ?_⟩
  obtain ⟨a, ns, rfl, hf, hl, hq⟩ := hsp
  refine step_run (k := 345) (hz _) M F S hp hn hck (calls_ok hz M hd 345) A outer s H args us [.ref a] Q E (rc_of_room hr) e0 hb r ?_
  refine ⟨[.fz (ns.map D.int)], fun _ => none, _, .cons (.fz hf (.ints ns rfl)) .nil, (fun a o e => nomatch e), law ns hl, fun d s' v H' e hs rv f => ?_⟩
  subst e
  cases rv
  exact hq H'
theorem fz_of {H : Hp} {a : Addr} {xs : List V} (h : SqL K H a xs) (o : Only H) : FzL K H a xs := by
  rcases h with (h | h) | h
  · rcases o a with z | ⟨_, _, z⟩ <;> rw [z] at h <;> cases h
  · exact .inl h
  · exact .inr h
theorem walk {l : PySem.W.OpenLaw} {q : Program} {loose : List Str} {XP : (Str → Option Value) → Heap → Prop} {YP : World → Heap → Prop} {d : DefRec} {K : Params → PySem.W.Frag} {x : Str} (hn : l.most = some 63) (hdf : d.params.defaults = [])
    (hY : ∀ (w : World) (h : Heap), YP w h → (K w.params).In h)
    (F : ∀ (w : World) (mg : Str → Option Value) (fa : Addr) (h : Heap), (K w.params).In h → h.Ns mainGlobals mg → mg d.name = some (.ref fa) →
      ∃ fd : FuncData, (∀ (s : Shared) (u : Value), BindsTo s fd ⟨[u], []⟩ [(x, u)]) ∧ ∀ base : Heap, (K w.params).In base → base.Ns mainGlobals mg → FnOk l.prog w (K w.params) mg base CX0 231 fa fd [x] (spLaw (K w.params))) :
    PySem.W.WalkO q loose XP YP l.row.toRowW d [] (fun f vs => PySem.call f vs) :=
  L2.walk_of (n := 63) (k := 231) (x := x) (CX := fun _ => CX0) (sp := fun w => spLaw (K w.params)) hn (by decide) hdf ⟨rfl, by decide, by decide⟩ hY F (fun w H a ns hl o hS => ⟨a, ns, rfl, fz_of hS o, hl, fun _ => rfl⟩) fun _ _ _ _ _ z => z
end
end Tk
set_option Elab.async false
set_option linter.all false
set_option maxRecDepth 100000
set_option maxHeartbeats 4000000
/-! TkZ: zip of two sequences, each a list or a tuple (the library's rows are of two lists, or of two tuples; here of any two). -/
namespace Tk
open PySem PySem.Spec PyProof.Rows L2 RZ

/-- true: a tuple -/
def SqIs (t : Bool) (h : Heap) (a : Addr) (xs : Array Value) : Prop := match t with | true => h.IsTuple a xs | false => h.IsList a xs
def ItIs (t : Bool) (h : Heap) (p a : Addr) (k : Nat) : Prop := match t with | true => h.IsTupleIter p a k | false => h.IsListIter p a k
def itNm (t : Bool) : String := match t with | true => "tuple_iterator" | false => "list_iterator"
section
variable {t : Bool} {h h' : Heap} {a b p : Addr} {xs : Array Value} {k : Nat}
theorem SqIs.ext (x : SqIs t h a xs) (hs : Heap.ExtBut b h h') (n : a ≠ b) : SqIs t h' a xs := by
  cases t with
  | true => exact Heap.IsTuple.extBut x hs n
  | false => exact Heap.IsList.extBut x hs n
theorem SqIs.lt (x : SqIs t h a xs) : a < h.objs.size := by
  cases t <;> (obtain ⟨_, e, _⟩ := x; exact Heap.lt_size e)
theorem ItIs.ext (x : ItIs t h p a k) (hs : Heap.ExtBut b h h') (n : p ≠ b) : ItIs t h' p a k := by
  cases t with
  | true => exact Heap.IsTupleIter.extBut x hs n
  | false => exact Heap.IsListIter.extBut x hs n
theorem ItIs.to (x : ItIs t h p a k) (e : ∀ o, h.get? p = some o → h'.get? p = some o) : ItIs t h' p a k := by
  cases t with
  | true => exact Heap.IsTupleIter.at x e
  | false => exact Heap.IsListIter.at x e
theorem ItIs.rec (x : ItIs t h p a k) : ∃ o vs, h.get? p = some o ∧ o.data = .fields vs := by
  cases t <;> (obtain ⟨o, e, _, d⟩ := x; exact ⟨o, _, e, d⟩)
theorem ItIs.lt (x : ItIs t h p a k) : p < h.objs.size := let ⟨_, _, e, _⟩ := x.rec; Heap.lt_size e
end
section
variable {prog : Program} {w : World} {A : Around} {E : Value → Shared → Prop} {s : Shared}
theorem it_next {t : Bool} {p a : Addr} {k : Nat} {xs : Array Value} {x : Value} {Q : Value → Shared → Prop} (hp : ItIs t s.heap p a k) (ha : SqIs t s.heap a xs) (hx : xs[k]? = some x)
    (hQ : ∀ h', ItIs t h' p a (k + 1) → Heap.SameBut p s.heap h' → Q x { s with heap := h' }) : wpAny (model prog w) A (Builtin.SmallTypes.nextOf (.ref p)) Q E s := by
  cases t with
  | true => exact nextOf_tuple_item hp ha hx hQ
  | false => exact wpAny_nextOf_list_item hp ha hx hQ
theorem it_end {t : Bool} {p a : Addr} {k : Nat} {xs : Array Value} {Q : Value → Shared → Prop} (hh : A.handled = none) (hp : ItIs t s.heap p a k) (ha : SqIs t s.heap a xs) (hx : xs[k]? = none)
    (hE : ∀ h' e, Heap.ExtBut p s.heap h' → (∃ o, h'.get? e = some o ∧ o.cls = .type "StopIteration") → E (.ref e) { s with heap := h' }) : wpAny (model prog w) A (Builtin.SmallTypes.nextOf (.ref p)) Q E s := by
  cases t with
  | true => exact nextOf_tuple_end hh hp ha hx hE
  | false => exact wpAny_nextOf_list_end hh hp ha hx hE
theorem it_new {t : Bool} {a : Addr} {xs : Array Value} {Q : Value → Shared → Prop} (ha : SqIs t s.heap a xs) (h : Q (.ref s.heap.objs.size) { s with heap := s.heap.push { cls := .type (itNm t), data := .fields #[.ref a, .int 0 0] } }) :
    wpAny (model prog w) A (pyIter (.ref a)) Q E s := by
  cases t with
  | true => exact wpAny_pyIter_tuple ha h
  | false => exact wpAny_pyIter_list ha h

/-- what a turn leaves -/
def Left (h h' : Heap) (Z D p q : Addr) : Prop := ∀ c o, c ≠ Z → c ≠ D → c ≠ p → c ≠ q → h.get? c = some o → h'.get? c = some o
theorem zipM_item {t u : Bool} {Z S D p q a b : Addr} {k m : Nat} {xs ys : Array Value} {x y f g : Value} {Q : Value → Shared → Prop} (ap : ZipApart Z S D p q a b)
    (hZ : IsZip s.heap Z S D .none) (hS : IsPair s.heap S (.ref p) (.ref q)) (hD : IsPair s.heap D f g) (hp : ItIs t s.heap p a k) (hq : ItIs u s.heap q b m) (ha : SqIs t s.heap a xs) (hb : SqIs u s.heap b ys) (hx : xs[k]? = some x) (hy : ys[m]? = some y)
    (hQ : ∀ h', IsZip h' Z S D (rawInt s.heap.objs.size) → IsPair h' D x y → ItIs t h' p a (k + 1) → ItIs u h' q b (m + 1) → IsPair h' s.heap.objs.size x y → h'.objs.size = s.heap.objs.size + 1 → Left s.heap h' Z D p q → Q (.ref s.heap.objs.size) { s with heap := h' }) :
    wpAny (model prog w) A (Builtin.«zip.__next__» ⟨[.ref Z], []⟩) (fun fin s' => ∃ v, fin = .done (.ret v) ∧ Q v s') E s := by
  show wpAny _ _ (field (.ref Z) 2 >>= _) _ _ _
  refine wpAny_bind (wpAny_field hZ rfl (x := .bool false) rfl ?_)
  show wpAny _ _ (field (.ref Z) 3 >>= _) _ _ _
  refine wpAny_bind (wpAny_field hZ rfl (x := .ref S) rfl (wpAny_bind (wpAny_seqItems hS rfl ?_)))
  show wpAny _ _ (Builtin.SmallTypes.ownedTupleIsFree (.ref Z) >>= _) _ _ _
  unfold Builtin.SmallTypes.ownedTupleIsFree
  refine wpAny_bind (wpAny_bind (wpAny_field hZ rfl (x := .none) rfl (wpAny_pure ?_)))
  simp only [if_true]
  refine wpAny_bind (wpAny_rule (wpAny_bind (wpAny_field hZ rfl (x := .ref D) rfl (wpAny_bind (wpAny_setField_rec hZ (by simp) fun ha1 hZ1 e1 => wpAny_bind ?_)))))
  replace hZ1 : IsZip ha1 Z S D .ellipsis := hZ1
  simp only [List.zipIdx_cons, List.zipIdx_nil, List.forIn_cons, List.forIn_nil]
  have r1 := e1.extBut
  refine wpAny_bind (wpAny_bind (wpAny_onRaise (show wpAny _ _ (Builtin.SmallTypes.nextOf (.ref p) >>= _) _ _ _ from wpAny_bind (it_next (hp.ext r1 ap.i1z) (ha.ext r1 ap.l1z) hx fun ha2 hp2 e2 => wpAny_pure ?_))))
  have r2 := e2.extBut
  have hD2 : IsPair ha2 D f g := r2 _ _ ap.TOi1 (r1 _ _ ap.TOz hD)
  refine wpAny_bind (wpAny_seqItems hD2 rfl (wpAny_bind (wpAny_updateSeq_pair hD2 fun ha3 hD3 e3 => ?_)))
  replace hD3 : IsPair ha3 D x g := hD3
  have r3 := e3.extBut
  refine wpAny_bind (wpAny_letGo (wpAny_pure (wpAny_bind (wpAny_bind (wpAny_onRaise (show wpAny _ _ (Builtin.SmallTypes.nextOf (.ref q) >>= _) _ _ _ from
    wpAny_bind (it_next (((hq.ext r1 ap.i2z).ext r2 ap.i12.symm).ext r3 ap.TOi2.symm) (((hb.ext r1 ap.l2z).ext r2 ap.l2i1).ext r3 ap.l2TO) hy fun ha4 hq4 e4 => wpAny_pure ?_)))))))
  have r4 := e4.extBut
  have hD4 : IsPair ha4 D x g := r4 _ _ ap.TOi2 hD3
  refine wpAny_bind (wpAny_seqItems hD4 rfl (wpAny_bind (wpAny_updateSeq_pair hD4 fun ha5 hD5 e5 => ?_)))
  replace hD5 : IsPair ha5 D x y := hD5
  have r5 := e5.extBut
  refine wpAny_bind (wpAny_letGo (wpAny_pure (wpAny_pure (wpAny_bind (wpAny_seqItems hD5 rfl (wpAny_bind (wpAny_newTuple ?_)))))))
  have sz : ha5.objs.size = s.heap.objs.size := by rw [e5.1, e4.1, e3.1, e2.1, e1.1]
  have hZ5 : IsZip ha5 Z S D .ellipsis := r5 _ _ ap.TOz.symm (r4 _ _ ap.i2z.symm (r3 _ _ ap.TOz.symm (r2 _ _ ap.i1z.symm hZ1)))
  have left5 : Left s.heap ha5 Z D p q := fun c o n1 n2 n3 n4 e => r5 _ _ n2 (r4 _ _ n4 (r3 _ _ n2 (r2 _ _ n3 (r1 _ _ n1 e))))
  have hp5 : ItIs t ha5 p a (k + 1) := ((hp2.ext r3 ap.TOi1.symm).ext r4 ap.i12).ext r5 ap.TOi1.symm
  have hq5 : ItIs u ha5 q b (m + 1) := hq4.ext r5 ap.TOi2.symm
  have lZ : Z < ha5.objs.size := Heap.lt_size hZ5
  show wpAny _ _ (Builtin.SmallTypes.ownedTupleHandOut (.ref Z) (.ref ha5.objs.size) >>= _) _ _ _
  unfold Builtin.SmallTypes.ownedTupleHandOut
  have hZ6 : IsZip (ha5.push { cls := .type "tuple", data := .seq #[x, y] }) Z S D .ellipsis := Heap.get?_push_of_some _ hZ5
  refine wpAny_bind (wpAny_bind (wpAny_setField_rec hZ6 (by simp) fun ha7 hZ7 e7 => ?_))
  replace hZ7 : IsZip ha7 Z S D (rawInt ha5.objs.size) := hZ7
  refine wpAny_setField_rec hZ7 (by simp) fun ha8 hZ8 e8 => ?_
  replace hZ8 : IsZip ha8 Z S D (rawInt ha5.objs.size) := hZ8
  have r7 := e7.extBut
  have r8 := e8.extBut
  have up : ∀ c o, c ≠ Z → ha5.get? c = some o → ha8.get? c = some o := fun c o n e => r8 _ _ n (r7 _ _ n (Heap.get?_push_of_some _ e))
  have hT8 : IsPair ha8 ha5.objs.size x y := r8 _ _ (Nat.ne_of_gt lZ) (r7 _ _ (Nat.ne_of_gt lZ) (Heap.get?_push_size _ rfl))
  have sz8 : ha8.objs.size = ha5.objs.size + 1 := by rw [e8.1, e7.1, Heap.size_push]
  rw [sz] at hZ8 hT8 sz8
  refine wpAny_pure ⟨_, rfl, (show Q (.ref ha5.objs.size) _ from ?_)⟩
  rw [sz]
  exact hQ ha8 hZ8 (up _ _ ap.TOz hD5) (hp5.to fun o e => up _ o ap.i1z e) (hq5.to fun o e => up _ o ap.i2z e) hT8 sz8 fun c o n1 n2 n3 n4 e => up c o n1 (left5 c o n1 n2 n3 n4 e)
theorem zipM_end {t u : Bool} {Z S D p q a b : Addr} {k m : Nat} {xs ys : Array Value} {f g : Value} {Q : Fin → Shared → Prop} (hh : A.handled = none) (ap : ZipApart Z S D p q a b)
    (hZ : IsZip s.heap Z S D .none) (hS : IsPair s.heap S (.ref p) (.ref q)) (hD : IsPair s.heap D f g) (hp : ItIs t s.heap p a k) (hq : ItIs u s.heap q b m) (ha : SqIs t s.heap a xs) (hb : SqIs u s.heap b ys) (hend : xs[k]? = none ∨ ys[m]? = none)
    (hE : ∀ h' e, Left s.heap h' Z D p q → (∃ o, h'.get? e = some o ∧ o.cls = .type "StopIteration") → E (.ref e) { s with heap := h' }) : wpAny (model prog w) A (Builtin.«zip.__next__» ⟨[.ref Z], []⟩) Q E s := by
  show wpAny _ _ (field (.ref Z) 2 >>= _) _ _ _
  refine wpAny_bind (wpAny_field hZ rfl (x := .bool false) rfl ?_)
  show wpAny _ _ (field (.ref Z) 3 >>= _) _ _ _
  refine wpAny_bind (wpAny_field hZ rfl (x := .ref S) rfl (wpAny_bind (wpAny_seqItems hS rfl ?_)))
  show wpAny _ _ (Builtin.SmallTypes.ownedTupleIsFree (.ref Z) >>= _) _ _ _
  unfold Builtin.SmallTypes.ownedTupleIsFree
  refine wpAny_bind (wpAny_bind (wpAny_field hZ rfl (x := .none) rfl (wpAny_pure ?_)))
  simp only [if_true]
  refine wpAny_bind (wpAny_rule (wpAny_bind (wpAny_field hZ rfl (x := .ref D) rfl (wpAny_bind (wpAny_setField_rec hZ (by simp) fun ha1 hZ1 e1 => wpAny_bind ?_)))))
  replace hZ1 : IsZip ha1 Z S D .ellipsis := hZ1
  simp only [List.zipIdx_cons, List.zipIdx_nil, List.forIn_cons, List.forIn_nil]
  have r1 := e1.extBut
  cases hx : xs[k]? with
  | none =>
    refine wpAny_bind (wpAny_bind (wpAny_onRaise (show wpAny _ _ (Builtin.SmallTypes.nextOf (.ref p) >>= _) _ _ _ from wpAny_bind (it_end hh (hp.ext r1 ap.i1z) (ha.ext r1 ap.l1z) hx fun ha2 e r2 ⟨oe, he, ce⟩ => ?_))))
    have hZ2 : IsZip ha2 Z S D .ellipsis := r2 _ _ ap.i1z.symm hZ1
    have ne : e ≠ Z := fun z => by rw [z, hZ2] at he; cases he; simp at ce
    exact wpAny_setField_rec hZ2 (by simp) fun ha3 _ e3 => hE ha3 e (fun c o n1 _ n3 _ z => e3.extBut _ _ n1 (r2 _ _ n3 (r1 _ _ n1 z))) ⟨oe, e3.extBut _ _ ne he, ce⟩
  | some x =>
    have hy : ys[m]? = none := hend.resolve_left fun z => by rw [hx] at z; cases z
    refine wpAny_bind (wpAny_bind (wpAny_onRaise (show wpAny _ _ (Builtin.SmallTypes.nextOf (.ref p) >>= _) _ _ _ from wpAny_bind (it_next (hp.ext r1 ap.i1z) (ha.ext r1 ap.l1z) hx fun ha2 hp2 e2 => wpAny_pure ?_))))
    have r2 := e2.extBut
    have hD2 : IsPair ha2 D f g := r2 _ _ ap.TOi1 (r1 _ _ ap.TOz hD)
    refine wpAny_bind (wpAny_seqItems hD2 rfl (wpAny_bind (wpAny_updateSeq_pair hD2 fun ha3 hD3 e3 => ?_)))
    have r3 := e3.extBut
    refine wpAny_bind (wpAny_letGo (wpAny_pure (wpAny_bind (wpAny_bind (wpAny_onRaise (show wpAny _ _ (Builtin.SmallTypes.nextOf (.ref q) >>= _) _ _ _ from
      wpAny_bind (it_end hh (((hq.ext r1 ap.i2z).ext r2 ap.i12.symm).ext r3 ap.TOi2.symm) (((hb.ext r1 ap.l2z).ext r2 ap.l2i1).ext r3 ap.l2TO) hy fun ha4 e r4 ⟨oe, he, ce⟩ => ?_)))))))
    have hZ4 : IsZip ha4 Z S D .ellipsis := r4 _ _ ap.i2z.symm (r3 _ _ ap.TOz.symm (r2 _ _ ap.i1z.symm hZ1))
    have ne : e ≠ Z := fun z => by rw [z, hZ4] at he; cases he; simp at ce
    exact wpAny_setField_rec hZ4 (by simp) fun ha5 _ e5 => hE ha5 e (fun c o n1 n2 n3 n4 z => e5.extBut _ _ n1 (r4 _ _ n4 (r3 _ _ n2 (r2 _ _ n3 (r1 _ _ n1 z))))) ⟨oe, e5.extBut _ _ ne he, ce⟩
end
/-- the heap behind zip(a, b) -/
def zipH (t u : Bool) (h : Heap) (a b : Addr) : Heap :=
  ((((h.push { cls := .type (itNm t), data := .fields #[.ref a, .int 0 0] }).push { cls := .type (itNm u), data := .fields #[.ref b, .int 0 0] }).push { cls := .type "tuple", data := .seq #[.ref h.objs.size, .ref (h.objs.size + 1)] }).push
    { cls := .type "tuple", data := .seq #[.none, .none] }).push { cls := .type "zip", data := .fields #[.none, .bool false, .bool false, .ref (h.objs.size + 2), .ref (h.objs.size + 3)] }
theorem zipM_made (t u : Bool) (a b : Addr) (xs ys : Array Value) :
    Meets (Builtin.«zip.__new__» ⟨[.type "zip", .ref a, .ref b], []⟩) (fun _ R s => SqIs t s.heap a xs ∧ SqIs u s.heap b ys ∧ R (.ok (.ret (.ref (s.heap.objs.size + 4)))) { s with heap := zipH t u s.heap a b }) :=
  .of_wp fun prog w A R s h => by
    obtain ⟨hp, g, d, tk, os⟩ := s
    obtain ⟨h1, h2, h⟩ := h
    have hsub := sub_zip
    have k1 : SqIs t (Shared.heap ⟨hp, g, d, tk, os⟩) a xs := h1
    have k2 : SqIs u (Shared.heap ⟨hp.push { cls := .type (itNm t), data := .fields #[.ref a, .int 0 0] }, g, d, tk, os⟩) b ys := by
      cases u with
      | true => exact Heap.IsTuple.push h2 _
      | false => exact Heap.IsList.push h2 _
    simp only [zipH] at h
    wp_walk using it_new k1, it_new k2
    refine ⟨_, rfl, ?_⟩
    simp only [Heap.size_push]
    exact h
theorem call_zipM {prog : Program} {w : World} {A : Around} {E : Value → Shared → Prop} {s : Shared} {t u : Bool} {a b : Addr} {xs ys : Array Value} {Q : Value → Shared → Prop} (ha : SqIs t s.heap a xs) (hb : SqIs u s.heap b ys)
    (h : ∀ h', IsZip h' (s.heap.objs.size + 4) (s.heap.objs.size + 2) (s.heap.objs.size + 3) .none → IsPair h' (s.heap.objs.size + 2) (.ref s.heap.objs.size) (.ref (s.heap.objs.size + 1)) → IsPair h' (s.heap.objs.size + 3) .none .none →
      ItIs t h' s.heap.objs.size a 0 → ItIs u h' (s.heap.objs.size + 1) b 0 → (∀ c o, s.heap.get? c = some o → h'.get? c = some o) → Q (.ref (s.heap.objs.size + 4)) { s with heap := h' }) :
    wpAny (model prog w) A (call (.type "zip") [.ref a, .ref b]) Q E s := by
  refine callType_new F.called_zip (by decide) (F.typeCall_zip_2 _ _) (F.newCall_zip_2 _ _) (fun obj => F.args_object_init_3 obj _ _) F.entry_zip_new (zipM_made t u a b xs ys) ⟨ha, hb, ?_⟩
  generalize hn : s.heap.objs.size = n at h ⊢
  have up : ∀ (h : Heap) (o : Obj) {c : Addr} {v : Obj}, h.get? c = some v → (h.push o).get? c = some v := fun h o _ _ e => Heap.get?_push_of_some o e
  have at' : ∀ (h : Heap) (o : Obj) {m : Nat}, o.isFreed = false → h.objs.size = m → (h.push o).get? m = some o := fun h o m f e => by subst e; exact Heap.get?_push_size _ f
  have g5 : (zipH t u s.heap a b).get? (n + 4) = some _ := at' _ _ rfl (by simp [Heap.size_push, hn])
  have g4 : (zipH t u s.heap a b).get? (n + 3) = some _ := up _ _ (at' _ _ rfl (by simp [Heap.size_push, hn]))
  have g3 : (zipH t u s.heap a b).get? (n + 2) = some _ := up _ _ (up _ _ (at' _ _ rfl (by simp [Heap.size_push, hn])))
  have g2 : (zipH t u s.heap a b).get? (n + 1) = some _ := up _ _ (up _ _ (up _ _ (at' _ _ rfl (by simp [Heap.size_push, hn]))))
  have g1 : (zipH t u s.heap a b).get? n = some _ := up _ _ (up _ _ (up _ _ (up _ _ (at' _ _ rfl hn))))
  rw [hn] at g5 g3
  have it : ∀ (t : Bool) {h : Heap} {p a : Addr}, h.get? p = some { cls := .type (itNm t), data := .fields #[.ref a, .int 0 0] } → ItIs t h p a 0 := fun t h p a e => by cases t <;> exact ⟨_, e, rfl, rfl⟩
  exact ⟨⟨_, g5, rfl⟩, h _ g5 g3 g4 (it t g1) (it u g2) fun c o e => up _ _ (up _ _ (up _ _ (up _ _ (up _ _ e))))⟩

/-! ### the layer's rule -/
def SqK (t : Bool) (K : PySem.W.Frag) (H : Hp) (a : Addr) (xs : List V) : Prop := match t with | true => SqT K H a xs | false => SqL K H a xs
theorem SqK.is {t : Bool} {X : Cx} {pins : List (Addr × Obj)} {σ : L2.St} {H : Hp} {s : Shared} {a : Addr} {xs : List V} (I : Inv X pins σ H s) (h : SqK t X.K H a xs) : ∃ its : List Value, Vals xs its ∧ SqIs t s.heap a its.toArray := by
  cases t with
  | true => obtain ⟨its, r, p, _⟩ := I.tuple h; exact ⟨its, r, p⟩
  | false => obtain ⟨its, r, p, _⟩ := I.list h; exact ⟨its, r, p.isList⟩
theorem SqK.inj {t : Bool} {X : Cx} {pins : List (Addr × Obj)} {σ : L2.St} {H : Hp} {s : Shared} {a : Addr} {xs ys : List V} (I : Inv X pins σ H s) (h : SqK t X.K H a xs) (g : SqK t X.K H a ys) : xs = ys := by
  cases t with
  | true => exact I.tuple_inj h g
  | false => exact I.list_inj h g
def ItzM (t u : Bool) (K : PySem.W.Frag) (a b : Addr) : L2.It where
  go := fun i H => ∃ xs ys x y, SqK t K H a xs ∧ SqK u K H b ys ∧ xs[i]? = some x ∧ ys[i]? = some y
  yld := fun i H v H' => ∃ T x y, v = .ref T ∧ H T = none ∧ H' = upd H T (.tup [x, y]) ∧ (∀ xs, SqK t K H a xs → xs[i]? = some x) ∧ ∀ ys, SqK u K H b ys → ys[i]? = some y
  stop := fun i H => ∃ xs ys, SqK t K H a xs ∧ SqK u K H b ys ∧ (xs.length ≤ i ∨ ys.length ≤ i)
theorem five {c Z S D p q : Addr} (h : c ∈ [Z, S, D, p, q]) : c = Z ∨ c = S ∨ c = D ∨ c = p ∨ c = q := by simpa using h
theorem turn_zipM {P : Program} {w : World} {K : PySem.W.Frag} {es : List Expr} {kk : Nat} {tp : Pos} {t u : Bool} {a b Z S D p q : Addr} (ap : ZipApart Z S D p q a b) :
    Turn P w K (.Tuple es kk tp) (ItzM t u K a b) [Z, S, D, p, q] Z (fun i h => IsZip h Z S D .none ∧ IsPair h S (.ref p) (.ref q) ∧ (∃ f g, IsPair h D f g) ∧ ItIs t h p a i ∧ ItIs u h q b i) where
  mem := List.mem_cons_self
  obj := fun i h ⟨hZ, hS, ⟨f, g, hD⟩, hp, hq⟩ c hc => by
    obtain ⟨o1, v1, e1, d1⟩ := hp.rec
    obtain ⟨o2, v2, e2, d2⟩ := hq.rec
    rcases five hc with rfl | rfl | rfl | rfl | rfl
    · exact ⟨_, hZ, fun v z => nomatch z⟩
    · exact ⟨_, hS, fun v z => nomatch z⟩
    · exact ⟨_, hD, fun v z => nomatch z⟩
    · exact ⟨o1, e1, fun v z => by rw [d1] at z; cases z⟩
    · exact ⟨o2, e2, fun v z => by rw [d2] at z; cases z⟩
  keep := fun i h h' ⟨hZ, hS, ⟨f, g, hD⟩, hp, hq⟩ kp => ⟨kp Z (by simp) _ hZ, kp S (by simp) _ hS, ⟨f, g, kp D (by simp) _ hD⟩, hp.to fun o z => kp p (by simp) o z, hq.to fun o z => kp q (by simp) o z⟩
  item := by
    intro X hP hw hK hc i pins s σ H E I hf ⟨hZ, hS, ⟨f, g, hD⟩, hp, hq⟩ ⟨xs, ys, x, y, kx, ky, ex, ey⟩
    subst hP hw hK
    obtain ⟨its, rv, px⟩ := kx.is I
    obtain ⟨its2, rv2, py⟩ := ky.is I
    obtain ⟨v1, hv1, ru1⟩ := rv.get ex
    obtain ⟨v2, hv2, ru2⟩ := rv2.get ey
    have lZ : Z < s.heap.objs.size := Heap.lt_size hZ
    have hT : s.TypeIs (.ref Z) "zip" := ⟨_, hZ, rfl⟩
    unfold pyNext
    refine wpAny_bind (wpAny_attempt (wpAny_callSpecial?_slot (name := Str.ofString "__next__") hT F.slot_zip_next (wpAny_call_entry F.slot_zip_next hT F.entry_zip_next
      (zipM_item ap hZ hS hD hp hq px py (x := v1) (y := v2) (by simpa using hv1) (by simpa using hv2) fun h' hZ' hD' hp' hq' hT' hsz hk => wpAny_pure ?_) (F.args_zip_next_1 _))))
    refine ⟨_, rfl, wpAny_letOwnedTupleGo_zip (s := { s with heap := h' }) hZ' fun h2 hZ2 sb => ?_⟩
    have rb := sb.extBut
    have hT2 : h2.get? s.heap.objs.size = some { cls := .type "tuple", data := .seq #[v1, v2] } := rb _ _ (Nat.ne_of_gt lZ) hT'
    have new : ObjOk X.prog X.w (upd H s.heap.objs.size (.tup [x, y])) h2 s.heap.objs.size (.tup [x, y]) := ⟨by show 2 ≤ sizeLine; decide, [v1, v2], .cons ru1 (.cons ru2 .nil), _, hT2, rfl, _, rfl⟩
    have I1 : Inv X pins σ (upd H s.heap.objs.size (.tup [x, y])) { s with heap := h2 } :=
      I.turnedNew (t' := s.toks) (ch := [Z, S, D, p, q]) (fun c o hb z => rb c o (fun e => hb (by simp [e])) (hk c o (fun e => hb (by simp [e])) (fun e => hb (by simp [e])) (fun e => hb (by simp [e])) (fun e => hb (by simp [e])) z)) hf (Nat.le_refl _) new
    refine ⟨.ref s.heap.objs.size, _, I1, rfl, ⟨_, x, y, rfl, I.hok.fresh (Nat.le_refl _), rfl, fun l hl => by rw [SqK.inj I hl kx]; exact ex, fun l hl => by rw [SqK.inj I hl ky]; exact ey⟩,
      ⟨hZ2, rb _ _ ap.TIz (hk _ _ ap.TIz ap.TITO ap.TIi1 ap.TIi2 hS), ⟨v1, v2, rb _ _ ap.TOz hD'⟩, hp'.to fun o z => rb _ _ ap.i1z z, hq'.to fun o z => rb _ _ ap.i2z z⟩, fun c hcm => ?_⟩
    have hlt : c < s.heap.objs.size := by
      rcases five hcm with rfl | rfl | rfl | rfl | rfl
      · exact lZ
      · exact Heap.lt_size hS
      · exact Heap.lt_size hD
      · exact hp.lt
      · exact hq.lt
    rw [upd_ne (Nat.ne_of_lt hlt)]
    exact (hf c hcm).1
  done := by
    intro X hP hw hK hc i pins s σ H E I hf ⟨hZ, hS, ⟨f, g, hD⟩, hp, hq⟩ ⟨xs, ys, kx, ky, hend⟩
    subst hP hw hK
    obtain ⟨its, rv, px⟩ := kx.is I
    obtain ⟨its2, rv2, py⟩ := ky.is I
    have l1 := rv.length
    have l2 := rv2.length
    have none2 : its.toArray[i]? = none ∨ its2.toArray[i]? = none := hend.imp (fun z => by simp; omega) fun z => by simp; omega
    have hT : s.TypeIs (.ref Z) "zip" := ⟨_, hZ, rfl⟩
    unfold pyNext
    refine wpAny_bind (wpAny_attempt (wpAny_callSpecial?_slot (name := Str.ofString "__next__") hT F.slot_zip_next (wpAny_call_entry F.slot_zip_next hT F.entry_zip_next
      (zipM_end (I.ok.hd hc) ap hZ hS hD hp hq px py none2 fun h' e hk ⟨o, ho, co⟩ => wpAny_bind (wpAny_isInstance (T := "StopIteration") (b := true) ⟨o, ho, co⟩ isSubtype_stop (wpAny_pure ?_))) (F.args_zip_next_1 _))))
    exact ⟨rfl, I.turnedL (t' := s.toks) (ch := [Z, S, D, p, q]) (fun c o hb z => hk c o (fun e => hb (by simp [e])) (fun e => hb (by simp [e])) (fun e => hb (by simp [e])) (fun e => hb (by simp [e])) z) hf⟩
  self := fun A i s Q E st h => wpAny_pyIter_zip st.1 h
def iZipM (K : PySem.W.Frag) (ta : TA) : TI := fun σ H R => ta σ H fun vs H1 => ∃ t u a b xs ys, vs = [.ref a, .ref b] ∧ SqK t K H1 a xs ∧ SqK u K H1 b ys ∧ R (ItzM t u K a b) H1
theorem pi_zipM {X : Cx} {e e2 : Expr} {ta : TA} {p pos tpos : Pos} {es : List Expr} {kk : Nat} (hg : Gl X "zip") (hm : X.mg "zip" = none) (ha : PA X [e, e2] ta) (hs : starEach [e, e2] X.env = (false, eval e X.env) :: starEach [e2] X.env) (hpl : (backTo pos (starEach [e2] X.env)).any (·.1) = false) :
    PI X (.Tuple es kk tpos) (.Call (.Name "zip" p) [e, e2] [] pos) (iZipM X.K ta) := by
  refine ⟨fun pins s σ H R I h => Call_ (ld_blt I hg hm PyProof.Rows.boot_zip (PyProof.Rows.callWith_type1 (thn (ha.run pos pins s σ H _ I h) fun us s1 ⟨vs, H1, I1, r1, q1⟩ => ?_) hs hpl))⟩
  obtain ⟨t, u, a, b, xs, ys, rfl, kx, ky, q⟩ := q1
  obtain ⟨u1, u2, rfl, r, r'⟩ : ∃ u1 u2, us = [u1, u2] ∧ RelV (.ref a) u1 ∧ RelV (.ref b) u2 := by
    cases r1 with
    | cons r rr => cases rr with | cons r' rr => cases rr; exact ⟨_, _, rfl, r, r'⟩
  cases r
  cases r'
  generalize hn : s1.heap.objs.size = n
  have fresh : ∀ c, c ∈ [n + 4, n + 2, n + 3, n, n + 1] → FpOk X pins H1 c := fun c hcm => by
    have hle : s1.heap.objs.size ≤ c := by
      rcases five hcm with rfl | rfl | rfl | rfl | rfl <;> omega
    exact I1.fpOk hle (I1.hok.fresh hle)
  obtain ⟨its, rv, px⟩ := kx.is I1
  obtain ⟨its2, rv2, py⟩ := ky.is I1
  refine call_zipM px py fun h' hZ hS hD hp hq hk => wpAny_pyIter_zip hZ ?_
  have I2 : Inv X pins σ H1 { s1 with heap := h' } := I1.kept (t' := s1.toks) hk
  rw [hn] at hZ hS hD hp hq ⊢
  exact ⟨n + 4, [n + 4, n + 2, n + 3, n, n + 1], _, _, H1, rfl, I2, turn_zipM (by rw [← hn]; exact PySem.W.ktu_apart s1.heap.objs.size a b px.lt py.lt), ⟨hZ, hS, ⟨_, _, hD⟩, hp, hq⟩, fresh, q⟩
theorem stands_as {K : PySem.W.Frag} {CA : CAt} {H2 : Hp} {s2 : S} {v : V} {d : D} {ds : List D} (hs2 : RelS K CA H2 s2) (r : Rep K H2 v d) (e : seqOf s2 d = some ds) :
    ∃ t p, v = .ref p ∧ (∃ vs, SqK t K H2 p vs) ∧ ∀ s H, RelS K CA H s → Fr s2 H2 s H → standsAs s2 d ds s → ∃ vs, SqK t K H p vs ∧ RepAll K H vs ds := by
  cases d with
  | tup _ => cases e; cases r with | tup h a => exact ⟨true, _, rfl, ⟨_, h⟩, fun s H hs f _ => ⟨_, (f.firm hs2).sqT h, a.mono (f.firm hs2)⟩⟩
  | fz _ => cases e; cases r with | fz h a => exact ⟨false, _, rfl, ⟨_, h.sq⟩, fun s H hs f _ => ⟨_, ((f.firm hs2).fzL h).sq, a.mono (f.firm hs2)⟩⟩
  | ref a =>
    cases r
    unfold seqOf at e
    simp only at e
    split at e
    · rename_i ds' e2
      cases e
      obtain ⟨ws, h1, _⟩ := hs2.get e2
      exact ⟨false, a, rfl, ⟨ws, SqL.of h1⟩, fun s H hs f c => let ⟨vs, h1, h2⟩ := hs.get (show s a = some (.lst ds) from c); ⟨vs, SqL.of h1, h2⟩⟩
    · cases e
  | non => cases e
  | bl _ => cases e
  | int _ => cases e
  | str _ => cases e
theorem walks_z {K : PySem.W.Frag} {CA : CAt} {t u : Bool} {a b : Addr} {xs ys : List D} {chk : S → Prop} {s0 : S} {H0 : Hp} (h1 : ∀ s H, RelS K CA H s → Fr s0 H0 s H → chk s → ∃ vs, SqK t K H a vs ∧ RepAll K H vs xs)
    (h2 : ∀ s H, RelS K CA H s → Fr s0 H0 s H → chk s → ∃ vs, SqK u K H b vs ∧ RepAll K H vs ys) : Walks K CA (ItzM t u K a b) ((xs.zip ys).map fun p => .tup [p.1, p.2]) chk s0 H0 where
  go := fun i s H hs f c hi => by
    obtain ⟨vs, k1, r1⟩ := h1 s H hs f c
    obtain ⟨ws, k2, r2⟩ := h2 s H hs f c
    rw [List.length_map, List.length_zip] at hi
    obtain ⟨x, ex⟩ := get_some (l := vs) (i := i) (by rw [r1.length]; omega)
    obtain ⟨y, ey⟩ := get_some (l := ws) (i := i) (by rw [r2.length]; omega)
    exact ⟨vs, ws, x, y, k1, k2, ex, ey⟩
  yld := fun i s H x H' hs f c hi ⟨T, x', y', e1, e2, e3, e4, e5⟩ => by
    subst e1 e3
    obtain ⟨vs, k1, r1⟩ := h1 s H hs f c
    obtain ⟨ws, k2, r2⟩ := h2 s H hs f c
    obtain ⟨d1, g1, p1⟩ := r1.get' (e4 vs k1)
    obtain ⟨d2, g2, p2⟩ := r2.get' (e5 ws k2)
    have F : Firm H (upd H T (.tup [x', y'])) := Firm.updS (Soft.none e2)
    refine ⟨.tup [d1, d2], ?_, .tup (.inl (.inl upd_same)) (.cons (p1.mono F) (.cons (p2.mono F) .nil)), hs.newT e2, Fr.newT e2⟩
    rw [List.getElem?_map, (List.getElem?_zip_eq_some (z := (d1, d2))).mpr ⟨g1, g2⟩]; rfl
  stop := fun s H hs f c => by
    obtain ⟨vs, k1, r1⟩ := h1 s H hs f c
    obtain ⟨ws, k2, r2⟩ := h2 s H hs f c
    refine ⟨vs, ws, k1, k2, ?_⟩
    rw [List.length_map, List.length_zip, r1.length, r2.length]
    omega
theorem zip_ok (P : Prog) (CA : CAt) (T : Tab) (C : CallP) (X : Cx) : ZipOk X P CA C T := by
  intro a b pa pb es kk tp p pos ha hb s1 s2 hg hm hc
  refine PI.imp (pi_zipM hg hm (pa_cons ha (pa_cons hb pa_nil (s2 [])) (s1 [pb])) (s1 [pb]) (by rw [s2]; rfl)) fun σ H R ⟨ρ, s, Qi, y, hw, hQ⟩ => ?_
  refine le_run y hw fun d1 s1 v1 H1 q1 y1 r1 f1 => le_run y1 q1 fun d2 s2 v2 H2 q2 y2 r2 f2 => ?_
  obtain ⟨xs, e1, q2⟩ := got.out q2
  obtain ⟨ys, e2, q2⟩ := got.out q2
  obtain ⟨t, a', rfl, ⟨vs, k1⟩, w1⟩ := stands_as y2.s (r1.mono (f2.firm y1.s)) e1
  obtain ⟨u, b', rfl, ⟨ws, k2⟩, w2⟩ := stands_as y2.s r2 e2
  exact ⟨t, u, a', b', vs, ws, rfl, k1, k2, hQ _ _ _ _ _ q2 y2.s (f1.trans f2) (walks_z (fun s H hs f c => w1 s H hs f c.1) fun s H hs f c => w2 s H hs f c.2)⟩
end Tk
set_option Elab.async false
set_option linter.all false
set_option maxRecDepth 100000
set_option maxHeartbeats 4000000
namespace K14
open PySem PySem.Spec PyProof.Rows L2 Tk
def top (i : Nat) : Stmt := PySem.Challenge.pw_tokenmachine_k14_written_and_read.main.body.getD i (.Pass ⟨0, 0, 0, 0⟩)
def s_law : Stmt := top 39
def n_law : List Str := ["_law_script", "_law_row", "_law_turn", "_law_program_here", "_law_words_here", "_law_text", "_law_found", "_law_params", "_law_deeds_here", "_law_result"]
def p_law : List Str := ["_law_script"]
def b_law : List Tk.St := [.asg (.nm 1) (.lst (.cons (.var 0) (.cons (.int 0) (.cons (.int 0) (.cons (.int 0) .nil))))), .for_ (.nm 2) (.r1 (.int 6)) [.asg (.nm 3) (.call 1 (.cons (.var 1) .nil)), .asg (.nm 4) (.lst .nil), .for_ (.tup [7, 8, 9]) (.val (.var 3)) [.asg (.nm 4) (.bin .add (.bin .add (.bin .add (.bin .add (.var 4) (.lst (.cons (.str "fun") (.cons (.bi .str (.cons (.var 7) .nil)) .nil)))) (.call 3 (.cons (.var 8) .nil))) (.lst (.cons (.str "back") .nil))) (.call 3 (.cons (.var 9) .nil)))], .asg (.nm 5) (.bm .join (.str " ") (.cons (.var 4) .nil)), .asg (.nm 6) (.ife (.cmp .le (.bi .len (.cons (.var 4) .nil)) (.int 300)) (.call 2 (.cons (.var 5) .nil)) (.var 3)), .ife (.or (.not (.call 4 (.cons (.call 5 (.cons (.var 3) .nil)) (.cons (.var 5) .nil)))) (.or (.not (.call 4 (.cons (.var 6) (.cons (.var 3) .nil)))) (.cmp .ne (.call 5 (.cons (.var 6) .nil)) (.var 5)))) [.ret (.bl false)] []], .ret (.bl true)]
def s__law_program : Stmt := top 32
def n__law_program : List Str := ["_law_row", "_law_many", "_law_params", "_law_found", "_law_number_here", "_law_box", "_law_deeds_here", "_law_k", "_law_one"]
def p__law_program : List Str := ["_law_row"]
def b__law_program : List Tk.St := [.ife (.cmp .eq (.call 6 (.cons (.var 0) (.cons (.int 9) .nil))) (.int 8)) [.ret (.call 7 (.cons (.var 0) .nil))] [], .asg (.nm 1) (.bin .add (.int 1) (.call 6 (.cons (.var 0) (.cons (.ix (.lst (.cons (.int 2) (.cons (.int 4) .nil))) (.call 6 (.cons (.var 0) (.cons (.int 2) .nil)))) .nil)))), .asgC 2 (.lc (.call 6 (.cons (.var 0) (.cons (.int 4) .nil))) (.nm 7) (.r1 (.var 1)) .no [7]), .asg (.nm 3) (.lst .nil), .for_ (.nm 4) (.r1 (.var 1)) [.asg (.nm 5) (.lst (.cons (.ix (.lst (.cons (.int 14) (.cons (.int 36) .nil))) (.call 6 (.cons (.var 0) (.cons (.int 2) .nil)))) (.cons (.var 2) (.cons (.lrng (.bin .add (.var 4) (.int 1)) (.var 1)) .nil)))), .asg (.nm 6) (.bi .tuple (.cons (.call 8 (.cons (.var 0) (.cons (.var 5) (.cons (.int 0) (.cons (.int 4) .nil))))) .nil)), .iset (.var 5) (.int 0) (.bi .max (.cons (.int 3) (.cons (.ix (.var 5) (.int 0)) .nil))), .expr (.bm .append (.var 3) (.cons (.tup (.cons (.ix (.var 2) (.var 4)) (.cons (.var 6) (.cons (.call 9 (.cons (.var 0) (.cons (.var 5) (.cons (.int 2) .nil)))) .nil)))) .nil))], .ife (.cmp .ne (.lc (.var 8) (.nm 8) (.val (.var 3)) (.so (.cmp .gt (.bin .add (.call 10 (.cons (.ix (.var 8) (.int 1)) .nil)) (.call 10 (.cons (.tup (.cons (.ix (.var 8) (.int 2)) .nil)) .nil))) (.int 40))) [8]) (.lst .nil)) [.ret (.tup (.cons (.tup (.cons (.int 1) (.cons (.tup .nil) (.cons (.tup (.cons (.str "add") (.cons (.tup (.cons (.str "var") (.cons (.int 0) .nil))) (.cons (.tup (.cons (.str "num") (.cons (.int 1) .nil))) .nil)))) .nil)))) .nil))] [], .ret (.bi .tuple (.cons (.var 3) .nil))]
def s_read : Stmt := top 24
def n_read : List Str := ["text", "reader", "found"]
def p_read : List Str := ["text"]
def b_read : List Tk.St := [.asg (.nm 1) (.mk 0 (.cons (.bm .split (.var 0) (.cons (.str " ") .nil)) .nil)), .asg (.nm 2) (.lst (.cons (.meth 0 "one_function" 18 (.var 1) .nil) .nil)), .whl (.cmp .lt (.fld (.var 1) "place") (.bi .len (.cons (.fld (.var 1) "words") .nil))) [.expr (.bm .append (.var 2) (.cons (.meth 0 "one_function" 18 (.var 1) .nil) .nil))], .expr (.call 19 (.cons (.bi .tuple (.cons (.var 2) .nil)) .nil)), .ret (.bi .tuple (.cons (.var 2) .nil))]
def s__law_words : Stmt := top 34
def n__law_words : List Str := ["_law_thing", "_law_found", "_law_one", "_law_deed"]
def p__law_words : List Str := ["_law_thing"]
def b__law_words : List Tk.St := [.ife (.or (.cmp .eq (.var 0) (.tup .nil)) (.isi (.ix (.var 0) (.int 0)) ["tuple"])) [.asg (.nm 1) (.lst .nil), .for_ (.nm 3) (.val (.var 0)) [.asg (.nm 1) (.bin .add (.var 1) (.call 20 (.cons (.var 3) .nil)))], .ret (.var 1)] [], .ife (.cmp .inn (.ix (.var 0) (.int 0)) (.tup (.cons (.str "num") (.cons (.str "var") .nil)))) [.ret (.lst (.cons (.bin .add (.ix (.lst (.cons (.str "v") (.cons (.str "") .nil))) (.bi .int (.cons (.cmp .eq (.ix (.var 0) (.int 0)) (.str "num")) .nil))) (.bi .str (.cons (.ix (.var 0) (.int 1)) .nil))) .nil))] [], .asg (.nm 1) (.lst (.cons (.ix (.var 0) (.int 0)) .nil)), .ife (.cmp .eq (.ix (.var 0) (.int 0)) (.str "call")) [.asg (.nm 1) (.bin .add (.var 1) (.lst (.cons (.bi .str (.cons (.ix (.var 0) (.int 1)) .nil)) (.cons (.bi .str (.cons (.bi .len (.cons (.ix (.var 0) (.int 2)) .nil)) .nil)) .nil))))] [], .for_ (.nm 2) (.val (.ife (.cmp .eq (.ix (.var 0) (.int 0)) (.str "call")) (.ix (.var 0) (.int 2)) (.sl (.var 0) (.so (.int 1)) .no))) [.asg (.nm 1) (.bin .add (.var 1) (.call 3 (.cons (.var 2) .nil)))], .ret (.var 1)]
def s__law_alike : Stmt := top 27
def n__law_alike : List Str := ["_law_found", "_law_due", "_law_k"]
def p__law_alike : List Str := ["_law_found", "_law_due"]
def b__law_alike : List Tk.St := [.ife (.or (.isi (.var 1) ["tuple"]) (.isi (.var 1) ["list"])) [.ife (.or (.cmp .ne (.isi (.var 0) ["tuple"]) (.isi (.var 1) ["tuple"])) (.not (.isi (.var 0) ["tuple", "list"]))) [.ret (.bl false)] [], .ife (.cmp .ne (.bi .len (.cons (.var 0) .nil)) (.bi .len (.cons (.var 1) .nil))) [.ret (.bl false)] [], .ret (.cmp .eq (.lc (.var 2) (.nm 2) (.r1 (.bi .len (.cons (.var 1) .nil))) (.so (.not (.call 4 (.cons (.ix (.var 0) (.var 2)) (.cons (.ix (.var 1) (.var 2)) .nil))))) [2]) (.lst .nil))] [], .ife (.or (.cmp .isN (.var 1) (.non)) (.cmp .isN (.var 0) (.non))) [.ret (.and (.cmp .isN (.var 1) (.non)) (.cmp .isN (.var 0) (.non)))] [], .ife (.or (.isi (.var 1) ["bool"]) (.isi (.var 0) ["bool"])) [.ret (.and (.isi (.var 1) ["bool"]) (.and (.isi (.var 0) ["bool"]) (.cmp .eq (.var 0) (.var 1))))] [], .ife (.isi (.var 1) ["str"]) [.ret (.and (.isi (.var 0) ["str"]) (.cmp .eq (.var 0) (.var 1)))] [], .ret (.and (.isi (.var 0) ["int"]) (.cmp .eq (.var 0) (.var 1)))]
def s_written : Stmt := top 21
def n_written : List Str := ["program", "words", "params", "deeds", "result"]
def p_written : List Str := ["program"]
def b_written : List Tk.St := [.expr (.call 19 (.cons (.var 0) .nil)), .asg (.nm 1) (.lst .nil), .for_ (.tup [2, 3, 4]) (.val (.var 0)) [.expr (.bm .extend (.var 1) (.cons (.bin .add (.bin .add (.bin .add (.lst (.cons (.str "fun") (.cons (.bi .str (.cons (.var 2) .nil)) .nil))) (.call 22 (.cons (.var 3) .nil))) (.lst (.cons (.str "back") .nil))) (.call 21 (.cons (.var 4) .nil))) .nil))], .ret (.bm .join (.str " ") (.cons (.var 1) .nil))]
def s__law_taken : Stmt := top 26
def n__law_taken : List Str := ["_law_row", "_law_many", "_law_cell", "_law_found"]
def p__law_taken : List Str := ["_law_row", "_law_many"]
def b__law_taken : List Tk.St := [.ife (.cmp .gt (.ix (.var 0) (.int 3)) (.int 0)) [.asg (.nm 3) (.bin .mod (.ix (.var 0) (.int 3)) (.var 1)), .iset (.var 0) (.int 3) (.bin .fdiv (.ix (.var 0) (.int 3)) (.var 1)), .ret (.var 3)] [], .iset (.var 0) (.int 1) (.bin .add (.ix (.var 0) (.int 1)) (.int 1)), .ife (.cmp .gt (.ix (.var 0) (.int 1)) (.bi .len (.cons (.ix (.var 0) (.int 0)) .nil))) [.iset (.var 0) (.int 2) (.bin .mod (.bin .add (.bin .mul (.ix (.var 0) (.int 2)) (.int 48271)) (.int 11)) (.int 2147483647)), .ret (.bin .mod (.bin .fdiv (.ix (.var 0) (.int 2)) (.int 7)) (.var 1))] [], .asg (.nm 2) (.ix (.ix (.var 0) (.int 0)) (.bin .sub (.ix (.var 0) (.int 1)) (.int 1))), .iset (.var 0) (.int 2) (.bin .mod (.bin .add (.bin .add (.bin .mul (.ix (.var 0) (.int 2)) (.int 48271)) (.var 2)) (.int 11)) (.int 2147483647)), .ife (.cmp .ge (.var 2) (.bin .pow (.int 10) (.int 18))) [.iset (.var 0) (.int 3) (.bin .fdiv (.var 2) (.var 1))] [], .ret (.bin .mod (.var 2) (.var 1))]
def s__law_any_functions : Stmt := top 36
def n__law_any_functions : List Str := ["_law_row", "_law_params", "_law_found", "_law_many", "_law_box", "_law_deeds_here", "_law_k"]
def p__law_any_functions : List Str := ["_law_row"]
def b__law_any_functions : List Tk.St := [.asgC 1 (.lc (.call 6 (.cons (.var 0) (.cons (.int 4) .nil))) (.nm 6) (.r1 (.bin .add (.int 1) (.call 6 (.cons (.var 0) (.cons (.int 4) .nil))))) .no [6]), .asg (.nm 2) (.lst .nil), .for_ (.nm 3) (.val (.var 1)) [.asg (.nm 4) (.lst (.cons (.int 39) (.cons (.var 1) .nil))), .asg (.nm 5) (.call 23 (.cons (.var 0) (.cons (.var 4) (.cons (.int 0) .nil)))), .expr (.bm .append (.var 2) (.cons (.tup (.cons (.var 3) (.cons (.var 5) (.cons (.call 24 (.cons (.var 0) (.cons (.var 4) (.cons (.int 0) .nil)))) .nil)))) .nil))], .ret (.bi .tuple (.cons (.var 2) .nil))]
def s__law_deeds : Stmt := top 31
def n__law_deeds : List Str := ["_law_row", "_law_box", "_law_deep", "_law_most", "_law_found", "_law_turn", "_law_way", "_law_test", "_law_sides", "_law_side"]
def p__law_deeds : List Str := ["_law_row", "_law_box", "_law_deep", "_law_most"]
def b__law_deeds : List Tk.St := [.asg (.nm 4) (.lst .nil), .for_ (.nm 5) (.r1 (.bin .add (.int 1) (.call 6 (.cons (.var 0) (.cons (.var 3) .nil))))) [.asg (.nm 6) (.call 6 (.cons (.var 0) (.cons (.int 7) .nil))), .ife (.or (.cmp .lt (.ix (.var 1) (.int 0)) (.int 12)) (.or (.cmp .gt (.var 2) (.int 2)) (.cmp .lt (.var 6) (.int 4)))) [.ife (.cmp .gt (.ix (.var 1) (.int 0)) (.int 4)) [.iset (.var 1) (.int 0) (.bin .sub (.ix (.var 1) (.int 0)) (.int 1)), .expr (.bm .append (.var 4) (.cons (.tup (.cons (.str "let") (.cons (.call 6 (.cons (.var 0) (.cons (.ix (.lst (.cons (.int 3) (.cons (.int 6) .nil))) (.call 6 (.cons (.var 0) (.cons (.int 2) .nil)))) .nil))) (.cons (.call 9 (.cons (.var 0) (.cons (.var 1) (.cons (.int 2) .nil)))) .nil)))) .nil))] []] [.ife (.cmp .eq (.var 6) (.int 6)) [.expr (.bm .extend (.var 4) (.cons (.call 25 (.cons (.var 0) (.cons (.var 1) (.cons (.var 2) .nil)))) .nil))] [.iset (.var 1) (.int 0) (.bin .sub (.ix (.var 1) (.int 0)) (.int 1)), .asg (.nm 7) (.call 9 (.cons (.var 0) (.cons (.var 1) (.cons (.int 1) .nil)))), .asgC 8 (.lc (.bi .tuple (.cons (.call 8 (.cons (.var 0) (.cons (.var 1) (.cons (.bin .add (.var 2) (.int 1)) (.cons (.int 2) .nil))))) .nil)) (.nm 9) (.r1 (.int 2)) .no [9]), .expr (.bm .append (.var 4) (.cons (.tup (.cons (.str "if") (.cons (.var 7) (.cons (.ix (.lst (.cons (.ix (.var 8) (.int 0)) (.cons (.tup .nil) .nil))) (.bi .int (.cons (.cmp .eq (.call 6 (.cons (.var 0) (.cons (.int 5) .nil))) (.int 4)) .nil))) (.cons (.ix (.lst (.cons (.ix (.var 8) (.int 1)) (.cons (.tup .nil) .nil))) (.call 6 (.cons (.var 0) (.cons (.int 2) .nil)))) .nil))))) .nil))]]], .ret (.var 4)]
def s__law_worth : Stmt := top 29
def n__law_worth : List Str := ["_law_row", "_law_box", "_law_deep", "_law_way", "_law_called", "_law_word", "_law_k"]
def p__law_worth : List Str := ["_law_row", "_law_box", "_law_deep"]
def b__law_worth : List Tk.St := [.iset (.var 1) (.int 0) (.bin .sub (.ix (.var 1) (.int 0)) (.int 1)), .asg (.nm 3) (.call 6 (.cons (.var 0) (.cons (.int 9) .nil))), .ife (.or (.cmp .eq (.var 2) (.int 0)) (.or (.cmp .lt (.ix (.var 1) (.int 0)) (.int 3)) (.cmp .lt (.var 3) (.int 4)))) [.ret (.ife (.cmp .eq (.bin .mod (.var 3) (.int 3)) (.int 0)) (.tup (.cons (.str "num") (.cons (.call 26 (.cons (.var 0) .nil)) .nil))) (.tup (.cons (.str "var") (.cons (.call 6 (.cons (.var 0) (.cons (.ix (.lst (.cons (.int 3) (.cons (.int 6) .nil))) (.call 6 (.cons (.var 0) (.cons (.int 2) .nil)))) .nil))) .nil))))] [], .ife (.or (.cmp .lt (.var 3) (.int 8)) (.cmp .eq (.ix (.var 1) (.int 2)) (.lst .nil))) [.asg (.nm 5) (.ix (.lst (.cons (.str "add") (.cons (.str "take") (.cons (.str "times") (.cons (.str "less") (.cons (.str "same") .nil)))))) (.call 6 (.cons (.var 0) (.cons (.int 5) .nil)))), .ret (.tup (.cons (.var 5) (.cons (.call 9 (.cons (.var 0) (.cons (.var 1) (.cons (.bin .sub (.var 2) (.int 1)) .nil)))) (.cons (.call 9 (.cons (.var 0) (.cons (.var 1) (.cons (.bin .sub (.var 2) (.int 1)) .nil)))) .nil))))] [], .asg (.nm 4) (.ix (.ix (.var 1) (.int 2)) (.call 6 (.cons (.var 0) (.cons (.bi .len (.cons (.ix (.var 1) (.int 2)) .nil)) .nil)))), .ret (.tup (.cons (.str "call") (.cons (.var 4) (.cons (.bi .tuple (.cons (.lc (.call 9 (.cons (.var 0) (.cons (.var 1) (.cons (.bin .sub (.var 2) (.int 1)) .nil)))) (.nm 6) (.r1 (.ix (.ix (.var 1) (.int 1)) (.var 4))) .no [6]) .nil)) .nil))))]
def s__law_things : Stmt := top 33
def n__law_things : List Str := ["_law_some", "_law_found", "_law_thing"]
def p__law_things : List Str := ["_law_some"]
def b__law_things : List Tk.St := [.asg (.nm 1) (.int 0), .for_ (.nm 2) (.val (.var 0)) [.ife (.and (.isi (.var 2) ["tuple"]) (.and (.cmp .ne (.var 2) (.tup .nil)) (.isi (.ix (.var 2) (.int 0)) ["str"]))) [.asg (.nm 1) (.bin .add (.var 1) (.int 1))] [], .ife (.isi (.var 2) ["tuple"]) [.asg (.nm 1) (.bin .add (.var 1) (.call 10 (.cons (.var 2) .nil)))] []], .ret (.var 1)]
def s_Reader___init__ : Stmt := inClass (top 23) 0
def n_Reader___init__ : List Str := ["self", "words"]
def p_Reader___init__ : List Str := ["self", "words"]
def b_Reader___init__ : List Tk.St := [.fset (.var 0) "words" (.var 1), .fset (.var 0) "place" (.int 0)]
def s_Reader_word : Stmt := inClass (top 23) 1
def n_Reader_word : List Str := ["self", "some"]
def p_Reader_word : List Str := ["self", "some"]
def b_Reader_word : List Tk.St := [.ife (.or (.cmp .ge (.fld (.var 0) "place") (.bi .len (.cons (.fld (.var 0) "words") .nil))) (.and (.cmp .notN (.var 1) (.non)) (.cmp .nin (.ix (.fld (.var 0) "words") (.fld (.var 0) "place")) (.var 1)))) [.raise] [], .fset (.var 0) "place" (.bin .add (.fld (.var 0) "place") (.int 1)), .ret (.ix (.fld (.var 0) "words") (.bin .sub (.fld (.var 0) "place") (.int 1)))]
def s_Reader_number : Stmt := inClass (top 23) 2
def n_Reader_number : List Str := ["self", "found"]
def p_Reader_number : List Str := ["self"]
def b_Reader_number : List Tk.St := [.asg (.nm 1) (.call 27 (.cons (.meth 0 "word" 12 (.var 0) (.cons (.non) .nil)) .nil)), .ife (.or (.cmp .isN (.var 1) (.non)) (.cmp .lt (.var 1) (.int 0))) [.raise] [], .ret (.var 1)]
def s_Reader_variable : Stmt := inClass (top 23) 3
def n_Reader_variable : List Str := ["self", "word"]
def p_Reader_variable : List Str := ["self"]
def b_Reader_variable : List Tk.St := [.asg (.nm 1) (.meth 0 "word" 12 (.var 0) (.cons (.non) .nil)), .ife (.or (.cmp .ne (.sl (.var 1) .no (.so (.int 1))) (.str "v")) (.or (.cmp .isN (.call 27 (.cons (.sl (.var 1) (.so (.int 1)) .no) .nil)) (.non)) (.cmp .eq (.sl (.var 1) (.so (.int 1)) (.so (.int 2))) (.str "-")))) [.raise] [], .ret (.call 27 (.cons (.sl (.var 1) (.so (.int 1)) .no) .nil))]
def s_Reader_expression : Stmt := inClass (top 23) 4
def n_Reader_expression : List Str := ["self", "word", "one", "called", "turn"]
def p_Reader_expression : List Str := ["self"]
def b_Reader_expression : List Tk.St := [.asg (.nm 1) (.meth 0 "word" 12 (.var 0) (.cons (.non) .nil)), .ife (.cmp .notN (.call 27 (.cons (.var 1) .nil)) (.non)) [.ret (.tup (.cons (.str "num") (.cons (.call 27 (.cons (.var 1) .nil)) .nil)))] [], .ife (.cmp .inn (.var 1) (.con "DOUBLES")) [.asg (.nm 2) (.meth 0 "expression" 15 (.var 0) .nil), .ret (.tup (.cons (.var 1) (.cons (.var 2) (.cons (.meth 0 "expression" 15 (.var 0) .nil) .nil))))] [], .ife (.cmp .eq (.var 1) (.str "call")) [.asg (.nm 3) (.meth 0 "number" 13 (.var 0) .nil), .ret (.tup (.cons (.var 1) (.cons (.var 3) (.cons (.bi .tuple (.cons (.lc (.meth 0 "expression" 15 (.var 0) .nil) (.nm 4) (.r1 (.meth 0 "number" 13 (.var 0) .nil)) .no [4]) .nil)) .nil))))] [], .fset (.var 0) "place" (.bin .sub (.fld (.var 0) "place") (.int 1)), .ret (.tup (.cons (.str "var") (.cons (.meth 0 "variable" 14 (.var 0) .nil) .nil)))]
def s_Reader_deeds : Stmt := inClass (top 23) 5
def n_Reader_deeds : List Str := ["self", "found", "word"]
def p_Reader_deeds : List Str := ["self"]
def b_Reader_deeds : List Tk.St := [.asg (.nm 1) (.lst .nil), .whl (.and (.cmp .lt (.fld (.var 0) "place") (.bi .len (.cons (.fld (.var 0) "words") .nil))) (.cmp .inn (.ix (.fld (.var 0) "words") (.fld (.var 0) "place")) (.tup (.cons (.str "let") (.cons (.str "if") (.cons (.str "while") .nil)))))) [.asg (.nm 2) (.meth 0 "word" 12 (.var 0) (.cons (.non) .nil)), .ife (.cmp .eq (.var 2) (.str "let")) [.expr (.bm .append (.var 1) (.cons (.tup (.cons (.var 2) (.cons (.meth 0 "variable" 14 (.var 0) .nil) (.cons (.meth 0 "expression" 15 (.var 0) .nil) .nil)))) .nil))] [.ife (.cmp .eq (.var 2) (.str "while")) [.expr (.bm .append (.var 1) (.cons (.tup (.cons (.var 2) (.cons (.meth 0 "expression" 15 (.var 0) .nil) (.cons (.meth 0 "deeds" 16 (.var 0) .nil) .nil)))) .nil)), .expr (.meth 0 "word" 12 (.var 0) (.cons (.tup (.cons (.str "end") .nil)) .nil))] [.expr (.bm .append (.var 1) (.cons (.meth 0 "choice" 17 (.var 0) .nil) .nil))]]], .ret (.bi .tuple (.cons (.var 1) .nil))]
def s_Reader_choice : Stmt := inClass (top 23) 6
def n_Reader_choice : List Str := ["self", "test", "one", "other"]
def p_Reader_choice : List Str := ["self"]
def b_Reader_choice : List Tk.St := [.asg (.nm 1) (.meth 0 "expression" 15 (.var 0) .nil), .asg (.nm 2) (.meth 0 "deeds" 16 (.var 0) .nil), .expr (.meth 0 "word" 12 (.var 0) (.cons (.tup (.cons (.str "else") .nil)) .nil)), .asg (.nm 3) (.meth 0 "deeds" 16 (.var 0) .nil), .expr (.meth 0 "word" 12 (.var 0) (.cons (.tup (.cons (.str "end") .nil)) .nil)), .ret (.tup (.cons (.str "if") (.cons (.var 1) (.cons (.var 2) (.cons (.var 3) .nil)))))]
def s_Reader_one_function : Stmt := inClass (top 23) 7
def n_Reader_one_function : List Str := ["self", "params", "deeds"]
def p_Reader_one_function : List Str := ["self"]
def b_Reader_one_function : List Tk.St := [.expr (.meth 0 "word" 12 (.var 0) (.cons (.tup (.cons (.str "fun") .nil)) .nil)), .asg (.nm 1) (.meth 0 "number" 13 (.var 0) .nil), .asg (.nm 2) (.meth 0 "deeds" 16 (.var 0) .nil), .expr (.meth 0 "word" 12 (.var 0) (.cons (.tup (.cons (.str "back") .nil)) .nil)), .ret (.tup (.cons (.var 1) (.cons (.var 2) (.cons (.meth 0 "expression" 15 (.var 0) .nil) .nil))))]
def s_need_program : Stmt := top 15
def n_need_program : List Str := ["program", "shapes", "looker", "number", "function", "is_good"]
def p_need_program : List Str := ["program"]
def b_need_program : List Tk.St := [.ife (.or (.not (.isi (.var 0) ["tuple"])) (.cmp .eq (.var 0) (.tup .nil))) [.raise] [], .asgC 1 (.lc (.call 34 (.cons (.var 4) .nil)) (.nm 4) (.val (.var 0)) .no [4]), .asg (.nm 2) (.mk 1 (.cons (.lc (.ife (.var 5) (.ix (.var 4) (.int 0)) (.int 0)) (.tup [4, 5]) (.zip (.var 0) (.var 1)) .no [4, 5]) .nil)), .for_ (.nm 3) (.r1 (.bi .len (.cons (.var 0) .nil))) [.ife (.or (.cmp .ge (.var 3) (.con "MOST_FUNCTIONS")) (.or (.not (.ix (.var 1) (.var 3))) (.not (.meth 1 "is_function" 33 (.var 2) (.cons (.ix (.var 0) (.var 3)) .nil))))) [.raise] []]]
def s__law_deed_words : Stmt := top 35
def n__law_deed_words : List Str := ["_law_deed", "_law_found"]
def p__law_deed_words : List Str := ["_law_deed"]
def b__law_deed_words : List Tk.St := [.ife (.cmp .eq (.ix (.var 0) (.int 0)) (.str "let")) [.ret (.bin .add (.lst (.cons (.str "let") (.cons (.bin .add (.str "v") (.bi .str (.cons (.ix (.var 0) (.int 1)) .nil))) .nil))) (.call 3 (.cons (.ix (.var 0) (.int 2)) .nil)))] [], .asg (.nm 1) (.bin .add (.bin .add (.lst (.cons (.ix (.var 0) (.int 0)) .nil)) (.call 3 (.cons (.ix (.var 0) (.int 1)) .nil))) (.call 3 (.cons (.ix (.var 0) (.int 2)) .nil))), .ret (.bin .add (.bin .add (.var 1) (.ife (.cmp .eq (.ix (.var 0) (.int 0)) (.str "if")) (.bin .add (.lst (.cons (.str "else") .nil)) (.call 3 (.cons (.ix (.var 0) (.int 3)) .nil))) (.lst .nil))) (.lst (.cons (.str "end") .nil)))]
def s_worth_words : Stmt := top 19
def n_worth_words : List Str := ["e", "found", "inner"]
def p_worth_words : List Str := ["e"]
def b_worth_words : List Tk.St := [.ife (.cmp .eq (.ix (.var 0) (.int 0)) (.str "num")) [.ret (.lst (.cons (.bi .str (.cons (.ix (.var 0) (.int 1)) .nil)) .nil))] [], .ife (.cmp .eq (.ix (.var 0) (.int 0)) (.str "var")) [.ret (.lst (.cons (.bin .add (.str "v") (.bi .str (.cons (.ix (.var 0) (.int 1)) .nil))) .nil))] [], .asg (.nm 1) (.bin .add (.lst (.cons (.ix (.var 0) (.int 0)) .nil)) (.ife (.cmp .eq (.ix (.var 0) (.int 0)) (.str "call")) (.lst (.cons (.bi .str (.cons (.ix (.var 0) (.int 1)) .nil)) (.cons (.bi .str (.cons (.bi .len (.cons (.ix (.var 0) (.int 2)) .nil)) .nil)) .nil))) (.lst .nil))), .for_ (.nm 2) (.val (.ife (.cmp .eq (.ix (.var 0) (.int 0)) (.str "call")) (.ix (.var 0) (.int 2)) (.sl (.var 0) (.so (.int 1)) .no))) [.expr (.bm .extend (.var 1) (.cons (.call 21 (.cons (.var 2) .nil)) .nil))], .ret (.var 1)]
def s_deeds_words : Stmt := top 20
def n_deeds_words : List Str := ["deeds", "found", "deed"]
def p_deeds_words : List Str := ["deeds"]
def b_deeds_words : List Tk.St := [.asg (.nm 1) (.lst .nil), .for_ (.nm 2) (.val (.var 0)) [.ife (.cmp .eq (.ix (.var 2) (.int 0)) (.str "let")) [.expr (.bm .extend (.var 1) (.cons (.bin .add (.lst (.cons (.str "let") (.cons (.bin .add (.str "v") (.bi .str (.cons (.ix (.var 2) (.int 1)) .nil))) .nil))) (.call 21 (.cons (.ix (.var 2) (.int 2)) .nil))) .nil))] [.expr (.bm .extend (.var 1) (.cons (.bin .add (.bin .add (.lst (.cons (.ix (.var 2) (.int 0)) .nil)) (.call 21 (.cons (.ix (.var 2) (.int 1)) .nil))) (.call 22 (.cons (.ix (.var 2) (.int 2)) .nil))) .nil)), .ife (.cmp .eq (.ix (.var 2) (.int 0)) (.str "if")) [.expr (.bm .extend (.var 1) (.cons (.bin .add (.lst (.cons (.str "else") .nil)) (.call 22 (.cons (.ix (.var 2) (.int 3)) .nil))) .nil))] [], .expr (.bm .append (.var 1) (.cons (.str "end") .nil))]], .ret (.var 1)]
def s__law_any_deeds : Stmt := top 37
def n__law_any_deeds : List Str := ["_law_row", "_law_box", "_law_deep", "_law_found", "_law_told", "_law_way", "_law_var", "_law_sides", "_law_k"]
def p__law_any_deeds : List Str := ["_law_row", "_law_box", "_law_deep"]
def b__law_any_deeds : List Tk.St := [.asg (.nm 3) (.lst .nil), .whl (.and (.cmp .gt (.ix (.var 1) (.int 0)) (.int 1)) (.and (.cmp .lt (.var 2) (.int 4)) (.cmp .gt (.call 6 (.cons (.var 0) (.cons (.int 3) .nil))) (.int 0)))) [.iset (.var 1) (.int 0) (.bin .sub (.ix (.var 1) (.int 0)) (.int 2)), .par 5 6 (.call 6 (.cons (.var 0) (.cons (.int 3) .nil))) (.call 6 (.cons (.var 0) (.cons (.int 6) .nil))), .asg (.nm 4) (.call 24 (.cons (.var 0) (.cons (.var 1) (.cons (.int 0) .nil)))), .ife (.cmp .eq (.var 5) (.int 0)) [.expr (.bm .append (.var 3) (.cons (.tup (.cons (.str "let") (.cons (.var 6) (.cons (.var 4) .nil)))) .nil))] [.asg (.nm 7) (.bi .tuple (.cons (.lc (.call 23 (.cons (.var 0) (.cons (.var 1) (.cons (.bin .add (.var 2) (.int 1)) .nil)))) (.nm 8) (.r1 (.bin .sub (.int 3) (.var 5))) .no [8]) .nil)), .expr (.bm .append (.var 3) (.cons (.bin .add (.tup (.cons (.ix (.lst (.cons (.str "if") (.cons (.str "while") .nil))) (.bin .sub (.var 5) (.int 1))) (.cons (.var 4) .nil))) (.var 7)) .nil))]], .ret (.bi .tuple (.cons (.var 3) .nil))]
def s__law_any_worth : Stmt := top 38
def n__law_any_worth : List Str := ["_law_row", "_law_box", "_law_deep", "_law_many", "_law_some", "_law_way", "_law_number_here", "_law_var", "_law_called", "_law_k"]
def p__law_any_worth : List Str := ["_law_row", "_law_box", "_law_deep"]
def b__law_any_worth : List Tk.St := [.asg (.tup [5, 6, 7, 8]) (.lc (.call 6 (.cons (.var 0) (.cons (.ix (.lst (.cons (.int 8) (.cons (.int 2000) (.cons (.int 6) (.cons (.bi .len (.cons (.ix (.var 1) (.int 1)) .nil)) .nil))))) (.var 9)) .nil))) (.nm 9) (.r1 (.int 4)) .no [9]), .asg (.nm 3) (.ife (.cmp .eq (.var 5) (.int 7)) (.ix (.ix (.var 1) (.int 1)) (.var 8)) (.int 2)), .ife (.or (.cmp .eq (.var 5) (.int 0)) (.and (.cmp .gt (.var 5) (.int 1)) (.or (.cmp .gt (.var 3) (.ix (.var 1) (.int 0))) (.and (.cmp .eq (.var 2) (.int 3)) (.cmp .gt (.var 3) (.int 0)))))) [.ret (.tup (.cons (.str "num") (.cons (.bin .sub (.var 6) (.int 1000)) .nil)))] [], .ife (.cmp .eq (.var 5) (.int 1)) [.ret (.tup (.cons (.str "var") (.cons (.var 7) .nil)))] [], .iset (.var 1) (.int 0) (.bin .sub (.ix (.var 1) (.int 0)) (.var 3)), .asg (.nm 4) (.bi .tuple (.cons (.lc (.call 24 (.cons (.var 0) (.cons (.var 1) (.cons (.bin .add (.var 2) (.int 1)) .nil)))) (.nm 9) (.r1 (.var 3)) .no [9]) .nil)), .ret (.ife (.cmp .eq (.var 5) (.int 7)) (.tup (.cons (.str "call") (.cons (.var 8) (.cons (.var 4) .nil)))) (.bin .add (.tup (.cons (.ix (.lst (.cons (.str "add") (.cons (.str "take") (.cons (.str "times") (.cons (.str "less") (.cons (.str "same") .nil)))))) (.bin .sub (.var 5) (.int 2))) .nil)) (.var 4)))]
def s__law_count : Stmt := top 30
def n__law_count : List Str := ["_law_row", "_law_box", "_law_deep", "_law_var", "_law_deeds_here", "_law_last", "_law_test", "_law_deed"]
def p__law_count : List Str := ["_law_row", "_law_box", "_law_deep"]
def b__law_count : List Tk.St := [.iset (.var 1) (.int 0) (.bin .sub (.ix (.var 1) (.int 0)) (.int 8)), .asg (.nm 3) (.bin .sub (.int 5) (.bin .mod (.var 2) (.int 3))), .asgC 4 (.lc (.var 7) (.nm 7) (.val (.call 8 (.cons (.var 0) (.cons (.var 1) (.cons (.bin .add (.var 2) (.int 1)) (.cons (.bin .add (.int 1) (.call 6 (.cons (.var 0) (.cons (.int 2) .nil)))) .nil)))))) (.so (.cmp .ne (.sl (.var 7) .no (.so (.int 2))) (.tup (.cons (.str "let") (.cons (.var 3) .nil))))) [7]), .asg (.nm 5) (.tup (.cons (.str "let") (.cons (.var 3) (.cons (.tup (.cons (.str "add") (.cons (.tup (.cons (.str "var") (.cons (.var 3) .nil))) (.cons (.tup (.cons (.str "num") (.cons (.int 1) .nil))) .nil)))) .nil)))), .asg (.nm 6) (.tup (.cons (.str "less") (.cons (.tup (.cons (.str "var") (.cons (.var 3) .nil))) (.cons (.tup (.cons (.str "num") (.cons (.call 6 (.cons (.var 0) (.cons (.int 4) .nil))) .nil))) .nil)))), .ret (.lst (.cons (.tup (.cons (.str "let") (.cons (.var 3) (.cons (.tup (.cons (.str "num") (.cons (.int 0) .nil))) .nil)))) (.cons (.tup (.cons (.str "while") (.cons (.var 6) (.cons (.bin .add (.bi .tuple (.cons (.var 4) .nil)) (.tup (.cons (.var 5) .nil))) .nil)))) .nil)))]
def s__law_number : Stmt := top 28
def n__law_number : List Str := ["_law_row", "_law_way"]
def p__law_number : List Str := ["_law_row"]
def b__law_number : List Tk.St := [.asg (.nm 1) (.call 6 (.cons (.var 0) (.cons (.int 4) .nil))), .ife (.cmp .lt (.var 1) (.int 2)) [.ret (.call 6 (.cons (.var 0) (.cons (.int 4) .nil)))] [], .ret (.ix (.lst (.cons (.bin .sub (.call 6 (.cons (.var 0) (.cons (.int 12) .nil))) (.int 4)) (.cons (.bin .sub (.call 6 (.cons (.var 0) (.cons (.int 2000) .nil))) (.int 1000)) .nil))) (.bin .sub (.var 1) (.int 2)))]
def s_number_of : Stmt := top 22
def n_number_of : List Str := ["word", "size", "sign"]
def p_number_of : List Str := ["word"]
def b_number_of : List Tk.St := [.asg (.nm 1) (.ife (.cmp .eq (.sl (.var 0) .no (.so (.int 1))) (.str "-")) (.sl (.var 0) (.so (.int 1)) .no) (.var 0)), .ife (.or (.not (.chain .le .le (.int 1) (.bi .len (.cons (.var 1) .nil)) (.con "MOST_FIGURES"))) (.cmp .ne (.lc (.var 2) (.nm 2) (.val (.var 1)) (.so (.cmp .nin (.var 2) (.con "FIGURES"))) [2]) (.lst .nil))) [.ret (.non)] [], .ret (.ife (.cmp .eq (.bi .str (.cons (.bi .int (.cons (.var 0) .nil)) .nil)) (.var 0)) (.bi .int (.cons (.var 0) .nil)) (.non))]
def s_Looker___init__ : Stmt := inClass (top 13) 0
def n_Looker___init__ : List Str := ["self", "many"]
def p_Looker___init__ : List Str := ["self", "many"]
def b_Looker___init__ : List Tk.St := [.fset (.var 0) "many" (.var 1), .fset (.var 0) "things" (.int 0)]
def s_Looker_is_worth : Stmt := inClass (top 13) 1
def n_Looker_is_worth : List Str := ["self", "e", "deep", "low", "high"]
def p_Looker_is_worth : List Str := ["self", "e", "deep"]
def b_Looker_is_worth : List Tk.St := [.fset (.var 0) "things" (.bin .add (.fld (.var 0) "things") (.int 1)), .ife (.or (.not (.isi (.var 1) ["tuple"])) (.or (.cmp .eq (.var 1) (.tup .nil)) (.or (.not (.isi (.ix (.var 1) (.int 0)) ["str"])) (.cmp .gt (.var 2) (.con "MOST_DEEP"))))) [.ret (.bl false)] [], .ife (.cmp .inn (.ix (.var 1) (.int 0)) (.tup (.cons (.str "num") (.cons (.str "var") .nil)))) [.asg (.tup [3, 4]) (.ife (.cmp .eq (.ix (.var 1) (.int 0)) (.str "num")) (.tup (.cons (.bin .sub (.int 0) (.con "HALF")) (.cons (.con "HALF") .nil))) (.tup (.cons (.int 0) (.cons (.con "VARS") .nil)))), .ret (.and (.cmp .eq (.bi .len (.cons (.var 1) .nil)) (.int 2)) (.call 35 (.cons (.ix (.var 1) (.int 1)) (.cons (.var 3) (.cons (.var 4) .nil)))))] [], .ife (.cmp .inn (.ix (.var 1) (.int 0)) (.con "DOUBLES")) [.ret (.and (.cmp .eq (.bi .len (.cons (.var 1) .nil)) (.int 3)) (.meth 1 "are_worths" 30 (.var 0) (.cons (.sl (.var 1) (.so (.int 1)) .no) (.cons (.bin .add (.var 2) (.int 1)) .nil))))] [], .ife (.or (.cmp .ne (.ix (.var 1) (.int 0)) (.str "call")) (.or (.cmp .ne (.bi .len (.cons (.var 1) .nil)) (.int 3)) (.not (.call 35 (.cons (.ix (.var 1) (.int 1)) (.cons (.int 0) (.cons (.bi .len (.cons (.fld (.var 0) "many") .nil)) .nil))))))) [.ret (.bl false)] [], .ret (.and (.isi (.ix (.var 1) (.int 2)) ["tuple"]) (.and (.cmp .eq (.bi .len (.cons (.ix (.var 1) (.int 2)) .nil)) (.ix (.fld (.var 0) "many") (.ix (.var 1) (.int 1)))) (.meth 1 "are_worths" 30 (.var 0) (.cons (.ix (.var 1) (.int 2)) (.cons (.bin .add (.var 2) (.int 1)) .nil)))))]
def s_Looker_are_worths : Stmt := inClass (top 13) 2
def n_Looker_are_worths : List Str := ["self", "some", "deep", "e"]
def p_Looker_are_worths : List Str := ["self", "some", "deep"]
def b_Looker_are_worths : List Tk.St := [.ret (.cmp .eq (.lc (.var 3) (.nm 3) (.val (.var 1)) (.so (.not (.meth 1 "is_worth" 29 (.var 0) (.cons (.var 3) (.cons (.var 2) .nil))))) [3]) (.lst .nil))]
def s_Looker_is_deed : Stmt := inClass (top 13) 3
def n_Looker_is_deed : List Str := ["self", "deed", "deep", "deeds"]
def p_Looker_is_deed : List Str := ["self", "deed", "deep"]
def b_Looker_is_deed : List Tk.St := [.fset (.var 0) "things" (.bin .add (.fld (.var 0) "things") (.int 1)), .ife (.or (.not (.isi (.var 1) ["tuple"])) (.or (.cmp .eq (.var 1) (.tup .nil)) (.or (.not (.isi (.ix (.var 1) (.int 0)) ["str"])) (.cmp .gt (.var 2) (.con "MOST_DEEP"))))) [.ret (.bl false)] [], .ife (.cmp .eq (.ix (.var 1) (.int 0)) (.str "let")) [.ret (.and (.cmp .eq (.bi .len (.cons (.var 1) .nil)) (.int 3)) (.and (.call 35 (.cons (.ix (.var 1) (.int 1)) (.cons (.int 0) (.cons (.con "VARS") .nil)))) (.meth 1 "is_worth" 29 (.var 0) (.cons (.ix (.var 1) (.int 2)) (.cons (.int 0) .nil)))))] [], .ife (.or (.cmp .nin (.ix (.var 1) (.int 0)) (.tup (.cons (.str "if") (.cons (.str "while") .nil)))) (.cmp .ne (.bi .len (.cons (.var 1) .nil)) (.ix (.dct (.cons "if" (.int 4) (.cons "while" (.int 3) .nil))) (.ix (.var 1) (.int 0))))) [.ret (.bl false)] [], .ife (.not (.meth 1 "is_worth" 29 (.var 0) (.cons (.ix (.var 1) (.int 1)) (.cons (.int 0) .nil)))) [.ret (.bl false)] [], .ret (.cmp .eq (.lc (.var 3) (.nm 3) (.val (.sl (.var 1) (.so (.int 2)) .no)) (.so (.not (.meth 1 "are_deeds" 32 (.var 0) (.cons (.var 3) (.cons (.bin .add (.var 2) (.int 1)) .nil))))) [3]) (.lst .nil))]
def s_Looker_are_deeds : Stmt := inClass (top 13) 4
def n_Looker_are_deeds : List Str := ["self", "deeds", "deep", "deed"]
def p_Looker_are_deeds : List Str := ["self", "deeds", "deep"]
def b_Looker_are_deeds : List Tk.St := [.ret (.and (.isi (.var 1) ["tuple"]) (.cmp .eq (.lc (.var 3) (.nm 3) (.val (.var 1)) (.so (.not (.meth 1 "is_deed" 31 (.var 0) (.cons (.var 3) (.cons (.var 2) .nil))))) [3]) (.lst .nil)))]
def s_Looker_is_function : Stmt := inClass (top 13) 5
def n_Looker_is_function : List Str := ["self", "function"]
def p_Looker_is_function : List Str := ["self", "function"]
def b_Looker_is_function : List Tk.St := [.fset (.var 0) "things" (.int 0), .ife (.or (.not (.meth 1 "are_deeds" 32 (.var 0) (.cons (.ix (.var 1) (.int 1)) (.cons (.int 0) .nil)))) (.not (.meth 1 "is_worth" 29 (.var 0) (.cons (.ix (.var 1) (.int 2)) (.cons (.int 0) .nil))))) [.ret (.bl false)] [], .ret (.cmp .le (.fld (.var 0) "things") (.con "MOST_THINGS"))]
def s_is_shape : Stmt := top 14
def n_is_shape : List Str := ["function"]
def p_is_shape : List Str := ["function"]
def b_is_shape : List Tk.St := [.ret (.and (.isi (.var 0) ["tuple"]) (.and (.cmp .eq (.bi .len (.cons (.var 0) .nil)) (.int 3)) (.call 35 (.cons (.ix (.var 0) (.int 0)) (.cons (.int 0) (.cons (.bin .add (.con "MOST_PARAMS") (.int 1)) .nil))))))]
def s_is_within : Stmt := top 12
def n_is_within : List Str := ["number", "low", "high"]
def p_is_within : List Str := ["number", "low", "high"]
def b_is_within : List Tk.St := [.ret (.and (.isi (.var 0) ["int"]) (.and (.not (.isi (.var 0) ["bool"])) (.chain .le .lt (.var 1) (.var 0) (.var 2))))]
def fnc (f : Nat) : Fn := match f with
  | 0 => ⟨1, 10, b_law⟩
  | 1 => ⟨1, 9, b__law_program⟩
  | 2 => ⟨1, 3, b_read⟩
  | 3 => ⟨1, 4, b__law_words⟩
  | 4 => ⟨2, 3, b__law_alike⟩
  | 5 => ⟨1, 5, b_written⟩
  | 6 => ⟨2, 4, b__law_taken⟩
  | 7 => ⟨1, 7, b__law_any_functions⟩
  | 8 => ⟨4, 10, b__law_deeds⟩
  | 9 => ⟨3, 7, b__law_worth⟩
  | 10 => ⟨1, 3, b__law_things⟩
  | 11 => ⟨2, 2, b_Reader___init__⟩
  | 12 => ⟨2, 2, b_Reader_word⟩
  | 13 => ⟨1, 2, b_Reader_number⟩
  | 14 => ⟨1, 2, b_Reader_variable⟩
  | 15 => ⟨1, 5, b_Reader_expression⟩
  | 16 => ⟨1, 3, b_Reader_deeds⟩
  | 17 => ⟨1, 4, b_Reader_choice⟩
  | 18 => ⟨1, 3, b_Reader_one_function⟩
  | 19 => ⟨1, 6, b_need_program⟩
  | 20 => ⟨1, 2, b__law_deed_words⟩
  | 21 => ⟨1, 3, b_worth_words⟩
  | 22 => ⟨1, 3, b_deeds_words⟩
  | 23 => ⟨3, 9, b__law_any_deeds⟩
  | 24 => ⟨3, 10, b__law_any_worth⟩
  | 25 => ⟨3, 8, b__law_count⟩
  | 26 => ⟨1, 2, b__law_number⟩
  | 27 => ⟨1, 3, b_number_of⟩
  | 28 => ⟨2, 2, b_Looker___init__⟩
  | 29 => ⟨3, 5, b_Looker_is_worth⟩
  | 30 => ⟨3, 4, b_Looker_are_worths⟩
  | 31 => ⟨3, 4, b_Looker_is_deed⟩
  | 32 => ⟨3, 4, b_Looker_are_deeds⟩
  | 33 => ⟨2, 2, b_Looker_is_function⟩
  | 34 => ⟨1, 1, b_is_shape⟩
  | 35 => ⟨3, 3, b_is_within⟩
  | _ => ⟨0, 0, [.raise]⟩
def con (x : Str) : Option D :=
  if x = "DOUBLES" then some (.tup [.str "add", .str "take", .str "times", .str "less", .str "same"]) else
  if x = "MOST_FUNCTIONS" then some (.int 4) else
  if x = "MOST_FIGURES" then some (.int 4) else
  if x = "FIGURES" then some (.str "0123456789") else
  if x = "MOST_DEEP" then some (.int 3) else
  if x = "HALF" then some (.int 1000) else
  if x = "VARS" then some (.int 6) else
  if x = "MOST_THINGS" then some (.int 40) else
  if x = "MOST_PARAMS" then some (.int 3) else
  none
def init (c : Nat) : Option Nat := match c with
  | 0 => some 11
  | 1 => some 28
  | _ => none
def flds (c : Nat) : List Str := match c with
  | 0 => ["words", "place"]
  | 1 => ["many", "things"]
  | _ => []
def prog : Prog := ⟨con, fnc, init, flds⟩
def tab : Tab where
  fns := [(0, "law"), (1, "_law_program"), (2, "read"), (3, "_law_words"), (4, "_law_alike"), (5, "written"), (6, "_law_taken"), (7, "_law_any_functions"), (8, "_law_deeds"), (9, "_law_worth"), (10, "_law_things"), (19, "need_program"), (20, "_law_deed_words"), (21, "worth_words"), (22, "deeds_words"), (23, "_law_any_deeds"), (24, "_law_any_worth"), (25, "_law_count"), (26, "_law_number"), (27, "number_of"), (34, "is_shape"), (35, "is_within")]
  clss := [(0, "Reader"), (1, "Looker")]
  mths := [(0, "word", 12), (0, "number", 13), (0, "variable", 14), (0, "expression", 15), (0, "deeds", 16), (0, "choice", 17), (0, "one_function", 18), (1, "is_worth", 29), (1, "are_worths", 30), (1, "is_deed", 31), (1, "are_deeds", 32), (1, "is_function", 33)]
theorem k_law : ckSs tab n_law (defScope s_law) b_law (defBody s_law) = true := by decide +kernel
theorem c_law : FnScope n_law p_law (defScope s_law) := ⟨rfl, rfl, rfl, by decide +kernel, rfl, by decide +kernel, by decide +kernel⟩
theorem k__law_program : ckSs tab n__law_program (defScope s__law_program) b__law_program (defBody s__law_program) = true := by decide +kernel
theorem c__law_program : FnScope n__law_program p__law_program (defScope s__law_program) := ⟨rfl, rfl, rfl, by decide +kernel, rfl, by decide +kernel, by decide +kernel⟩
theorem k_read : ckSs tab n_read (defScope s_read) b_read (defBody s_read) = true := by decide +kernel
theorem c_read : FnScope n_read p_read (defScope s_read) := ⟨rfl, rfl, rfl, by decide +kernel, rfl, by decide +kernel, by decide +kernel⟩
theorem k__law_words : ckSs tab n__law_words (defScope s__law_words) b__law_words (defBody s__law_words) = true := by decide +kernel
theorem c__law_words : FnScope n__law_words p__law_words (defScope s__law_words) := ⟨rfl, rfl, rfl, by decide +kernel, rfl, by decide +kernel, by decide +kernel⟩
theorem k__law_alike : ckSs tab n__law_alike (defScope s__law_alike) b__law_alike (defBody s__law_alike) = true := by decide +kernel
theorem c__law_alike : FnScope n__law_alike p__law_alike (defScope s__law_alike) := ⟨rfl, rfl, rfl, by decide +kernel, rfl, by decide +kernel, by decide +kernel⟩
theorem k_written : ckSs tab n_written (defScope s_written) b_written (defBody s_written) = true := by decide +kernel
theorem c_written : FnScope n_written p_written (defScope s_written) := ⟨rfl, rfl, rfl, by decide +kernel, rfl, by decide +kernel, by decide +kernel⟩
theorem k__law_taken : ckSs tab n__law_taken (defScope s__law_taken) b__law_taken (defBody s__law_taken) = true := by decide +kernel
theorem c__law_taken : FnScope n__law_taken p__law_taken (defScope s__law_taken) := ⟨rfl, rfl, rfl, by decide +kernel, rfl, by decide +kernel, by decide +kernel⟩
theorem k__law_any_functions : ckSs tab n__law_any_functions (defScope s__law_any_functions) b__law_any_functions (defBody s__law_any_functions) = true := by decide +kernel
theorem c__law_any_functions : FnScope n__law_any_functions p__law_any_functions (defScope s__law_any_functions) := ⟨rfl, rfl, rfl, by decide +kernel, rfl, by decide +kernel, by decide +kernel⟩
theorem k__law_deeds : ckSs tab n__law_deeds (defScope s__law_deeds) b__law_deeds (defBody s__law_deeds) = true := by decide +kernel
theorem c__law_deeds : FnScope n__law_deeds p__law_deeds (defScope s__law_deeds) := ⟨rfl, rfl, rfl, by decide +kernel, rfl, by decide +kernel, by decide +kernel⟩
theorem k__law_worth : ckSs tab n__law_worth (defScope s__law_worth) b__law_worth (defBody s__law_worth) = true := by decide +kernel
theorem c__law_worth : FnScope n__law_worth p__law_worth (defScope s__law_worth) := ⟨rfl, rfl, rfl, by decide +kernel, rfl, by decide +kernel, by decide +kernel⟩
theorem k__law_things : ckSs tab n__law_things (defScope s__law_things) b__law_things (defBody s__law_things) = true := by decide +kernel
theorem c__law_things : FnScope n__law_things p__law_things (defScope s__law_things) := ⟨rfl, rfl, rfl, by decide +kernel, rfl, by decide +kernel, by decide +kernel⟩
theorem k_Reader___init__ : ckSs tab n_Reader___init__ (defScope s_Reader___init__) b_Reader___init__ (defBody s_Reader___init__) = true := by decide +kernel
theorem c_Reader___init__ : FnScope n_Reader___init__ p_Reader___init__ (defScope s_Reader___init__) := ⟨rfl, rfl, rfl, by decide +kernel, rfl, by decide +kernel, by decide +kernel⟩
theorem k_Reader_word : ckSs tab n_Reader_word (defScope s_Reader_word) b_Reader_word (defBody s_Reader_word) = true := by decide +kernel
theorem c_Reader_word : FnScope n_Reader_word p_Reader_word (defScope s_Reader_word) := ⟨rfl, rfl, rfl, by decide +kernel, rfl, by decide +kernel, by decide +kernel⟩
theorem k_Reader_number : ckSs tab n_Reader_number (defScope s_Reader_number) b_Reader_number (defBody s_Reader_number) = true := by decide +kernel
theorem c_Reader_number : FnScope n_Reader_number p_Reader_number (defScope s_Reader_number) := ⟨rfl, rfl, rfl, by decide +kernel, rfl, by decide +kernel, by decide +kernel⟩
theorem k_Reader_variable : ckSs tab n_Reader_variable (defScope s_Reader_variable) b_Reader_variable (defBody s_Reader_variable) = true := by decide +kernel
theorem c_Reader_variable : FnScope n_Reader_variable p_Reader_variable (defScope s_Reader_variable) := ⟨rfl, rfl, rfl, by decide +kernel, rfl, by decide +kernel, by decide +kernel⟩
theorem k_Reader_expression : ckSs tab n_Reader_expression (defScope s_Reader_expression) b_Reader_expression (defBody s_Reader_expression) = true := by decide +kernel
theorem c_Reader_expression : FnScope n_Reader_expression p_Reader_expression (defScope s_Reader_expression) := ⟨rfl, rfl, rfl, by decide +kernel, rfl, by decide +kernel, by decide +kernel⟩
theorem k_Reader_deeds : ckSs tab n_Reader_deeds (defScope s_Reader_deeds) b_Reader_deeds (defBody s_Reader_deeds) = true := by decide +kernel
theorem c_Reader_deeds : FnScope n_Reader_deeds p_Reader_deeds (defScope s_Reader_deeds) := ⟨rfl, rfl, rfl, by decide +kernel, rfl, by decide +kernel, by decide +kernel⟩
theorem k_Reader_choice : ckSs tab n_Reader_choice (defScope s_Reader_choice) b_Reader_choice (defBody s_Reader_choice) = true := by decide +kernel
theorem c_Reader_choice : FnScope n_Reader_choice p_Reader_choice (defScope s_Reader_choice) := ⟨rfl, rfl, rfl, by decide +kernel, rfl, by decide +kernel, by decide +kernel⟩
theorem k_Reader_one_function : ckSs tab n_Reader_one_function (defScope s_Reader_one_function) b_Reader_one_function (defBody s_Reader_one_function) = true := by decide +kernel
theorem c_Reader_one_function : FnScope n_Reader_one_function p_Reader_one_function (defScope s_Reader_one_function) := ⟨rfl, rfl, rfl, by decide +kernel, rfl, by decide +kernel, by decide +kernel⟩
theorem k_need_program : ckSs tab n_need_program (defScope s_need_program) b_need_program (defBody s_need_program) = true := by decide +kernel
theorem c_need_program : FnScope n_need_program p_need_program (defScope s_need_program) := ⟨rfl, rfl, rfl, by decide +kernel, rfl, by decide +kernel, by decide +kernel⟩
theorem k__law_deed_words : ckSs tab n__law_deed_words (defScope s__law_deed_words) b__law_deed_words (defBody s__law_deed_words) = true := by decide +kernel
theorem c__law_deed_words : FnScope n__law_deed_words p__law_deed_words (defScope s__law_deed_words) := ⟨rfl, rfl, rfl, by decide +kernel, rfl, by decide +kernel, by decide +kernel⟩
theorem k_worth_words : ckSs tab n_worth_words (defScope s_worth_words) b_worth_words (defBody s_worth_words) = true := by decide +kernel
theorem c_worth_words : FnScope n_worth_words p_worth_words (defScope s_worth_words) := ⟨rfl, rfl, rfl, by decide +kernel, rfl, by decide +kernel, by decide +kernel⟩
theorem k_deeds_words : ckSs tab n_deeds_words (defScope s_deeds_words) b_deeds_words (defBody s_deeds_words) = true := by decide +kernel
theorem c_deeds_words : FnScope n_deeds_words p_deeds_words (defScope s_deeds_words) := ⟨rfl, rfl, rfl, by decide +kernel, rfl, by decide +kernel, by decide +kernel⟩
theorem k__law_any_deeds : ckSs tab n__law_any_deeds (defScope s__law_any_deeds) b__law_any_deeds (defBody s__law_any_deeds) = true := by decide +kernel
theorem c__law_any_deeds : FnScope n__law_any_deeds p__law_any_deeds (defScope s__law_any_deeds) := ⟨rfl, rfl, rfl, by decide +kernel, rfl, by decide +kernel, by decide +kernel⟩
theorem k__law_any_worth : ckSs tab n__law_any_worth (defScope s__law_any_worth) b__law_any_worth (defBody s__law_any_worth) = true := by decide +kernel
theorem c__law_any_worth : FnScope n__law_any_worth p__law_any_worth (defScope s__law_any_worth) := ⟨rfl, rfl, rfl, by decide +kernel, rfl, by decide +kernel, by decide +kernel⟩
theorem k__law_count : ckSs tab n__law_count (defScope s__law_count) b__law_count (defBody s__law_count) = true := by decide +kernel
theorem c__law_count : FnScope n__law_count p__law_count (defScope s__law_count) := ⟨rfl, rfl, rfl, by decide +kernel, rfl, by decide +kernel, by decide +kernel⟩
theorem k__law_number : ckSs tab n__law_number (defScope s__law_number) b__law_number (defBody s__law_number) = true := by decide +kernel
theorem c__law_number : FnScope n__law_number p__law_number (defScope s__law_number) := ⟨rfl, rfl, rfl, by decide +kernel, rfl, by decide +kernel, by decide +kernel⟩
theorem k_number_of : ckSs tab n_number_of (defScope s_number_of) b_number_of (defBody s_number_of) = true := by decide +kernel
theorem c_number_of : FnScope n_number_of p_number_of (defScope s_number_of) := ⟨rfl, rfl, rfl, by decide +kernel, rfl, by decide +kernel, by decide +kernel⟩
theorem k_Looker___init__ : ckSs tab n_Looker___init__ (defScope s_Looker___init__) b_Looker___init__ (defBody s_Looker___init__) = true := by decide +kernel
theorem c_Looker___init__ : FnScope n_Looker___init__ p_Looker___init__ (defScope s_Looker___init__) := ⟨rfl, rfl, rfl, by decide +kernel, rfl, by decide +kernel, by decide +kernel⟩
theorem k_Looker_is_worth : ckSs tab n_Looker_is_worth (defScope s_Looker_is_worth) b_Looker_is_worth (defBody s_Looker_is_worth) = true := by decide +kernel
theorem c_Looker_is_worth : FnScope n_Looker_is_worth p_Looker_is_worth (defScope s_Looker_is_worth) := ⟨rfl, rfl, rfl, by decide +kernel, rfl, by decide +kernel, by decide +kernel⟩
theorem k_Looker_are_worths : ckSs tab n_Looker_are_worths (defScope s_Looker_are_worths) b_Looker_are_worths (defBody s_Looker_are_worths) = true := by decide +kernel
theorem c_Looker_are_worths : FnScope n_Looker_are_worths p_Looker_are_worths (defScope s_Looker_are_worths) := ⟨rfl, rfl, rfl, by decide +kernel, rfl, by decide +kernel, by decide +kernel⟩
theorem k_Looker_is_deed : ckSs tab n_Looker_is_deed (defScope s_Looker_is_deed) b_Looker_is_deed (defBody s_Looker_is_deed) = true := by decide +kernel
theorem c_Looker_is_deed : FnScope n_Looker_is_deed p_Looker_is_deed (defScope s_Looker_is_deed) := ⟨rfl, rfl, rfl, by decide +kernel, rfl, by decide +kernel, by decide +kernel⟩
theorem k_Looker_are_deeds : ckSs tab n_Looker_are_deeds (defScope s_Looker_are_deeds) b_Looker_are_deeds (defBody s_Looker_are_deeds) = true := by decide +kernel
theorem c_Looker_are_deeds : FnScope n_Looker_are_deeds p_Looker_are_deeds (defScope s_Looker_are_deeds) := ⟨rfl, rfl, rfl, by decide +kernel, rfl, by decide +kernel, by decide +kernel⟩
theorem k_Looker_is_function : ckSs tab n_Looker_is_function (defScope s_Looker_is_function) b_Looker_is_function (defBody s_Looker_is_function) = true := by decide +kernel
theorem c_Looker_is_function : FnScope n_Looker_is_function p_Looker_is_function (defScope s_Looker_is_function) := ⟨rfl, rfl, rfl, by decide +kernel, rfl, by decide +kernel, by decide +kernel⟩
theorem k_is_shape : ckSs tab n_is_shape (defScope s_is_shape) b_is_shape (defBody s_is_shape) = true := by decide +kernel
theorem c_is_shape : FnScope n_is_shape p_is_shape (defScope s_is_shape) := ⟨rfl, rfl, rfl, by decide +kernel, rfl, by decide +kernel, by decide +kernel⟩
theorem k_is_within : ckSs tab n_is_within (defScope s_is_within) b_is_within (defBody s_is_within) = true := by decide +kernel
theorem c_is_within : FnScope n_is_within p_is_within (defScope s_is_within) := ⟨rfl, rfl, rfl, by decide +kernel, rfl, by decide +kernel, by decide +kernel⟩
end K14
set_option Elab.async false
set_option linter.all false
set_option maxRecDepth 100000
set_option maxHeartbeats 4000000
/-! TkP: words for plain proofs about our conditions. -/
namespace Tk
open PySem

@[simp] theorem ofs_eq (a b : String) : (Str.ofString a = Str.ofString b) = (a = b) := by
  apply propext
  constructor
  · intro h
    rw [Str.ofString_eq_toList, Str.ofString_eq_toList] at h
    have h1 : (a.toList.map Char.toNat) = (b.toList.map Char.toNat) := by
      have := congrArg Str.cps h
      simpa using congrArg Array.toList this
    have h2 : a.toList = b.toList := (List.map_inj_right (fun x y e => Char.toNat_inj.mp e)).mp h1
    exact String.toList_inj.mp h2
  · intro h; rw [h]
section
variable {P : Prog} {C : CallP} {ρ : LS} {s : S} {Q : Q1} {K : En} {a b c e o i : E}
@[simp] theorem got_some {α : Type} {x : α} {k : α → Prop} : got (some x) k = k x := rfl
@[simp] theorem got_none {α : Type} {k : α → Prop} : got (none : Option α) k = False := rfl
@[simp] theorem isI_int {n : Int} {k : Int → Prop} : isI (.int n) k = k n := rfl
@[simp] theorem truthB_bl {b : Bool} {k : Bool → Prop} : truthB (.bl b) k = k b := rfl
@[simp] theorem e_var {n : Nat} : wE P C (.var n) ρ s Q = got ρ[n]? fun o => got o fun d => Q d s := rfl
@[simp] theorem e_con {x : Str} : wE P C (.con x) ρ s Q = got (P.con x) fun d => Q d s := rfl
@[simp] theorem e_int {n : Int} : wE P C (.int n) ρ s Q = Q (.int n) s := rfl
@[simp] theorem e_bl {n : Bool} : wE P C (.bl n) ρ s Q = Q (.bl n) s := rfl
@[simp] theorem e_non : wE P C .non ρ s Q = Q .non s := rfl
@[simp] theorem e_str {x : Str} : wE P C (.str x) ρ s Q = Q (.str x) s := rfl
@[simp] theorem e_bin {op : BOp} : wE P C (.bin op a b) ρ s Q = wE P C a ρ s fun x s1 => wE P C b ρ s1 fun y s2 => wBin op x y s2 Q := rfl
@[simp] theorem e_cmp {op : COp} : wE P C (.cmp op a b) ρ s Q = wE P C a ρ s fun x s1 => wE P C b ρ s1 fun y s2 => wCmp op x y s2 Q := rfl
@[simp] theorem e_chain {o1 o2 : COp} : wE P C (.chain o1 o2 a b c) ρ s Q = wE P C a ρ s fun x s1 => wE P C b ρ s1 fun y s2 => wCmp o1 x y s2 fun t s3 => truthB t fun k => if k = true then wE P C c ρ s3 fun z s4 => wCmp o2 y z s4 Q else Q (.bl false) s3 := rfl
@[simp] theorem e_neg : wE P C (.neg a) ρ s Q = wE P C a ρ s fun x s1 => isI x fun i => Q (.int (-i)) s1 := rfl
@[simp] theorem e_and : wE P C (.and a b) ρ s Q = wE P C a ρ s fun x s1 => truthB x fun k => if k = true then wE P C b ρ s1 Q else Q (.bl false) s1 := rfl
@[simp] theorem e_or : wE P C (.or a b) ρ s Q = wE P C a ρ s fun x s1 => truthB x fun k => if k = true then Q (.bl true) s1 else wE P C b ρ s1 Q := rfl
@[simp] theorem e_not : wE P C (.not a) ρ s Q = wE P C a ρ s fun x s1 => truthB x fun k => Q (.bl (!k)) s1 := rfl
@[simp] theorem e_ife : wE P C (.ife c a b) ρ s Q = wE P C c ρ s fun x s1 => truthB x fun k => if k = true then wE P C a ρ s1 Q else wE P C b ρ s1 Q := rfl
@[simp] theorem e_ix : wE P C (.ix a b) ρ s Q = wE P C a ρ s fun x s1 => wE P C b ρ s1 fun y s2 => wIx x y s2 Q := rfl
@[simp] theorem e_sl {lo hi : O} : wE P C (.sl a lo hi) ρ s Q = wE P C a ρ s fun x s1 => wO P C lo ρ s1 fun l s2 => wO P C hi ρ s2 fun h s3 => wSl x l h s3 Q := rfl
@[simp] theorem e_tup {es : Es} : wE P C (.tup es) ρ s Q = wEs P C es ρ s fun ds s1 => ds.length ≤ sizeLine ∧ Q (.tup ds) s1 := rfl
@[simp] theorem e_lst {es : Es} : wE P C (.lst es) ρ s Q = wEs P C es ρ s fun ds s1 => ds.length ≤ sizeLine ∧ new s1 (.lst ds) Q := rfl
@[simp] theorem e_dct {ks : Ks} : wE P C (.dct ks) ρ s Q = wKs P C ks ρ s fun kvs s1 => kvs.length ≤ 15 ∧ new s1 (.dct (kvs.foldl (fun acc kv => putD acc kv.1 kv.2) [])) Q := rfl
@[simp] theorem e_fld {f : Str} : wE P C (.fld e f) ρ s Q = wE P C e ρ s fun x s1 => withI s1 x fun _ c fs => f ∈ P.flds c ∧ got (fget f fs) fun d => Q d s1 := rfl
@[simp] theorem e_call {f : Nat} {es : Es} : wE P C (.call f es) ρ s Q = wEs P C es ρ s fun ds s1 => C f ds s1 Q := rfl
@[simp] theorem e_mk {f : Nat} {es : Es} : wE P C (.mk f es) ρ s Q = wEs P C es ρ s fun ds s1 => got (P.init f) fun f' => ∀ p, s1 p = none → C f' (.ref p :: ds) (put s1 p (.ins f [])) fun d s2 => isNon d = true ∧ Q (.ref p) s2 := rfl
@[simp] theorem e_meth {cc f : Nat} {m : Str} {es : Es} : wE P C (.meth cc m f e es) ρ s Q = wE P C e ρ s fun x s1 => withI s1 x fun a c' fs => c' = cc ∧ fget m fs = none ∧ wEs P C es ρ s1 fun ds s2 => C f (.ref a :: ds) s2 Q := rfl
@[simp] theorem e_bm {m : BM} {es : Es} : wE P C (.bm m e es) ρ s Q = wE P C e ρ s fun x s1 => bmTy m s1 x ∧ wEs P C es ρ s1 fun ds s2 => wBM m x ds s2 Q := rfl
@[simp] theorem e_bi {b : BI} {es : Es} : wE P C (.bi b es) ρ s Q = wEs P C es ρ s fun ds s1 => wBI b ds s1 Q := rfl
@[simp] theorem e_isi {ts : List String} : wE P C (.isi e ts) ρ s Q = wE P C e ρ s fun x s1 => got (tyD s1 x) fun t => Q (.bl (ts.any (isTy t))) s1 := rfl
@[simp] theorem e_lrng : wE P C (.lrng a b) ρ s Q = wE P C a ρ s fun x s1 => wE P C b ρ s1 fun y s2 => isI x fun i => isI y fun j => bnd i ∧ bnd j ∧ (j - i).toNat ≤ sizeLine ∧ new s2 (.lst (rng i (j - i).toNat)) Q := rfl
theorem e_lc {g : G} {it : It} {cond : O} {own : List Nat} : wE P C (.lc e g it cond own) ρ s Q = wIt P C it ρ s fun ds chk s1 => lcGo chk (fun x s2 K => wG g x s2 (wipeD ρ own) fun ρ' s3 => wCo P C cond ρ' s3 fun k s4 => if k = true then wE P C e ρ' s4 fun y s5 => K (some y) s5 else K none s4) ds [] s1 fun acc s2 => new s2 (.lst acc) Q := rfl
@[simp] theorem es_nil {Q : QS} : wEs P C .nil ρ s Q = Q [] s := rfl
@[simp] theorem es_cons {es : Es} {Q : QS} : wEs P C (.cons e es) ρ s Q = wE P C e ρ s fun x s1 => wEs P C es ρ s1 fun xs s2 => Q (x :: xs) s2 := rfl
@[simp] theorem o_no {Q : Option Int → S → Prop} : wO P C .no ρ s Q = Q none s := rfl
@[simp] theorem o_so {Q : Option Int → S → Prop} : wO P C (.so e) ρ s Q = wE P C e ρ s fun x s1 => isI x fun i => Q (some i) s1 := rfl
@[simp] theorem co_no {Q : Bool → S → Prop} : wCo P C .no ρ s Q = Q true s := rfl
@[simp] theorem co_so {Q : Bool → S → Prop} : wCo P C (.so e) ρ s Q = wE P C e ρ s fun x s1 => truthB x fun k => Q k s1 := rfl
@[simp] theorem ks_nil {Q : List (L2.Key × D) → S → Prop} : wKs P C .nil ρ s Q = Q [] s := rfl
@[simp] theorem ks_cons {k : Str} {r : Ks} {Q : List (L2.Key × D) → S → Prop} : wKs P C (.cons k e r) ρ s Q = wE P C e ρ s fun x s1 => wKs P C r ρ s1 fun xs s2 => Q ((Sum.inr k, x) :: xs) s2 := rfl
@[simp] theorem it_val {Q : QI} : wIt P C (.val e) ρ s Q = wE P C e ρ s fun x s1 => wVal x s1 Q := rfl
@[simp] theorem it_r1 {Q : QI} : wIt P C (.r1 e) ρ s Q = wE P C e ρ s fun x s1 => isI x fun j => bnd j ∧ Q (rng 0 j.toNat) (fun _ => True) s1 := rfl
@[simp] theorem it_r2 {Q : QI} : wIt P C (.r2 a b) ρ s Q = wE P C a ρ s fun x s1 => wE P C b ρ s1 fun y s2 => isI x fun i => isI y fun j => bnd i ∧ bnd j ∧ Q (rng i (j - i).toNat) (fun _ => True) s2 := rfl
@[simp] theorem it_zip {Q : QI} : wIt P C (.zip a b) ρ s Q = wE P C a ρ s fun x s1 => wE P C b ρ s1 fun y s2 => got (seqOf s2 x) fun xs => got (seqOf s2 y) fun ys => Q ((xs.zip ys).map fun p => .tup [p.1, p.2]) (fun s' => standsAs s2 x xs s' ∧ standsAs s2 y ys s') s2 := rfl
/-! statements: those without a branch -/
@[simp] theorem s_asgE {g : G} : wS P C (.asg g e) K ρ s = wE P C e ρ s fun x s1 => wG g x s1 ρ K.nx := rfl
@[simp] theorem s_parE {m n : Nat} : wS P C (.par m n a b) K ρ s = wE P C a ρ s fun x s1 => wE P C b ρ s1 fun y s2 => K.nx ((ρ.set m (some x)).set n (some y)) s2 := rfl
@[simp] theorem s_asgCE {n : Nat} : wS P C (.asgC n e) K ρ s = wE P C e ρ s fun x s1 => K.nx (ρ.set n (some x)) s1 := rfl
@[simp] theorem s_fsetE {f : Str} : wS P C (.fset o f e) K ρ s = wE P C e ρ s fun y s1 => wE P C o ρ s1 fun x s2 => withI s2 x fun a c fs => f ∈ P.flds c ∧ fs.length < 1000 ∧ K.nx ρ (put s2 a (.ins c (fput f y fs))) := rfl
@[simp] theorem s_isetE : wS P C (.iset o i e) K ρ s = wE P C e ρ s fun y s1 => wE P C o ρ s1 fun x s2 => wE P C i ρ s2 fun z s3 => wISet x z y s3 fun s4 => K.nx ρ s4 := rfl
@[simp] theorem s_exprE : wS P C (.expr e) K ρ s = wE P C e ρ s fun _ s1 => K.nx ρ s1 := rfl
@[simp] theorem s_retE : wS P C (.ret e) K ρ s = wE P C e ρ s K.rt := rfl
@[simp] theorem s_retNE : wS P C .retN K ρ s = K.rt .non s := rfl
@[simp] theorem s_passE : wS P C .pass K ρ s = K.nx ρ s := rfl
@[simp] theorem s_brkE : wS P C .brk K ρ s = K.bk ρ s := rfl
@[simp] theorem s_cntE : wS P C .cnt K ρ s = K.ct ρ s := rfl
theorem s_ifE {p q : List St} : wS P C (.ife c p q) K ρ s = wE P C c ρ s fun x s1 => truthB x fun k => if k = true then wSs P C p K ρ s1 else wSs P C q K ρ s1 := rfl
theorem s_whlE {p : List St} : wS P C (.whl c p) K ρ s = ∃ n, whileN (fun ρ s Q => wE P C c ρ s fun x s1 => truthB x fun k => Q k s1) (fun K ρ s => wSs P C p K ρ s) K n ρ s := rfl
theorem s_forE {g : G} {it : It} {p : List St} : wS P C (.for_ g it p) K ρ s = wIt P C it ρ s fun ds chk s1 => forGo chk g (fun K ρ s => wSs P C p K ρ s) K ds ρ s1 := rfl
@[simp] theorem ss_nil : wSs P C [] K ρ s = K.nx ρ s := rfl
@[simp] theorem ss_cons {t : St} {r : List St} : wSs P C (t :: r) K ρ s = wS P C t { K with nx := wSs P C r K } ρ s := rfl
@[simp] theorem g_nm {n : Nat} {x : D} {Q : LS → S → Prop} : wG (.nm n) x s ρ Q = Q (ρ.set n (some x)) s := rfl
@[simp] theorem g_tup {is : List Nat} {x : D} {Q : LS → S → Prop} : wG (.tup is) x s ρ Q = got (seqOf s x) fun ds => got (setAll is ds ρ) fun ρ' => Q ρ' s := rfl
@[simp] theorem seqOf_tup {ds : List D} : seqOf s (.tup ds) = some ds := rfl
@[simp] theorem seqOf_fz {ds : List D} : seqOf s (.fz ds) = some ds := rfl
theorem seqOf_ref {p : Addr} {ds : List D} (h : s p = some (.lst ds)) : seqOf s (.ref p) = some ds := by unfold seqOf; simp only [h]
theorem withL_eq {p : Addr} {ds : List D} {k : List D → Prop} (h : s p = some (.lst ds)) : withL s p k = k ds := by unfold withL; simp only [h]
theorem withI_eq {p : Addr} {c : Nat} {fs : List (Str × D)} {k : Addr → Nat → List (Str × D) → Prop} (h : s p = some (.ins c fs)) : withI s (.ref p) k = k p c fs := by unfold withI; simp only [h]
theorem ix_lst {p : Addr} {ds : List D} {y : D} (h : s p = some (.lst ds)) : wIx (.ref p) y s Q = wAt ds y s Q := by unfold wIx; simp only [h]
theorem iset_lst {p : Addr} {ds : List D} {k : Int} {v : D} {Q : S → Prop} (h : s p = some (.lst ds)) : wISet (.ref p) (.int k) v s Q = got (L2.ixN ds.length k) fun j => Q (put s p (.lst (ds.set j v))) := by unfold wISet; simp only [h]; rfl
@[simp] theorem ix_tup {ds : List D} {y : D} : wIx (.tup ds) y s Q = wAt ds y s Q := rfl
@[simp] theorem ix_fz {ds : List D} {y : D} : wIx (.fz ds) y s Q = wAt ds y s Q := rfl
theorem ty_lst {p : Addr} {ds : List D} (h : s p = some (.lst ds)) : tyD s (.ref p) = some "list" := by unfold tyD; simp only [h]
@[simp] theorem ty_tup {ds : List D} : tyD s (.tup ds) = some "tuple" := rfl
@[simp] theorem ty_int {n : Int} : tyD s (.int n) = some "int" := rfl
@[simp] theorem ty_bl {n : Bool} : tyD s (.bl n) = some "bool" := rfl
@[simp] theorem ty_str {n : Str} : tyD s (.str n) = some "str" := rfl
@[simp] theorem ty_non : tyD s .non = some "NoneType" := rfl
@[simp] theorem ty_fz {ds : List D} : tyD s (.fz ds) = some "list" := rfl
end
theorem call_eq {P : Prog} {n f : Nat} {ds : List D} {s : S} {Q : Q1} {p m : Nat} {b : List St} (h : P.fn f = ⟨p, m, b⟩) (hl : ds.length = p)
    (w : wSs P (wCall P n) b ⟨fun _ s' => Q .non s', Q, fun _ _ => False, fun _ _ => False⟩ (ds.map some ++ List.replicate (m - ds.length) none) s) : wCall P (n + 1) f ds s Q := by
  show wBody P (wCall P n) (P.fn f) ds s Q
  rw [h]
  exact ⟨hl, w⟩
theorem call_eqn {P : Prog} {n f : Nat} {ds : List D} {s : S} {Q : Q1} {p m : Nat} {b : List St} (h : P.fn f = ⟨p, m, b⟩) :
    wCall P (n + 1) f ds s Q = (ds.length = p ∧ wSs P (wCall P n) b ⟨fun _ s' => Q .non s', Q, fun _ _ => False, fun _ _ => False⟩ (ds.map some ++ List.replicate (m - ds.length) none) s) := by
  show wBody P (wCall P n) (P.fn f) ds s Q = _
  rw [h]; rfl
@[simp] theorem ofs_beq (a b : String) : (Str.ofString a == Str.ofString b) = (a == b) := by
  rw [Bool.eq_iff_iff, beq_iff_eq, beq_iff_eq, ofs_eq]
section
variable {s : S} {Q : Q1} {x y : D} {ds : List D} {i j : Int}
@[simp] theorem b_addI : wBin .add (.int i) (.int j) s Q = Q (.int (i + j)) s := rfl
@[simp] theorem b_subI : wBin .sub (.int i) (.int j) s Q = Q (.int (i - j)) s := rfl
@[simp] theorem b_mulI : wBin .mul (.int i) (.int j) s Q = (L2.CMul i j ∧ Q (.int (i * j)) s) := rfl
@[simp] theorem b_modI : wBin .mod (.int i) (.int j) s Q = (0 < j ∧ Q (.int (i % j)) s) := rfl
@[simp] theorem b_divI : wBin .fdiv (.int i) (.int j) s Q = (L2.CDiv i j ∧ Q (.int (i / j)) s) := rfl
@[simp] theorem b_powI : wBin .pow (.int i) (.int j) s Q = (L2.CPow i j ∧ Q (.int (i ^ j.toNat)) s) := rfl
@[simp] theorem b_addS {a b : Str} : wBin .add (.str a) (.str b) s Q = (a.length + b.length ≤ sizeLine ∧ Q (.str (a ++ b)) s) := rfl
@[simp] theorem b_addT {a b : List D} : wBin .add (.tup a) (.tup b) s Q = (a.length + b.length ≤ sizeLine ∧ Q (.tup (a ++ b)) s) := rfl
theorem b_addL {p q : Addr} {xs ys : List D} (h : s p = some (.lst xs)) (g : s q = some (.lst ys)) : wBin .add (.ref p) (.ref q) s Q = (xs.length + ys.length ≤ sizeLine ∧ new s (.lst (xs ++ ys)) Q) := by
  show withL s p _ = _
  rw [withL_eq h, withL_eq g]
@[simp] theorem c_lt : wCmp .lt (.int i) (.int j) s Q = Q (.bl (decide (i < j))) s := rfl
@[simp] theorem c_le : wCmp .le (.int i) (.int j) s Q = Q (.bl (decide (i ≤ j))) s := rfl
@[simp] theorem c_gt : wCmp .gt (.int i) (.int j) s Q = Q (.bl (decide (j < i))) s := rfl
@[simp] theorem c_ge : wCmp .ge (.int i) (.int j) s Q = Q (.bl (decide (j ≤ i))) s := rfl
@[simp] theorem c_isN : wCmp .isN x .non s Q = Q (.bl (isNon x)) s := propext ⟨fun h => h.2, fun h => ⟨rfl, h⟩⟩
@[simp] theorem c_notN : wCmp .notN x .non s Q = Q (.bl (!isNon x)) s := propext ⟨fun h => h.2, fun h => ⟨rfl, h⟩⟩
@[simp] theorem c_inT : wCmp .inn x (.tup ds) s Q = got (flV x) fun vx => got (flVs ds) fun vs => Q (.bl (L2.inV vx vs)) s := by cases x <;> rfl
@[simp] theorem c_ninT : wCmp .nin x (.tup ds) s Q = got (flV x) fun vx => got (flVs ds) fun vs => Q (.bl (!L2.inV vx vs)) s := by cases x <;> rfl
@[simp] theorem c_eqI : wCmp .eq (.int i) (.int j) s Q = Q (.bl (decide (i = j))) s := by
  show (_ ∧ _ ∧ _) = _
  exact propext ⟨fun h => h.2.2, fun h => ⟨rfl, rfl, h⟩⟩
@[simp] theorem c_neI : wCmp .ne (.int i) (.int j) s Q = Q (.bl (!decide (i = j))) s := by
  show (_ ∧ _ ∧ _) = _
  exact propext ⟨fun h => h.2.2, fun h => ⟨rfl, rfl, h⟩⟩
/-- d, as the library's comparison reads it, of at most k levels -/
def Pure (k : Nat) (d : D) : Prop := ∃ p, pureP d = some p ∧ p.canLay0 = true ∧ p.depth ≤ k
def Pures (k : Nat) (ds : List D) : Prop := ∃ ps, purePs ds = some ps ∧ PyData.canLayAll0 ps = true ∧ PyData.depthAll ps ≤ k
theorem Pure.int {k : Nat} : Pure k (.int i) := ⟨_, rfl, rfl, Nat.zero_le _⟩
theorem Pure.bl {k : Nat} {b : Bool} : Pure k (.bl b) := ⟨_, rfl, rfl, Nat.zero_le _⟩
theorem Pure.non {k : Nat} : Pure k .non := ⟨_, rfl, rfl, Nat.zero_le _⟩
theorem Pure.str {k : Nat} {a : Str} (h : PyData.strOk a = true) : Pure k (.str a) := ⟨_, rfl, h, Nat.zero_le _⟩
theorem Pures.nil {k : Nat} : Pures k [] := ⟨[], rfl, rfl, Nat.zero_le _⟩
theorem Pures.cons {k : Nat} (h : Pure k x) (g : Pures k ds) : Pures k (x :: ds) := by
  obtain ⟨p, a1, a2, a3⟩ := h
  obtain ⟨ps, b1, b2, b3⟩ := g
  refine ⟨p :: ps, by simp [purePs, a1, b1], by simp [PyData.canLayAll0, a2, b2], ?_⟩
  show max _ _ ≤ k
  omega
theorem Pure.tup {k : Nat} (h : Pures k ds) : Pure (k + 1) (.tup ds) := by
  obtain ⟨ps, b1, b2, b3⟩ := h
  exact ⟨.tuple ps, by simp [pureP, b1], b2, by show _ + 1 ≤ _; omega⟩
theorem Pure.mono {k m : Nat} (h : Pure k x) (g : k ≤ m) : Pure m x := let ⟨p, a, b, c⟩ := h; ⟨p, a, b, Nat.le_trans c g⟩
theorem Pures.all {k : Nat} : ∀ {ds : List D}, (∀ x ∈ ds, Pure k x) → Pures k ds
  | [], _ => .nil
  | x :: r, h => .cons (h x (List.mem_cons_self ..)) (Pures.all fun y hy => h y (List.mem_cons_of_mem _ hy))
theorem Pure.shaped {p : PyData} (h1 : p.canLay0 = true) (h2 : p.depth ≤ 64) : SeqAt.shaped p = true := by
  unfold SeqAt.shaped
  rw [h1, decide_eq_true h2]; rfl
theorem toP_of {p : PyData} (h : pureP x = some p) : toP s x = some p := by
  cases x with
  | ref a => simp [pureP] at h
  | _ => exact h
theorem wEq_unit {neg : Bool} (h : Pure 64 (.tup (x :: ds))) : wEq neg (.tup (x :: ds)) (.tup []) s Q = Q (.bl neg) s := by
  obtain ⟨p, h1, h2, h3⟩ := h
  have e : ∃ q qs, p = .tuple (q :: qs) := by
    unfold pureP at h1
    cases e : purePs (x :: ds) with
    | none => rw [e] at h1; cases h1
    | some ps =>
      rw [e] at h1
      cases h1
      unfold purePs at e
      split at e
      · cases e; exact ⟨_, _, rfl⟩
      · cases e
  obtain ⟨q, qs, rfl⟩ := e
  unfold wEq
  rw [toP_of h1, toP_of (x := .tup []) (p := .tuple []) rfl]
  simp only [got_some, Pure.shaped h2 h3]
  have e2 : PyData.eqv (.tuple (q :: qs)) (.tuple []) = false := by simp [PyData.eqv, PyData.eqvAll]
  rw [e2]
  have e3 : SeqAt.shaped (.tuple []) = true := rfl
  rw [e3]
  cases neg <;> simp
theorem c_eqU (h : Pure 64 (.tup (x :: ds))) : wCmp .eq (.tup (x :: ds)) (.tup []) s Q = Q (.bl false) s := wEq_unit h
theorem c_neU (h : Pure 64 (.tup (x :: ds))) : wCmp .ne (.tup (x :: ds)) (.tup []) s Q = Q (.bl true) s := wEq_unit h
@[simp] theorem c_eqU0 : wCmp .eq (.tup []) (.tup []) s Q = Q (.bl true) s := by
  show (_ ∧ _ ∧ _) = _
  exact propext ⟨fun h => h.2.2, fun h => ⟨rfl, rfl, h⟩⟩
/-- texts compared -/
theorem c_eqS {a b : Str} (h : PyData.strOk a = true) (g : PyData.strOk b = true) : wCmp .eq (.str a) (.str b) s Q = Q (.bl (a == b)) s := by
  show (SeqAt.shaped (.str a) = true ∧ SeqAt.shaped (.str b) = true ∧ _) = _
  rw [Pure.shaped (p := .str a) h (Nat.zero_le _), Pure.shaped (p := .str b) g (Nat.zero_le _)]
  simp [PyData.eqv]
theorem c_neS {a b : Str} (h : PyData.strOk a = true) (g : PyData.strOk b = true) : wCmp .ne (.str a) (.str b) s Q = Q (.bl (!(a == b))) s := by
  show (SeqAt.shaped (.str a) = true ∧ SeqAt.shaped (.str b) = true ∧ _) = _
  rw [Pure.shaped (p := .str a) h (Nat.zero_le _), Pure.shaped (p := .str b) g (Nat.zero_le _)]
  simp [PyData.eqv]
theorem ofs_ok (a : String) : PyData.strOk (Str.ofString a) = true := by
  rw [Str.ofString_eq_toList]
  unfold PyData.strOk
  simp only [List.all_toArray, List.all_map, List.all_eq_true, Function.comp, decide_eq_true_eq]
  intro c _
  have := c.valid
  unfold Char.toNat
  rcases this with h | h <;> omega
@[simp] theorem c_eqL {a b : String} : wCmp .eq (.str (Str.ofString a)) (.str (Str.ofString b)) s Q = Q (.bl (a == b)) s := by rw [c_eqS (ofs_ok a) (ofs_ok b), ofs_beq]
@[simp] theorem c_neL {a b : String} : wCmp .ne (.str (Str.ofString a)) (.str (Str.ofString b)) s Q = Q (.bl (!(a == b))) s := by rw [c_neS (ofs_ok a) (ofs_ok b), ofs_beq]
@[simp] theorem flV_int : flV (.int i) = some (.int i) := rfl
@[simp] theorem flV_str {a : Str} : flV (.str a) = some (.str a) := rfl
@[simp] theorem flVs_nil : flVs [] = some [] := rfl
@[simp] theorem flVs_str {a : Str} : flVs (.str a :: ds) = match flVs ds with | some vs => some (.str a :: vs) | none => none := by
  show (match flV (.str a), flVs ds with | some v, some vs => some (v :: vs) | _, _ => none) = _
  cases flVs ds <;> rfl
@[simp] theorem inV_nil {v : L2.V} : L2.inV v [] = false := rfl
@[simp] theorem inV_str {a b : Str} {vs : List L2.V} : L2.inV (.str a) (.str b :: vs) = ((b == a) || L2.inV (.str a) vs) := by
  show ((L2.eqV _ _) || _) = _
  rfl
/-- two lists of nothing -/
theorem c_eqLL {neg : Bool} {p q : Addr} (h : s p = some (.lst [])) (g : s q = some (.lst [])) : wEq neg (.ref p) (.ref q) s Q = Q (.bl (!neg)) s := by
  unfold wEq toP
  simp only [h, g]
  show (_ ∧ _ ∧ _) = _
  cases neg <;> exact propext ⟨fun h => h.2.2, fun h => ⟨rfl, rfl, h⟩⟩
end
@[simp] theorem at0 {x : D} {r : List D} {s : S} {Q : Q1} : wAt (x :: r) (.int 0) s Q = Q x s := by
  show got (L2.atI (x :: r) ((0 : Nat) : Int)) _ = _
  rw [L2.atI_nat (v := x) rfl]; rfl
@[simp] theorem at1 {x y : D} {r : List D} {s : S} {Q : Q1} : wAt (x :: y :: r) (.int 1) s Q = Q y s := by
  show got (L2.atI (x :: y :: r) ((1 : Nat) : Int)) _ = _
  rw [L2.atI_nat (v := y) rfl]; rfl
@[simp] theorem at2 {x y z : D} {r : List D} {s : S} {Q : Q1} : wAt (x :: y :: z :: r) (.int 2) s Q = Q z s := by
  show got (L2.atI (x :: y :: z :: r) ((2 : Nat) : Int)) _ = _
  rw [L2.atI_nat (v := z) rfl]; rfl
@[simp] theorem at3 {x y z u : D} {r : List D} {s : S} {Q : Q1} : wAt (x :: y :: z :: u :: r) (.int 3) s Q = Q u s := by
  show got (L2.atI (x :: y :: z :: u :: r) ((3 : Nat) : Int)) _ = _
  rw [L2.atI_nat (v := u) rfl]; rfl
theorem at_nat {ds : List D} {d : D} {i : Nat} {k : Int} {s : S} {Q : Q1} (e : k = i) (h : ds[i]? = some d) : wAt ds (.int k) s Q = Q d s := by
  subst e
  show got (L2.atI ds (i : Int)) _ = _
  rw [L2.atI_nat h]; rfl
@[simp] theorem len_tup {ds : List D} {s : S} {Q : Q1} : wBI .len [.tup ds] s Q = (ds.length ≤ sizeLine ∧ Q (.int ds.length) s) := rfl
@[simp] theorem len_fz {ds : List D} {s : S} {Q : Q1} : wBI .len [.fz ds] s Q = (ds.length ≤ sizeLine ∧ Q (.int ds.length) s) := rfl
@[simp] theorem len_str {x : Str} {s : S} {Q : Q1} : wBI .len [.str x] s Q = (x.length ≤ sizeLine ∧ Q (.int x.length) s) := rfl
theorem len_lst {p : Addr} {ds : List D} {s : S} {Q : Q1} (h : s p = some (.lst ds)) : wBI .len [.ref p] s Q = (ds.length ≤ sizeLine ∧ Q (.int ds.length) s) := by
  show got (lenD s (.ref p)) _ = _
  unfold lenD
  simp only [h]; rfl
@[simp] theorem bi_str {i : Int} {s : S} {Q : Q1} : wBI .str [.int i] s Q = (i.natAbs.log2 < 1920 ∧ Q (.str (Str.ofString (toString i))) s) := rfl
@[simp] theorem bi_intB {b : Bool} {s : S} {Q : Q1} : wBI .int [.bl b] s Q = Q (.int (if b then 1 else 0)) s := rfl
@[simp] theorem bi_max {i j : Int} {s : S} {Q : Q1} : wBI .max [.int i, .int j] s Q = Q (.int (if j > i then j else i)) s := rfl
@[simp] theorem set_nil {ρ : LS} : setAll [] [] ρ = some ρ := rfl
@[simp] theorem set_cons {i : Nat} {is : List Nat} {d : D} {ds : List D} {ρ : LS} : setAll (i :: is) (d :: ds) ρ = setAll is ds (ρ.set i (some d)) := rfl
@[simp] theorem sl_tup {ds : List D} {lo hi : Option Int} {s : S} {Q : Q1} : wSl (.tup ds) lo hi s Q = Q (.tup (cutD ds lo hi)) s := rfl
@[simp] theorem cut1 {x : D} {r : List D} : cutD (x :: r) (some 1) none = r := by
  simp [cutD, HT.sIx]
@[simp] theorem cut2 {x y : D} {r : List D} : cutD (x :: y :: r) (some 2) none = r := by
  simp [cutD, HT.sIx]
@[simp] theorem put_self {s : S} {a : Addr} {o : Ob} : put s a o a = some o := put_same
/-! ### turns -/
@[simp] theorem wipe_nil {ρ : LS} : wipeD ρ [] = ρ := rfl
@[simp] theorem wipe_cons {ρ : LS} {v : Nat} {vs : List Nat} : wipeD ρ (v :: vs) = (wipeD ρ vs).set v none := rfl
/-- a comprehension, by what holds of the items to come, of what is gathered, of the state -/
theorem lcGo_by {α : Type} {chk : S → Prop} {step : D → S → (Option D → S → Prop) → Prop} {Q : List D → S → Prop} {f : α → D} (I : List α → List D → S → Prop) (hc : ∀ r acc s, I r acc s → chk s)
    (hs : ∀ x r acc s K, I (x :: r) acc s → (∀ s', I r acc s' → K none s') → (∀ y s', I r (acc ++ [y]) s' → K (some y) s') → acc.length < sizeLine ∧ step (f x) s K) (hQ : ∀ acc s, I [] acc s → Q acc s) :
    ∀ (xs : List α) (acc : List D) (s : S), I xs acc s → lcGo chk step (xs.map f) acc s Q
  | [], acc, s, h => ⟨hc _ _ _ h, hQ _ _ h⟩
  | x :: r, acc, s, h => by
    refine ⟨hc _ _ _ h, (hs x r acc s (fun o s' => match o with | some y => acc.length < sizeLine ∧ lcGo chk step (r.map f) (acc ++ [y]) s' Q | none => lcGo chk step (r.map f) acc s' Q) h (fun s' h' => lcGo_by I hc hs hQ r acc s' h') fun y s' h' => ?_).2⟩
    exact ⟨(hs x r acc s (fun _ _ => True) h (fun _ _ => trivial) fun _ _ _ => trivial).1, lcGo_by I hc hs hQ r _ s' h'⟩
/-- a loop, by what holds of the items to come, of the names, of the state -/
theorem forGo_by {α : Type} {chk : S → Prop} {g : G} {body : En → LS → S → Prop} {K : En} {f : α → D} (I : List α → LS → S → Prop) (hc : ∀ r ρ s, I r ρ s → chk s)
    (hs : ∀ x r ρ s (N : LS → S → Prop), I (x :: r) ρ s → (∀ ρ' s', I r ρ' s' → N ρ' s') → wG g (f x) s ρ fun ρ' s' => body { K with nx := N, ct := N, bk := K.nx } ρ' s') (hQ : ∀ ρ s, I [] ρ s → K.nx ρ s) :
    ∀ (xs : List α) (ρ : LS) (s : S), I xs ρ s → forGo chk g body K (xs.map f) ρ s
  | [], ρ, s, h => ⟨hc _ _ _ h, hQ _ _ h⟩
  | x :: r, ρ, s, h => ⟨hc _ _ _ h, hs x r ρ s _ h fun ρ' s' h' => forGo_by I hc hs hQ r ρ' s' h'⟩
theorem whileN_by {cond : LS → S → (Bool → S → Prop) → Prop} {body : En → LS → S → Prop} {K : En} (I : Nat → LS → S → Prop)
    (hs : ∀ n ρ s (N : LS → S → Prop), I n ρ s → (∀ ρ' s', (∃ m, m < n ∧ I m ρ' s') → N ρ' s') → cond ρ s fun b s1 => if b = true then body { K with nx := N, ct := N, bk := K.nx } ρ s1 else K.nx ρ s1) :
    ∀ (n : Nat) (ρ : LS) (s : S), I n ρ s → ∀ f, n < f → whileN cond body K f ρ s
  | n, ρ, s, h, f + 1, hf => hs n ρ s (whileN cond body K f) h fun ρ' s' ⟨m, hm, h'⟩ => whileN_by I hs m ρ' s' h' f (by omega)
  termination_by n _ _ _ f => f
/-- a comprehension whose turns leave the state -/
theorem lcGo_map {α : Type} {chk : S → Prop} {step : D → S → (Option D → S → Prop) → Prop} {Q : List D → S → Prop} {f g : α → D} {s : S} (hc : chk s) :
    ∀ (xs : List α) (acc : List D), (∀ x ∈ xs, ∀ K : Option D → S → Prop, K (some (g x)) s → step (f x) s K) → acc.length + xs.length ≤ sizeLine → Q (acc ++ xs.map g) s → lcGo chk step (xs.map f) acc s Q
  | [], acc, _, _, hQ => ⟨hc, by simpa using hQ⟩
  | x :: r, acc, hs, hl, hQ => by
    rw [List.length_cons] at hl
    refine ⟨hc, hs x (List.mem_cons_self ..) _ ⟨by omega, ?_⟩⟩
    refine lcGo_map hc r (acc ++ [g x]) (fun y hy => hs y (List.mem_cons_of_mem _ hy)) (by simp; omega) ?_
    simpa using hQ
theorem sz {n : Nat} (h : n ≤ 16777216) : n ≤ sizeLine := h
end Tk
set_option Elab.async false
set_option linter.all false
set_option maxRecDepth 100000
/-! TkQ: the words of TkP from the head inwards (written by genq.py). -/
namespace Tk
open PySem
section
variable {P : Prog} {C : CallP} {ρ : LS} {s : S} {Q : Q1} {K : En} {a b c e o i : E}
@[simp ↓] theorem q_got_some {α : Type} {x : α} {k : α → Prop} : got (some x) k = k x := got_some
@[simp ↓] theorem q_isI_int {n : Int} {k : Int → Prop} : isI (.int n) k = k n := isI_int
@[simp ↓] theorem q_truthB_bl {b : Bool} {k : Bool → Prop} : truthB (.bl b) k = k b := truthB_bl
@[simp ↓] theorem q_e_var {n : Nat} : wE P C (.var n) ρ s Q = got ρ[n]? fun o => got o fun d => Q d s := e_var
@[simp ↓] theorem q_e_con {x : Str} : wE P C (.con x) ρ s Q = got (P.con x) fun d => Q d s := e_con
@[simp ↓] theorem q_e_int {n : Int} : wE P C (.int n) ρ s Q = Q (.int n) s := e_int
@[simp ↓] theorem q_e_bl {n : Bool} : wE P C (.bl n) ρ s Q = Q (.bl n) s := e_bl
@[simp ↓] theorem q_e_non : wE P C .non ρ s Q = Q .non s := e_non
@[simp ↓] theorem q_e_str {x : Str} : wE P C (.str x) ρ s Q = Q (.str x) s := e_str
@[simp ↓] theorem q_e_bin {op : BOp} : wE P C (.bin op a b) ρ s Q = wE P C a ρ s fun x s1 => wE P C b ρ s1 fun y s2 => wBin op x y s2 Q := e_bin
@[simp ↓] theorem q_e_cmp {op : COp} : wE P C (.cmp op a b) ρ s Q = wE P C a ρ s fun x s1 => wE P C b ρ s1 fun y s2 => wCmp op x y s2 Q := e_cmp
@[simp ↓] theorem q_e_chain {o1 o2 : COp} : wE P C (.chain o1 o2 a b c) ρ s Q = wE P C a ρ s fun x s1 => wE P C b ρ s1 fun y s2 => wCmp o1 x y s2 fun t s3 => truthB t fun k => if k = true then wE P C c ρ s3 fun z s4 => wCmp o2 y z s4 Q else Q (.bl false) s3 := e_chain
@[simp ↓] theorem q_e_neg : wE P C (.neg a) ρ s Q = wE P C a ρ s fun x s1 => isI x fun i => Q (.int (-i)) s1 := e_neg
@[simp ↓] theorem q_e_and : wE P C (.and a b) ρ s Q = wE P C a ρ s fun x s1 => truthB x fun k => if k = true then wE P C b ρ s1 Q else Q (.bl false) s1 := e_and
@[simp ↓] theorem q_e_or : wE P C (.or a b) ρ s Q = wE P C a ρ s fun x s1 => truthB x fun k => if k = true then Q (.bl true) s1 else wE P C b ρ s1 Q := e_or
@[simp ↓] theorem q_e_not : wE P C (.not a) ρ s Q = wE P C a ρ s fun x s1 => truthB x fun k => Q (.bl (!k)) s1 := e_not
@[simp ↓] theorem q_e_ife : wE P C (.ife c a b) ρ s Q = wE P C c ρ s fun x s1 => truthB x fun k => if k = true then wE P C a ρ s1 Q else wE P C b ρ s1 Q := e_ife
@[simp ↓] theorem q_e_ix : wE P C (.ix a b) ρ s Q = wE P C a ρ s fun x s1 => wE P C b ρ s1 fun y s2 => wIx x y s2 Q := e_ix
@[simp ↓] theorem q_e_sl {lo hi : O} : wE P C (.sl a lo hi) ρ s Q = wE P C a ρ s fun x s1 => wO P C lo ρ s1 fun l s2 => wO P C hi ρ s2 fun h s3 => wSl x l h s3 Q := e_sl
@[simp ↓] theorem q_e_tup {es : Es} : wE P C (.tup es) ρ s Q = wEs P C es ρ s fun ds s1 => ds.length ≤ sizeLine ∧ Q (.tup ds) s1 := e_tup
@[simp ↓] theorem q_e_lst {es : Es} : wE P C (.lst es) ρ s Q = wEs P C es ρ s fun ds s1 => ds.length ≤ sizeLine ∧ new s1 (.lst ds) Q := e_lst
@[simp ↓] theorem q_e_dct {ks : Ks} : wE P C (.dct ks) ρ s Q = wKs P C ks ρ s fun kvs s1 => kvs.length ≤ 15 ∧ new s1 (.dct (kvs.foldl (fun acc kv => putD acc kv.1 kv.2) [])) Q := e_dct
@[simp ↓] theorem q_e_fld {f : Str} : wE P C (.fld e f) ρ s Q = wE P C e ρ s fun x s1 => withI s1 x fun _ c fs => f ∈ P.flds c ∧ got (fget f fs) fun d => Q d s1 := e_fld
@[simp ↓] theorem q_e_call {f : Nat} {es : Es} : wE P C (.call f es) ρ s Q = wEs P C es ρ s fun ds s1 => C f ds s1 Q := e_call
@[simp ↓] theorem q_e_mk {f : Nat} {es : Es} : wE P C (.mk f es) ρ s Q = wEs P C es ρ s fun ds s1 => got (P.init f) fun f' => ∀ p, s1 p = none → C f' (.ref p :: ds) (put s1 p (.ins f [])) fun d s2 => isNon d = true ∧ Q (.ref p) s2 := e_mk
@[simp ↓] theorem q_e_meth {cc f : Nat} {m : Str} {es : Es} : wE P C (.meth cc m f e es) ρ s Q = wE P C e ρ s fun x s1 => withI s1 x fun a c' fs => c' = cc ∧ fget m fs = none ∧ wEs P C es ρ s1 fun ds s2 => C f (.ref a :: ds) s2 Q := e_meth
@[simp ↓] theorem q_e_bm {m : BM} {es : Es} : wE P C (.bm m e es) ρ s Q = wE P C e ρ s fun x s1 => bmTy m s1 x ∧ wEs P C es ρ s1 fun ds s2 => wBM m x ds s2 Q := e_bm
@[simp ↓] theorem q_e_bi {b : BI} {es : Es} : wE P C (.bi b es) ρ s Q = wEs P C es ρ s fun ds s1 => wBI b ds s1 Q := e_bi
@[simp ↓] theorem q_e_isi {ts : List String} : wE P C (.isi e ts) ρ s Q = wE P C e ρ s fun x s1 => got (tyD s1 x) fun t => Q (.bl (ts.any (isTy t))) s1 := e_isi
@[simp ↓] theorem q_e_lrng : wE P C (.lrng a b) ρ s Q = wE P C a ρ s fun x s1 => wE P C b ρ s1 fun y s2 => isI x fun i => isI y fun j => bnd i ∧ bnd j ∧ (j - i).toNat ≤ sizeLine ∧ new s2 (.lst (rng i (j - i).toNat)) Q := e_lrng
@[simp ↓] theorem q_es_nil {Q : QS} : wEs P C .nil ρ s Q = Q [] s := es_nil
@[simp ↓] theorem q_es_cons {es : Es} {Q : QS} : wEs P C (.cons e es) ρ s Q = wE P C e ρ s fun x s1 => wEs P C es ρ s1 fun xs s2 => Q (x :: xs) s2 := es_cons
@[simp ↓] theorem q_o_no {Q : Option Int → S → Prop} : wO P C .no ρ s Q = Q none s := o_no
@[simp ↓] theorem q_o_so {Q : Option Int → S → Prop} : wO P C (.so e) ρ s Q = wE P C e ρ s fun x s1 => isI x fun i => Q (some i) s1 := o_so
@[simp ↓] theorem q_co_no {Q : Bool → S → Prop} : wCo P C .no ρ s Q = Q true s := co_no
@[simp ↓] theorem q_co_so {Q : Bool → S → Prop} : wCo P C (.so e) ρ s Q = wE P C e ρ s fun x s1 => truthB x fun k => Q k s1 := co_so
@[simp ↓] theorem q_ks_nil {Q : List (L2.Key × D) → S → Prop} : wKs P C .nil ρ s Q = Q [] s := ks_nil
@[simp ↓] theorem q_ks_cons {k : Str} {r : Ks} {Q : List (L2.Key × D) → S → Prop} : wKs P C (.cons k e r) ρ s Q = wE P C e ρ s fun x s1 => wKs P C r ρ s1 fun xs s2 => Q ((Sum.inr k, x) :: xs) s2 := ks_cons
@[simp ↓] theorem q_it_val {Q : QI} : wIt P C (.val e) ρ s Q = wE P C e ρ s fun x s1 => wVal x s1 Q := it_val
@[simp ↓] theorem q_it_r1 {Q : QI} : wIt P C (.r1 e) ρ s Q = wE P C e ρ s fun x s1 => isI x fun j => bnd j ∧ Q (rng 0 j.toNat) (fun _ => True) s1 := it_r1
@[simp ↓] theorem q_it_r2 {Q : QI} : wIt P C (.r2 a b) ρ s Q = wE P C a ρ s fun x s1 => wE P C b ρ s1 fun y s2 => isI x fun i => isI y fun j => bnd i ∧ bnd j ∧ Q (rng i (j - i).toNat) (fun _ => True) s2 := it_r2
@[simp ↓] theorem q_it_zip {Q : QI} : wIt P C (.zip a b) ρ s Q = wE P C a ρ s fun x s1 => wE P C b ρ s1 fun y s2 => got (seqOf s2 x) fun xs => got (seqOf s2 y) fun ys => Q ((xs.zip ys).map fun p => .tup [p.1, p.2]) (fun s' => standsAs s2 x xs s' ∧ standsAs s2 y ys s') s2 := it_zip
@[simp ↓] theorem q_s_asgE {g : G} : wS P C (.asg g e) K ρ s = wE P C e ρ s fun x s1 => wG g x s1 ρ K.nx := s_asgE
@[simp ↓] theorem q_s_parE {m n : Nat} : wS P C (.par m n a b) K ρ s = wE P C a ρ s fun x s1 => wE P C b ρ s1 fun y s2 => K.nx ((ρ.set m (some x)).set n (some y)) s2 := s_parE
@[simp ↓] theorem q_s_asgCE {n : Nat} : wS P C (.asgC n e) K ρ s = wE P C e ρ s fun x s1 => K.nx (ρ.set n (some x)) s1 := s_asgCE
@[simp ↓] theorem q_s_fsetE {f : Str} : wS P C (.fset o f e) K ρ s = wE P C e ρ s fun y s1 => wE P C o ρ s1 fun x s2 => withI s2 x fun a c fs => f ∈ P.flds c ∧ fs.length < 1000 ∧ K.nx ρ (put s2 a (.ins c (fput f y fs))) := s_fsetE
@[simp ↓] theorem q_s_isetE : wS P C (.iset o i e) K ρ s = wE P C e ρ s fun y s1 => wE P C o ρ s1 fun x s2 => wE P C i ρ s2 fun z s3 => wISet x z y s3 fun s4 => K.nx ρ s4 := s_isetE
@[simp ↓] theorem q_s_exprE : wS P C (.expr e) K ρ s = wE P C e ρ s fun _ s1 => K.nx ρ s1 := s_exprE
@[simp ↓] theorem q_s_retE : wS P C (.ret e) K ρ s = wE P C e ρ s K.rt := s_retE
@[simp ↓] theorem q_s_retNE : wS P C .retN K ρ s = K.rt .non s := s_retNE
@[simp ↓] theorem q_s_passE : wS P C .pass K ρ s = K.nx ρ s := s_passE
@[simp ↓] theorem q_s_brkE : wS P C .brk K ρ s = K.bk ρ s := s_brkE
@[simp ↓] theorem q_s_cntE : wS P C .cnt K ρ s = K.ct ρ s := s_cntE
@[simp ↓] theorem q_ss_nil : wSs P C [] K ρ s = K.nx ρ s := ss_nil
@[simp ↓] theorem q_g_nm {n : Nat} {x : D} {Q : LS → S → Prop} : wG (.nm n) x s ρ Q = Q (ρ.set n (some x)) s := g_nm
@[simp ↓] theorem q_g_tup {is : List Nat} {x : D} {Q : LS → S → Prop} : wG (.tup is) x s ρ Q = got (seqOf s x) fun ds => got (setAll is ds ρ) fun ρ' => Q ρ' s := g_tup
@[simp ↓] theorem q_ix_tup {ds : List D} {y : D} : wIx (.tup ds) y s Q = wAt ds y s Q := ix_tup
@[simp ↓] theorem q_ix_fz {ds : List D} {y : D} : wIx (.fz ds) y s Q = wAt ds y s Q := ix_fz
end
section
variable {s : S} {Q : Q1} {x y : D} {ds : List D} {i j : Int}
@[simp ↓] theorem q_b_addI : wBin .add (.int i) (.int j) s Q = Q (.int (i + j)) s := b_addI
@[simp ↓] theorem q_b_subI : wBin .sub (.int i) (.int j) s Q = Q (.int (i - j)) s := b_subI
@[simp ↓] theorem q_b_mulI : wBin .mul (.int i) (.int j) s Q = (L2.CMul i j ∧ Q (.int (i * j)) s) := b_mulI
@[simp ↓] theorem q_b_modI : wBin .mod (.int i) (.int j) s Q = (0 < j ∧ Q (.int (i % j)) s) := b_modI
@[simp ↓] theorem q_b_divI : wBin .fdiv (.int i) (.int j) s Q = (L2.CDiv i j ∧ Q (.int (i / j)) s) := b_divI
@[simp ↓] theorem q_b_powI : wBin .pow (.int i) (.int j) s Q = (L2.CPow i j ∧ Q (.int (i ^ j.toNat)) s) := b_powI
@[simp ↓] theorem q_b_addS {a b : Str} : wBin .add (.str a) (.str b) s Q = (a.length + b.length ≤ sizeLine ∧ Q (.str (a ++ b)) s) := b_addS
@[simp ↓] theorem q_b_addT {a b : List D} : wBin .add (.tup a) (.tup b) s Q = (a.length + b.length ≤ sizeLine ∧ Q (.tup (a ++ b)) s) := b_addT
@[simp ↓] theorem q_c_lt : wCmp .lt (.int i) (.int j) s Q = Q (.bl (decide (i < j))) s := c_lt
@[simp ↓] theorem q_c_le : wCmp .le (.int i) (.int j) s Q = Q (.bl (decide (i ≤ j))) s := c_le
@[simp ↓] theorem q_c_gt : wCmp .gt (.int i) (.int j) s Q = Q (.bl (decide (j < i))) s := c_gt
@[simp ↓] theorem q_c_ge : wCmp .ge (.int i) (.int j) s Q = Q (.bl (decide (j ≤ i))) s := c_ge
@[simp ↓] theorem q_c_isN : wCmp .isN x .non s Q = Q (.bl (isNon x)) s := c_isN
@[simp ↓] theorem q_c_notN : wCmp .notN x .non s Q = Q (.bl (!isNon x)) s := c_notN
@[simp ↓] theorem q_c_inT : wCmp .inn x (.tup ds) s Q = got (flV x) fun vx => got (flVs ds) fun vs => Q (.bl (L2.inV vx vs)) s := c_inT
@[simp ↓] theorem q_c_ninT : wCmp .nin x (.tup ds) s Q = got (flV x) fun vx => got (flVs ds) fun vs => Q (.bl (!L2.inV vx vs)) s := c_ninT
@[simp ↓] theorem q_c_eqI : wCmp .eq (.int i) (.int j) s Q = Q (.bl (decide (i = j))) s := c_eqI
@[simp ↓] theorem q_c_neI : wCmp .ne (.int i) (.int j) s Q = Q (.bl (!decide (i = j))) s := c_neI
@[simp ↓] theorem q_c_eqU0 : wCmp .eq (.tup []) (.tup []) s Q = Q (.bl true) s := c_eqU0
@[simp ↓] theorem q_c_eqL {a b : String} : wCmp .eq (.str (Str.ofString a)) (.str (Str.ofString b)) s Q = Q (.bl (a == b)) s := c_eqL
@[simp ↓] theorem q_c_neL {a b : String} : wCmp .ne (.str (Str.ofString a)) (.str (Str.ofString b)) s Q = Q (.bl (!(a == b))) s := c_neL
end
@[simp ↓] theorem q_at0 {x : D} {r : List D} {s : S} {Q : Q1} : wAt (x :: r) (.int 0) s Q = Q x s := at0
@[simp ↓] theorem q_at1 {x y : D} {r : List D} {s : S} {Q : Q1} : wAt (x :: y :: r) (.int 1) s Q = Q y s := at1
@[simp ↓] theorem q_at2 {x y z : D} {r : List D} {s : S} {Q : Q1} : wAt (x :: y :: z :: r) (.int 2) s Q = Q z s := at2
@[simp ↓] theorem q_at3 {x y z u : D} {r : List D} {s : S} {Q : Q1} : wAt (x :: y :: z :: u :: r) (.int 3) s Q = Q u s := at3
@[simp ↓] theorem q_len_tup {ds : List D} {s : S} {Q : Q1} : wBI .len [.tup ds] s Q = (ds.length ≤ sizeLine ∧ Q (.int ds.length) s) := len_tup
@[simp ↓] theorem q_len_fz {ds : List D} {s : S} {Q : Q1} : wBI .len [.fz ds] s Q = (ds.length ≤ sizeLine ∧ Q (.int ds.length) s) := len_fz
@[simp ↓] theorem q_len_str {x : Str} {s : S} {Q : Q1} : wBI .len [.str x] s Q = (x.length ≤ sizeLine ∧ Q (.int x.length) s) := len_str
@[simp ↓] theorem q_bi_str {i : Int} {s : S} {Q : Q1} : wBI .str [.int i] s Q = (i.natAbs.log2 < 1920 ∧ Q (.str (Str.ofString (toString i))) s) := bi_str
@[simp ↓] theorem q_bi_intB {b : Bool} {s : S} {Q : Q1} : wBI .int [.bl b] s Q = Q (.int (if b then 1 else 0)) s := bi_intB
@[simp ↓] theorem q_bi_max {i j : Int} {s : S} {Q : Q1} : wBI .max [.int i, .int j] s Q = Q (.int (if j > i then j else i)) s := bi_max
@[simp ↓] theorem q_sl_tup {ds : List D} {lo hi : Option Int} {s : S} {Q : Q1} : wSl (.tup ds) lo hi s Q = Q (.tup (cutD ds lo hi)) s := sl_tup
@[simp ↓] theorem q_get0 {a0 : Option D} {r : LS} {f : Option D → Prop} : got ((a0 :: r)[0]?) f = f a0 := rfl
@[simp ↓] theorem q_get1 {a0 a1 : Option D} {r : LS} {f : Option D → Prop} : got ((a0 :: a1 :: r)[1]?) f = f a1 := rfl
@[simp ↓] theorem q_get2 {a0 a1 a2 : Option D} {r : LS} {f : Option D → Prop} : got ((a0 :: a1 :: a2 :: r)[2]?) f = f a2 := rfl
@[simp ↓] theorem q_get3 {a0 a1 a2 a3 : Option D} {r : LS} {f : Option D → Prop} : got ((a0 :: a1 :: a2 :: a3 :: r)[3]?) f = f a3 := rfl
@[simp ↓] theorem q_get4 {a0 a1 a2 a3 a4 : Option D} {r : LS} {f : Option D → Prop} : got ((a0 :: a1 :: a2 :: a3 :: a4 :: r)[4]?) f = f a4 := rfl
@[simp ↓] theorem q_get5 {a0 a1 a2 a3 a4 a5 : Option D} {r : LS} {f : Option D → Prop} : got ((a0 :: a1 :: a2 :: a3 :: a4 :: a5 :: r)[5]?) f = f a5 := rfl
@[simp ↓] theorem q_get6 {a0 a1 a2 a3 a4 a5 a6 : Option D} {r : LS} {f : Option D → Prop} : got ((a0 :: a1 :: a2 :: a3 :: a4 :: a5 :: a6 :: r)[6]?) f = f a6 := rfl
@[simp ↓] theorem q_get7 {a0 a1 a2 a3 a4 a5 a6 a7 : Option D} {r : LS} {f : Option D → Prop} : got ((a0 :: a1 :: a2 :: a3 :: a4 :: a5 :: a6 :: a7 :: r)[7]?) f = f a7 := rfl
@[simp ↓] theorem q_get8 {a0 a1 a2 a3 a4 a5 a6 a7 a8 : Option D} {r : LS} {f : Option D → Prop} : got ((a0 :: a1 :: a2 :: a3 :: a4 :: a5 :: a6 :: a7 :: a8 :: r)[8]?) f = f a8 := rfl
@[simp ↓] theorem q_get9 {a0 a1 a2 a3 a4 a5 a6 a7 a8 a9 : Option D} {r : LS} {f : Option D → Prop} : got ((a0 :: a1 :: a2 :: a3 :: a4 :: a5 :: a6 :: a7 :: a8 :: a9 :: r)[9]?) f = f a9 := rfl
@[simp ↓] theorem q_get10 {a0 a1 a2 a3 a4 a5 a6 a7 a8 a9 a10 : Option D} {r : LS} {f : Option D → Prop} : got ((a0 :: a1 :: a2 :: a3 :: a4 :: a5 :: a6 :: a7 :: a8 :: a9 :: a10 :: r)[10]?) f = f a10 := rfl
@[simp ↓] theorem q_get11 {a0 a1 a2 a3 a4 a5 a6 a7 a8 a9 a10 a11 : Option D} {r : LS} {f : Option D → Prop} : got ((a0 :: a1 :: a2 :: a3 :: a4 :: a5 :: a6 :: a7 :: a8 :: a9 :: a10 :: a11 :: r)[11]?) f = f a11 := rfl
@[simp ↓] theorem q_get12 {a0 a1 a2 a3 a4 a5 a6 a7 a8 a9 a10 a11 a12 : Option D} {r : LS} {f : Option D → Prop} : got ((a0 :: a1 :: a2 :: a3 :: a4 :: a5 :: a6 :: a7 :: a8 :: a9 :: a10 :: a11 :: a12 :: r)[12]?) f = f a12 := rfl
end Tk
set_option Elab.async false
set_option linter.all false
set_option maxRecDepth 100000
set_option maxHeartbeats 4000000
namespace K14
open PySem Tk
/-! ### a program as a tree -/
inductive W where
  | num (n : Int) | var (v : Int) | dbl (k : Fin 5) (a b : W) | call (c : Int) (as : List W)
inductive Dd where
  | lt (v : Int) (w : W) | whl (t : W) (b : List Dd) | ife (t : W) (a b : List Dd)
structure F where
  p : Int
  b : List Dd
  r : W
def dblN : Fin 5 → String
  | 0 => "add" | 1 => "take" | 2 => "times" | 3 => "less" | 4 => "same"
mutual
def W.d : W → D
  | .num n => .tup [.str "num", .int n]
  | .var v => .tup [.str "var", .int v]
  | .dbl k a b => .tup [.str (dblN k), a.d, b.d]
  | .call c as => .tup [.str "call", .int c, .tup (W.ds as)]
def W.ds : List W → List D
  | [] => []
  | w :: r => w.d :: W.ds r
end
mutual
def W.c : W → Nat
  | .num _ => 1
  | .var _ => 1
  | .dbl _ a b => 1 + a.c + b.c
  | .call _ as => 1 + W.cs as
def W.cs : List W → Nat
  | [] => 0
  | w :: r => w.c + W.cs r
end
mutual
def W.ok (ps : List Int) : Nat → W → Prop
  | d, .num n => d ≤ 3 ∧ -1000 ≤ n ∧ n < 1000
  | d, .var v => d ≤ 3 ∧ 0 ≤ v ∧ v < 6
  | d, .dbl _ a b => d ≤ 3 ∧ W.ok ps (d + 1) a ∧ W.ok ps (d + 1) b
  | d, .call c as => d ≤ 3 ∧ 0 ≤ c ∧ ps[c.toNat]? = some (as.length : Int) ∧ W.oks ps (d + 1) as
def W.oks (ps : List Int) : Nat → List W → Prop
  | _, [] => True
  | d, w :: r => W.ok ps d w ∧ W.oks ps d r
end
theorem W.ok_le {ps : List Int} {d : Nat} {w : W} (h : W.ok ps d w) : d ≤ 3 := by
  cases w <;> (unfold W.ok at h; exact h.1)
theorem dbl_ok (k : Fin 5) : PyData.strOk (dblN k) = true := ofs_ok _
theorem W.pure {ps : List Int} : ∀ (k : Nat) {w : W} {d : Nat}, W.ok ps d w → 4 - d ≤ k → Pure (2 * k) w.d
  | 0, w, d, h, g => by have := W.ok_le h; omega
  | k + 1, .num n, d, h, g => by
    unfold W.d
    exact (Pure.tup (.cons (.str (ofs_ok _)) (.cons .int .nil)) : Pure (2 * k + 1 + 1) _)
  | k + 1, .var n, d, h, g => by
    unfold W.d
    exact (Pure.tup (.cons (.str (ofs_ok _)) (.cons .int .nil)) : Pure (2 * k + 1 + 1) _)
  | k + 1, .dbl n a b, d, h, g => by
    unfold W.d
    have hd := W.ok_le h
    unfold W.ok at h
    have ha := (W.pure k h.2.1 (by omega)).mono (show 2 * k ≤ 2 * k + 1 by omega)
    have hb := (W.pure k h.2.2 (by omega)).mono (show 2 * k ≤ 2 * k + 1 by omega)
    exact (Pure.tup (.cons (.str (dbl_ok n)) (.cons ha (.cons hb .nil))) : Pure (2 * k + 1 + 1) _)
  | k + 1, .call c as, d, h, g => by
    unfold W.d
    have hd := W.ok_le h
    unfold W.ok at h
    have hs : ∀ (as : List W), W.oks ps (d + 1) as → Pures (2 * k) (W.ds as) := by
      intro as
      induction as with
      | nil => intro _; unfold W.ds; exact .nil
      | cons w r ih => intro h; unfold W.oks at h; unfold W.ds; exact .cons (W.pure k h.1 (by omega)) (ih h.2)
    exact (Pure.tup (.cons (.str (ofs_ok _)) (.cons .int (.cons (.tup (hs as h.2.2.2)) .nil))) : Pure (2 * k + 1 + 1) _)
theorem ds_map : ∀ as : List W, W.ds as = as.map W.d
  | [] => by unfold W.ds; rfl
  | w :: r => by unfold W.ds; rw [ds_map r]; rfl
@[simp] theorem ds_len (as : List W) : (W.ds as).length = as.length := by rw [ds_map, List.length_map]

/-! ### what the program asks of a program -/
@[simp] theorem w_within {n : Nat} {x lo hi : Int} {s : S} {Q : Q1} : wCall prog (n + 1) 35 [.int x, .int lo, .int hi] s Q = Q (.bl (decide (lo ≤ x) && decide (x < hi))) s := by
  rw [call_eqn (p := 3) (m := 3) (b := b_is_within) rfl]
  by_cases h : lo ≤ x <;> simp [b_is_within, isTy, h]
/-- the looker at p, its table at m, t things seen -/
structure Lk (s : S) (p m : Addr) (ps : List Int) (t : Int) : Prop where
  at_ : s p = some (.ins 1 [("many", .ref m), ("things", .int t)])
  tab : s m = some (.lst (ps.map D.int))
  ne : m ≠ p
/-- all but what stands at p stays -/
def Kp (p : Addr) (s s' : S) : Prop := ∀ b o, b ≠ p → s b = some o → s' b = some o
theorem Kp.refl {p : Addr} {s : S} : Kp p s s := fun _ _ _ h => h
theorem Kp.trans {p : Addr} {s s1 s2 : S} (a : Kp p s s1) (b : Kp p s1 s2) : Kp p s s2 := fun c o n h => b c o n (a c o n h)
theorem Kp.set {p : Addr} {s : S} {o : Ob} : Kp p s (put s p o) := fun c o' n h => by rw [put_ne n]; exact h
theorem Kp.new {p q : Addr} {s : S} {o : Ob} (h : s q = none) : Kp p s (put s q o) := fun c o' n g => by rw [put_ne (ne_fresh g h)]; exact g
theorem Lk.set {s : S} {p m : Addr} {ps : List Int} {t u : Int} (h : Lk s p m ps t) : Lk (put s p (.ins 1 [("many", .ref m), ("things", .int u)])) p m ps u :=
  ⟨put_same, by rw [put_ne h.ne]; exact h.tab, h.ne⟩
theorem Lk.keep {s : S} {p m q : Addr} {ps : List Int} {t : Int} {o : Ob} (h : Lk s p m ps t) (n : s q = none) : Lk (put s q o) p m ps t :=
  ⟨by rw [put_ne (ne_fresh h.at_ n)]; exact h.at_, by rw [put_ne (ne_fresh h.tab n)]; exact h.tab, h.ne⟩
/-- is_worth's promise -/
def SpW (ps : List Int) (n : Nat) (w : W) (d : Nat) : Prop := ∀ (s : S) (p m : Addr) (t : Int) (Q : Q1), Lk s p m ps t → (∀ s', Lk s' p m ps (t + w.c) → Kp p s s' → Q (.bl true) s') → wCall prog n 29 [.ref p, w.d, .int d] s Q
theorem w_worths {ps : List Int} {n d : Nat} (as : List W) (h : ∀ w ∈ as, SpW ps n w d) (s : S) (p m : Addr) (t : Int) (Q : Q1) (hL : Lk s p m ps t) (hQ : ∀ s', Lk s' p m ps (t + W.cs as) → Kp p s s' → Q (.bl true) s') :
    wCall prog (n + 1) 30 [.ref p, .tup (W.ds as), .int d] s Q := by
  rw [call_eqn (p := 3) (m := 4) (b := b_Looker_are_worths) rfl]
  simp [b_Looker_are_worths, e_lc, wVal]
  rw [ds_map]
  refine lcGo_by (f := W.d) (fun r acc s' => acc = [] ∧ (∀ w ∈ r, SpW ps n w d) ∧ Kp p s s' ∧ ∃ u : Int, Lk s' p m ps u ∧ u + W.cs r = t + W.cs as) (fun _ _ _ _ => trivial) ?_ ?_ as [] s ⟨rfl, h, Kp.refl, t, hL, rfl⟩
  · rintro x r acc s1 K ⟨rfl, hr, k1, u, hL1, hu⟩ kn ks
    refine ⟨by simp [sizeLine], ?_⟩
    simp [withI, hL1.at_, fget]
    refine hr x (List.mem_cons_self ..) s1 p m u _ hL1 fun s2 hL2 k2 => ?_
    simp
    exact kn s2 ⟨rfl, fun w hw => hr w (List.mem_cons_of_mem _ hw), k1.trans k2, _, hL2, by simp only [W.cs] at hu; push_cast at hu ⊢; omega⟩
  · rintro acc s1 ⟨rfl, _, k1, u, hL1, hu⟩ a ha b hb
    rw [wCmp, c_eqLL (by rw [put_ne (ne_fresh put_same hb)]; exact put_same) put_same]
    refine hQ _ ?_ ((k1.trans (Kp.new ha)).trans (Kp.new hb))
    have e : t + (W.cs as : Int) = u := by simpa [W.cs] using hu.symm
    rw [e]
    exact Lk.keep (Lk.keep hL1 ha) hb
@[simp] theorem con_DOUBLES : prog.con "DOUBLES" = some (.tup [.str "add", .str "take", .str "times", .str "less", .str "same"]) := by simp [prog, con]
@[simp] theorem con_HALF : prog.con "HALF" = some (.int 1000) := by simp [prog, con]
@[simp] theorem con_VARS : prog.con "VARS" = some (.int 6) := by simp [prog, con]
@[simp] theorem con_MOST_DEEP : prog.con "MOST_DEEP" = some (.int 3) := by simp [prog, con]
@[simp] theorem con_MOST_THINGS : prog.con "MOST_THINGS" = some (.int 40) := by simp [prog, con]
@[simp] theorem con_MOST_PARAMS : prog.con "MOST_PARAMS" = some (.int 3) := by simp [prog, con]
@[simp] theorem con_MOST_FUNCTIONS : prog.con "MOST_FUNCTIONS" = some (.int 4) := by simp [prog, con]
@[simp] theorem con_MOST_FIGURES : prog.con "MOST_FIGURES" = some (.int 4) := by simp [prog, con]
@[simp] theorem con_FIGURES : prog.con "FIGURES" = some (.str "0123456789") := by simp [prog, con]
@[simp] theorem fl1 {f : Str} : (f ∈ prog.flds 1) = (f = "many" ∨ f = "things") := by simp [prog, flds]
@[simp] theorem fl0 {f : Str} : (f ∈ prog.flds 0) = (f = "words" ∨ f = "place") := by simp [prog, flds]
/-- the tables that a program has -/
structure Tb (ps : List Int) : Prop where
  len : ps.length ≤ 4
  le : ∀ x ∈ ps, 0 ≤ x ∧ x ≤ 3
theorem w_worth {ps : List Int} (T : Tb ps) : ∀ (k : Nat) (w : W) (d n : Nat), W.ok ps d w → 4 - d ≤ k → 2 * k ≤ n → SpW ps n w d
  | 0, w, d, n, h, g, _ => by have := W.ok_le h; omega
  | k + 1, w, d, n + 2, h, g, hn => by
    intro s p m t Q hL hQ
    have hd := W.ok_le h
    have hp := (W.pure 4 h (by omega)).mono (show 2 * 4 ≤ 64 by omega)
    have hd3 : ¬ (3 : Int) < d := by omega
    rw [call_eqn (p := 3) (m := 5) (b := b_Looker_is_worth) rfl]
    have e1 : ((d : Int) + 1) = ((d + 1 : Nat) : Int) := by omega
    have many : ∀ as : List W, W.oks ps (d + 1) as → ∀ w ∈ as, SpW ps n w (d + 1) := by
      intro as
      induction as with
      | nil => intro _ w hw; cases hw
      | cons x r ih =>
        intro ho w hw
        unfold W.oks at ho
        rcases List.mem_cons.mp hw with rfl | hw
        · exact w_worth T k w (d + 1) n ho.1 (by omega) (by omega)
        · exact ih ho.2 w hw
    cases w with
    | num v =>
      unfold W.d at hp ⊢
      unfold W.ok at h
      simp [b_Looker_is_worth, s_ifE, withI, hL.at_, fget, fput, c_eqU hp, isTy, hd3, sizeLine, h]
      exact hQ _ hL.set Kp.set
    | var v =>
      unfold W.d at hp ⊢
      unfold W.ok at h
      simp [b_Looker_is_worth, s_ifE, withI, hL.at_, fget, fput, c_eqU hp, isTy, hd3, sizeLine, h]
      exact hQ _ hL.set Kp.set
    | dbl j a b =>
      unfold W.d at hp ⊢
      unfold W.ok at h
      have hl : Lk (put s p (.ins 1 [("many", .ref m), ("things", .int (t + 1))])) p m ps (t + 1) := hL.set
      have fin : ∀ s', Lk s' p m ps (t + 1 + W.cs [a, b]) → Kp p (put s p (.ins 1 [("many", .ref m), ("things", .int (t + 1))])) s' → Q (.bl true) s' := fun s' h1 h2 => by
        refine hQ s' ?_ (Kp.set.trans h2)
        have e : t + ((W.dbl j a b).c : Int) = t + 1 + W.cs [a, b] := by simp only [W.c, W.cs]; push_cast; omega
        rw [e]; exact h1
      have go := w_worths [a, b] (many [a, b] (by simp only [W.oks]; exact ⟨h.2.1, h.2.2, trivial⟩)) _ p m (t + 1) Q hl fin
      simp only [W.ds] at go
      have hj : dblN j = "add" ∨ dblN j = "take" ∨ dblN j = "times" ∨ dblN j = "less" ∨ dblN j = "same" := by
        match j with
        | 0 => simp [dblN]
        | 1 => simp [dblN]
        | 2 => simp [dblN]
        | 3 => simp [dblN]
        | 4 => simp [dblN]
      rcases hj with e | e | e | e | e <;> rw [e] at hp ⊢ <;> simp [b_Looker_is_worth, s_ifE, withI, hL.at_, fget, fput, c_eqU hp, isTy, hd3, sizeLine, h] <;> exact go
    | call c as =>
      unfold W.d at hp ⊢
      unfold W.ok at h
      have hl : Lk (put s p (.ins 1 [("many", .ref m), ("things", .int (t + 1))])) p m ps (t + 1) := hL.set
      have fin : ∀ s', Lk s' p m ps (t + 1 + W.cs as) → Kp p (put s p (.ins 1 [("many", .ref m), ("things", .int (t + 1))])) s' → Q (.bl true) s' := fun s' h1 h2 => by
        refine hQ s' ?_ (Kp.set.trans h2)
        have e : t + ((W.call c as).c : Int) = t + 1 + W.cs as := by simp only [W.c]; push_cast; omega
        rw [e]; exact h1
      have go := w_worths as (many as h.2.2.2) _ p m (t + 1) Q hl fin
      have hc : c < (ps.length : Int) := by
        have := (List.getElem?_eq_some_iff.mp h.2.2.1).1
        omega
      have ht := hl.tab
      have la : as.length ≤ 3 := by
        have := (T.le _ (List.mem_of_getElem? h.2.2.1)).2
        omega
      have l1 : ps.length ≤ 16777216 := Nat.le_trans T.len (by decide)
      have l2 : as.length ≤ 16777216 := Nat.le_trans la (by decide)
      have ec : c = (c.toNat : Int) := by omega
      have h3 : (ps.map D.int)[c.toNat]? = some (.int as.length) := by rw [List.getElem?_map, h.2.2.1]; rfl
      simp [b_Looker_is_worth, s_ifE, withI, hL.at_, fget, fput, c_eqU hp, isTy, hd3, sizeLine, h, hc, len_lst ht, ix_lst ht, at_nat ec h3, l1, l2]
      exact go
end K14
set_option Elab.async false
set_option linter.all false
set_option maxRecDepth 100000
set_option maxHeartbeats 4000000
namespace K14
open PySem Tk
mutual
def Dd.d : Dd → D
  | .lt v w => .tup [.str "let", .int v, w.d]
  | .whl t b => .tup [.str "while", t.d, .tup (Dd.ds b)]
  | .ife t a b => .tup [.str "if", t.d, .tup (Dd.ds a), .tup (Dd.ds b)]
def Dd.ds : List Dd → List D
  | [] => []
  | w :: r => w.d :: Dd.ds r
end
mutual
def Dd.c : Dd → Nat
  | .lt _ w => 1 + w.c
  | .whl t b => 1 + t.c + Dd.cs b
  | .ife t a b => 1 + t.c + Dd.cs a + Dd.cs b
def Dd.cs : List Dd → Nat
  | [] => 0
  | w :: r => w.c + Dd.cs r
end
mutual
def Dd.ok (ps : List Int) : Nat → Dd → Prop
  | d, .lt v w => d ≤ 3 ∧ 0 ≤ v ∧ v < 6 ∧ W.ok ps 0 w
  | d, .whl t b => d ≤ 3 ∧ W.ok ps 0 t ∧ Dd.oks ps (d + 1) b
  | d, .ife t a b => d ≤ 3 ∧ W.ok ps 0 t ∧ Dd.oks ps (d + 1) a ∧ Dd.oks ps (d + 1) b
def Dd.oks (ps : List Int) : Nat → List Dd → Prop
  | _, [] => True
  | d, w :: r => Dd.ok ps d w ∧ Dd.oks ps d r
end
theorem Dd.ok_le {ps : List Int} {d : Nat} {w : Dd} (h : Dd.ok ps d w) : d ≤ 3 := by
  cases w <;> (unfold Dd.ok at h; exact h.1)
theorem Dd.oks_all {ps : List Int} {d : Nat} : ∀ {as : List Dd}, Dd.oks ps d as → ∀ w ∈ as, Dd.ok ps d w
  | x :: r, h, w, hw => by
    unfold Dd.oks at h
    rcases List.mem_cons.mp hw with rfl | hw
    · exact h.1
    · exact Dd.oks_all h.2 w hw
theorem Dd.ds_map : ∀ as : List Dd, Dd.ds as = as.map Dd.d
  | [] => by unfold Dd.ds; rfl
  | w :: r => by unfold Dd.ds; rw [Dd.ds_map r]; rfl
theorem Dd.pures {ps : List Int} {k d : Nat} (h : ∀ w, Dd.ok ps (d + 1) w → Pure k w.d) : ∀ {as : List Dd}, Dd.oks ps (d + 1) as → Pures k (Dd.ds as)
  | [], _ => by unfold Dd.ds; exact .nil
  | x :: r, ho => by unfold Dd.oks at ho; unfold Dd.ds; exact .cons (h x ho.1) (Dd.pures h ho.2)
theorem Dd.pure {ps : List Int} : ∀ (k : Nat) {w : Dd} {d : Nat}, Dd.ok ps d w → 4 - d ≤ k → Pure (2 * k + 8) w.d
  | 0, w, d, h, g => by have := Dd.ok_le h; omega
  | k + 1, .lt v w, d, h, g => by
    unfold Dd.d
    unfold Dd.ok at h
    have hw := (W.pure 4 h.2.2.2 (by omega)).mono (show 2 * 4 ≤ 2 * k + 1 + 8 by omega)
    exact (Pure.tup (.cons (.str (ofs_ok _)) (.cons .int (.cons hw .nil))) : Pure (2 * k + 1 + 8 + 1) _).mono (by omega)
  | k + 1, .whl t b, d, h, g => by
    unfold Dd.d
    have hd := Dd.ok_le h
    unfold Dd.ok at h
    have hw := (W.pure 4 h.2.1 (by omega)).mono (show 2 * 4 ≤ 2 * k + 8 + 1 by omega)
    have hb := Dd.pures (fun w hw => Dd.pure k hw (by omega)) h.2.2
    exact (Pure.tup (.cons (.str (ofs_ok _)) (.cons hw (.cons (.tup hb) .nil))) : Pure (2 * k + 8 + 1 + 1) _).mono (by omega)
  | k + 1, .ife t a b, d, h, g => by
    unfold Dd.d
    have hd := Dd.ok_le h
    unfold Dd.ok at h
    have hw := (W.pure 4 h.2.1 (by omega)).mono (show 2 * 4 ≤ 2 * k + 8 + 1 by omega)
    have ha := Dd.pures (fun w hw => Dd.pure k hw (by omega)) h.2.2.1
    have hb := Dd.pures (fun w hw => Dd.pure k hw (by omega)) h.2.2.2
    exact (Pure.tup (.cons (.str (ofs_ok _)) (.cons hw (.cons (.tup ha) (.cons (.tup hb) .nil)))) : Pure (2 * k + 8 + 1 + 1) _).mono (by omega)
theorem w_worth9 {ps : List Int} (T : Tb ps) {w : W} (h : W.ok ps 0 w) (n : Nat) : SpW ps (n + 8) w 0 := w_worth T 4 w 0 (n + 8) h (by omega) (by omega)
/-- is_deed's promise, are_deeds' -/
def SpD (ps : List Int) (n : Nat) (w : Dd) (d : Nat) : Prop := ∀ (s : S) (p m : Addr) (t : Int) (Q : Q1), Lk s p m ps t → (∀ s', Lk s' p m ps (t + w.c) → Kp p s s' → Q (.bl true) s') → wCall prog n 31 [.ref p, w.d, .int d] s Q
def SpDs (ps : List Int) (n : Nat) (as : List Dd) (d : Nat) : Prop := ∀ (s : S) (p m : Addr) (t : Int) (Q : Q1), Lk s p m ps t → (∀ s', Lk s' p m ps (t + Dd.cs as) → Kp p s s' → Q (.bl true) s') → wCall prog n 32 [.ref p, .tup (Dd.ds as), .int d] s Q
theorem w_deeds {ps : List Int} {n d : Nat} (as : List Dd) (h : ∀ w ∈ as, SpD ps n w d) : SpDs ps (n + 1) as d := by
  intro s p m t Q hL hQ
  rw [call_eqn (p := 3) (m := 4) (b := b_Looker_are_deeds) rfl]
  simp [b_Looker_are_deeds, e_lc, wVal, isTy]
  rw [Dd.ds_map]
  refine lcGo_by (f := Dd.d) (fun r acc s' => acc = [] ∧ (∀ w ∈ r, SpD ps n w d) ∧ Kp p s s' ∧ ∃ u : Int, Lk s' p m ps u ∧ u + Dd.cs r = t + Dd.cs as) (fun _ _ _ _ => trivial) ?_ ?_ as [] s ⟨rfl, h, Kp.refl, t, hL, rfl⟩
  · rintro x r acc s1 K ⟨rfl, hr, k1, u, hL1, hu⟩ kn ks
    refine ⟨by simp [sizeLine], ?_⟩
    simp [withI, hL1.at_, fget]
    refine hr x (List.mem_cons_self ..) s1 p m u _ hL1 fun s2 hL2 k2 => ?_
    simp
    exact kn s2 ⟨rfl, fun w hw => hr w (List.mem_cons_of_mem _ hw), k1.trans k2, _, hL2, by simp only [Dd.cs] at hu; push_cast at hu ⊢; omega⟩
  · rintro acc s1 ⟨rfl, _, k1, u, hL1, hu⟩ a ha b hb
    rw [wCmp, c_eqLL (by rw [put_ne (ne_fresh put_same hb)]; exact put_same) put_same]
    refine hQ _ ?_ ((k1.trans (Kp.new ha)).trans (Kp.new hb))
    have e : t + (Dd.cs as : Int) = u := by simpa [Dd.cs] using hu.symm
    rw [e]
    exact Lk.keep (Lk.keep hL1 ha) hb
/-- the sides of a deed -/
theorem w_sides {ps : List Int} {n d : Nat} (bs : List (List Dd)) (h : ∀ b ∈ bs, SpDs ps n b (d + 1)) (s : S) (p m : Addr) (t : Int) (Q : Q1) (x : D) (hL : Lk s p m ps t) (hQ : ∀ s', Lk s' p m ps (t + (bs.map Dd.cs).sum) → Kp p s s' → Q (.bl true) s') :
    lcGo (fun _ => True) (fun y s2 K => wG (.nm 3) y s2 [some (.ref p), some x, some (.int d), none] fun ρ' s3 => wCo prog (wCall prog n) (.so (.not (.meth 1 "are_deeds" 32 (.var 0) (.cons (.var 3) (.cons (.bin .add (.var 2) (.int 1)) .nil))))) ρ' s3 fun k s4 => if k = true then wE prog (wCall prog n) (.var 3) ρ' s4 fun y s5 => K (some y) s5 else K none s4)
      (bs.map fun b => .tup (Dd.ds b)) [] s fun acc s2 => new s2 (.lst acc) fun x s1 => new s1 (.lst []) fun y s2 => wCmp .eq x y s2 Q := by
  refine lcGo_by (f := fun b => .tup (Dd.ds b)) (fun r acc s' => acc = [] ∧ (∀ w ∈ r, SpDs ps n w (d + 1)) ∧ Kp p s s' ∧ ∃ u : Int, Lk s' p m ps u ∧ u + (r.map Dd.cs).sum = t + (bs.map Dd.cs).sum) (fun _ _ _ _ => trivial) ?_ ?_ bs [] s ⟨rfl, h, Kp.refl, t, hL, rfl⟩
  · rintro x r acc s1 K ⟨rfl, hr, k1, u, hL1, hu⟩ kn ks
    refine ⟨by simp [sizeLine], ?_⟩
    simp [withI, hL1.at_, fget]
    refine hr x (List.mem_cons_self ..) s1 p m u _ hL1 fun s2 hL2 k2 => ?_
    simp
    exact kn s2 ⟨rfl, fun w hw => hr w (List.mem_cons_of_mem _ hw), k1.trans k2, _, hL2, by simp only [List.map_cons, List.sum_cons] at hu; push_cast at hu ⊢; omega⟩
  · rintro acc s1 ⟨rfl, _, k1, u, hL1, hu⟩ a ha b hb
    rw [wCmp, c_eqLL (by rw [put_ne (ne_fresh put_same hb)]; exact put_same) put_same]
    refine hQ _ ?_ ((k1.trans (Kp.new ha)).trans (Kp.new hb))
    have e : t + ((bs.map Dd.cs).sum : Int) = u := by simpa using hu.symm
    rw [e]
    exact Lk.keep (Lk.keep hL1 ha) hb
theorem w_deed {ps : List Int} (T : Tb ps) : ∀ (k : Nat) (w : Dd) (d n : Nat), Dd.ok ps d w → 4 - d ≤ k → 2 * k + 8 ≤ n → SpD ps n w d
  | 0, w, d, n, h, g, _ => by have := Dd.ok_le h; omega
  | k + 1, w, d, n + 10, h, g, hn => by
    intro s p m t Q hL hQ
    have hd := Dd.ok_le h
    have hp := (Dd.pure 4 h (by omega)).mono (show 2 * 4 + 8 ≤ 64 by omega)
    have hd3 : ¬ (3 : Int) < d := by omega
    have side : ∀ b : List Dd, Dd.oks ps (d + 1) b → SpDs ps (n + 9) b (d + 1) := fun b hb => w_deeds b fun w hw => w_deed T k w (d + 1) (n + 8) (Dd.oks_all hb w hw) (by omega) (by omega)
    have hl : Lk (put s p (.ins 1 [("many", .ref m), ("things", .int (t + 1))])) p m ps (t + 1) := hL.set
    rw [call_eqn (p := 3) (m := 4) (b := b_Looker_is_deed) rfl]
    cases w with
    | lt v w =>
      unfold Dd.d at hp ⊢
      unfold Dd.ok at h
      simp [b_Looker_is_deed, s_ifE, withI, hL.at_, fget, fput, c_eqU hp, isTy, hd3, sizeLine, h]
      refine w_worth9 T h.2.2.2 (n + 1) _ p m (t + 1) _ hl fun s' h1 h2 => hQ s' ?_ (Kp.set.trans h2)
      have e : t + ((Dd.lt v w).c : Int) = t + 1 + w.c := by simp only [Dd.c]; push_cast; omega
      rw [e]; exact h1
    | whl t0 b =>
      unfold Dd.d at hp ⊢
      unfold Dd.ok at h
      simp [b_Looker_is_deed, s_ifE, withI, hL.at_, fget, fput, c_eqU hp, isTy, hd3, sizeLine, h, new, putD]
      intro q hq
      have hl2 := Lk.keep (o := .dct [(Sum.inr (Str.ofString "if"), D.int 4), (Sum.inr (Str.ofString "while"), D.int 3)]) hl hq
      simp [wIx, keyOf, valD, withI, hl2.at_, fget]
      refine w_worth9 T h.2.1 (n + 1) _ p m (t + 1) _ hl2 fun s1 hL1 k1 => ?_
      rw [truthB_bl, if_pos rfl]
      refine w_sides (n := n + 9) (d := d) [b] (by simpa using side b h.2.2) s1 p m _ Q _ hL1 fun s2 hL2 k2 => hQ s2 ?_ ((Kp.set.trans (Kp.new hq)).trans (k1.trans k2))
      have e : t + ((Dd.whl t0 b).c : Int) = t + 1 + t0.c + (([b].map Dd.cs).sum : Nat) := by simp [Dd.c]; omega
      rw [e]; exact hL2
    | ife t0 a b =>
      unfold Dd.d at hp ⊢
      unfold Dd.ok at h
      simp [b_Looker_is_deed, s_ifE, withI, hL.at_, fget, fput, c_eqU hp, isTy, hd3, sizeLine, h, new, putD]
      intro q hq
      have hl2 := Lk.keep (o := .dct [(Sum.inr (Str.ofString "if"), D.int 4), (Sum.inr (Str.ofString "while"), D.int 3)]) hl hq
      simp [wIx, keyOf, valD, withI, hl2.at_, fget]
      refine w_worth9 T h.2.1 (n + 1) _ p m (t + 1) _ hl2 fun s1 hL1 k1 => ?_
      rw [truthB_bl, if_pos rfl]
      refine w_sides (n := n + 9) (d := d) [a, b] (by simpa using ⟨side a h.2.2.1, side b h.2.2.2⟩) s1 p m _ Q _ hL1 fun s2 hL2 k2 => hQ s2 ?_ ((Kp.set.trans (Kp.new hq)).trans (k1.trans k2))
      have e : t + ((Dd.ife t0 a b).c : Int) = t + 1 + t0.c + (([a, b].map Dd.cs).sum : Nat) := by simp [Dd.c]; omega
      rw [e]; exact hL2
end K14
set_option Elab.async false
set_option linter.all false
set_option maxRecDepth 100000
set_option maxHeartbeats 4000000
namespace K14
open PySem Tk
def F.d (f : F) : D := .tup [.int f.p, .tup (Dd.ds f.b), f.r.d]
structure F.ok (ps : List Int) (f : F) : Prop where
  p0 : 0 ≤ f.p
  p3 : f.p ≤ 3
  b : Dd.oks ps 0 f.b
  r : W.ok ps 0 f.r
  c : Dd.cs f.b + f.r.c ≤ 40
structure Good (fs : List F) : Prop where
  ne : fs ≠ []
  len : fs.length ≤ 4
  ok : ∀ f ∈ fs, f.ok (fs.map F.p)
def progD (fs : List F) : D := .tup (fs.map F.d)
theorem Good.tb {fs : List F} (G : Good fs) : Tb (fs.map F.p) :=
  ⟨by rw [List.length_map]; exact G.len, fun x hx => by obtain ⟨f, hf, rfl⟩ := List.mem_map.mp hx; exact ⟨(G.ok f hf).p0, (G.ok f hf).p3⟩⟩
theorem F.pure {ps : List Int} {f : F} (h : f.ok ps) : Pure 18 f.d := by
  have hb : Pures 16 (Dd.ds f.b) := by
    rw [Dd.ds_map]
    refine Pures.all fun x hx => ?_
    obtain ⟨w, hw, rfl⟩ := List.mem_map.mp hx
    exact Dd.pure 4 (Dd.oks_all h.b w hw) (by omega)
  have hr := (W.pure 4 h.r (by omega)).mono (show 2 * 4 ≤ 17 by omega)
  exact (Pure.tup (.cons .int (.cons (.tup hb) (.cons hr .nil))) : Pure (16 + 1 + 1) _)
theorem Good.pure {fs : List F} (G : Good fs) : Pure 19 (progD fs) := by
  refine Pure.tup (Pures.all fun x hx => ?_)
  obtain ⟨w, hw, rfl⟩ := List.mem_map.mp hx
  exact F.pure (G.ok w hw)
/-- whatever stood stands -/
def Ke (s s' : S) : Prop := ∀ b o, s b = some o → s' b = some o
theorem Ke.refl {s : S} : Ke s s := fun _ _ h => h
theorem Ke.trans {s s1 s2 : S} (a : Ke s s1) (b : Ke s1 s2) : Ke s s2 := fun c o h => b c o (a c o h)
theorem Ke.new {q : Addr} {s : S} {o : Ob} (h : s q = none) : Ke s (put s q o) := fun c o' g => by rw [put_ne (ne_fresh g h)]; exact g
theorem Ke.kp {p : Addr} {s s' s0 : S} (h : Ke s0 s) (n : s0 p = none) (k : Kp p s s') : Ke s0 s' := fun c o g => k c o (ne_fresh g n) (h c o g)
theorem w_function {ps : List Int} (T : Tb ps) {f : F} (h : f.ok ps) (n : Nat) (s : S) (p m : Addr) (t : Int) (Q : Q1) (hL : Lk s p m ps t) (hQ : ∀ s' u, Lk s' p m ps u → Kp p s s' → Q (.bl true) s') : wCall prog (n + 18) 33 [.ref p, f.d] s Q := by
  have hl : Lk (put s p (.ins 1 [("many", .ref m), ("things", .int 0)])) p m ps 0 := hL.set
  rw [call_eqn (p := 2) (m := 2) (b := b_Looker_is_function) rfl]
  simp [b_Looker_is_function, s_ifE, withI, hL.at_, fget, fput, F.d]
  refine w_deeds f.b (fun w hw => w_deed T 4 w 0 (n + 16) (Dd.oks_all h.b w hw) (by omega) (by omega)) _ p m 0 _ hl fun s1 hL1 k1 => ?_
  simp [hL1.at_, fget]
  refine w_worth9 T h.r (n + 9) _ p m _ _ hL1 fun s2 hL2 k2 => ?_
  have hc := h.c
  simp [hL2.at_, fget]
  have e : (0 + (Dd.cs f.b : Int) + (f.r.c : Int) ≤ 40) := by omega
  have go := hQ s2 _ hL2 (Kp.set.trans (k1.trans k2))
  simpa [show (Dd.cs f.b : Int) + (f.r.c : Int) ≤ 40 by omega] using go
@[simp] theorem w_shape {ps : List Int} {f : F} (h : f.ok ps) {n : Nat} {s : S} {Q : Q1} : wCall prog (n + 2) 34 [f.d] s Q = Q (.bl true) s := by
  rw [call_eqn (p := 1) (m := 1) (b := b_is_shape) rfl]
  have h0 := h.p0
  have h3 : f.p < 4 := by have := h.p3; omega
  simp [b_is_shape, F.d, isTy, sizeLine, h0, h3]
theorem init_1 : prog.init 1 = some 28 := rfl
theorem init_0 : prog.init 0 = some 11 := rfl
theorem w_need {fs : List F} (G : Good fs) (n : Nat) (s : S) (Q : Q1) (hQ : ∀ s', Ke s s' → Q .non s') : wCall prog (n + 19) 19 [progD fs] s Q := by
  have T := G.tb
  rw [call_eqn (p := 1) (m := 6) (b := b_need_program) rfl]
  have hp : ∃ x r, fs.map F.d = x :: r := by
    cases fs with
    | nil => exact absurd rfl G.ne
    | cons f r => exact ⟨_, _, rfl⟩
  obtain ⟨x, r, hx⟩ := hp
  have pu := (G.pure).mono (show 19 ≤ 64 by omega)
  unfold progD at pu ⊢
  have e0 : ∀ (s : S) (Q : Q1), wCmp .eq (.tup (fs.map F.d)) (.tup []) s Q = Q (.bl false) s := fun s Q => by rw [hx] at pu ⊢; exact c_eqU pu
  simp [b_need_program, s_ifE, isTy, e0, sizeLine, e_lc, wVal]
  have len16 : fs.length ≤ 16777216 := Nat.le_trans G.len (by decide)
  refine lcGo_map (g := fun _ => .bl true) trivial fs [] (fun f hf K k => ?_) (by simpa [sizeLine] using len16) ?_
  · rw [w_shape (G.ok f hf)]; exact k
  intro a ha
  have sa : (put s a (.lst ([] ++ fs.map fun _ => .bl true))) a = some (.lst (fs.map fun _ => .bl true)) := put_same
  rw [seqOf_ref sa, got_some, List.zip_map', List.map_map]
  refine lcGo_map (f := (fun p : D × D => D.tup [p.1, p.2]) ∘ fun f : F => (f.d, .bl true)) (g := fun f => .int f.p) ⟨trivial, sa⟩ fs [] (fun f hf K k => ?_) (by simpa [sizeLine] using len16) ?_
  · simpa [F.d] using k
  intro b hb
  have sb : (put (put s a (.lst ([] ++ fs.map fun _ => .bl true))) b (.lst ([] ++ fs.map fun f => .int f.p))) b = some (.lst (fs.map fun f => .int f.p)) := put_same
  have sa2 : (put (put s a (.lst ([] ++ fs.map fun _ => .bl true))) b (.lst ([] ++ fs.map fun f => .int f.p))) a = some (.lst (fs.map fun _ => .bl true)) := (put_ne (ne_fresh sa hb)).trans sa
  have k2 : Ke s (put (put s a (.lst ([] ++ fs.map fun _ => .bl true))) b (.lst ([] ++ fs.map fun f => .int f.p))) := (Ke.new ha).trans (Ke.new hb)
  generalize put (put s a (.lst ([] ++ fs.map fun _ => .bl true))) b (.lst ([] ++ fs.map fun f => .int f.p)) = s2 at sb sa2 k2 ⊢
  rw [init_1, got_some]
  intro p hp'
  show wCall prog (n + 18) 28 _ _ _
  rw [call_eqn (p := 2) (m := 2) (b := b_Looker___init__) rfl]
  simp [b_Looker___init__, withI, fput, isNon]
  have hl : Lk (put (put (put s2 p (.ins 1 [])) p (.ins 1 [("many", .ref b)])) p (.ins 1 [("many", .ref b), ("things", .int 0)])) p b (fs.map F.p) 0 := ⟨put_same, by
    rw [put_put, put_put, put_ne (ne_fresh sb hp'), sb, List.map_map]; rfl, ne_fresh sb hp'⟩
  have sa3 : (put (put (put s2 p (.ins 1 [])) p (.ins 1 [("many", .ref b)])) p (.ins 1 [("many", .ref b), ("things", .int 0)])) a = some (.lst (fs.map fun _ => .bl true)) := by
    rw [put_put, put_put, put_ne (ne_fresh sa2 hp')]; exact sa2
  have k3 : Ke s (put (put (put s2 p (.ins 1 [])) p (.ins 1 [("many", .ref b)])) p (.ins 1 [("many", .ref b), ("things", .int 0)])) := by
    rw [put_put, put_put]; exact k2.trans (Ke.new hp')
  have np : s p = none := by
    cases e : s p with
    | none => rfl
    | some o => rw [k2 p o e] at hp'; cases hp'
  generalize put (put (put s2 p (.ins 1 [])) p (.ins 1 [("many", .ref b)])) p (.ins 1 [("many", .ref b), ("things", .int 0)]) = s3 at hl sa3 k3 ⊢
  rw [s_forE]
  have bn : bnd (fs.length : Int) := ⟨by omega, by have := G.len; omega⟩
  simp [bn, sizeLine, len16]
  refine forGo_by (f := fun i : Nat => .int (0 + i)) (fun r ρ s' => (∀ i ∈ r, i < fs.length) ∧ (∃ o, ρ = [some (.tup (fs.map F.d)), some (.ref a), some (.ref p), o, none, none]) ∧ (∃ u, Lk s' p b (fs.map F.p) u) ∧ Ke s s' ∧ s' a = some (.lst (fs.map fun _ => .bl true)))
    (fun _ _ _ _ => trivial) ?_ ?_ (List.range fs.length) _ s3 ⟨fun i hi => List.mem_range.mp hi, ⟨none, rfl⟩, ⟨0, hl⟩, k3, sa3⟩
  · rintro i r _ s4 N ⟨hi, ⟨o, rfl⟩, ⟨u, hL⟩, k4, sa4⟩ hN
    have hlt : i < fs.length := hi i (List.mem_cons_self ..)
    have h4 : ¬ (4 : Int) ≤ i := by have := G.len; omega
    have g1 : (fs.map fun _ => D.bl true)[i]? = some (.bl true) := by rw [List.getElem?_map, List.getElem?_eq_getElem hlt]; rfl
    have g2 : (fs.map F.d)[i]? = some (fs[i]).d := by rw [List.getElem?_map, List.getElem?_eq_getElem hlt]; rfl
    simp [s_ifE, h4, ix_lst sa4, at_nat rfl g1, at_nat rfl g2, withI, hL.at_, fget]
    refine w_function T (G.ok _ (List.getElem_mem hlt)) n s4 p b u _ hL fun s5 u' hL5 k5 => ?_
    simp
    exact hN _ _ ⟨fun j hj => hi j (List.mem_cons_of_mem _ hj), ⟨_, rfl⟩, ⟨u', hL5⟩, k4.kp np k5, k5 _ _ (fun e => by rw [e, hL.at_] at sa4; cases sa4) sa4⟩
  · rintro _ s4 ⟨_, ⟨o, rfl⟩, _, k4, _⟩
    exact hQ s4 k4
end K14
set_option Elab.async false
set_option linter.all false
set_option maxRecDepth 100000
set_option maxHeartbeats 4000000
namespace K14
open PySem Tk
def figs : Str := "0123456789"
def sizeW (w : Str) : Str := if L2.cutS w none (some 1) == ("-" : Str) then L2.cutS w (some 1) none else w
def numChk (w : Str) (r : Option Int) : Bool :=
  PyData.strOk w && decide (w.length ≤ 640) &&
  if (decide (1 ≤ (sizeW w).length) && decide ((sizeW w).length ≤ 4) && (sizeW w).cps.toList.all fun c => decide (c ∈ figs.cps.toList)) = true then
    match intText? w with
    | some k => decide (k.natAbs.log2 < 1920) && (r == if Str.ofString (toString k) == w then some k else none)
    | none => false
  else r == none
/-- a number's word -/
def nw (i : Int) : Str := Str.ofString (toString i)
def nwOk (i : Int) : Bool := numChk (nw i) (some i) && decide (1 ≤ (nw i).length) && decide ((nw i).length ≤ 5) && decide (32 ∉ (nw i).cps.toList)
theorem nw_p0 : ∀ k : Fin 250, nwOk (((0 + k.val : Nat) : Int) - 1000) = true := by decide +kernel
theorem nw_p1 : ∀ k : Fin 250, nwOk (((250 + k.val : Nat) : Int) - 1000) = true := by decide +kernel
theorem nw_p2 : ∀ k : Fin 250, nwOk (((500 + k.val : Nat) : Int) - 1000) = true := by decide +kernel
theorem nw_p3 : ∀ k : Fin 250, nwOk (((750 + k.val : Nat) : Int) - 1000) = true := by decide +kernel
theorem nw_p4 : ∀ k : Fin 250, nwOk (((1000 + k.val : Nat) : Int) - 1000) = true := by decide +kernel
theorem nw_p5 : ∀ k : Fin 250, nwOk (((1250 + k.val : Nat) : Int) - 1000) = true := by decide +kernel
theorem nw_p6 : ∀ k : Fin 250, nwOk (((1500 + k.val : Nat) : Int) - 1000) = true := by decide +kernel
theorem nw_p7 : ∀ k : Fin 250, nwOk (((1750 + k.val : Nat) : Int) - 1000) = true := by decide +kernel
theorem nw_at (a k : Nat) (h : ∀ k : Fin 250, nwOk (((a + k.val : Nat) : Int) - 1000) = true) (h1 : a ≤ k) (h2 : k < a + 250) : nwOk ((k : Int) - 1000) = true := by
 have t : nwOk (((a + (k - a) : Nat) : Int) - 1000) = true := h ⟨k - a, by omega⟩
 rw [show a + (k - a) = k by omega] at t; exact t
theorem nw_all (k : Fin 2000) : nwOk ((k.val : Int) - 1000) = true := by
 have hk := k.isLt
 generalize k.val = k at hk ⊢
 by_cases c0 : k < 250
 ·exact nw_at 0 k nw_p0 (by omega) (by omega)
 by_cases c1 : k < 500
 ·exact nw_at 250 k nw_p1 (by omega) (by omega)
 by_cases c2 : k < 750
 ·exact nw_at 500 k nw_p2 (by omega) (by omega)
 by_cases c3 : k < 1000
 ·exact nw_at 750 k nw_p3 (by omega) (by omega)
 by_cases c4 : k < 1250
 ·exact nw_at 1000 k nw_p4 (by omega) (by omega)
 by_cases c5 : k < 1500
 ·exact nw_at 1250 k nw_p5 (by omega) (by omega)
 by_cases c6 : k < 1750
 ·exact nw_at 1500 k nw_p6 (by omega) (by omega)
 exact nw_at 1750 k nw_p7 (by omega) (by omega)
end K14
set_option Elab.async false
set_option linter.all false
set_option maxRecDepth 100000
set_option maxHeartbeats 4000000
namespace K14
open PySem Tk
theorem nw_ok {i : Int} (h1 : -1000 ≤ i) (h2 : i < 1000) : nwOk i = true := by
  have h := nw_all ⟨(i + 1000).toNat, by omega⟩
  have e : (((i + 1000).toNat : Nat) : Int) - 1000 = i := by omega
  have h' : nwOk ((((i + 1000).toNat : Nat) : Int) - 1000) = true := h
  rw [e] at h'; exact h'
theorem nw_chk {i : Int} (h1 : -1000 ≤ i) (h2 : i < 1000) : numChk (nw i) (some i) = true ∧ 1 ≤ (nw i).length ∧ (nw i).length ≤ 5 ∧ 32 ∉ (nw i).cps.toList := by
  have h := nw_ok h1 h2
  unfold nwOk at h
  simp only [Bool.and_eq_true, decide_eq_true_eq] at h
  exact ⟨h.1.1.1, h.1.1.2, h.1.2, h.2⟩
theorem log_ok {i : Int} (h1 : -1000 ≤ i) (h2 : i < 1000) : i.natAbs.log2 < 1920 := by
  have := Nat.log2_le_self i.natAbs
  omega
mutual
def W.ws : W → List Str
  | .num n => [nw n]
  | .var v => ["v" ++ nw v]
  | .dbl k a b => Str.ofString (dblN k) :: (a.ws ++ b.ws)
  | .call c as => "call" :: nw c :: nw as.length :: W.wss as
def W.wss : List W → List Str
  | [] => []
  | w :: r => w.ws ++ W.wss r
end
mutual
theorem W.ws_len : ∀ w : W, w.ws.length ≤ 3 * w.c
  | .num n => by simp [W.ws, W.c]
  | .var v => by simp [W.ws, W.c]
  | .dbl k a b => by
    have h1 := W.ws_len a
    have h2 := W.ws_len b
    simp only [W.ws, W.c, List.length_cons, List.length_append]
    omega
  | .call c as => by
    have h1 := W.wss_len as
    simp only [W.ws, W.c, List.length_cons]
    omega
theorem W.wss_len : ∀ w : List W, (W.wss w).length ≤ 3 * W.cs w
  | [] => by simp [W.wss]
  | w :: r => by
    have h1 := W.ws_len w
    have h2 := W.wss_len r
    simp only [W.wss, W.cs, List.length_append]
    omega
end
def sts (xs : List Str) : List D := xs.map D.str
@[simp] theorem sts_len (xs : List Str) : (sts xs).length = xs.length := List.length_map _
theorem sts_app (xs ys : List Str) : sts (xs ++ ys) = sts xs ++ sts ys := List.map_append
/-- a new list of words -/
def SpL (n f : Nat) (d : D) (ws : List Str) : Prop := ∀ (s : S) (Q : Q1), (∀ s' q, Ke s s' → s q = none → s' q = some (.lst (sts ws)) → Q (.ref q) s') → wCall prog n f [d] s Q
theorem new_in {s : S} {o : Ob} {Q : Q1} (h : ∀ p s1, s p = none → s1 p = some o → Ke s s1 → Q (.ref p) s1) : new s o Q := fun p hp => h p _ hp put_same (Ke.new hp)
theorem none_of {s s' : S} {p : Addr} (k : Ke s s') (n : s' p = none) : s p = none := by
  cases e : s p with
  | none => rfl
  | some o => rw [k p o e] at n; cases n
theorem v_len {v : Int} (h0 : 0 ≤ v) (h6 : v < 6) : (Str.ofString "v").length + (nw v).length ≤ sizeLine := by
  have h := (nw_chk (i := v) (by omega) (by omega)).2.2.1
  have e : (Str.ofString "v").length = 1 := by decide
  rw [e]; exact sz (by omega)
theorem ww_loop {n : Nat} {e : D} {q : Addr} {s0 : S} {K : En} (nq : s0 q = none) (as : List W) (h : ∀ w ∈ as, SpL n 21 w.d w.ws) (acc : List Str) (hl : acc.length + (W.wss as).length ≤ 16777216) (o : Option D) (s : S) (k : Ke s0 s) (hs : s q = some (.lst (sts acc)))
    (hK : ∀ s' o', Ke s0 s' → s' q = some (.lst (sts (acc ++ W.wss as))) → K.nx [some e, some (.ref q), o'] s') :
    forGo (fun _ => True) (.nm 2) (fun K ρ s => wSs prog (wCall prog n) [.expr (.bm .extend (.var 1) (.cons (.call 21 (.cons (.var 2) .nil)) .nil))] K ρ s) K (W.ds as) [some e, some (.ref q), o] s := by
  rw [ds_map]
  refine forGo_by (f := W.d) (fun r ρ s' => (∀ w ∈ r, SpL n 21 w.d w.ws) ∧ (∃ o, ρ = [some e, some (.ref q), o]) ∧ Ke s0 s' ∧ ∃ a, s' q = some (.lst (sts a)) ∧ a ++ W.wss r = acc ++ W.wss as) (fun _ _ _ _ => trivial) ?_ ?_ as _ s ⟨h, ⟨o, rfl⟩, k, acc, hs, rfl⟩
  · rintro x r _ s1 N ⟨hr, ⟨o, rfl⟩, k1, a, ha, e1⟩ hN
    simp [bmTy, ha]
    refine hr x (List.mem_cons_self ..) s1 _ fun s2 q2 k2 n2 h2 => ?_
    have hq := k2 _ _ ha
    have el : a.length + x.ws.length ≤ sizeLine := by
      have := congrArg List.length e1
      simp only [W.wss, List.length_append] at this
      exact sz (by omega)
    simp [wBM, withL, hq, h2, el]
    refine hN _ _ ⟨fun w hw => hr w (List.mem_cons_of_mem _ hw), ⟨_, rfl⟩, (k1.trans k2).kp nq Kp.set, a ++ x.ws, ?_, ?_⟩
    · rw [put_same, sts_app]
    · rw [← e1]; simp only [W.wss, List.append_assoc]
  · rintro _ s1 ⟨_, ⟨o, rfl⟩, k1, a, ha, e1⟩
    rw [show a = acc ++ W.wss as by rw [← e1]; simp [W.wss]] at ha
    exact hK s1 o k1 ha
theorem W.c_pos (w : W) : 1 ≤ w.c := by cases w <;> simp [W.c] <;> omega
theorem w_ww {ps : List Int} (T : Tb ps) : ∀ (k : Nat) (w : W) (d n : Nat), W.ok ps d w → w.c ≤ 1000 → 4 - d ≤ k → k ≤ n → SpL n 21 w.d w.ws
  | 0, w, d, n, h, _, g, _ => by have := W.ok_le h; omega
  | k + 1, w, d, n + 1, h, hc, g, hn => by
    intro s Q hQ
    have hd := W.ok_le h
    have many : ∀ as : List W, W.oks ps (d + 1) as → W.cs as ≤ 1000 → ∀ w ∈ as, SpL n 21 w.d w.ws := by
      intro as
      induction as with
      | nil => intro _ _ w hw; cases hw
      | cons x r ih =>
        intro ho hc w hw
        unfold W.oks at ho
        simp only [W.cs] at hc
        rcases List.mem_cons.mp hw with rfl | hw
        · exact w_ww T k w (d + 1) n ho.1 (by omega) (by omega) (by omega)
        · exact ih ho.2 (by omega) w hw
    rw [call_eqn (p := 1) (m := 3) (b := b_worth_words) rfl]
    cases w with
    | num v =>
      unfold W.d
      unfold W.ok at h
      have lg := log_ok h.2.1 h.2.2
      simp [b_worth_words, s_ifE, sizeLine, lg, new]
      exact fun p hp => hQ _ p (Ke.new hp) hp put_same
    | var v =>
      unfold W.d
      unfold W.ok at h
      have lg := log_ok (i := v) (by omega) (by omega)
      have hv := v_len h.2.1 h.2.2
      simp [b_worth_words, s_ifE, sizeLine, lg, new]
      exact ⟨hv, fun p hp => hQ _ p (Ke.new hp) hp put_same⟩
    | dbl j a b =>
      unfold W.d
      unfold W.ok at h
      have hm := many [a, b] (by simp only [W.oks]; exact ⟨h.2.1, h.2.2, trivial⟩) (by simp only [W.cs, W.c] at hc ⊢; omega)
      have hlen := W.wss_len [a, b]
      have hc2 : W.cs [a, b] ≤ 1000 := by simp only [W.cs, W.c] at hc ⊢; omega
      have hj : dblN j = "add" ∨ dblN j = "take" ∨ dblN j = "times" ∨ dblN j = "less" ∨ dblN j = "same" := by
        match j with
        | 0 => simp [dblN]
        | 1 => simp [dblN]
        | 2 => simp [dblN]
        | 3 => simp [dblN]
        | 4 => simp [dblN]
      have hw : W.ws (.dbl j a b) = [Str.ofString (dblN j)] ++ W.wss [a, b] := by simp [W.ws, W.wss]
      rw [hw] at hQ
      have fin : ∀ p q r : Addr, s p = none → put s p (.lst [.str (Str.ofString (dblN j))]) q = none → put (put s p (.lst [.str (Str.ofString (dblN j))])) q (.lst []) r = none →
          forGo (fun _ => True) (.nm 2) (fun K ρ s => wSs prog (wCall prog n) [.expr (.bm .extend (.var 1) (.cons (.call 21 (.cons (.var 2) .nil)) .nil))] K ρ s)
            { nx := wSs prog (wCall prog n) [.ret (.var 1)] { nx := fun x s' => Q .non s', rt := Q, bk := fun x x_1 => False, ct := fun x x_1 => False }, rt := Q, bk := fun x x_1 => False, ct := fun x x_1 => False } (W.ds [a, b])
            [some (.tup [.str (Str.ofString (dblN j)), a.d, b.d]), some (.ref r), none] (put (put (put s p (.lst [.str (Str.ofString (dblN j))])) q (.lst [])) r (.lst [.str (Str.ofString (dblN j))])) := fun p q r hp hq hr => by
        have kr : Ke s (put (put s p (.lst [.str (Str.ofString (dblN j))])) q (.lst [])) := (Ke.new hp).trans (Ke.new hq)
        have nr : s r = none := by
          cases e : s r with
          | none => rfl
          | some o => rw [kr r o e] at hr; cases hr
        refine ww_loop nr [a, b] hm [Str.ofString (dblN j)] (by rw [List.length_singleton]; omega) none _ (kr.trans (Ke.new hr)) put_same fun s' o' k' h' => ?_
        exact hQ s' r k' nr h'
      simp only [W.ds] at fin
      rcases hj with e | e | e | e | e <;> rw [e] at fin ⊢ <;> simp [b_worth_words, s_ifE, s_forE, wVal, sizeLine, new] <;> (intro p hp q hq; rw [b_addL (xs := [_]) (ys := []) (by rw [put_ne (ne_fresh put_same hq)]; exact put_same) put_same]; simp [sizeLine, new, s_forE, wVal]; exact fun r hr => fin p q r hp hq hr)
    | call c as =>
      unfold W.d
      unfold W.ok at h
      have hc1 : c < 4 := by
        have := (List.getElem?_eq_some_iff.mp h.2.2.1).1
        have := T.len
        omega
      have la : as.length ≤ 3 := by
        have := (T.le _ (List.mem_of_getElem? h.2.2.1)).2
        omega
      have lg := log_ok (i := c) (by omega) (by omega)
      have lg2 : as.length.log2 < 1920 := log_ok (i := (as.length : Int)) (by omega) (by omega)
      have l2 : as.length ≤ 16777216 := Nat.le_trans la (by decide)
      have hc2 : W.cs as ≤ 1000 := by simp only [W.c] at hc; omega
      have hlen := W.wss_len as
      simp [b_worth_words, s_ifE, sizeLine, lg]
      refine new_in fun p s1 n1 h1 k1 => ?_
      simp [lg2, l2]
      refine new_in fun q s2 n2 h2 k2 => ?_
      rw [b_addL (k2 _ _ h1) h2]
      simp [sizeLine]
      refine new_in fun r s3 n3 h3 k3 => ?_
      rw [s_forE]
      simp [wVal]
      have hw : W.ws (.call c as) = [Str.ofString "call", nw c, nw as.length] ++ W.wss as := by simp [W.ws]
      rw [hw] at hQ
      have nr : s r = none := none_of (k1.trans k2) n3
      refine ww_loop nr as (many as h.2.2.2 hc2) [Str.ofString "call", nw c, nw as.length] (by simp only [List.length_cons, List.length_nil]; omega) none _ (k1.trans (k2.trans k3)) h3 fun s' o' k' h' => ?_
      exact hQ s' r k' nr h'
end K14
set_option Elab.async false
set_option linter.all false
set_option maxRecDepth 100000
set_option maxHeartbeats 4000000
namespace K14
open PySem Tk
mutual
def Dd.ws : Dd → List Str
  | .lt v w => [Str.ofString "let", "v" ++ nw v] ++ w.ws
  | .whl t b => ([Str.ofString "while"] ++ t.ws ++ Dd.wss b) ++ [Str.ofString "end"]
  | .ife t a b => ([Str.ofString "if"] ++ t.ws ++ Dd.wss a) ++ ([Str.ofString "else"] ++ Dd.wss b) ++ [Str.ofString "end"]
def Dd.wss : List Dd → List Str
  | [] => []
  | w :: r => w.ws ++ Dd.wss r
end
mutual
theorem Dd.ws_len : ∀ w : Dd, w.ws.length ≤ 3 * w.c
  | .lt v w => by
    have h1 := W.ws_len w
    simp only [Dd.ws, Dd.c, List.length_cons, List.length_append, List.length_nil]
    omega
  | .whl t b => by
    have h1 := W.ws_len t
    have h2 := Dd.wss_len b
    simp only [Dd.ws, Dd.c, List.length_cons, List.length_append, List.length_nil]
    omega
  | .ife t a b => by
    have h1 := W.ws_len t
    have h2 := Dd.wss_len a
    have h3 := Dd.wss_len b
    simp only [Dd.ws, Dd.c, List.length_cons, List.length_append, List.length_nil]
    omega
theorem Dd.wss_len : ∀ w : List Dd, (Dd.wss w).length ≤ 3 * Dd.cs w
  | [] => by simp [Dd.wss]
  | w :: r => by
    have h1 := Dd.ws_len w
    have h2 := Dd.wss_len r
    simp only [Dd.wss, Dd.cs, List.length_append]
    omega
end
theorem add_in {s : S} {p q : Addr} {xs ys : List Str} {Q : Q1} (h : s p = some (.lst (sts xs))) (g : s q = some (.lst (sts ys))) (hl : xs.length + ys.length ≤ 16777216)
    (k : ∀ r s1, s r = none → s1 r = some (.lst (sts (xs ++ ys))) → Ke s s1 → Q (.ref r) s1) : wBin .add (.ref p) (.ref q) s Q := by
  rw [b_addL h g]
  refine ⟨by simpa using sz hl, new_in fun r s1 n h1 k1 => k r s1 n (by rw [sts_app]; exact h1) k1⟩
theorem ext_in {s : S} {p q : Addr} {xs ys : List Str} {Q : Q1} (h : s p = some (.lst (sts xs))) (g : s q = some (.lst (sts ys))) (hl : xs.length + ys.length ≤ 16777216)
    (k : Q .non (put s p (.lst (sts (xs ++ ys))))) : wBM .extend (.ref p) [.ref q] s Q := by
  show withL s p _
  rw [withL_eq h, withL_eq g]
  refine ⟨by simpa using sz hl, ?_⟩
  rw [sts_app] at k
  exact k
theorem w_ww9 {ps : List Int} (T : Tb ps) {w : W} (h : W.ok ps 0 w) (hc : w.c ≤ 1000) (n : Nat) : SpL (n + 4) 21 w.d w.ws := w_ww T 4 w 0 (n + 4) h hc (by omega) (by omega)
theorem w_dw {ps : List Int} (T : Tb ps) : ∀ (k : Nat) (b : List Dd) (d n : Nat), Dd.oks ps d b → Dd.cs b ≤ 1000 → 4 - d ≤ k → k + 4 ≤ n → SpL (n + 1) 22 (.tup (Dd.ds b)) (Dd.wss b) := by
  intro k
  induction k with
  | zero =>
    intro b d n ho hc g hn s Q hQ
    cases b with
    | cons x r => unfold Dd.oks at ho; have := Dd.ok_le ho.1; omega
    | nil =>
      rw [call_eqn (p := 1) (m := 3) (b := b_deeds_words) rfl]
      simp [b_deeds_words, sizeLine, Dd.ds]
      refine new_in fun q s1 n1 h1 k1 => ?_
      rw [s_forE]
      simp [wVal, forGo]
      exact hQ s1 q k1 n1 h1
  | succ k ih =>
    intro b d n ho hc g hn s Q hQ
    rw [call_eqn (p := 1) (m := 3) (b := b_deeds_words) rfl]
    simp [b_deeds_words, sizeLine]
    refine new_in fun q s1 nq h1 k1 => ?_
    rw [s_forE]
    simp [wVal]
    rw [Dd.ds_map]
    have lb := Dd.wss_len b
    refine forGo_by (f := Dd.d) (fun r ρ s' => (Dd.oks ps d r ∧ Dd.cs r ≤ 1000) ∧ (∃ o, ρ = [some (.tup (b.map Dd.d)), some (.ref q), o]) ∧ Ke s s' ∧ ∃ a, s' q = some (.lst (sts a)) ∧ a ++ Dd.wss r = Dd.wss b) (fun _ _ _ _ => trivial) ?_ ?_ b _ s1 ⟨⟨ho, hc⟩, ⟨none, rfl⟩, k1, [], h1, rfl⟩
    · rintro x r _ s1 N ⟨⟨hr, hcr⟩, ⟨o, rfl⟩, k1, a, ha, e1⟩ hN
      unfold Dd.oks at hr
      have hd := Dd.ok_le hr.1
      simp only [Dd.cs] at hcr
      have el : a.length + x.ws.length ≤ 16777216 := by
        have := congrArg List.length e1
        simp only [Dd.wss, List.length_append] at this
        omega
      have done : ∀ s', Ke s s' → s' q = some (.lst (sts (a ++ x.ws))) → ∀ o, N [some (.tup (b.map Dd.d)), some (.ref q), o] s' := fun s' k' h' o => hN _ _ ⟨⟨hr.2, by omega⟩, ⟨o, rfl⟩, k', _, h', by rw [← e1]; simp only [Dd.wss, List.append_assoc]⟩
      have lx := Dd.ws_len x
      cases x with
      | lt v w =>
        have hx := hr.1
        unfold Dd.ok at hx
        have lg := log_ok (i := v) (by omega) (by omega)
        have hv := v_len hx.2.1 hx.2.2.1
        simp only [Dd.c] at hcr
        simp only [Dd.ws, List.length_append, List.length_cons, List.length_nil] at el lx
        simp [s_ifE, Dd.d, bmTy, ha, sizeLine, lg]
        refine ⟨hv, new_in fun p2 s2 n2 h2 k2 => ?_⟩
        obtain ⟨n', rfl⟩ : ∃ n', n = n' + 4 := ⟨n - 4, by omega⟩
        refine w_ww9 T hx.2.2.2 (by omega) n' _ _ fun s3 p3 k3 n3 h3 => ?_
        refine add_in (xs := [Str.ofString "let", "v" ++ nw v]) (k3 _ _ h2) h3 (by simp; omega) fun p4 s4 n4 h4 k4 => ?_
        refine ext_in (k4 _ _ (k3 _ _ (k2 _ _ ha))) h4 (by simp; omega) ?_
        exact done _ ((k1.trans (k2.trans (k3.trans k4))).kp nq Kp.set) (by rw [put_same]; rfl) _
      | whl t0 c =>
        have hx := hr.1
        unfold Dd.ok at hx
        simp only [Dd.c] at hcr
        simp only [Dd.ws, List.length_append, List.length_cons, List.length_nil] at el lx
        obtain ⟨m, rfl⟩ : ∃ m, n = m + 5 := ⟨n - 5, by omega⟩
        simp [s_ifE, Dd.d, bmTy, ha, sizeLine]
        refine new_in fun p2 s2 n2 h2 k2 => w_ww9 T hx.2.1 (by omega) (m + 1) _ _ fun s3 p3 k3 n3 h3 => add_in (xs := [Str.ofString "while"]) (k3 _ _ h2) h3 (by simp; omega) fun p4 s4 n4 h4 k4 => ?_
        refine ih c (d + 1) (m + 4) hx.2.2 (by omega) (by omega) (by omega) _ _ fun s5 p5 k5 n5 h5 => add_in (k5 _ _ h4) h5 (by simp; omega) fun p6 s6 n6 h6 k6 => ?_
        have k26 := k2.trans (k3.trans (k4.trans (k5.trans k6)))
        refine ext_in (k26 _ _ ha) h6 (by simp; omega) ?_
        simp [bmTy, wBM, withL, sizeLine]
        refine ⟨by omega, ?_⟩
        refine done _ (((k1.trans k26).kp nq Kp.set).kp nq Kp.set) ?_ _
        rw [put_same]; simp [Dd.ws, sts]
      | ife t0 c e =>
        have hx := hr.1
        unfold Dd.ok at hx
        simp only [Dd.c] at hcr
        simp only [Dd.ws, List.length_append, List.length_cons, List.length_nil] at el lx
        obtain ⟨m, rfl⟩ : ∃ m, n = m + 5 := ⟨n - 5, by omega⟩
        simp [s_ifE, Dd.d, bmTy, ha, sizeLine]
        refine new_in fun p2 s2 n2 h2 k2 => w_ww9 T hx.2.1 (by omega) (m + 1) _ _ fun s3 p3 k3 n3 h3 => add_in (xs := [Str.ofString "if"]) (k3 _ _ h2) h3 (by simp; omega) fun p4 s4 n4 h4 k4 => ?_
        refine ih c (d + 1) (m + 4) hx.2.2.1 (by omega) (by omega) (by omega) _ _ fun s5 p5 k5 n5 h5 => add_in (k5 _ _ h4) h5 (by simp; omega) fun p6 s6 n6 h6 k6 => ?_
        have k26 := k2.trans (k3.trans (k4.trans (k5.trans k6)))
        refine ext_in (k26 _ _ ha) h6 (by simp; omega) ?_
        have k7 := (k1.trans k26).kp nq (Kp.set (o := .lst (sts (a ++ (([Str.ofString "if"] ++ t0.ws) ++ Dd.wss c)))))
        have h7 : (put s6 q (.lst (sts (a ++ (([Str.ofString "if"] ++ t0.ws) ++ Dd.wss c))))) q = _ := put_same
        generalize put s6 q (.lst (sts (a ++ (([Str.ofString "if"] ++ t0.ws) ++ Dd.wss c)))) = s7 at k7 h7 ⊢
        simp [s_ifE, bmTy, h7, sizeLine]
        refine new_in fun p8 s8 n8 h8 k8 => ih e (d + 1) (m + 4) hx.2.2.2 (by omega) (by omega) (by omega) _ _ fun s9 p9 k9 n9 h9 => add_in (xs := [Str.ofString "else"]) (k9 _ _ h8) h9 (by simp; omega) fun p10 s10 n10 h10 k10 => ?_
        have k80 := k8.trans (k9.trans k10)
        refine ext_in (k80 _ _ h7) h10 (by simp; omega) ?_
        simp [bmTy, wBM, withL, sizeLine]
        refine ⟨by omega, ?_⟩
        refine done _ (((k7.trans k80).kp nq Kp.set).kp nq Kp.set) ?_ _
        rw [put_same]; simp [Dd.ws, sts]
    · rintro _ s1 ⟨_, ⟨o, rfl⟩, k1, a, ha, e1⟩
      rw [show a = Dd.wss b by rw [← e1]; simp [Dd.wss]] at ha
      exact hQ s1 q k1 nq ha
end K14
set_option Elab.async false
set_option linter.all false
set_option maxRecDepth 100000
set_option maxHeartbeats 4000000
namespace K14
open PySem Tk
/-! ### the words -/
def wordOk (x : Str) : Bool := decide (x.length ≤ 6) && decide (32 ∉ x.cps.toList) && PyData.strOk x
def vwOk (v : Nat) : Bool := wordOk ("v" ++ nw v)
theorem vw_all : ∀ k : Fin 6, vwOk k.val = true := by decide +kernel
theorem vw_ok {v : Int} (h0 : 0 ≤ v) (h6 : v < 6) : wordOk ("v" ++ nw v) = true := by
  have h := vw_all ⟨v.toNat, by omega⟩
  have e : ((v.toNat : Nat) : Int) = v := by omega
  have h' : wordOk ("v" ++ nw ((v.toNat : Nat) : Int)) = true := h
  rw [e] at h'; exact h'
theorem nw_word {i : Int} (h1 : -1000 ≤ i) (h2 : i < 1000) : wordOk (nw i) = true := by
  obtain ⟨a, b, c, d⟩ := nw_chk h1 h2
  unfold wordOk
  simp only [Bool.and_eq_true, decide_eq_true_eq]
  exact ⟨⟨by omega, d⟩, ofs_ok _⟩
mutual
theorem W.ws_ok {ps : List Int} (T : Tb ps) : ∀ (w : W) {d : Nat}, W.ok ps d w → ∀ x ∈ w.ws, wordOk x = true
  | .num n, d, h, x, hx => by
    unfold W.ok at h
    simp only [W.ws, List.mem_singleton] at hx
    subst hx; exact nw_word h.2.1 h.2.2
  | .var v, d, h, x, hx => by
    unfold W.ok at h
    simp only [W.ws, List.mem_singleton] at hx
    subst hx; exact vw_ok h.2.1 h.2.2
  | .dbl k a b, d, h, x, hx => by
    unfold W.ok at h
    simp only [W.ws, List.mem_cons, List.mem_append] at hx
    rcases hx with rfl | hx | hx
    · match k with
      | 0 => decide +kernel
      | 1 => decide +kernel
      | 2 => decide +kernel
      | 3 => decide +kernel
      | 4 => decide +kernel
    · exact W.ws_ok T a h.2.1 x hx
    · exact W.ws_ok T b h.2.2 x hx
  | .call c as, d, h, x, hx => by
    unfold W.ok at h
    simp only [W.ws, List.mem_cons] at hx
    have hc1 : c < 4 := by
      have := (List.getElem?_eq_some_iff.mp h.2.2.1).1
      have := T.len
      omega
    have la : as.length ≤ 3 := by
      have := (T.le _ (List.mem_of_getElem? h.2.2.1)).2
      omega
    rcases hx with rfl | rfl | rfl | hx
    · decide +kernel
    · exact nw_word (by omega) (by omega)
    · exact nw_word (by omega) (by omega)
    · exact W.wss_ok T as h.2.2.2 x hx
theorem W.wss_ok {ps : List Int} (T : Tb ps) : ∀ (as : List W) {d : Nat}, W.oks ps d as → ∀ x ∈ W.wss as, wordOk x = true
  | [], d, h, x, hx => by simp [W.wss] at hx
  | w :: r, d, h, x, hx => by
    unfold W.oks at h
    simp only [W.wss, List.mem_append] at hx
    rcases hx with hx | hx
    · exact W.ws_ok T w h.1 x hx
    · exact W.wss_ok T r h.2 x hx
end
mutual
theorem Dd.ws_ok {ps : List Int} (T : Tb ps) : ∀ (w : Dd) {d : Nat}, Dd.ok ps d w → ∀ x ∈ w.ws, wordOk x = true
  | .lt v w, d, h, x, hx => by
    unfold Dd.ok at h
    simp only [Dd.ws, List.mem_cons, List.mem_append, List.not_mem_nil, or_false] at hx
    rcases hx with (rfl | rfl) | hx
    · decide +kernel
    · exact vw_ok h.2.1 h.2.2.1
    · exact W.ws_ok T w h.2.2.2 x hx
  | .whl t b, d, h, x, hx => by
    unfold Dd.ok at h
    simp only [Dd.ws, List.mem_cons, List.mem_append, List.not_mem_nil, or_false] at hx
    rcases hx with ((rfl | hx) | hx) | rfl
    · decide +kernel
    · exact W.ws_ok T t h.2.1 x hx
    · exact Dd.wss_ok T b h.2.2 x hx
    · decide +kernel
  | .ife t a b, d, h, x, hx => by
    unfold Dd.ok at h
    simp only [Dd.ws, List.mem_cons, List.mem_append, List.not_mem_nil, or_false] at hx
    rcases hx with (((rfl | hx) | hx) | (rfl | hx)) | rfl
    · decide +kernel
    · exact W.ws_ok T t h.2.1 x hx
    · exact Dd.wss_ok T a h.2.2.1 x hx
    · decide +kernel
    · exact Dd.wss_ok T b h.2.2.2 x hx
    · decide +kernel
theorem Dd.wss_ok {ps : List Int} (T : Tb ps) : ∀ (as : List Dd) {d : Nat}, Dd.oks ps d as → ∀ x ∈ Dd.wss as, wordOk x = true
  | [], d, h, x, hx => by simp [Dd.wss] at hx
  | w :: r, d, h, x, hx => by
    unfold Dd.oks at h
    simp only [Dd.wss, List.mem_append] at hx
    rcases hx with hx | hx
    · exact Dd.ws_ok T w h.1 x hx
    · exact Dd.wss_ok T r h.2 x hx
end
def F.ws (f : F) : List Str := (([Str.ofString "fun", nw f.p] ++ Dd.wss f.b) ++ [Str.ofString "back"]) ++ f.r.ws
def progW : List F → List Str
  | [] => []
  | f :: r => f.ws ++ progW r
theorem F.ws_ok {ps : List Int} (T : Tb ps) {f : F} (h : f.ok ps) : ∀ x ∈ f.ws, wordOk x = true := fun x hx => by
  simp only [F.ws, List.mem_cons, List.mem_append, List.not_mem_nil, or_false] at hx
  have h0 := h.p0
  have h3 := h.p3
  rcases hx with (((rfl | rfl) | hx) | rfl) | hx
  · decide +kernel
  · exact nw_word (by omega) (by omega)
  · exact Dd.wss_ok T _ h.b x hx
  · decide +kernel
  · exact W.ws_ok T _ h.r x hx
theorem F.ws_len {ps : List Int} {f : F} (h : f.ok ps) : f.ws.length ≤ 123 := by
  have h1 := Dd.wss_len f.b
  have h2 := W.ws_len f.r
  have h3 := h.c
  simp only [F.ws, List.length_append, List.length_cons, List.length_nil]
  omega
theorem progW_ok {ps : List Int} (T : Tb ps) : ∀ (fs : List F), (∀ f ∈ fs, f.ok ps) → (∀ x ∈ progW fs, wordOk x = true) ∧ (progW fs).length ≤ 123 * fs.length
  | [], _ => ⟨(fun x hx => nomatch hx), Nat.zero_le _⟩
  | f :: r, h => by
    obtain ⟨a, b⟩ := progW_ok T r fun f hf => h f (List.mem_cons_of_mem _ hf)
    have c := F.ws_len (h f (List.mem_cons_self ..))
    refine ⟨fun x hx => ?_, by simp only [progW, List.length_append, List.length_cons]; omega⟩
    rcases List.mem_append.mp hx with hx | hx
    · exact F.ws_ok T (h f (List.mem_cons_self ..)) x hx
    · exact a x hx
theorem sum_le : ∀ (xs : List Str), (∀ x ∈ xs, wordOk x = true) → (xs.map (·.length)).sum ≤ 6 * xs.length
  | [], _ => by simp
  | x :: r, h => by
    have a := sum_le r fun y hy => h y (List.mem_cons_of_mem _ hy)
    have b := h x (List.mem_cons_self ..)
    unfold wordOk at b
    simp only [Bool.and_eq_true, decide_eq_true_eq] at b
    simp only [List.map_cons, List.sum_cons, List.length_cons]
    omega
theorem strsOf_sts : ∀ xs : List Str, strsOf (sts xs) = some xs
  | [] => rfl
  | x :: r => by show (strsOf (sts r)).map (x :: ·) = _; rw [strsOf_sts r]; rfl
/-- the text of words -/
def txt (xs : List Str) : Str := Txt.join (Str.ofString " ") xs
theorem join_in {s : S} {p : Addr} {xs : List Str} {Q : Q1} (h : s p = some (.lst (sts xs))) (ho : ∀ x ∈ xs, wordOk x = true) (hl : xs.length ≤ 1000) (k : Q (.str (txt xs)) s) : wBM .join (.str (Str.ofString " ")) [.ref p] s Q := by
  show got (seqOf s (.ref p)) _
  rw [seqOf_ref h, got_some, strsOf_sts, got_some]
  have a := sum_le xs ho
  have b : (Str.ofString " ").length = 1 := by decide +kernel
  rw [b]
  exact ⟨by omega, k⟩
theorem w_written {fs : List F} (G : Good fs) (n : Nat) (s : S) (Q : Q1) (hQ : ∀ s', Ke s s' → Q (.str (txt (progW fs))) s') : wCall prog (n + 20) 5 [progD fs] s Q := by
  have T := G.tb
  obtain ⟨go, gl⟩ := progW_ok T fs G.ok
  have g4 := G.len
  rw [call_eqn (p := 1) (m := 5) (b := b_written) rfl]
  simp [b_written, sizeLine]
  refine w_need G n s _ fun s0 k0 => ?_
  refine new_in fun q s1 nq h1 k1 => ?_
  rw [s_forE]
  simp [progD, wVal]
  have nq' : s q = none := none_of k0 nq
  refine forGo_by (f := F.d) (fun r ρ s' => (∀ f ∈ r, f.ok (fs.map F.p)) ∧ (∃ o1 o2 o3, ρ = [some (.tup (fs.map F.d)), some (.ref q), o1, o2, o3]) ∧ Ke s s' ∧ ∃ a, s' q = some (.lst (sts a)) ∧ a ++ progW r = progW fs) (fun _ _ _ _ => trivial) ?_ ?_ fs _ s1 ⟨G.ok, ⟨none, none, none, rfl⟩, k0.trans k1, [], h1, rfl⟩
  · rintro x r _ s1 N ⟨hr, ⟨o1, o2, o3, rfl⟩, k1, a, ha, e1⟩ hN
    have hx := hr x (List.mem_cons_self ..)
    have el : a.length + x.ws.length ≤ 16777216 := by
      have := congrArg List.length e1
      simp only [progW, List.length_append] at this
      omega
    have p0 := hx.p0
    have p3 := hx.p3
    have lg := log_ok (i := x.p) (by omega) (by omega)
    have hc := hx.c
    have b1 := Dd.wss_len x.b
    have b2 := W.ws_len x.r
    simp [F.d, bmTy, ha, sizeLine, lg]
    refine new_in fun p2 s2 n2 h2 k2 => w_dw T 4 x.b 0 (n + 18) hx.b (by omega) (by omega) (by omega) _ _ fun s3 p3 k3 n3 h3 => add_in (xs := [Str.ofString "fun", nw x.p]) (k3 _ _ h2) h3 (by simp; omega) fun p4 s4 n4 h4 k4 => ?_
    refine new_in fun p5 s5 n5 h5 k5 => add_in (ys := [Str.ofString "back"]) (k5 _ _ h4) h5 (by simp; omega) fun p6 s6 n6 h6 k6 => ?_
    refine w_ww9 T hx.r (by omega) (n + 15) _ _ fun s7 p7 k7 n7 h7 => add_in (k7 _ _ h6) h7 (by simp; omega) fun p8 s8 n8 h8 k8 => ?_
    have k28 := k2.trans (k3.trans (k4.trans (k5.trans (k6.trans (k7.trans k8)))))
    refine ext_in (k28 _ _ ha) h8 (by simp only [F.ws] at el; simpa using el) ?_
    refine hN _ _ ⟨fun f hf => hr f (List.mem_cons_of_mem _ hf), ⟨_, _, _, rfl⟩, (k1.trans k28).kp nq' Kp.set, _, put_same, ?_⟩
    rw [← e1]; simp [progW, F.ws]
  · rintro _ s1 ⟨_, ⟨o1, o2, o3, rfl⟩, k1, a, ha, e1⟩
    rw [show a = progW fs by rw [← e1]; simp [progW]] at ha
    simp [bmTy]
    exact join_in ha go (by omega) (hQ s1 k1)
end K14
set_option Elab.async false
set_option linter.all false
set_option maxRecDepth 100000
set_option maxHeartbeats 4000000
namespace K14
open PySem Tk
theorem empty_app (x : Str) : Str.ofString "" ++ x = x := by
  have e : Str.ofString "" = ⟨#[]⟩ := by decide +kernel
  rw [e]
  show (⟨#[] ++ x.cps⟩ : Str) = x
  simp
theorem sz_nw {i : Int} (h1 : -1000 ≤ i) (h2 : i < 1000) : (Str.ofString "").length + (nw i).length ≤ sizeLine := by
  have h := (nw_chk h1 h2).2.2.1
  have e : (Str.ofString "").length = 0 := by decide +kernel
  rw [e]; exact sz (by omega)
theorem lw_loop {n : Nat} {e : D} {x3 : Option D} {s0 : S} {K : En} (as : List W) (h : ∀ w ∈ as, SpL n 3 w.d w.ws) (q : Addr) (nq : s0 q = none) (acc : List Str) (hl : acc.length + (W.wss as).length ≤ 16777216) (o : Option D) (s : S) (k : Ke s0 s) (hs : s q = some (.lst (sts acc)))
    (hK : ∀ s' o' q', s0 q' = none → Ke s0 s' → s' q' = some (.lst (sts (acc ++ W.wss as))) → K.nx [some e, some (.ref q'), o', x3] s') :
    forGo (fun _ => True) (.nm 2) (fun K ρ s => wSs prog (wCall prog n) [.asg (.nm 1) (.bin .add (.var 1) (.call 3 (.cons (.var 2) .nil)))] K ρ s) K (W.ds as) [some e, some (.ref q), o, x3] s := by
  rw [ds_map]
  refine forGo_by (f := W.d) (fun r ρ s' => (∀ w ∈ r, SpL n 3 w.d w.ws) ∧ Ke s0 s' ∧ ∃ o q' a, ρ = [some e, some (.ref q'), o, x3] ∧ s0 q' = none ∧ s' q' = some (.lst (sts a)) ∧ a ++ W.wss r = acc ++ W.wss as) (fun _ _ _ _ => trivial) ?_ ?_ as _ s ⟨h, k, o, q, acc, rfl, nq, hs, rfl⟩
  · rintro x r _ s1 N ⟨hr, k1, o, q1, a, rfl, n1, ha, e1⟩ hN
    simp
    refine hr x (List.mem_cons_self ..) s1 _ fun s2 q2 k2 n2 h2 => ?_
    have el : a.length + x.ws.length ≤ 16777216 := by
      have := congrArg List.length e1
      simp only [W.wss, List.length_append] at this
      omega
    refine add_in (k2 _ _ ha) h2 el fun q3 s3 n3 h3 k3 => ?_
    have k13 := k1.trans (k2.trans k3)
    refine hN _ _ ⟨fun w hw => hr w (List.mem_cons_of_mem _ hw), k13, _, q3, a ++ x.ws, rfl, none_of (k1.trans k2) n3, h3, by rw [← e1]; simp only [W.wss, List.append_assoc]⟩
  · rintro _ s1 ⟨_, k1, o, q1, a, rfl, n1, ha, e1⟩
    rw [show a = acc ++ W.wss as by rw [← e1]; simp [W.wss]] at ha
    exact hK s1 o q1 n1 k1 ha
theorem w_lw {ps : List Int} (T : Tb ps) : ∀ (k : Nat) (w : W) (d n : Nat), W.ok ps d w → w.c ≤ 1000 → 4 - d ≤ k → k ≤ n → SpL n 3 w.d w.ws
  | 0, w, d, n, h, _, g, _ => by have := W.ok_le h; omega
  | k + 1, w, d, n + 1, h, hc, g, hn => by
    intro s Q hQ
    have hd := W.ok_le h
    have hp := (W.pure 4 h (by omega)).mono (show 2 * 4 ≤ 64 by omega)
    have many : ∀ as : List W, W.oks ps (d + 1) as → W.cs as ≤ 1000 → ∀ w ∈ as, SpL n 3 w.d w.ws := by
      intro as
      induction as with
      | nil => intro _ _ w hw; cases hw
      | cons x r ih =>
        intro ho hc w hw
        unfold W.oks at ho
        simp only [W.cs] at hc
        rcases List.mem_cons.mp hw with rfl | hw
        · exact w_lw T k w (d + 1) n ho.1 (by omega) (by omega) (by omega)
        · exact ih ho.2 (by omega) w hw
    rw [call_eqn (p := 1) (m := 4) (b := b__law_words) rfl]
    cases w with
    | num v =>
      unfold W.d at hp ⊢
      unfold W.ok at h
      have lg := log_ok h.2.1 h.2.2
      simp [b__law_words, s_ifE, sizeLine, lg, c_eqU hp, isTy]
      refine new_in fun p s1 n1 h1 k1 => ?_
      rw [ix_lst h1]
      simp [lg]
      refine ⟨sz_nw h.2.1 h.2.2, new_in fun q s2 n2 h2 k2 => hQ s2 q (k1.trans k2) (none_of k1 n2) ?_⟩
      rw [empty_app] at h2
      exact h2
    | var v =>
      unfold W.d at hp ⊢
      unfold W.ok at h
      have lg := log_ok (i := v) (by omega) (by omega)
      have hv := v_len h.2.1 h.2.2
      simp [b__law_words, s_ifE, sizeLine, lg, c_eqU hp, isTy]
      refine new_in fun p s1 n1 h1 k1 => ?_
      rw [ix_lst h1]
      simp [lg]
      exact ⟨hv, new_in fun q s2 n2 h2 k2 => hQ s2 q (k1.trans k2) (none_of k1 n2) h2⟩
    | dbl j a b =>
      unfold W.d at hp ⊢
      unfold W.ok at h
      have hm := many [a, b] (by simp only [W.oks]; exact ⟨h.2.1, h.2.2, trivial⟩) (by simp only [W.cs, W.c] at hc ⊢; omega)
      have hlen := W.wss_len [a, b]
      have hc2 : W.cs [a, b] ≤ 1000 := by simp only [W.cs, W.c] at hc ⊢; omega
      have hj : dblN j = "add" ∨ dblN j = "take" ∨ dblN j = "times" ∨ dblN j = "less" ∨ dblN j = "same" := by
        match j with
        | 0 => simp [dblN]
        | 1 => simp [dblN]
        | 2 => simp [dblN]
        | 3 => simp [dblN]
        | 4 => simp [dblN]
      have hw : W.ws (.dbl j a b) = [Str.ofString (dblN j)] ++ W.wss [a, b] := by simp [W.ws, W.wss]
      rw [hw] at hQ
      have fin := fun (r : Addr) (s1 : S) (n1 : s r = none) (h1 : s1 r = some (.lst [.str (Str.ofString (dblN j))])) (k1 : Ke s s1) => lw_loop (n := n) (e := .tup [.str (Str.ofString (dblN j)), a.d, b.d]) (x3 := none) (s0 := s)
        (K := { nx := wSs prog (wCall prog n) [.ret (.var 1)] { nx := fun x s' => Q .non s', rt := Q, bk := fun x x_1 => False, ct := fun x x_1 => False }, rt := Q, bk := fun x x_1 => False, ct := fun x x_1 => False })
        [a, b] hm r n1 [Str.ofString (dblN j)] (by rw [List.length_singleton]; omega) none s1 k1 h1 fun s' o' q' n' k' h' => hQ s' q' k' n' h'
      simp only [W.ds] at fin
      rcases hj with e | e | e | e | e <;> rw [e] at fin hp ⊢ <;> simp [b__law_words, s_ifE, s_forE, wVal, sizeLine, c_eqU hp, isTy] <;> exact new_in fun r s1 n1 h1 k1 => fin r s1 n1 h1 k1
    | call c as =>
      unfold W.d at hp ⊢
      unfold W.ok at h
      have hc1 : c < 4 := by
        have := (List.getElem?_eq_some_iff.mp h.2.2.1).1
        have := T.len
        omega
      have la : as.length ≤ 3 := by
        have := (T.le _ (List.mem_of_getElem? h.2.2.1)).2
        omega
      have lg := log_ok (i := c) (by omega) (by omega)
      have lg2 : as.length.log2 < 1920 := log_ok (i := (as.length : Int)) (by omega) (by omega)
      have l2 : as.length ≤ 16777216 := Nat.le_trans la (by decide)
      have hc2 : W.cs as ≤ 1000 := by simp only [W.c] at hc; omega
      have hlen := W.wss_len as
      simp [b__law_words, s_ifE, sizeLine, lg, c_eqU hp, isTy]
      refine new_in fun p s1 n1 h1 k1 => ?_
      simp [lg, lg2, l2]
      refine new_in fun q s2 n2 h2 k2 => ?_
      rw [b_addL (k2 _ _ h1) h2]
      simp [sizeLine]
      refine new_in fun r s3 n3 h3 k3 => ?_
      rw [s_forE]
      simp [wVal]
      have hw : W.ws (.call c as) = [Str.ofString "call", nw c, nw as.length] ++ W.wss as := by simp [W.ws]
      rw [hw] at hQ
      have nr : s r = none := none_of (k1.trans k2) n3
      exact lw_loop as (many as h.2.2.2 hc2) r nr [Str.ofString "call", nw c, nw as.length] (by simp only [List.length_cons, List.length_nil]; omega) none _ (k1.trans (k2.trans k3)) h3 fun s' o' q' n' k' h' => hQ s' q' k' n' h'
theorem w_lw9 {ps : List Int} (T : Tb ps) {w : W} (h : W.ok ps 0 w) (hc : w.c ≤ 1000) (n : Nat) : SpL (n + 4) 3 w.d w.ws := w_lw T 4 w 0 (n + 4) h hc (by omega) (by omega)
end K14
set_option Elab.async false
set_option linter.all false
set_option maxRecDepth 100000
set_option maxHeartbeats 4000000
namespace K14
open PySem Tk
theorem Dd.ty (x : Dd) (s : S) : tyD s x.d = some "tuple" := by cases x <;> rfl
/-- one deed's words, given those of the lists within -/
theorem w_ldw {ps : List Int} (T : Tb ps) {n d : Nat} (h3 : ∀ b : List Dd, Dd.oks ps (d + 1) b → Dd.cs b ≤ 1000 → SpL (n + 4) 3 (.tup (Dd.ds b)) (Dd.wss b)) {x : Dd} (hx : Dd.ok ps d x) (hc : x.c ≤ 1000) : SpL (n + 5) 20 x.d x.ws := by
  intro s Q hQ
  have lx := Dd.ws_len x
  rw [call_eqn (p := 1) (m := 2) (b := b__law_deed_words) rfl]
  cases x with
  | lt v w =>
    unfold Dd.ok at hx
    have lg := log_ok (i := v) (by omega) (by omega)
    have hv := v_len hx.2.1 hx.2.2.1
    simp only [Dd.c] at hc
    simp only [Dd.ws, Dd.c, List.length_append, List.length_cons, List.length_nil] at lx
    simp [b__law_deed_words, s_ifE, Dd.d, sizeLine, lg]
    refine ⟨hv, new_in fun p2 s2 n2 h2 k2 => w_lw9 T hx.2.2.2 (by omega) n _ _ fun s3 p3 k3 n3 h3 => add_in (xs := [Str.ofString "let", "v" ++ nw v]) (k3 _ _ h2) h3 (by simp; omega) fun p4 s4 n4 h4 k4 => ?_⟩
    exact hQ _ _ (k2.trans (k3.trans k4)) (none_of (k2.trans k3) n4) (by simpa [Dd.ws] using h4)
  | whl t0 c =>
    unfold Dd.ok at hx
    simp only [Dd.c] at hc
    simp only [Dd.ws, Dd.c, List.length_append, List.length_cons, List.length_nil] at lx
    simp [b__law_deed_words, s_ifE, Dd.d, sizeLine]
    refine new_in fun p2 s2 n2 h2 k2 => w_lw9 T hx.2.1 (by omega) n _ _ fun s3' p3 k3 n3 h3' => add_in (xs := [Str.ofString "while"]) (k3 _ _ h2) h3' (by simp; omega) fun p4 s4 n4 h4 k4 => ?_
    refine h3 c hx.2.2 (by omega) _ _ fun s5 p5 k5 n5 h5 => add_in (k5 _ _ h4) h5 (by simp; omega) fun p6 s6 n6 h6 k6 => ?_
    refine new_in fun p7 s7 n7 h7 k7 => add_in (ys := []) (k7 _ _ h6) h7 (by simp; omega) fun p8 s8 n8 h8 k8 => ?_
    refine new_in fun p9 s9 n9 h9 k9 => add_in (ys := [Str.ofString "end"]) (k9 _ _ h8) h9 (by simp; omega) fun p10 s10 n10 h10 k10 => ?_
    have kk := k2.trans (k3.trans (k4.trans (k5.trans (k6.trans (k7.trans (k8.trans k9))))))
    exact hQ _ _ (kk.trans k10) (none_of kk n10) (by simpa [Dd.ws] using h10)
  | ife t0 c e =>
    unfold Dd.ok at hx
    simp only [Dd.c] at hc
    simp only [Dd.ws, Dd.c, List.length_append, List.length_cons, List.length_nil] at lx
    simp [b__law_deed_words, s_ifE, Dd.d, sizeLine]
    refine new_in fun p2 s2 n2 h2 k2 => w_lw9 T hx.2.1 (by omega) n _ _ fun s3' p3 k3 n3 h3' => add_in (xs := [Str.ofString "if"]) (k3 _ _ h2) h3' (by simp; omega) fun p4 s4 n4 h4 k4 => ?_
    refine h3 c hx.2.2.1 (by omega) _ _ fun s5 p5 k5 n5 h5 => add_in (k5 _ _ h4) h5 (by simp; omega) fun p6 s6 n6 h6 k6 => ?_
    refine new_in fun p7 s7 n7 h7 k7 => h3 e hx.2.2.2 (by omega) _ _ fun s8 p8 k8 n8 h8 => add_in (xs := [Str.ofString "else"]) (k8 _ _ h7) h8 (by simp; omega) fun p9 s9 n9 h9 k9 => ?_
    have k79 := k7.trans (k8.trans k9)
    refine add_in (k79 _ _ h6) h9 (by simp; omega) fun p10 s10 n10 h10 k10 => ?_
    refine new_in fun p11 s11 n11 h11 k11 => add_in (ys := [Str.ofString "end"]) (k11 _ _ h10) h11 (by simp; omega) fun p12 s12 n12 h12 k12 => ?_
    have kk := k2.trans (k3.trans (k4.trans (k5.trans (k6.trans (k79.trans (k10.trans k11))))))
    exact hQ _ _ (kk.trans k12) (none_of kk n12) (by simpa [Dd.ws] using h12)
theorem w_lws {ps : List Int} (T : Tb ps) : ∀ (k : Nat) (b : List Dd) (d n : Nat), Dd.oks ps d b → Dd.cs b ≤ 1000 → 4 - d ≤ k → 2 * k + 4 ≤ n → SpL n 3 (.tup (Dd.ds b)) (Dd.wss b) := by
  intro k
  induction k with
  | zero =>
    intro b d n ho hc g hn s Q hQ
    cases b with
    | cons x r => unfold Dd.oks at ho; have := Dd.ok_le ho.1; omega
    | nil =>
      obtain ⟨m, rfl⟩ : ∃ m, n = m + 1 := ⟨n - 1, by omega⟩
      rw [call_eqn (p := 1) (m := 4) (b := b__law_words) rfl]
      simp [b__law_words, s_ifE, sizeLine, Dd.ds]
      refine new_in fun q s1 n1 h1 k1 => ?_
      rw [s_forE]
      simp [wVal, forGo]
      exact hQ s1 q k1 n1 h1
  | succ k ih =>
    intro b d n ho hc g hn s Q hQ
    obtain ⟨m, rfl⟩ : ∃ m, n = m + 6 := ⟨n - 6, by omega⟩
    rw [call_eqn (p := 1) (m := 4) (b := b__law_words) rfl]
    have lb := Dd.wss_len b
    have go : ∀ (q : Addr) (s1 : S), s q = none → s1 q = some (.lst []) → Ke s s1 → forGo (fun _ => True) (.nm 3) (fun K ρ s => wSs prog (wCall prog (m + 5)) [.asg (.nm 1) (.bin .add (.var 1) (.call 20 (.cons (.var 3) .nil)))] K ρ s)
        { nx := wSs prog (wCall prog (m + 5)) [.ret (.var 1)]
                { nx := wSs prog (wCall prog (m + 5)) (b__law_words.tail) { nx := fun x s' => Q .non s', rt := Q, bk := fun x x_1 => False, ct := fun x x_1 => False }, rt := Q, bk := fun x x_1 => False, ct := fun x x_1 => False }, rt := Q, bk := fun x x_1 => False, ct := fun x x_1 => False } (Dd.ds b)
        [some (.tup (Dd.ds b)), some (.ref q), none, none] s1 := fun q s1 nq h1 k1 => by
      rw [Dd.ds_map]
      refine forGo_by (f := Dd.d) (fun r ρ s' => (Dd.oks ps d r ∧ Dd.cs r ≤ 1000) ∧ Ke s s' ∧ ∃ o q' a, ρ = [some (.tup (b.map Dd.d)), some (.ref q'), none, o] ∧ s q' = none ∧ s' q' = some (.lst (sts a)) ∧ a ++ Dd.wss r = Dd.wss b) (fun _ _ _ _ => trivial) ?_ ?_ b _ s1 ⟨⟨ho, hc⟩, k1, none, q, [], rfl, nq, h1, rfl⟩
      · rintro x r _ s1 N ⟨⟨hr, hcr⟩, k1, o, q1, a, rfl, n1, ha, e1⟩ hN
        unfold Dd.oks at hr
        have hd := Dd.ok_le hr.1
        simp only [Dd.cs] at hcr
        have el : a.length + x.ws.length ≤ 16777216 := by
          have := congrArg List.length e1
          simp only [Dd.wss, List.length_append] at this
          omega
        simp
        refine w_ldw T (n := m) (fun c hc hcc => ih c (d + 1) (m + 4) hc hcc (by omega) (by omega)) hr.1 (by omega) s1 _ fun s2 q2 k2 n2 h2 => ?_
        refine add_in (k2 _ _ ha) h2 el fun q3 s3 n3 h3 k3 => ?_
        exact hN _ _ ⟨⟨hr.2, by omega⟩, k1.trans (k2.trans k3), _, q3, a ++ x.ws, rfl, none_of (k1.trans k2) n3, h3, by rw [← e1]; simp only [Dd.wss, List.append_assoc]⟩
      · rintro _ s1 ⟨_, k1, o, q1, a, rfl, n1, ha, e1⟩
        rw [show a = Dd.wss b by rw [← e1]; simp [Dd.wss]] at ha
        exact hQ s1 q1 k1 n1 ha
    cases b with
    | nil =>
      simp [b__law_words, s_ifE, sizeLine, Dd.ds]
      refine new_in fun q s1 n1 h1 k1 => ?_
      rw [s_forE]
      simp [wVal, forGo]
      exact hQ s1 q k1 n1 h1
    | cons x r =>
      have hx := ho
      unfold Dd.oks at hx
      have hd := Dd.ok_le hx.1
      have pu : Pure 64 (.tup (Dd.ds (x :: r))) := by
        rw [Dd.ds_map]
        refine (Pure.tup (Pures.all (k := 16) fun y hy => ?_)).mono (by omega)
        obtain ⟨w, hw, rfl⟩ := List.mem_map.mp hy
        exact Dd.pure 4 (Dd.oks_all ho w hw) (by omega)
      simp only [Dd.ds] at pu go ⊢
      simp [b__law_words, s_ifE, sizeLine, c_eqU pu, Dd.ty, isTy]
      refine new_in fun q s1 n1 h1 k1 => ?_
      rw [s_forE]
      simp [wVal]
      exact go q s1 n1 h1 k1
end K14
set_option Elab.async false
set_option linter.all false
set_option maxRecDepth 100000
set_option maxHeartbeats 4000000
namespace K14
open PySem Tk
theorem ok_cut {w : Str} (h : PyData.strOk w = true) (lo hi : Option Int) : PyData.strOk (L2.cutS w lo hi) = true := by
  unfold PyData.strOk at h ⊢
  unfold L2.cutS
  simp only [Array.all_eq_true', List.all_toArray, List.all_eq_true] at h ⊢
  intro c hc
  have := List.mem_of_mem_drop (List.mem_of_mem_take hc)
  exact h c (by simpa using this)
theorem ok_char {w : Str} (h : PyData.strOk w = true) {c : Nat} (hc : c ∈ w.cps.toList) : PyData.strOk ⟨#[c]⟩ = true := by
  unfold PyData.strOk at h ⊢
  simp only [Array.all_eq_true'] at h
  have := h c (by simpa using hc)
  simpa using this
theorem cut_len (w : Str) (lo hi : Option Int) : (L2.cutS w lo hi).length ≤ w.length := by
  unfold L2.cutS
  show (List.toArray _).size ≤ w.cps.size
  simp only [List.size_toArray, List.length_take, List.length_drop, Array.length_toList]
  omega
@[simp] theorem sl_str {z : Str} {lo hi : Option Int} {s : S} {Q : Q1} : wSl (.str z) lo hi s Q = (z.length ≤ sizeLine ∧ Q (.str (L2.cutS z lo hi)) s) := rfl
theorem nin_str {k : Nat} {z : Str} {s : S} {Q : Q1} : wCmp .nin (.str ⟨#[k]⟩) (.str z) s Q = Q (.bl (!decide (k ∈ z.cps.toList))) s := rfl
theorem ne_nil {s : S} {p q : Addr} {x : D} {xs : List D} {Q : Q1} (h : s p = some (.lst (x :: xs))) (g : s q = some (.lst [])) (hp : Pures 60 (x :: xs)) : wCmp .ne (.ref p) (.ref q) s Q = Q (.bl true) s := by
  obtain ⟨ps, h1, h2, h3⟩ := hp
  have e : ∃ a b, ps = a :: b := by
    unfold purePs at h1
    split at h1
    · cases h1; exact ⟨_, _, rfl⟩
    · cases h1
  obtain ⟨a, b, rfl⟩ := e
  show wEq true _ _ s Q = _
  unfold wEq toP
  simp only [h, g, h1, Option.map_some, got_some]
  have e1 : SeqAt.shaped (.list (a :: b)) = true := Pure.shaped h2 (by show _ + 1 ≤ 64; omega)
  have e2 : PyData.eqv (.list (a :: b)) (.list []) = false := by simp [PyData.eqv, PyData.eqvAll]
  show (SeqAt.shaped (.list (a :: b)) = true ∧ SeqAt.shaped (.list []) = true ∧ _) = _
  rw [e1, e2]
  exact propext ⟨fun h => h.2.2, fun h => ⟨rfl, rfl, h⟩⟩
def optD : Option Int → D
  | some k => .int k
  | none => .non
theorem w_number_of {w : Str} {r : Option Int} (h : numChk w r = true) (n : Nat) (s : S) (Q : Q1) (hQ : ∀ s', Ke s s' → Q (optD r) s') : wCall prog (n + 1) 27 [.str w] s Q := by
  unfold numChk at h
  simp only [Bool.and_eq_true, decide_eq_true_eq] at h
  obtain ⟨⟨hok, hl⟩, h⟩ := h
  have hsz : (sizeW w).length ≤ 640 := by
    unfold sizeW
    split
    · exact Nat.le_trans (cut_len _ _ _) hl
    · exact hl
  have hoks : PyData.strOk (sizeW w) = true := by
    unfold sizeW
    split
    · exact ok_cut hok _ _
    · exact hok
  have lw : w.length ≤ sizeLine := sz (by omega)
  have ls : (sizeW w).length ≤ sizeLine := sz (by omega)
  rw [call_eqn (p := 1) (m := 3) (b := b_number_of) rfl]
  refine ⟨rfl, ?_⟩
  show wSs prog (wCall prog n) b_number_of _ [some (.str w), none, none] s
  -- the first assignment
  have first : ∀ (K : En), wSs prog (wCall prog n) b_number_of.tail K [some (.str w), some (.str (sizeW w)), none] s → wSs prog (wCall prog n) b_number_of K [some (.str w), none, none] s := fun K hK => by
    by_cases c : (L2.cutS w none (some 1) == ("-" : Str)) = true
    · have e : sizeW w = L2.cutS w (some 1) none := by unfold sizeW; rw [if_pos c]
      rw [e] at hK
      simp only [b_number_of, ss_cons, s_asgE, e_ife, e_cmp, e_sl, e_var, List.getElem?_cons_zero, got_some, o_no, o_so, e_int, isI_int, sl_str, e_str, c_eqS (ok_cut hok none (some 1)) (ofs_ok "-"), c, truthB_bl, if_true, g_nm, List.set_cons_succ, List.set_cons_zero]
      exact ⟨lw, lw, hK⟩
    · have e : sizeW w = w := by unfold sizeW; rw [if_neg c]
      rw [e] at hK
      simp only [b_number_of, ss_cons, s_asgE, e_ife, e_cmp, e_sl, e_var, List.getElem?_cons_zero, got_some, o_no, o_so, e_int, isI_int, sl_str, e_str, c_eqS (ok_cut hok none (some 1)) (ofs_ok "-"), truthB_bl, g_nm, List.set_cons_succ, List.set_cons_zero, if_neg c]
      exact ⟨lw, hK⟩
  refine first _ ?_
  generalize sizeW w = z at h hsz hoks ls ⊢
  -- the signs that are no figures
  let bad : List Nat := z.cps.toList.filter fun c => !decide (c ∈ figs.cps.toList)
  have comp : ∀ (Q' : Q1), (∀ p s', Ke s s' → s' p = some (.lst (bad.map fun c => .str ⟨#[c]⟩)) → Q' (.ref p) s') →
      wE prog (wCall prog n) (.lc (.var 2) (.nm 2) (.val (.var 1)) (.so (.cmp .nin (.var 2) (.con "FIGURES"))) [2]) [some (.str w), some (.str z), none] s Q' := fun Q' hQ' => by
    rw [e_lc]
    simp only [it_val, e_var, List.getElem?_cons_succ, List.getElem?_cons_zero, got_some, wVal]
    refine lcGo_by (f := fun c : Nat => D.str ⟨#[c]⟩) (fun r acc s' => s' = s ∧ acc.length + r.length ≤ 640 ∧ ∃ d, d ++ r = z.cps.toList ∧ acc = (d.filter fun c => !decide (c ∈ figs.cps.toList)).map fun c => .str ⟨#[c]⟩) (fun _ _ _ _ => trivial) ?_ ?_ z.cps.toList [] s ⟨rfl, by show 0 + z.cps.toList.length ≤ 640; rw [Array.length_toList, Nat.zero_add]; exact hsz, [], rfl, rfl⟩
    · rintro x r acc _ K ⟨rfl, hl', d, hd, rfl⟩ kn ks
      refine ⟨by have : ((d.filter fun c => !decide (c ∈ figs.cps.toList)).map fun c => D.str ⟨#[c]⟩).length < 16777216 := by rw [List.length_cons] at hl'; omega
                 exact this, ?_⟩
      simp only [g_nm, co_so, e_cmp, e_var, wipe_cons, wipe_nil, List.set_cons_succ, List.set_cons_zero, List.getElem?_cons_succ, List.getElem?_cons_zero, got_some, e_con, con_FIGURES, nin_str, truthB_bl]
      by_cases c : x ∈ (Str.ofString "0123456789").cps.toList
      · rw [decide_eq_true c]
        simp only [Bool.not_true, Bool.false_eq_true, if_false]
        refine kn _ ⟨rfl, by rw [List.length_cons] at hl'; omega, d ++ [x], by simpa using hd, ?_⟩
        have c' : x ∈ figs.cps := by simpa using (show x ∈ figs.cps.toList from c)
        simp [List.filter_append, c']
      · rw [decide_eq_false c]
        simp only [Bool.not_false, if_true]
        refine ks _ _ ⟨rfl, by rw [List.length_cons] at hl'; rw [List.length_append, List.length_singleton]; omega, d ++ [x], by simpa using hd, ?_⟩
        have c' : ¬ x ∈ figs.cps := by simpa using (show ¬ x ∈ figs.cps.toList from c)
        simp [List.filter_append, c']
    · rintro acc _ ⟨rfl, _, d, hd, rfl⟩
      rw [List.append_nil] at hd
      subst hd
      exact new_in fun p s1 n1 h1 k1 => hQ' p s1 k1 h1
  have len1 : ∀ (K : Bool → Prop), K (decide (1 ≤ z.length) && decide (z.length ≤ 4)) → (if decide ((1 : Int) ≤ (z.length : Nat)) = true then K (decide (((z.length : Nat) : Int) ≤ 4)) else K false) := fun K hK => by
    by_cases a : 1 ≤ z.length
    · rw [if_pos (decide_eq_true (by omega))]
      have e : decide (((z.length : Nat) : Int) ≤ 4) = decide (z.length ≤ 4) := by congr 1; exact propext (by omega)
      rw [e]
      rwa [decide_eq_true a, Bool.true_and] at hK
    · rw [if_neg (by rw [decide_eq_true_eq]; omega)]
      rwa [decide_eq_false a, Bool.false_and] at hK
  by_cases hlen : (decide (1 ≤ z.length) && decide (z.length ≤ 4)) = true
  · by_cases hb : bad = []
    · -- a number's figures
      have hall : (z.cps.toList.all fun c => decide (c ∈ figs.cps.toList)) = true := by
        rw [List.all_eq_true]
        intro c hc
        have := List.filter_eq_nil_iff.mp hb c hc
        simpa using this
      rw [hall] at h
      simp only [Bool.and_eq_true, decide_eq_true_eq] at hlen
      simp only [hlen, and_self, if_true] at h
      cases hi : intText? w with
      | none => rw [hi] at h; cases h
      | some k =>
        rw [hi] at h
        simp only [Bool.and_eq_true, decide_eq_true_eq, beq_iff_eq] at h
        obtain ⟨hk, hr⟩ := h
        have l1 : decide ((1 : Int) ≤ (z.length : Nat)) = true := decide_eq_true (by omega)
        have l2 : decide (((z.length : Nat) : Int) ≤ 4) = true := decide_eq_true (by omega)
        simp only [b_number_of, List.tail_cons, ss_cons, s_ifE, e_or, e_not, e_chain, e_int, e_bi, es_cons, es_nil, e_var, List.getElem?_cons_succ, List.getElem?_cons_zero, got_some, len_str, e_con, con_MOST_FIGURES, c_le, l1, l2, truthB_bl, if_true, Bool.not_true, Bool.false_eq_true, if_false, e_cmp]
        refine ⟨ls, comp _ fun p s1 k1 h1 => ?_⟩
        rw [hb] at h1
        simp only [e_lst, es_nil]
        refine ⟨Nat.zero_le _, new_in fun q s2 n2 h2 k2 => ?_⟩
        rw [wCmp, c_eqLL (k2 _ _ h1) h2]
        have k12 := k1.trans k2
        simp only [Bool.not_true, truthB_bl, Bool.false_eq_true, if_false, ss_nil, ss_cons, s_retE, e_ife, e_cmp, e_bi, es_cons, es_nil, e_var, List.getElem?_cons_zero, got_some]
        show got (intText? w) _
        rw [hi, got_some]
        refine ⟨hl, hk, ?_⟩
        show wCmp .eq (.str (Str.ofString (toString k))) (.str w) s2 _
        rw [c_eqS (ofs_ok _) hok, truthB_bl]
        by_cases hw : (Str.ofString (toString k) == w) = true
        · rw [if_pos hw]
          show got (intText? w) _
          rw [hi, got_some]
          refine ⟨hl, ?_⟩
          have := hQ s2 k12
          rw [hr, if_pos (beq_iff_eq.mp hw)] at this
          exact this
        · rw [if_neg hw]
          have := hQ s2 k12
          rw [hr, if_neg fun e => hw (beq_iff_eq.mpr e)] at this
          exact this
    · have hall : ¬ (z.cps.toList.all fun c => decide (c ∈ figs.cps.toList)) = true := fun a => hb (List.filter_eq_nil_iff.mpr fun c hc => by simpa using List.all_eq_true.mp a c hc)
      rw [if_neg fun a => hall a.2] at h
      simp only [beq_iff_eq] at h
      subst h
      simp only [Bool.and_eq_true, decide_eq_true_eq] at hlen
      have l1 : decide ((1 : Int) ≤ (z.length : Nat)) = true := decide_eq_true (by omega)
      have l2 : decide (((z.length : Nat) : Int) ≤ 4) = true := decide_eq_true (by omega)
      simp only [b_number_of, List.tail_cons, ss_cons, s_ifE, e_or, e_not, e_chain, e_int, e_bi, es_cons, es_nil, e_var, List.getElem?_cons_succ, List.getElem?_cons_zero, got_some, len_str, e_con, con_MOST_FIGURES, c_le, l1, l2, truthB_bl, if_true, Bool.not_true, Bool.false_eq_true, if_false, e_cmp]
      refine ⟨ls, comp _ fun p s1 k1 h1 => ?_⟩
      simp only [e_lst, es_nil]
      refine ⟨Nat.zero_le _, new_in fun q s2 n2 h2 k2 => ?_⟩
      have pu : Pures 60 (bad.map fun c => D.str ⟨#[c]⟩) := Pures.all fun x hx => by
        obtain ⟨c, hc, rfl⟩ := List.mem_map.mp hx
        exact .str (ok_char hoks (List.mem_filter.mp hc).1)
      obtain ⟨b0, br, hbr⟩ : ∃ b0 br, bad = b0 :: br := by
        cases e : bad with
        | nil => exact absurd e hb
        | cons a b => exact ⟨a, b, rfl⟩
      rw [hbr] at h1 pu
      rw [ne_nil (k2 _ _ h1) h2 pu]
      simp only [truthB_bl, if_true, ss_cons, s_retE, e_non]
      exact hQ s2 (k1.trans k2)
  · have h' : ¬ ((1 ≤ z.length ∧ z.length ≤ 4) ∧ (z.cps.toList.all fun c => decide (c ∈ figs.cps.toList)) = true) := fun a => hlen (by simp [a.1])
    rw [if_neg h'] at h
    simp only [beq_iff_eq] at h
    subst h
    simp only [b_number_of, List.tail_cons, ss_cons, s_ifE, e_or, e_not, e_chain, e_int, e_bi, es_cons, es_nil, e_var, List.getElem?_cons_succ, List.getElem?_cons_zero, got_some, len_str, e_con, con_MOST_FIGURES, c_le, truthB_bl]
    refine ⟨ls, len1 (fun b => if (!b) = true then _ else _) ?_⟩
    rw [Bool.not_eq_true] at hlen
    rw [hlen]
    exact hQ s Ke.refl
end K14
set_option Elab.async false
set_option linter.all false
set_option maxRecDepth 100000
set_option maxHeartbeats 4000000
namespace K14
open PySem Tk
/-- the reader at p, its words at m, its place -/
structure Rd (s : S) (p m : Addr) (ws : List Str) (i : Nat) : Prop where
  at_ : s p = some (.ins 0 [("words", .ref m), ("place", .int i)])
  tab : s m = some (.lst (sts ws))
  ne : m ≠ p
  len : ws.length ≤ 1000
theorem Rd.keep {s s' : S} {p m : Addr} {ws : List Str} {i : Nat} (h : Rd s p m ws i) (k : Ke s s') : Rd s' p m ws i := ⟨k _ _ h.at_, k _ _ h.tab, h.ne, h.len⟩
theorem Rd.set {s : S} {p m : Addr} {ws : List Str} {i j : Nat} (h : Rd s p m ws i) : Rd (put s p (.ins 0 [("words", .ref m), ("place", .int j)])) p m ws j :=
  ⟨put_same, by rw [put_ne h.ne]; exact h.tab, h.ne, h.len⟩
theorem Ke.k {p : Addr} {s s' : S} (h : Ke s s') : Kp p s s' := fun b o _ g => h b o g
theorem st_get {ws : List Str} {i : Nat} {x : Str} (h : ws[i]? = some x) : (sts ws)[i]? = some (.str x) := by
  unfold sts; rw [List.getElem?_map, h]; rfl
theorem w_word {s : S} {p m : Addr} {ws : List Str} {i : Nat} {x : Str} (n : Nat) (Q : Q1) (R : Rd s p m ws i) (h : ws[i]? = some x) (hQ : ∀ s', Rd s' p m ws (i + 1) → Kp p s s' → Q (.str x) s') : wCall prog (n + 1) 12 [.ref p, .non] s Q := by
  have hi : i < ws.length := (List.getElem?_eq_some_iff.mp h).1
  have c1 : ¬ ((ws.length : Int) ≤ i) := by omega
  have l1 : ws.length ≤ 16777216 := Nat.le_trans R.len (by decide)
  have R2 : Rd (put s p (.ins 0 [("words", .ref m), ("place", .int (i + 1 : Nat))])) p m ws (i + 1) := R.set
  have e1 : (((i + 1 : Nat) : Int)) = (i : Int) + 1 := by omega
  have t2 := R2.tab
  rw [e1] at t2
  rw [call_eqn (p := 2) (m := 2) (b := b_Reader_word) rfl]
  simp [b_Reader_word, s_ifE, withI, R.at_, fget, fput, len_lst R.tab, l1, c1, isNon, sizeLine, ix_lst t2, at_nat (i := i) (k := (i : Int)) rfl (st_get h)]
  have := hQ _ R2 Kp.set
  rw [e1] at this
  exact this
theorem w_word1 {s : S} {p m : Addr} {ws : List Str} {i : Nat} {x : String} (n : Nat) (Q : Q1) (R : Rd s p m ws i) (h : ws[i]? = some (Str.ofString x)) (hQ : ∀ s', Rd s' p m ws (i + 1) → Kp p s s' → Q (.str x) s') : wCall prog (n + 1) 12 [.ref p, .tup [.str (Str.ofString x)]] s Q := by
  have hi : i < ws.length := (List.getElem?_eq_some_iff.mp h).1
  have c1 : ¬ ((ws.length : Int) ≤ i) := by omega
  have l1 : ws.length ≤ 16777216 := Nat.le_trans R.len (by decide)
  have R2 : Rd (put s p (.ins 0 [("words", .ref m), ("place", .int (i + 1 : Nat))])) p m ws (i + 1) := R.set
  have e1 : (((i + 1 : Nat) : Int)) = (i : Int) + 1 := by omega
  have t2 := R2.tab
  rw [e1] at t2
  rw [call_eqn (p := 2) (m := 2) (b := b_Reader_word) rfl]
  simp [b_Reader_word, s_ifE, withI, R.at_, fget, fput, len_lst R.tab, l1, c1, isNon, sizeLine, ix_lst t2, ix_lst R.tab, at_nat (i := i) (k := (i : Int)) rfl (st_get h)]
  have := hQ _ R2 Kp.set
  rw [e1] at this
  exact this
/-- a number at least 0 -/
theorem w_num {s : S} {p m : Addr} {ws : List Str} {i : Nat} {k : Int} (n : Nat) (Q : Q1) (R : Rd s p m ws i) (h : ws[i]? = some (nw k)) (h0 : 0 ≤ k) (h1 : k < 1000) (hQ : ∀ s', Rd s' p m ws (i + 1) → Kp p s s' → Q (.int k) s') : wCall prog (n + 2) 13 [.ref p] s Q := by
  have hk := (nw_chk (i := k) (by omega) h1).1
  have c1 : ¬ k < 0 := by omega
  rw [call_eqn (p := 1) (m := 2) (b := b_Reader_number) rfl]
  simp [b_Reader_number, withI, R.at_, fget]
  refine w_word n _ R h fun s1 R1 k1 => ?_
  refine w_number_of hk n s1 _ fun s2 k2 => ?_
  simp [s_ifE, optD, isNon, c1]
  exact hQ s2 (R1.keep k2) (k1.trans k2.k)
def vFacts (v : Nat) : Bool :=
  let w : Str := "v" ++ nw v
  numChk w none && ((["add", "take", "times", "less", "same"] : List String).all fun d => !(Str.ofString d == w)) && !(w == Str.ofString "call") && (L2.cutS w none (some 1) == Str.ofString "v") && (L2.cutS w (some 1) none == nw v) &&
    !(L2.cutS w (some 1) (some 2) == Str.ofString "-") && decide (w.length ≤ 640) && PyData.strOk w
theorem vFacts_all : ∀ k : Fin 6, vFacts k.val = true := by decide +kernel
theorem vFacts_of {v : Int} (h0 : 0 ≤ v) (h6 : v < 6) : numChk ("v" ++ nw v) none = true ∧ ((["add", "take", "times", "less", "same"] : List String).all fun d => !(Str.ofString d == ("v" ++ nw v : Str))) = true ∧ (("v" ++ nw v : Str) == Str.ofString "call") = false ∧
    (L2.cutS ("v" ++ nw v) none (some 1)) = Str.ofString "v" ∧ L2.cutS ("v" ++ nw v) (some 1) none = nw v ∧ (L2.cutS ("v" ++ nw v) (some 1) (some 2) == Str.ofString "-") = false ∧ ("v" ++ nw v : Str).length ≤ 640 ∧ PyData.strOk ("v" ++ nw v) = true := by
  have h := vFacts_all ⟨v.toNat, by omega⟩
  have e : ((v.toNat : Nat) : Int) = v := by omega
  have h' : vFacts v.toNat = true := h
  unfold vFacts at h'
  rw [e] at h'
  simp only [Bool.and_eq_true, Bool.not_eq_true', decide_eq_true_eq, beq_iff_eq] at h'
  obtain ⟨⟨⟨⟨⟨⟨⟨a1, a2⟩, a3⟩, a4⟩, a5⟩, a6⟩, a7⟩, a8⟩ := h'
  exact ⟨a1, a2, a3, a4, a5, a6, a7, a8⟩
theorem w_var {s : S} {p m : Addr} {ws : List Str} {i : Nat} {v : Int} (n : Nat) (Q : Q1) (R : Rd s p m ws i) (h : ws[i]? = some ("v" ++ nw v)) (h0 : 0 ≤ v) (h1 : v < 6) (hQ : ∀ s', Rd s' p m ws (i + 1) → Kp p s s' → Q (.int v) s') : wCall prog (n + 2) 14 [.ref p] s Q := by
  obtain ⟨a1, a2, a3, a4, a5, a6, a7, a8⟩ := vFacts_of h0 h1
  have hk := (nw_chk (i := v) (by omega) (by omega)).1
  have l1 : ("v" ++ nw v : Str).length ≤ 16777216 := Nat.le_trans a7 (by decide)
  rw [call_eqn (p := 1) (m := 2) (b := b_Reader_variable) rfl]
  simp [b_Reader_variable, withI, R.at_, fget]
  refine w_word n _ R h fun s1 R1 k1 => ?_
  generalize ("v" ++ nw v : Str) = w at a4 a5 a6 a7 a8 l1
  simp only [s_ifE, q_e_or, q_e_cmp, q_e_sl, q_e_var, q_get1, got_some, q_o_no, q_o_so, q_e_int, isI_int, sl_str, q_e_str, a4, c_neL, q_truthB_bl]
  refine ⟨l1, ?_⟩
  rw [if_neg (by decide)]
  simp only [q_e_call, q_es_cons, q_es_nil, q_e_sl, q_e_var, q_get1, got_some, q_o_no, q_o_so, q_e_int, isI_int, sl_str, a5]
  refine ⟨l1, w_number_of hk n s1 _ fun s2 k2 => ?_⟩
  simp only [optD, q_e_non, c_isN, isNon, q_truthB_bl, Bool.false_eq_true, if_false, q_e_sl, q_e_var, q_get1, got_some, q_o_no, q_o_so, q_e_int, isI_int, sl_str, q_e_str, c_eqS (ok_cut a8 _ _) (ofs_ok "-"), a6]
  refine ⟨l1, ?_⟩
  simp only [ss_nil, ss_cons, s_retE, q_e_call, q_es_cons, q_es_nil, q_e_sl, q_e_var, q_get1, got_some, q_o_no, q_o_so, q_e_int, isI_int, sl_str, a5]
  refine ⟨l1, w_number_of hk n s2 _ fun s3 k3 => ?_⟩
  exact hQ s3 ((R1.keep k2).keep k3) (k1.trans (k2.k.trans k3.k))
end K14
set_option Elab.async false
set_option linter.all false
set_option maxRecDepth 100000
set_option maxHeartbeats 4000000
namespace K14
open PySem Tk
theorem drop_get {α : Type} {ws : List α} {i : Nat} {x : α} {t : List α} (h : ws.drop i = x :: t) : ws[i]? = some x ∧ ws.drop (i + 1) = t := by
  constructor
  · have := congrArg (·[0]?) h
    simpa using this
  · have := congrArg (List.drop 1) h
    simpa [List.drop_drop] using this
theorem num_none (x : String) (h : numChk x none = true := by decide +kernel) : numChk (Str.ofString x) none = true := h
/-- expression's promise -/
def SpE (n : Nat) (w : W) : Prop := ∀ (s : S) (p m : Addr) (ws : List Str) (i : Nat) (rest : List Str) (Q : Q1), Rd s p m ws i → ws.drop i = w.ws ++ rest → (∀ s', Rd s' p m ws (i + w.ws.length) → Kp p s s' → Q w.d s') → wCall prog n 15 [.ref p] s Q
theorem drop_more {α : Type} {ws : List α} {i : Nat} {a r : List α} (h : ws.drop i = a ++ r) : ws.drop (i + a.length) = r := by
  have := congrArg (List.drop a.length) h
  simpa [List.drop_drop] using this
/-- the worths of a call, one after the other -/
theorem w_exprs {n : Nat} {p m : Addr} {ws : List Str} {s0 : S} {Q : List D → S → Prop} {step : D → S → (Option D → S → Prop) → Prop} (hst : ∀ x s i K, Rd s p m ws i → wCall prog n 15 [.ref p] s (fun y s' => K (some y) s') → step x s K) :
    ∀ (as : List W) (xs : List D) (acc : List D) (s : S) (i : Nat) (rest : List Str), xs.length = as.length → acc.length + as.length ≤ 1000 → (∀ w ∈ as, SpE n w) → Rd s p m ws i → ws.drop i = W.wss as ++ rest → Kp p s0 s →
    (∀ s', Rd s' p m ws (i + (W.wss as).length) → Kp p s0 s' → Q (acc ++ W.ds as) s') → lcGo (fun _ => True) step xs acc s Q
  | [], [], acc, s, i, rest, _, _, _, R, _, k, hQ => ⟨trivial, by simpa [W.ds, W.wss] using hQ s (by simpa [W.wss] using R) k⟩
  | a :: as, x :: xs, acc, s, i, rest, hl, hc, h, R, hd, k, hQ => by
    refine ⟨trivial, hst x s i _ R ?_⟩
    simp only [W.wss, List.append_assoc] at hd
    refine h a (List.mem_cons_self ..) s p m ws i _ _ R hd fun s1 R1 k1 => ?_
    rw [List.length_cons] at hc
    refine ⟨(by show acc.length < 16777216; omega), w_exprs hst as xs (acc ++ [a.d]) s1 (i + a.ws.length) rest (by simpa using hl) (by rw [List.length_append, List.length_singleton]; omega) (fun w hw => h w (List.mem_cons_of_mem _ hw)) R1 (drop_more hd) (k.trans k1) fun s' R' k' => ?_⟩
    have := hQ s' (by simpa [W.wss, Nat.add_assoc] using R') k'
    simpa [W.ds] using this
  | [], _ :: _, _, _, _, _, hl, _, _, _, _, _, _ => nomatch hl
  | _ :: _, [], _, _, _, _, hl, _, _, _, _, _, _ => nomatch hl
theorem w_expr {ps : List Int} (T : Tb ps) : ∀ (k : Nat) (w : W) (d n : Nat), W.ok ps d w → 4 - d ≤ k → k + 2 ≤ n → SpE n w
  | 0, w, d, n, h, g, _ => by have := W.ok_le h; omega
  | k + 1, w, d, n + 3, h, g, hn => by
    intro s p m ws i rest Q R hw hQ
    have hd := W.ok_le h
    have many : ∀ as : List W, W.oks ps (d + 1) as → ∀ w ∈ as, SpE (n + 2) w := by
      intro as
      induction as with
      | nil => intro _ w hw; cases hw
      | cons x r ih =>
        intro ho w hw
        unfold W.oks at ho
        rcases List.mem_cons.mp hw with rfl | hw
        · exact w_expr T k w (d + 1) (n + 2) ho.1 (by omega) (by omega)
        · exact ih ho.2 w hw
    rw [call_eqn (p := 1) (m := 5) (b := b_Reader_expression) rfl]
    simp [b_Reader_expression, withI, R.at_, fget]
    cases w with
    | num v =>
      unfold W.ok at h
      simp only [W.ws, List.singleton_append] at hw hQ
      obtain ⟨g1, g2⟩ := drop_get hw
      have hk := (nw_chk h.2.1 h.2.2).1
      refine w_word (n + 1) _ R g1 fun s1 R1 k1 => ?_
      simp only [s_ifE, q_e_cmp, q_e_call, q_es_cons, q_es_nil, q_e_var, q_get1, got_some]
      refine w_number_of hk (n + 1) s1 _ fun s2 k2 => ?_
      simp only [optD, q_e_non, c_notN, isNon, q_truthB_bl, Bool.not_false, if_true, ss_cons, s_retE, q_e_tup, q_es_cons, q_e_str, q_e_call, q_es_nil, q_e_var, q_get1, got_some]
      refine w_number_of hk (n + 1) s2 _ fun s3 k3 => ⟨sz (by simp), ?_⟩
      exact hQ s3 ((R1.keep k2).keep k3) (k1.trans (k2.k.trans k3.k))
    | var v =>
      unfold W.ok at h
      simp only [W.ws, List.singleton_append] at hw hQ
      obtain ⟨g1, g2⟩ := drop_get hw
      obtain ⟨a1, a2, a3, a4, a5, a6, a7, a8⟩ := vFacts_of h.2.1 h.2.2
      refine w_word (n + 1) _ R g1 fun s1 R1 k1 => ?_
      simp only [s_ifE, q_e_cmp, q_e_call, q_es_cons, q_es_nil, q_e_var, q_get1, got_some]
      refine w_number_of a1 (n + 1) s1 _ fun s2 k2 => ?_
      simp only [List.all_cons, List.all_nil, Bool.and_eq_true, Bool.not_eq_true'] at a2
      have R2 := R1.keep k2
      have R3 : Rd (put s2 p (.ins 0 [("words", .ref m), ("place", .int i)])) p m ws i := R2.set
      simp only [optD, q_e_non, c_notN, isNon, q_truthB_bl, Bool.not_true, Bool.false_eq_true, if_false, ss_cons, ss_nil, s_ifE, q_e_cmp, q_e_var, q_get1, got_some, q_e_con, con_DOUBLES, c_inT, flV_str, flVs_str, flVs_nil, inV_str, inV_nil, a2.1, a2.2.1, a2.2.2.1, a2.2.2.2.1, a2.2.2.2.2.1, Bool.or_false, q_e_str, c_eqS a8 (ofs_ok "call"), a3]
      simp [withI, R2.at_, fget, fput]
      refine w_var n _ R3 g1 h.2.1 h.2.2 fun s4 R4 k4 => ?_
      refine ⟨sz (by simp), ?_⟩
      exact hQ s4 R4 ((k1.trans k2.k).trans (Kp.set.trans k4))
    | dbl j a b =>
      unfold W.ok at h
      have ab := many [a, b] (by simp only [W.oks]; exact ⟨h.2.1, h.2.2, trivial⟩)
      simp only [W.ws, List.cons_append, List.append_assoc] at hw hQ
      obtain ⟨g1, g2⟩ := drop_get hw
      have hj : dblN j = "add" ∨ dblN j = "take" ∨ dblN j = "times" ∨ dblN j = "less" ∨ dblN j = "same" := by
        match j with
        | 0 => simp [dblN]
        | 1 => simp [dblN]
        | 2 => simp [dblN]
        | 3 => simp [dblN]
        | 4 => simp [dblN]
      have hnum : numChk (Str.ofString (dblN j)) none = true := by
        match j with
        | 0 => decide +kernel
        | 1 => decide +kernel
        | 2 => decide +kernel
        | 3 => decide +kernel
        | 4 => decide +kernel
      have hin : L2.inV (.str (Str.ofString (dblN j))) [.str (Str.ofString "add"), .str (Str.ofString "take"), .str (Str.ofString "times"), .str (Str.ofString "less"), .str (Str.ofString "same")] = true := by
        rcases hj with e | e | e | e | e <;> rw [e] <;> simp
      refine w_word (n + 1) _ R g1 fun s1 R1 k1 => ?_
      simp only [s_ifE, q_e_cmp, q_e_call, q_es_cons, q_es_nil, q_e_var, q_get1, got_some]
      refine w_number_of hnum (n + 1) s1 _ fun s2 k2 => ?_
      have R2 := R1.keep k2
      simp only [optD, q_e_non, c_notN, isNon, q_truthB_bl, Bool.not_true, Bool.false_eq_true, if_false, ss_cons, ss_nil, s_ifE, q_e_cmp, q_e_var, q_get1, got_some, q_e_con, con_DOUBLES, c_inT, flV_str, flVs_str, flVs_nil, hin, if_true, s_asgE]
      simp [withI, R2.at_, fget]
      refine ab a (by simp) s2 p m ws (i + 1) _ _ R2 g2 fun s3 R3 k3 => ?_
      simp [R3.at_, fget]
      refine ab b (by simp) s3 p m ws _ rest _ R3 (drop_more g2) fun s4 R4 k4 => ?_
      refine ⟨sz (by simp), ?_⟩
      exact hQ s4 (by simpa [Nat.add_assoc, Nat.add_comm, Nat.add_left_comm] using R4) (k1.trans (k2.k.trans (k3.trans k4)))
    | call c as =>
      unfold W.ok at h
      have hm := many as h.2.2.2
      simp only [W.ws, List.cons_append] at hw hQ
      obtain ⟨g1, g2⟩ := drop_get hw
      obtain ⟨g3, g4⟩ := drop_get g2
      obtain ⟨g5, g6⟩ := drop_get g4
      have hc1 : c < 4 := by
        have := (List.getElem?_eq_some_iff.mp h.2.2.1).1
        have := T.len
        omega
      have la : as.length ≤ 3 := by
        have := (T.le _ (List.mem_of_getElem? h.2.2.1)).2
        omega
      refine w_word (n + 1) _ R g1 fun s1 R1 k1 => ?_
      simp only [s_ifE, q_e_cmp, q_e_call, q_es_cons, q_es_nil, q_e_var, q_get1, got_some]
      refine w_number_of (num_none "call") (n + 1) s1 _ fun s2 k2 => ?_
      have R2 := R1.keep k2
      simp only [optD, q_e_non, c_notN, isNon, q_truthB_bl, Bool.not_true, Bool.false_eq_true, if_false, ss_cons, ss_nil, s_ifE, q_e_cmp, q_e_var, q_get1, got_some, q_e_con, con_DOUBLES, c_inT, flV_str, flVs_str, flVs_nil, inV_str, inV_nil, ofs_beq, q_e_str, c_eqL]
      simp [withI, R2.at_, fget]
      refine w_num n _ R2 g3 h.2.1 (by omega) fun s3 R3 k3 => ?_
      rw [e_lc, it_r1]
      simp [withI, R3.at_, fget]
      refine w_num n _ R3 g5 (by omega) (by omega) fun s4 R4 k4 => ?_
      have bn : bnd (as.length : Int) := ⟨by omega, by omega⟩
      refine ⟨bn, ?_⟩
      refine w_exprs (n := n + 2) (p := p) (m := m) (ws := ws) (s0 := s4) (fun x s i K R hK => ?_) as (rng 0 ((as.length : Int)).toNat) [] s4 (i + 1 + 1 + 1) rest (by simp [rng]) (by simp; omega) hm R4 g6 Kp.refl fun s5 R5 k5 => ?_
      · simp [R.at_, fget]
        exact hK
      · refine new_in fun q s6 n6 h6 k6 => ?_
        show got (seqOf s6 (.ref q)) _
        rw [seqOf_ref h6, got_some]
        refine ⟨sz (by simp), ?_⟩
        have e : i + 1 + 1 + 1 + (W.wss as).length = i + (Str.ofString "call" :: nw c :: nw ↑as.length :: W.wss as).length := by simp only [List.length_cons]; omega
        exact hQ s6 (by rw [← e]; exact R5.keep k6) (k1.trans (k2.k.trans (k3.trans (k4.trans (k5.trans k6.k)))))
end K14
set_option Elab.async false
set_option linter.all false
set_option maxRecDepth 100000
set_option maxHeartbeats 4000000
namespace K14
open PySem Tk
/-- what ends a list of deeds -/
def Ends (rest : List Str) : Prop := rest = [] ∨ ∃ t, rest = Str.ofString "end" :: t ∨ rest = Str.ofString "else" :: t ∨ rest = Str.ofString "back" :: t
/-- deeds' promise -/
def SpR (n : Nat) (b : List Dd) : Prop := ∀ (s : S) (p m : Addr) (ws : List Str) (i : Nat) (rest : List Str) (Q : Q1), Rd s p m ws i → ws.drop i = Dd.wss b ++ rest → Ends rest → (∀ s', Rd s' p m ws (i + (Dd.wss b).length) → Kp p s s' → Q (.tup (Dd.ds b)) s') → wCall prog n 16 [.ref p] s Q
theorem w_expr9 {ps : List Int} (T : Tb ps) {w : W} (h : W.ok ps 0 w) (n : Nat) : SpE (n + 6) w := w_expr T 4 w 0 (n + 6) h (by omega) (by omega)
theorem w_choice {ps : List Int} (T : Tb ps) {n : Nat} {t : W} {a b : List Dd} (ht : W.ok ps 0 t) (ha : SpR (n + 6) a) (hb : SpR (n + 6) b) (s : S) (p m : Addr) (ws : List Str) (i : Nat) (rest : List Str) (Q : Q1) (R : Rd s p m ws i)
    (hw : ws.drop i = t.ws ++ (Dd.wss a ++ (Str.ofString "else" :: (Dd.wss b ++ (Str.ofString "end" :: rest))))) (hQ : ∀ s', Rd s' p m ws (i + t.ws.length + (Dd.wss a).length + 1 + (Dd.wss b).length + 1) → Kp p s s' → Q (.tup [.str "if", t.d, .tup (Dd.ds a), .tup (Dd.ds b)]) s') : wCall prog (n + 7) 17 [.ref p] s Q := by
  rw [call_eqn (p := 1) (m := 4) (b := b_Reader_choice) rfl]
  simp [b_Reader_choice, withI, R.at_, fget]
  refine w_expr9 T ht n s p m ws i _ _ R hw fun s1 R1 k1 => ?_
  have g1 := drop_more hw
  simp [R1.at_, fget]
  refine ha s1 p m ws _ _ _ R1 g1 (.inr ⟨_, .inr (.inl rfl)⟩) fun s2 R2 k2 => ?_
  have g2 := drop_more g1
  obtain ⟨e1, g3⟩ := drop_get g2
  simp [R2.at_, fget, sizeLine]
  refine w_word1 (n + 5) _ R2 e1 fun s3 R3 k3 => ?_
  simp [R3.at_, fget]
  refine hb s3 p m ws _ _ _ R3 g3 (.inr ⟨_, .inl rfl⟩) fun s4 R4 k4 => ?_
  have g4 := drop_more g3
  obtain ⟨e2, g5⟩ := drop_get g4
  simp [R4.at_, fget, sizeLine]
  refine w_word1 (n + 5) _ R4 e2 fun s5 R5 k5 => ?_
  exact hQ s5 R5 (k1.trans (k2.trans (k3.trans (k4.trans k5))))
theorem head_word (x : Dd) : ∃ h t, x.ws = Str.ofString h :: t ∧ (h = "let" ∨ h = "while" ∨ h = "if") := by
  cases x with
  | lt v w => exact ⟨"let", _, rfl, .inl rfl⟩
  | whl t b => exact ⟨"while", t.ws ++ Dd.wss b ++ [Str.ofString "end"], by simp [Dd.ws], .inr (.inl rfl)⟩
  | ife t a b => exact ⟨"if", t.ws ++ Dd.wss a ++ ([Str.ofString "else"] ++ Dd.wss b) ++ [Str.ofString "end"], by simp [Dd.ws], .inr (.inr rfl)⟩
theorem Kp.fresh {p q : Addr} {s s1 : S} {o : Ob} (k : Kp p s s1) (n : s q = none) : Kp p s (put s1 q o) := fun c v hc g => by rw [put_ne (ne_fresh g n)]; exact k c v hc g
theorem Rd.putq {s : S} {p m q : Addr} {ws : List Str} {i : Nat} {o : Ob} (h : Rd s p m ws i) (n1 : q ≠ p) (n2 : m ≠ q) : Rd (put s q o) p m ws i := ⟨by rw [put_ne (Ne.symm n1)]; exact h.at_, by rw [put_ne n2]; exact h.tab, h.ne, h.len⟩
theorem app_in {s : S} {p : Addr} {xs : List D} {y : D} {Q : Q1} (h : s p = some (.lst xs)) (hl : xs.length ≤ 1000) (k : Q .non (put s p (.lst (xs ++ [y])))) : wBM .append (.ref p) [y] s Q := by
  show withL s p _
  rw [withL_eq h]
  exact ⟨(by show xs.length < 16777216; omega), k⟩
theorem Dd.ds_app (a b : List Dd) : Dd.ds (a ++ b) = Dd.ds a ++ Dd.ds b := by rw [Dd.ds_map, Dd.ds_map, Dd.ds_map, List.map_append]
theorem Dd.ds_len (a : List Dd) : (Dd.ds a).length = a.length := by rw [Dd.ds_map, List.length_map]
theorem Dd.len_cs : ∀ a : List Dd, a.length ≤ Dd.cs a
  | [] => Nat.zero_le _
  | x :: r => by
    have h := Dd.len_cs r
    have : 1 ≤ x.c := by cases x <;> simp only [Dd.c] <;> omega
    simp only [Dd.cs, List.length_cons]; omega
theorem w_deedsR {ps : List Int} (T : Tb ps) (k : Nat) : ∀ (b : List Dd) (d n : Nat), Dd.oks ps d b → Dd.cs b ≤ 1000 → 4 - d ≤ k → 2 * k + 7 ≤ n → SpR n b := by
  induction k using Nat.strongRecOn with
  | _ k ih =>
    intro b d n ho hc g hn s p m ws i rest Q R hw he hQ
    obtain ⟨n', rfl⟩ : ∃ n', n = n' + 1 := ⟨n - 1, by omega⟩
    rw [call_eqn (p := 1) (m := 3) (b := b_Reader_deeds) rfl]
    simp [b_Reader_deeds, sizeLine]
    refine new_in fun q s1 nq h1 k1 => ?_
    rw [s_whlE]
    have R1 := R.keep k1
    have hqp : q ≠ p := fun e => by rw [e, R.at_] at nq; cases nq
    have lb := Dd.len_cs b
    have hmq : m ≠ q := ne_fresh R.tab nq
    refine ⟨b.length + 1, whileN_by (fun c ρ s' => ∃ r a j o, c = r.length ∧ Dd.oks ps d r ∧ Dd.cs r ≤ 1000 ∧ ρ = [some (.ref p), some (.ref q), o] ∧ Rd s' p m ws j ∧ ws.drop j = Dd.wss r ++ rest ∧ s' q = some (.lst (Dd.ds a)) ∧ a ++ r = b ∧ Kp p s s' ∧ i + (Dd.wss b).length = j + (Dd.wss r).length) ?_ b.length _ s1 ⟨b, [], i, none, rfl, ho, hc, rfl, R1, hw, h1, rfl, k1.k, rfl⟩ _ (by omega)⟩
    rintro c ρ s2 N ⟨r, a, j, o, rfl, hr, hcr, rfl, R2, hd, hq, hab, k2, hj⟩ hN
    have l1 : ws.length ≤ 16777216 := Nat.le_trans R.len (by decide)
    cases r with
    | nil =>
      have ea : a = b := by simpa using hab
      subst ea
      have fin : Q (.tup (Dd.ds a)) s2 := hQ s2 (by have e : i + (Dd.wss a).length = j := by simpa [Dd.wss] using hj
                                                    rw [e]; exact R2) k2
      have cls : wSs prog (wCall prog n') [.ret (.bi .tuple (.cons (.var 1) .nil))] { nx := fun x s' => Q .non s', rt := Q, bk := fun x x_1 => False, ct := fun x x_1 => False } [some (.ref p), some (.ref q), o] s2 := by
        simp
        show got (seqOf s2 (.ref q)) _
        rw [seqOf_ref hq]; exact fin
      simp only [Dd.wss, List.nil_append] at hd
      rcases he with rfl | ⟨t, he⟩
      · have hlen : ¬ (j : Int) < ws.length := by
          have := congrArg List.length hd
          simp at this
          omega
        simp [withI, R2.at_, fget, len_lst R2.tab, l1, sizeLine, hlen]
        exact cls
      · have hx : ∃ y, rest = Str.ofString y :: t ∧ (y = "end" ∨ y = "else" ∨ y = "back") := by
          rcases he with e | e | e
          · exact ⟨_, e, .inl rfl⟩
          · exact ⟨_, e, .inr (.inl rfl)⟩
          · exact ⟨_, e, .inr (.inr rfl)⟩
        obtain ⟨y, rfl, hy⟩ := hx
        obtain ⟨e1, _⟩ := drop_get hd
        have hlen : (j : Int) < ws.length := by have := (List.getElem?_eq_some_iff.mp e1).1; omega
        rcases hy with rfl | rfl | rfl <;> simp [withI, R2.at_, fget, len_lst R2.tab, l1, sizeLine, hlen, ix_lst R2.tab, at_nat (i := j) (k := (j : Int)) rfl (st_get e1)] <;> exact cls
    | cons x r' =>
      unfold Dd.oks at hr
      have hd3 := Dd.ok_le hr.1
      obtain ⟨n2, rfl⟩ : ∃ n2, n' = n2 + 8 := ⟨n' - 8, by omega⟩
      simp only [Dd.cs] at hcr
      have la : (Dd.ds a).length ≤ 1000 := by
        rw [Dd.ds_len]
        have := congrArg List.length hab
        rw [List.length_append] at this
        omega
      have done : ∀ s' o' j', Rd s' p m ws j' → ws.drop j' = Dd.wss r' ++ rest → s' q = some (.lst (Dd.ds a ++ [x.d])) → Kp p s s' → j' = j + x.ws.length → N [some (.ref p), some (.ref q), o'] s' := fun s' o' j' R' hd' hq' k' ej => by
        refine hN _ _ ⟨r'.length, by simp, r', a ++ [x], j', o', rfl, hr.2, by omega, rfl, R', hd', ?_, by rw [← hab]; simp, k', ?_⟩
        · rw [Dd.ds_app]; simpa [Dd.ds] using hq'
        · rw [hj, ej]; simp only [Dd.wss, List.length_append]; omega
      have hx := hr.1
      cases x with
      | lt v w =>
        unfold Dd.ok at hx
        simp only [Dd.wss, Dd.ws, List.cons_append, List.nil_append, List.append_assoc] at hd
        obtain ⟨e1, g1⟩ := drop_get hd
        obtain ⟨e2, g2⟩ := drop_get g1
        have g3 := drop_more g2
        have hlen : (j : Int) < ws.length := by have := (List.getElem?_eq_some_iff.mp e1).1; omega
        simp [withI, R2.at_, fget, len_lst R2.tab, l1, sizeLine, hlen, ix_lst R2.tab, at_nat (i := j) (k := (j : Int)) rfl (st_get e1)]
        refine w_word (n2 + 7) _ R2 e1 fun s3 R3 k3 => ?_
        have hq3 := k3 q _ hqp hq
        simp [s_ifE, withI, R3.at_, fget, bmTy, hq3]
        refine w_var (n2 + 6) _ R3 e2 hx.2.1 hx.2.2.1 fun s4 R4 k4 => ?_
        simp [R4.at_, fget]
        refine w_expr9 T hx.2.2.2 (n2 + 2) s4 p m ws _ _ _ R4 g2 fun s5 R5 k5 => ?_
        refine ⟨sz (by simp), app_in (k5 q _ hqp (k4 q _ hqp hq3)) la ?_⟩
        exact done _ _ (j + 1 + 1 + w.ws.length) (R5.putq hqp hmq) g3 (by rw [put_same]; rfl) ((k2.trans (k3.trans (k4.trans k5))).fresh nq) (by simp only [Dd.ws, List.length_append, List.length_cons, List.length_nil]; omega)
      | whl t0 c =>
        unfold Dd.ok at hx
        simp only [Dd.wss, Dd.ws, List.cons_append, List.nil_append, List.append_assoc] at hd
        simp only [Dd.c] at hcr
        obtain ⟨e1, g1⟩ := drop_get hd
        have g2 := drop_more g1
        have g3 := drop_more g2
        obtain ⟨e4, g4⟩ := drop_get g3
        have hlen : (j : Int) < ws.length := by have := (List.getElem?_eq_some_iff.mp e1).1; omega
        simp [withI, R2.at_, fget, len_lst R2.tab, l1, sizeLine, hlen, ix_lst R2.tab, at_nat (i := j) (k := (j : Int)) rfl (st_get e1)]
        refine w_word (n2 + 7) _ R2 e1 fun s3 R3 k3 => ?_
        have hq3 := k3 q _ hqp hq
        simp [s_ifE, withI, R3.at_, fget, bmTy, hq3]
        refine w_expr9 T hx.2.1 (n2 + 2) s3 p m ws _ _ _ R3 g1 fun s4 R4 k4 => ?_
        simp [R4.at_, fget]
        refine ih (k - 1) (by omega) c (d + 1) (n2 + 8) hx.2.2 (by omega) (by omega) (by omega) s4 p m ws _ _ _ R4 g2 (.inr ⟨_, .inl rfl⟩) fun s5 R5 k5 => ?_
        refine ⟨sz (by simp), app_in (k5 q _ hqp (k4 q _ hqp hq3)) la ?_⟩
        have R6 := R5.putq (o := .lst (Dd.ds a ++ [.tup [.str "while", t0.d, .tup (Dd.ds c)]])) hqp hmq
        have hq6 : (put s5 q (.lst (Dd.ds a ++ [.tup [.str "while", t0.d, .tup (Dd.ds c)]]))) q = _ := put_same
        have k6 := (k2.trans (k3.trans (k4.trans k5))).fresh (o := .lst (Dd.ds a ++ [.tup [.str "while", t0.d, .tup (Dd.ds c)]])) nq
        generalize put s5 q (.lst (Dd.ds a ++ [.tup [.str "while", t0.d, .tup (Dd.ds c)]])) = s6 at R6 hq6 k6 ⊢
        simp [R6.at_, fget, withI, sizeLine]
        refine w_word1 (n2 + 7) _ R6 e4 fun s7 R7 k7 => ?_
        exact done _ _ _ R7 g4 (by rw [k7 q _ hqp hq6]; rfl) (k6.trans k7) (by simp only [Dd.ws, List.length_append, List.length_cons, List.length_nil]; omega)
      | ife t0 c e =>
        unfold Dd.ok at hx
        simp only [Dd.wss, Dd.ws, List.cons_append, List.nil_append, List.append_assoc] at hd
        simp only [Dd.c] at hcr
        obtain ⟨e1, g1⟩ := drop_get hd
        have g2 := drop_more (drop_more g1)
        obtain ⟨_, g3⟩ := drop_get g2
        have g4 := drop_more g3
        obtain ⟨_, g5⟩ := drop_get g4
        have hlen : (j : Int) < ws.length := by have := (List.getElem?_eq_some_iff.mp e1).1; omega
        simp [withI, R2.at_, fget, len_lst R2.tab, l1, sizeLine, hlen, ix_lst R2.tab, at_nat (i := j) (k := (j : Int)) rfl (st_get e1)]
        refine w_word (n2 + 7) _ R2 e1 fun s3 R3 k3 => ?_
        have hq3 := k3 q _ hqp hq
        simp [s_ifE, withI, R3.at_, fget, bmTy, hq3]
        refine w_choice T (n := n2 + 1) hx.2.1 (ih (k - 1) (by omega) c (d + 1) (n2 + 7) hx.2.2.1 (by omega) (by omega) (by omega)) (ih (k - 1) (by omega) e (d + 1) (n2 + 7) hx.2.2.2 (by omega) (by omega) (by omega)) s3 p m ws _ _ _ R3 g1 fun s4 R4 k4 => ?_
        refine app_in (k4 q _ hqp hq3) la ?_
        exact done _ _ _ (R4.putq hqp hmq) g5 (by rw [put_same]; rfl) ((k2.trans (k3.trans k4)).fresh nq) (by simp only [Dd.ws, List.length_append, List.length_cons, List.length_nil]; omega)
end K14
set_option Elab.async false
set_option linter.all false
set_option maxRecDepth 100000
set_option maxHeartbeats 4000000
namespace K14
open PySem Tk
theorem w_onefn {ps : List Int} (T : Tb ps) {f : F} (h : f.ok ps) (n : Nat) (s : S) (p m : Addr) (ws : List Str) (i : Nat) (rest : List Str) (Q : Q1) (R : Rd s p m ws i) (hw : ws.drop i = f.ws ++ rest) (hQ : ∀ s', Rd s' p m ws (i + f.ws.length) → Kp p s s' → Q f.d s') : wCall prog (n + 16) 18 [.ref p] s Q := by
  simp only [F.ws, List.cons_append, List.nil_append, List.append_assoc] at hw
  obtain ⟨e1, g1⟩ := drop_get hw
  obtain ⟨e2, g2⟩ := drop_get g1
  have g3 := drop_more g2
  obtain ⟨e4, g4⟩ := drop_get g3
  have p0 := h.p0
  have p3 := h.p3
  have hc := h.c
  rw [call_eqn (p := 1) (m := 3) (b := b_Reader_one_function) rfl]
  simp [b_Reader_one_function, withI, R.at_, fget, sizeLine]
  refine w_word1 (n + 14) _ R e1 fun s1 R1 k1 => ?_
  simp [R1.at_, fget]
  refine w_num (n + 13) _ R1 e2 p0 (by omega) fun s2 R2 k2 => ?_
  simp [R2.at_, fget]
  refine w_deedsR T 4 f.b 0 (n + 15) h.b (by omega) (by omega) (by omega) s2 p m ws _ _ _ R2 g2 (.inr ⟨_, .inr (.inr rfl)⟩) fun s3 R3 k3 => ?_
  simp [R3.at_, fget]
  refine w_word1 (n + 14) _ R3 e4 fun s4 R4 k4 => ?_
  simp [R4.at_, fget]
  refine w_expr9 T h.r (n + 9) s4 p m ws _ _ _ R4 g4 fun s5 R5 k5 => ?_
  refine hQ s5 ?_ (k1.trans (k2.trans (k3.trans (k4.trans k5))))
  have e : i + f.ws.length = i + 1 + 1 + (Dd.wss f.b).length + 1 + f.r.ws.length := by simp only [F.ws, List.length_append, List.length_cons, List.length_nil]; omega
  rw [e]; exact R5
theorem joinS_len (y : Str) : ∀ ws : List Str, (Str.join y ws).length ≤ (ws.map (·.length)).sum + ws.length * y.length
  | [] => Nat.zero_le _
  | [x] => by show x.length ≤ _; simp
  | x :: z :: r => by
    have ih := joinS_len y (z :: r)
    show (x ++ y ++ Str.join y (z :: r)).length ≤ _
    have e : (x ++ y ++ Str.join y (z :: r)).length = x.length + y.length + (Str.join y (z :: r)).length := by
      show ((x.cps ++ y.cps) ++ (Str.join y (z :: r)).cps).size = _
      simp only [Array.size_append]; rfl
    rw [e]
    simp only [List.map_cons, List.sum_cons, List.length_cons, Nat.add_mul] at ih ⊢
    omega
theorem txt_len {ws : List Str} (h : ∀ x ∈ ws, wordOk x = true) (hl : ws.length ≤ 1000) : (txt ws).length ≤ 7000 := by
  have a := joinS_len (Str.ofString " ") ws
  have b := sum_le ws h
  have c : (Str.ofString " ").length = 1 := by decide +kernel
  unfold txt
  rw [TL.join_eq]
  rw [c] at a
  omega
theorem txt_split {ws : List Str} (h : ∀ x ∈ ws, wordOk x = true) (hn : ws ≠ []) : Txt.split (txt ws) (Str.ofString " ") = ws := by
  refine TL.split_join (s := 32) (S := []) (by decide +kernel) (by decide +kernel) hn fun p hp => ?_
  have b := h p hp
  unfold wordOk at b
  simp only [Bool.and_eq_true, decide_eq_true_eq] at b
  exact b.1.2
theorem w_read {fs : List F} (G : Good fs) (n : Nat) (s : S) (Q : Q1) (hQ : ∀ s', Ke s s' → Q (progD fs) s') : wCall prog (n + 20) 2 [.str (txt (progW fs))] s Q := by
  have T := G.tb
  obtain ⟨go, gl⟩ := progW_ok T fs G.ok
  have g4 := G.len
  have l1000 : (progW fs).length ≤ 1000 := by omega
  obtain ⟨f0, fr, rfl⟩ : ∃ f0 fr, fs = f0 :: fr := by
    cases fs with
    | nil => exact absurd rfl G.ne
    | cons a b => exact ⟨a, b, rfl⟩
  have hne : progW (f0 :: fr) ≠ [] := by simp [progW, F.ws]
  have tl := txt_len go l1000
  have ts := txt_split go hne
  generalize hws : progW (f0 :: fr) = ws at go gl hne tl ts l1000 ⊢
  generalize txt ws = z at tl ts ⊢
  rw [call_eqn (p := 1) (m := 3) (b := b_read) rfl]
  simp [b_read]
  refine ⟨⟨z, rfl⟩, ?_⟩
  refine ⟨by decide +kernel, sz (by omega), new_in fun m s1 n1 h1 k1 => ?_⟩
  rw [ts] at h1
  rw [init_0, got_some]
  intro p hp
  rw [call_eqn (p := 2) (m := 2) (b := b_Reader___init__) rfl]
  simp [b_Reader___init__, withI, fput, isNon, fget]
  have R0 : Rd (put (put (put s1 p (.ins 0 [])) p (.ins 0 [("words", .ref m)])) p (.ins 0 [("words", .ref m), ("place", .int 0)])) p m ws 0 :=
    ⟨put_same, by rw [put_put, put_put, put_ne (ne_fresh h1 hp)]; exact h1, ne_fresh h1 hp, l1000⟩
  have k2 : Ke s (put (put (put s1 p (.ins 0 [])) p (.ins 0 [("words", .ref m)])) p (.ins 0 [("words", .ref m), ("place", .int 0)])) := by
    rw [put_put, put_put]; exact k1.trans (Ke.new hp)
  have np : s p = none := none_of k1 hp
  generalize put (put (put s1 p (.ins 0 [])) p (.ins 0 [("words", .ref m)])) p (.ins 0 [("words", .ref m), ("place", .int 0)]) = s2 at R0 k2 ⊢
  have hd0 : ws.drop 0 = f0.ws ++ progW fr := by rw [← hws]; rfl
  refine w_onefn T (G.ok f0 (List.mem_cons_self ..)) (n + 3) s2 p m ws 0 _ _ R0 hd0 fun s3 R3 k3 => ?_
  have k13 := k2.kp np k3
  refine ⟨sz (by decide), new_in fun q s4 nq h4 k4 => ?_⟩
  have nq0 : s q = none := none_of k13 nq
  have hqp : q ≠ p := fun e => by rw [e, R3.at_] at nq; cases nq
  have hmq : m ≠ q := ne_fresh R3.tab nq
  rw [s_whlE]
  refine ⟨fr.length + 1, whileN_by (fun c ρ s' => ∃ r a j, c = r.length ∧ ρ = [some (.str z), some (.ref p), some (.ref q)] ∧ Rd s' p m ws j ∧ ws.drop j = progW r ∧ s' q = some (.lst (a.map F.d)) ∧ a ++ r = f0 :: fr ∧ Ke s s') ?_ fr.length _ s4 ⟨fr, [f0], _, rfl, rfl, R3.keep k4, drop_more hd0, h4, rfl, k13.trans k4⟩ _ (by omega)⟩
  rintro c ρ s5 N ⟨r, a, j, rfl, rfl, R5, hd, hq, hab, k5⟩ hN
  have l1 : ws.length ≤ 16777216 := Nat.le_trans l1000 (by decide)
  cases r with
  | nil =>
    have ea : a = f0 :: fr := by simpa using hab
    subst ea
    have hlen : ¬ (j : Int) < ws.length := by
      have := congrArg List.length hd
      simp [progW] at this
      omega
    simp [withI, R5.at_, fget, len_lst R5.tab, l1, sizeLine, hlen]
    show got (seqOf s5 (.ref q)) _
    rw [seqOf_ref hq, got_some]
    refine w_need G n s5 _ fun s6 k6 => ?_
    show got (seqOf s6 (.ref q)) _
    rw [seqOf_ref (k6 _ _ hq), got_some]
    exact hQ s6 (k5.trans k6)
  | cons f r' =>
    have hf : f ∈ f0 :: fr := by rw [← hab]; simp
    have hd' : ws.drop j = f.ws ++ progW r' := hd
    have hlen : (j : Int) < ws.length := by
      have e : ∃ y t, ws.drop j = y :: t := ⟨Str.ofString "fun", nw f.p :: (Dd.wss f.b ++ (Str.ofString "back" :: (f.r.ws ++ progW r'))), by rw [hd']; simp [F.ws]⟩
      obtain ⟨y, t, e⟩ := e
      have := (List.getElem?_eq_some_iff.mp (drop_get e).1).1
      omega
    have la : (a.map F.d).length ≤ 1000 := by
      have := congrArg List.length hab
      simp at this ⊢
      simp at g4
      omega
    simp [withI, R5.at_, fget, len_lst R5.tab, l1, sizeLine, hlen, bmTy, hq]
    refine w_onefn T (G.ok f hf) (n + 3) s5 p m ws j _ _ R5 hd' fun s6 R6 k6 => ?_
    refine app_in (k6 q _ hqp hq) la ?_
    refine hN _ _ ⟨r'.length, by simp, r', a ++ [f], _, rfl, rfl, R6.putq hqp hmq, drop_more hd', by rw [put_same, List.map_append]; rfl, by rw [← hab]; simp, (k5.kp np k6).kp nq0 Kp.set⟩
end K14
set_option Elab.async false
set_option linter.all false
set_option maxRecDepth 100000
set_option maxHeartbeats 4000000
namespace K14
open PySem Tk
/-- numbers, texts, tuples of such, at most k deep -/
def Pl : Nat → D → Prop
  | _, .int _ => True
  | _, .str x => PyData.strOk x = true
  | k + 1, .tup ds => ds.length ≤ 1000 ∧ ∀ d ∈ ds, Pl k d
  | _, _ => False
theorem Pl.int {k : Nat} {i : Int} : Pl k (.int i) := by cases k <;> trivial
theorem Pl.str {k : Nat} {x : Str} (h : PyData.strOk x = true) : Pl k (.str x) := by cases k <;> exact h
theorem Pl.mono : ∀ {k m : Nat} {d : D}, Pl k d → k ≤ m → Pl m d
  | k, m, .int _, _, _ => .int
  | k, m, .str x, h, _ => .str (by cases k <;> exact h)
  | k + 1, m + 1, .tup ds, h, g => ⟨h.1, fun d hd => Pl.mono (h.2 d hd) (by omega)⟩
  | 0, _, .tup _, h, _ => h.elim
  | k + 1, 0, .tup _, _, g => by omega
  | k, _, .non, h, _ => by cases k <;> exact h.elim
  | k, _, .bl _, h, _ => by cases k <;> exact h.elim
  | k, _, .fz _, h, _ => by cases k <;> exact h.elim
  | k, _, .ref _, h, _ => by cases k <;> exact h.elim
theorem Dd.c_mem : ∀ {a : List Dd} {x : Dd}, x ∈ a → x.c ≤ Dd.cs a
  | y :: r, x, h => by
    simp only [Dd.cs]
    rcases List.mem_cons.mp h with rfl | h
    · omega
    · have := Dd.c_mem h; omega
theorem c_neB {a b : Bool} {s : S} {Q : Q1} : wCmp .ne (.bl a) (.bl b) s Q = Q (.bl (!(a == b))) s := by
  show (_ ∧ _ ∧ _) = _
  exact propext ⟨fun h => h.2.2, fun h => ⟨rfl, rfl, h⟩⟩
theorem w_alike : ∀ (k : Nat) (d : D) (n : Nat), Pl k d → k + 1 ≤ n → ∀ (s : S) (Q : Q1), (∀ s', Ke s s' → Q (.bl true) s') → wCall prog n 4 [d, d] s Q := by
  intro k
  induction k with
  | zero =>
    intro d n h hn s Q hQ
    obtain ⟨n', rfl⟩ : ∃ n', n = n' + 1 := ⟨n - 1, by omega⟩
    rw [call_eqn (p := 2) (m := 3) (b := b__law_alike) rfl]
    cases d with
    | int i =>
      simp [b__law_alike, s_ifE, isTy, isNon, sizeLine]
      exact hQ s Ke.refl
    | str x =>
      simp [b__law_alike, s_ifE, isTy, isNon, sizeLine, c_eqS h h]
      exact hQ s Ke.refl
    | _ => exact h.elim
  | succ k ih =>
    intro d n h hn s Q hQ
    obtain ⟨n', rfl⟩ : ∃ n', n = n' + 1 := ⟨n - 1, by omega⟩
    rw [call_eqn (p := 2) (m := 3) (b := b__law_alike) rfl]
    cases d with
    | int i =>
      simp [b__law_alike, s_ifE, isTy, isNon, sizeLine]
      exact hQ s Ke.refl
    | str x =>
      simp [b__law_alike, s_ifE, isTy, isNon, sizeLine, c_eqS h h]
      exact hQ s Ke.refl
    | tup ds =>
      obtain ⟨hl, hds⟩ := h
      have l1 : ds.length ≤ 16777216 := by omega
      simp [b__law_alike, s_ifE, isTy, isNon, sizeLine, l1]
      rw [c_neB]
      have bn : bnd (ds.length : Int) := ⟨by omega, by omega⟩
      simp [e_lc, bn, l1, sizeLine]
      refine lcGo_by (f := fun i : Nat => .int (0 + (i : Nat))) (fun r acc s' => acc = [] ∧ (∀ i ∈ r, i < ds.length) ∧ Ke s s') (fun _ _ _ _ => trivial) ?_ ?_ (List.range ds.length) [] s ⟨rfl, fun i hi => List.mem_range.mp hi, Ke.refl⟩
      · rintro i r acc s1 K ⟨rfl, hr, k1⟩ kn ks
        have hlt := hr i (List.mem_cons_self ..)
        have e1 : ds[i]? = some ds[i] := List.getElem?_eq_getElem hlt
        refine ⟨by simp [sizeLine], ?_⟩
        simp [at_nat (i := i) (k := (i : Int)) rfl e1]
        refine ih ds[i] n' (hds _ (List.getElem_mem hlt)) (by omega) s1 _ fun s2 k2 => ?_
        simp
        exact kn s2 ⟨rfl, fun j hj => hr j (List.mem_cons_of_mem _ hj), k1.trans k2⟩
      · rintro acc s1 ⟨rfl, _, k1⟩
        refine new_in fun a s2 n2 h2 k2 => new_in fun b s3 n3 h3 k3 => ?_
        rw [wCmp, c_eqLL (k3 _ _ h2) h3]
        exact hQ s3 (k1.trans (k2.trans k3))
    | _ => exact h.elim
theorem W.pl {ps : List Int} (T : Tb ps) : ∀ (k : Nat) {w : W} {d : Nat}, W.ok ps d w → 4 - d ≤ k → Pl (2 * k) w.d
  | 0, w, d, h, g => by have := W.ok_le h; omega
  | k + 1, .num n, d, h, g => by
    unfold W.d
    exact (show Pl (2 * k + 1 + 1) _ from ⟨by simp, fun x hx => by
      simp only [List.mem_cons, List.not_mem_nil, or_false] at hx
      rcases hx with rfl | rfl
      · exact .str (ofs_ok _)
      · exact .int⟩)
  | k + 1, .var n, d, h, g => by
    unfold W.d
    exact (show Pl (2 * k + 1 + 1) _ from ⟨by simp, fun x hx => by
      simp only [List.mem_cons, List.not_mem_nil, or_false] at hx
      rcases hx with rfl | rfl
      · exact .str (ofs_ok _)
      · exact .int⟩)
  | k + 1, .dbl n a b, d, h, g => by
    unfold W.d
    have hd := W.ok_le h
    unfold W.ok at h
    have ha := (W.pl T k h.2.1 (by omega)).mono (show 2 * k ≤ 2 * k + 1 by omega)
    have hb := (W.pl T k h.2.2 (by omega)).mono (show 2 * k ≤ 2 * k + 1 by omega)
    exact (show Pl (2 * k + 1 + 1) _ from ⟨by simp, fun x hx => by
      simp only [List.mem_cons, List.not_mem_nil, or_false] at hx
      rcases hx with rfl | rfl | rfl
      · exact .str (dbl_ok n)
      · exact ha
      · exact hb⟩)
  | k + 1, .call c as, d, h, g => by
    unfold W.d
    have hd := W.ok_le h
    unfold W.ok at h
    have la : as.length ≤ 3 := by
      have := (T.le _ (List.mem_of_getElem? h.2.2.1)).2
      omega
    have hs : ∀ (as : List W), W.oks ps (d + 1) as → ∀ x ∈ W.ds as, Pl (2 * k) x := by
      intro as
      induction as with
      | nil => intro _ x hx; simp [W.ds] at hx
      | cons w r ih =>
        intro h x hx
        unfold W.oks at h
        simp only [W.ds, List.mem_cons] at hx
        rcases hx with rfl | hx
        · exact W.pl T k h.1 (by omega)
        · exact ih h.2 x hx
    exact (show Pl (2 * k + 1 + 1) _ from ⟨by simp, fun x hx => by
      simp only [List.mem_cons, List.not_mem_nil, or_false] at hx
      rcases hx with rfl | rfl | rfl
      · exact .str (ofs_ok _)
      · exact .int
      · exact ⟨by rw [K14.ds_len]; omega, hs as h.2.2.2⟩⟩)
theorem Dd.pl {ps : List Int} (T : Tb ps) : ∀ (k : Nat) {w : Dd} {d : Nat}, Dd.ok ps d w → w.c ≤ 1000 → 4 - d ≤ k → Pl (2 * k + 8) w.d
  | 0, w, d, h, _, g => by have := Dd.ok_le h; omega
  | k + 1, .lt v w, d, h, hc, g => by
    unfold Dd.d
    unfold Dd.ok at h
    have hw := (W.pl T 4 h.2.2.2 (by omega)).mono (show 2 * 4 ≤ 2 * k + 8 + 1 by omega)
    exact Pl.mono (k := 2 * k + 8 + 1 + 1) ⟨by simp, fun x hx => by
      simp only [List.mem_cons, List.not_mem_nil, or_false] at hx
      rcases hx with rfl | rfl | rfl
      · exact .str (ofs_ok _)
      · exact .int
      · exact hw⟩ (by omega)
  | k + 1, .whl t b, d, h, hc, g => by
    unfold Dd.d
    have hd := Dd.ok_le h
    unfold Dd.ok at h
    simp only [Dd.c] at hc
    have lb := Dd.len_cs b
    have hw := (W.pl T 4 h.2.1 (by omega)).mono (show 2 * 4 ≤ 2 * k + 8 + 1 by omega)
    have hb : ∀ x ∈ Dd.ds b, Pl (2 * k + 8) x := fun x hx => by
      rw [Dd.ds_map] at hx
      obtain ⟨y, hy, rfl⟩ := List.mem_map.mp hx
      exact Dd.pl T k (Dd.oks_all h.2.2 y hy) (by have := Dd.c_mem hy; omega) (by omega)
    exact Pl.mono (k := 2 * k + 8 + 1 + 1) ⟨by simp, fun x hx => by
      simp only [List.mem_cons, List.not_mem_nil, or_false] at hx
      rcases hx with rfl | rfl | rfl
      · exact .str (ofs_ok _)
      · exact hw
      · exact ⟨by rw [Dd.ds_len]; omega, hb⟩⟩ (by omega)
  | k + 1, .ife t a b, d, h, hc, g => by
    unfold Dd.d
    have hd := Dd.ok_le h
    unfold Dd.ok at h
    simp only [Dd.c] at hc
    have la := Dd.len_cs a
    have lb := Dd.len_cs b
    have hw := (W.pl T 4 h.2.1 (by omega)).mono (show 2 * 4 ≤ 2 * k + 8 + 1 by omega)
    have ha : ∀ x ∈ Dd.ds a, Pl (2 * k + 8) x := fun x hx => by
      rw [Dd.ds_map] at hx
      obtain ⟨y, hy, rfl⟩ := List.mem_map.mp hx
      exact Dd.pl T k (Dd.oks_all h.2.2.1 y hy) (by have := Dd.c_mem hy; omega) (by omega)
    have hb : ∀ x ∈ Dd.ds b, Pl (2 * k + 8) x := fun x hx => by
      rw [Dd.ds_map] at hx
      obtain ⟨y, hy, rfl⟩ := List.mem_map.mp hx
      exact Dd.pl T k (Dd.oks_all h.2.2.2 y hy) (by have := Dd.c_mem hy; omega) (by omega)
    exact Pl.mono (k := 2 * k + 8 + 1 + 1) ⟨by simp, fun x hx => by
      simp only [List.mem_cons, List.not_mem_nil, or_false] at hx
      rcases hx with rfl | rfl | rfl | rfl
      · exact .str (ofs_ok _)
      · exact hw
      · exact ⟨by rw [Dd.ds_len]; omega, ha⟩
      · exact ⟨by rw [Dd.ds_len]; omega, hb⟩⟩ (by omega)
theorem Good.pl {fs : List F} (G : Good fs) : Pl 19 (progD fs) := by
  have T := G.tb
  refine ⟨by rw [List.length_map]; have := G.len; omega, fun x hx => ?_⟩
  obtain ⟨f, hf, rfl⟩ := List.mem_map.mp hx
  have h := G.ok f hf
  have hc := h.c
  have lb := Dd.len_cs f.b
  have hb : ∀ x ∈ Dd.ds f.b, Pl 16 x := fun x hx => by
    rw [Dd.ds_map] at hx
    obtain ⟨y, hy, rfl⟩ := List.mem_map.mp hx
    exact Dd.pl T 4 (Dd.oks_all h.b y hy) (by have := Dd.c_mem hy; omega) (by omega)
  refine ⟨by simp, fun y hy => ?_⟩
  simp only [List.mem_cons, List.not_mem_nil, or_false] at hy
  rcases hy with rfl | rfl | rfl
  · exact .int
  · exact ⟨by rw [Dd.ds_len]; omega, hb⟩
  · exact (W.pl T 4 h.r (by omega)).mono (show 2 * 4 ≤ 17 by decide)
theorem txt_ok {ws : List Str} (h : ∀ x ∈ ws, wordOk x = true) : PyData.strOk (txt ws) = true := by
  have key : ∀ ws : List Str, (∀ x ∈ ws, PyData.strOk x = true) → PyData.strOk (Str.join (Str.ofString " ") ws) = true := by
    have app : ∀ a b : Str, PyData.strOk a = true → PyData.strOk b = true → PyData.strOk (a ++ b) = true := fun a b ha hb => by
      unfold PyData.strOk at *
      show (a.cps ++ b.cps).all _ = true
      rw [Array.all_append, ha, hb]; rfl
    intro ws
    induction ws with
    | nil => intro _; decide +kernel
    | cons x r ih =>
      intro h
      cases r with
      | nil => exact h x (List.mem_cons_self ..)
      | cons z r => exact app _ _ (app _ _ (h x (List.mem_cons_self ..)) (ofs_ok _)) (ih fun y hy => h y (List.mem_cons_of_mem _ hy))
  unfold txt
  rw [TL.join_eq]
  refine key ws fun x hx => ?_
  have b := h x hx
  unfold wordOk at b
  simp only [Bool.and_eq_true, decide_eq_true_eq] at b
  exact b.2
end K14
set_option Elab.async false
set_option linter.all false
set_option maxRecDepth 100000
set_option maxHeartbeats 4000000
namespace K14
open PySem Tk
/-- the row of draws at r over the cells cs -/
structure Row (s : S) (r : Addr) (cs : List Int) : Prop where
  ex : ∃ i a b : Int, s r = some (.lst [.fz (cs.map D.int), .int i, .int a, .int b]) ∧ 0 ≤ i ∧ 0 ≤ a ∧ a < 2147483647
  len : cs.length ≤ 63
theorem Row.set {s : S} {r : Addr} {cs : List Int} (h : cs.length ≤ 63) {i a b : Int} (hi : 0 ≤ i) (h0 : 0 ≤ a) (h1 : a < 2147483647) : Row (put s r (.lst [.fz (cs.map D.int), .int i, .int a, .int b])) r cs := ⟨⟨i, a, b, put_same, hi, h0, h1⟩, h⟩
@[simp] theorem put_two {s : S} {a : Addr} {o u : Ob} : put (put s a o) a u = put s a u := put_put
theorem mod_lt' (x : Int) {m : Int} (h : 0 < m) : 0 ≤ x % m ∧ x % m < m := ⟨Int.emod_nonneg _ (by omega), Int.emod_lt_of_pos _ h⟩
@[simp] theorem ixN41 : L2.ixN 4 1 = some 1 := rfl
@[simp] theorem ixN42 : L2.ixN 4 2 = some 2 := rfl
@[simp] theorem ixN43 : L2.ixN 4 3 = some 3 := rfl
theorem w_taken {s : S} {r : Addr} {cs : List Int} {many : Int} (n : Nat) (Q : Q1) (R : Row s r cs) (h0 : 0 < many) (h1 : many < 1073741824) (hQ : ∀ v s', 0 ≤ v → v < many → Row s' r cs → Kp r s s' → Q (.int v) s') : wCall prog (n + 1) 6 [.ref r, .int many] s Q := by
  obtain ⟨⟨i, a, b, hr, hi, ha, ha2⟩, hl⟩ := R
  have cd : ∀ x : Int, L2.CDiv x many := fun x => ⟨h0, h1⟩
  have l1 : cs.length ≤ 16777216 := by omega
  have m1 : L2.CMul a 48271 := .inr ⟨by decide, by decide⟩
  have d7 : ∀ x : Int, L2.CDiv x 7 := fun x => ⟨by decide, by decide⟩
  have pw : L2.CPow 10 18 := ⟨by decide, by decide, by decide⟩
  rw [call_eqn (p := 2) (m := 4) (b := b__law_taken) rfl]
  simp [b__law_taken, wIx, hr]
  rw [s_ifE]
  by_cases hb : 0 < b
  · simp [wIx, hr, hb, h0, wISet, cd]
    exact hQ _ _ (mod_lt' b h0).1 (mod_lt' b h0).2 (Row.set hl hi ha ha2) Kp.set
  · simp [wIx, hr, hb, h0, wISet, cd]
    rw [s_ifE]
    by_cases hc : (cs.length : Int) < i + 1
    · simp [wIx, hr, hc, h0, wISet, cd, l1, sizeLine, m1, d7]
      exact hQ _ _ (mod_lt' _ h0).1 (mod_lt' _ h0).2 (Row.set hl (by omega) (mod_lt' _ (by decide)).1 (mod_lt' _ (by decide)).2) Kp.set
    · have hlt : i.toNat < cs.length := by omega
      have ec : (cs.map D.int)[i.toNat]? = some (.int cs[i.toNat]) := by rw [List.getElem?_map, List.getElem?_eq_getElem hlt]; rfl
      have ei : i = (i.toNat : Int) := by omega
      simp [wIx, hr, hc, h0, wISet, cd, l1, sizeLine, at_nat ei ec]
      generalize cs[i.toNat] = cell
      simp [m1]
      rw [s_ifE]
      by_cases hd : (1000000000000000000 : Int) ≤ cell
      · simp [pw, hd, h0, cd, wISet]
        exact hQ _ _ (mod_lt' _ h0).1 (mod_lt' _ h0).2 (Row.set hl (by omega) (mod_lt' _ (by decide)).1 (mod_lt' _ (by decide)).2) Kp.set
      · simp [pw, hd, h0]
        exact hQ _ _ (mod_lt' _ h0).1 (mod_lt' _ h0).2 (Row.set hl (by omega) (mod_lt' _ (by decide)).1 (mod_lt' _ (by decide)).2) Kp.set
end K14
set_option Elab.async false
set_option linter.all false
set_option maxRecDepth 100000
set_option maxHeartbeats 4000000
namespace K14
open PySem Tk
theorem Row.keep {s s' : S} {r : Addr} {cs : List Int} (h : Row s r cs) (k : Ke s s') : Row s' r cs := by
  obtain ⟨⟨i, a, b, hr, h1⟩, hl⟩ := h
  exact ⟨⟨i, a, b, k _ _ hr, h1⟩, hl⟩
theorem w_lnum {s : S} {r : Addr} {cs : List Int} (n : Nat) (Q : Q1) (R : Row s r cs) (hQ : ∀ v s', -1000 ≤ v → v < 1000 → Row s' r cs → Kp r s s' → Q (.int v) s') : wCall prog (n + 2) 26 [.ref r] s Q := by
  rw [call_eqn (p := 1) (m := 2) (b := b__law_number) rfl]
  simp [b__law_number]
  refine w_taken n _ R (by decide) (by decide) fun v s1 v0 v1 R1 k1 => ?_
  rw [s_ifE]
  by_cases hv : v < 2
  · simp [hv]
    exact w_taken n _ R1 (by decide) (by decide) fun u s2 u0 u1 R2 k2 => hQ u s2 (by omega) (by omega) R2 (k1.trans k2)
  · simp [hv]
    refine w_taken n _ R1 (by decide) (by decide) fun u s2 u0 u1 R2 k2 => ?_
    simp
    refine w_taken n _ R2 (by decide) (by decide) fun t s3 t0 t1 R3 k3 => ?_
    refine ⟨sz (by simp), new_in fun q s4 n4 h4 k4 => ?_⟩
    simp [ix_lst h4]
    have k14 := k1.trans (k2.trans (k3.trans k4.k))
    have : v = 2 ∨ v = 3 := by omega
    rcases this with rfl | rfl
    · simp
      exact hQ _ s4 (by omega) (by omega) (R3.keep k4) k14
    · simp
      exact hQ _ s4 (by omega) (by omega) (R3.keep k4) k14
end K14
set_option Elab.async false
set_option linter.all false
set_option maxRecDepth 100000
set_option maxHeartbeats 4000000
namespace K14
open PySem Tk
/-- all but what stands at r and at x stays -/
def K2 (r x : Addr) (s s' : S) : Prop := ∀ c o, c ≠ r → c ≠ x → s c = some o → s' c = some o
theorem K2.refl {r x : Addr} {s : S} : K2 r x s s := fun _ _ _ _ h => h
theorem K2.trans {r x : Addr} {s s1 s2 : S} (a : K2 r x s s1) (b : K2 r x s1 s2) : K2 r x s s2 := fun c o h1 h2 h => b c o h1 h2 (a c o h1 h2 h)
theorem Ke.k2 {r x : Addr} {s s' : S} (h : Ke s s') : K2 r x s s' := fun c o _ _ g => h c o g
theorem Kp.k2 {r x : Addr} {s s' : S} (h : Kp r s s') : K2 r x s s' := fun c o h1 _ g => h c o h1 g
theorem K2.set {r x : Addr} {s : S} {o : Ob} : K2 r x s (put s x o) := fun c v _ h2 g => by rw [put_ne h2]; exact g
/-- the box of the any-way: what is left, the table -/
structure BoxA (s : S) (x pp : Addr) (ps : List Int) (b : Int) : Prop where
  at_ : s x = some (.lst [.int b, .ref pp])
  tab : s pp = some (.lst (ps.map D.int))
theorem BoxA.keep {s s' : S} {x pp r : Addr} {ps cs : List Int} {b : Int} (h : BoxA s x pp ps b) (R : Row s r cs) (k : Kp r s s') : BoxA s' x pp ps b := by
  obtain ⟨⟨i, a, c, hr, _⟩, _⟩ := R
  refine ⟨k _ _ (fun e => ?_) h.at_, k _ _ (fun e => ?_) h.tab⟩
  · have := h.at_; rw [e, hr] at this; injection this with this; injection this with this; simp at this
  · have z := h.tab
    rw [e, hr] at z
    injection z with z
    injection z with z
    cases ps with
    | nil => simp at z
    | cons p q => simp at z
theorem BoxA.ke {s s' : S} {x pp : Addr} {ps : List Int} {b : Int} (h : BoxA s x pp ps b) (k : Ke s s') : BoxA s' x pp ps b := ⟨k _ _ h.at_, k _ _ h.tab⟩
theorem BoxA.set {s : S} {x pp : Addr} {ps : List Int} {b c : Int} (h : BoxA s x pp ps b) : BoxA (put s x (.lst [.int c, .ref pp])) x pp ps c := by
  refine ⟨put_same, ?_⟩
  rw [put_ne fun e => ?_]
  · exact h.tab
  · have z := h.tab
    rw [e, h.at_] at z
    injection z with z
    injection z with z
    cases ps with
    | nil => simp at z
    | cons p q => cases q with
      | nil => simp at z
      | cons _ _ => simp at z
theorem w_four {s : S} {r x pp : Addr} {cs ps : List Int} {b : Int} {o3 : Option D} {d : D} {o4 o5 o6 o7 o8 o9 : Option D} (n : Nat) (Q : Q1) (R : Row s r cs) (B : BoxA s x pp ps b) (T : Tb ps) (hp : 1 ≤ ps.length)
    (hQ : ∀ (a1 a2 a3 a4 : Int) (q : Addr) (s' : S), 0 ≤ a1 → a1 < 8 → 0 ≤ a2 → a2 < 2000 → 0 ≤ a3 → a3 < 6 → 0 ≤ a4 → a4 < (ps.length : Int) → Row s' r cs → BoxA s' x pp ps b → Kp r s s' → s' q = some (.lst [.int a1, .int a2, .int a3, .int a4]) → Q (.ref q) s') :
    wE prog (wCall prog (n + 1)) (.lc (.call 6 (.cons (.var 0) (.cons (.ix (.lst (.cons (.int 8) (.cons (.int 2000) (.cons (.int 6) (.cons (.bi .len (.cons (.ix (.var 1) (.int 1)) .nil)) .nil))))) (.var 9)) .nil))) (.nm 9) (.r1 (.int 4)) .no [9])
      [some (.ref r), some (.ref x), some d, o3, o4, o5, o6, o7, o8, o9] s Q := by
  have l4 := T.len
  have l1 : ps.length ≤ 16777216 := by omega
  have bn : bnd 4 := ⟨by decide, by decide⟩
  have e4 : rng 0 (4 : Int).toNat = [.int 0, .int 1, .int 2, .int 3] := rfl
  rw [e_lc, it_r1]
  simp only [q_e_int, isI_int, e4]
  refine ⟨bn, trivial, ?_⟩
  simp [B.at_, ix_lst B.at_, len_lst B.tab, l1, sizeLine]
  refine new_in fun q1 s1 n1 h1 k1 => ?_
  simp [ix_lst h1]
  have R1 := R.keep k1
  have B1 := B.ke k1
  refine w_taken n _ R1 (by decide) (by decide) fun a1 s2 u1 v1 R2 m1 => ?_
  have B2 := B1.keep R1 m1
  first | refine ⟨trivial, ?_⟩ | refine ⟨by simp [sizeLine], trivial, ?_⟩
  show wIx (.ref x) (.int 1) s2 _
  rw [ix_lst B2.at_]
  simp [B2.at_, ix_lst B2.at_, len_lst B2.tab, l1, sizeLine]
  refine new_in fun q2 s3 n2 h2 k2 => ?_
  simp [ix_lst h2]
  have R3 := R2.keep k2
  have B3 := B2.ke k2
  refine w_taken n _ R3 (by decide) (by decide) fun a2 s4 u2 v2 R4 m2 => ?_
  have B4 := B3.keep R3 m2
  first | refine ⟨trivial, ?_⟩ | refine ⟨by simp [sizeLine], trivial, ?_⟩
  show wIx (.ref x) (.int 1) s4 _
  rw [ix_lst B4.at_]
  simp [B4.at_, ix_lst B4.at_, len_lst B4.tab, l1, sizeLine]
  refine new_in fun q3 s5 n3 h3 k3 => ?_
  simp [ix_lst h3]
  have R5 := R4.keep k3
  have B5 := B4.ke k3
  refine w_taken n _ R5 (by decide) (by decide) fun a3 s6 u3 v3 R6 m3 => ?_
  have B6 := B5.keep R5 m3
  first | refine ⟨trivial, ?_⟩ | refine ⟨by simp [sizeLine], trivial, ?_⟩
  show wIx (.ref x) (.int 1) s6 _
  rw [ix_lst B6.at_]
  simp [B6.at_, ix_lst B6.at_, len_lst B6.tab, l1, sizeLine]
  refine new_in fun q4 s7 n4 h4 k4 => ?_
  simp [ix_lst h4]
  have R7 := R6.keep k4
  have B7 := B6.ke k4
  refine w_taken n _ R7 (by omega) (by omega) fun a4 s8 u4 v4 R8 m4 => ?_
  have B8 := B7.keep R7 m4
  first | refine ⟨trivial, ?_⟩ | refine ⟨by simp [sizeLine], trivial, ?_⟩
  refine new_in fun q5 s9 n5 h5 k5 => ?_
  exact hQ a1 a2 a3 a4 q5 s9 u1 v1 u2 v2 u3 v3 u4 v4 (R8.keep k5) (B8.ke k5) (k1.k.trans (m1.trans (k2.k.trans (m2.trans (k3.k.trans (m3.trans (k4.k.trans (m4.trans k5.k)))))))) h5
end K14
set_option Elab.async false
set_option linter.all false
set_option maxRecDepth 100000
set_option maxHeartbeats 4000000
namespace K14
open PySem Tk
@[simp] theorem ixN20 : L2.ixN 2 0 = some 0 := rfl
@[simp] theorem ixN30 : L2.ixN 3 0 = some 0 := rfl
theorem Row.putn {s : S} {r x : Addr} {cs : List Int} {o : Ob} (h : Row s r cs) (n : r ≠ x) : Row (put s x o) r cs := by
  obtain ⟨⟨i, a, b, hr, h1⟩, hl⟩ := h
  exact ⟨⟨i, a, b, by rw [put_ne n]; exact hr, h1⟩, hl⟩
theorem BoxA.ne {s : S} {r x pp : Addr} {cs ps : List Int} {b : Int} (R : Row s r cs) (B : BoxA s x pp ps b) : r ≠ x := by
  obtain ⟨⟨i, a, c, hr, h1⟩, hl⟩ := R
  intro e
  rw [e, B.at_] at hr
  injection hr with hr
  injection hr with hr
  simp at hr
theorem W.oks_app {ps : List Int} {d : Nat} : ∀ {as : List W} {w : W}, W.oks ps d as → W.ok ps d w → W.oks ps d (as ++ [w])
  | [], w, _, h => by simp only [List.nil_append, W.oks]; exact ⟨h, trivial⟩
  | a :: as, w, g, h => by
    simp only [W.oks, List.cons_append] at g ⊢
    exact ⟨g.1, W.oks_app g.2 h⟩
theorem W.cs_app : ∀ (as : List W) (w : W), W.cs (as ++ [w]) = W.cs as + w.c
  | [], w => by simp [W.cs]
  | a :: as, w => by simp only [W.cs, List.cons_append, W.cs_app as w]; omega
theorem dbl_of {a : Int} (h0 : 0 ≤ a) (h5 : a < 5) : ∃ k : Fin 5, [D.str "add", D.str "take", D.str "times", D.str "less", D.str "same"][a.toNat]? = some (.str (dblN k)) := by
  refine ⟨⟨a.toNat, by omega⟩, ?_⟩
  have : a.toNat = 0 ∨ a.toNat = 1 ∨ a.toNat = 2 ∨ a.toNat = 3 ∨ a.toNat = 4 := by omega
  rcases this with e | e | e | e | e <;> simp [e, dblN]
theorem ite_in {c : Prop} [Decidable c] {p q : Prop} (a : c → p) (b : ¬c → q) : if c then p else q := by
  by_cases h : c
  · rw [if_pos h]; exact a h
  · rw [if_neg h]; exact b h
/-- any_worth's promise -/
def SpAW (cs ps : List Int) (n d : Nat) : Prop := ∀ (s : S) (r x pp : Addr) (b : Int) (Q : Q1), Row s r cs → BoxA s x pp ps b → 0 ≤ b →
  (∀ (w : W) (s' : S) (b' : Int), W.ok ps d w → 0 ≤ b' → (w.c : Int) - 1 + b' ≤ b → Row s' r cs → BoxA s' x pp ps b' → K2 r x s s' → Q w.d s') → wCall prog n 24 [.ref r, .ref x, .int d] s Q
theorem w_kids {cs ps : List Int} {n d m : Nat} {r x pp : Addr} {step : D → S → (Option D → S → Prop) → Prop} {Qf : List D → S → Prop} (hsp : SpAW cs ps n (d + 1)) (hm : m ≤ 3)
    (hst : ∀ (i : Nat) s K, wCall prog n 24 [.ref r, .ref x, .int ((d : Int) + 1)] s (fun y s' => K (some y) s') → step (.int (0 + (i : Nat))) s K)
    (s : S) (b : Int) (R : Row s r cs) (B : BoxA s x pp ps b) (hb : 0 ≤ b)
    (hQ : ∀ (as : List W) (s' : S) (b' : Int), as.length = m → W.oks ps (d + 1) as → 0 ≤ b' → (W.cs as : Int) - m + b' ≤ b → Row s' r cs → BoxA s' x pp ps b' → K2 r x s s' → Qf (W.ds as) s') :
    lcGo (fun _ => True) step (rng 0 m) [] s Qf := by
  refine lcGo_by (f := fun i : Nat => .int (0 + (i : Nat))) (fun q acc s' => ∃ as b', acc = W.ds as ∧ W.oks ps (d + 1) as ∧ as.length + q.length = m ∧ 0 ≤ b' ∧ (W.cs as : Int) - as.length + b' ≤ b ∧ Row s' r cs ∧ BoxA s' x pp ps b' ∧ K2 r x s s') (fun _ _ _ _ => trivial) ?_ ?_ (List.range m) [] s ⟨[], b, by simp [W.ds], by simp [W.oks], by simp, hb, by simp [W.cs], R, B, K2.refl⟩
  · rintro i q acc s1 K ⟨as, b1, rfl, ho, hl, hb1, hc, R1, B1, k1⟩ kn ks
    simp only [List.length_cons] at hl
    have e : (d : Int) + 1 = ((d + 1 : Nat) : Int) := by omega
    refine ⟨by rw [ds_len]; exact sz (n := as.length + 1) (by omega), hst i s1 _ ?_⟩
    rw [e]
    refine hsp s1 r x pp b1 _ R1 B1 hb1 fun w s2 b2 hw hb2 hc2 R2 B2 k2 => ?_
    refine ks w.d s2 ⟨as ++ [w], b2, by rw [ds_map, ds_map, List.map_append]; rfl, W.oks_app ho hw, by simp; omega, hb2, ?_, R2, B2, k1.trans k2⟩
    rw [W.cs_app]
    simp only [List.length_append, List.length_singleton]
    push_cast
    omega
  · rintro acc s1 ⟨as, b1, rfl, ho, hl, hb1, hc, R1, B1, k1⟩
    simp only [List.length_nil, Nat.add_zero] at hl
    exact hQ as s1 b1 hl ho hb1 (by rw [← hl]; exact hc) R1 B1 k1
theorem w_anyw {cs ps : List Int} (T : Tb ps) (hp : 1 ≤ ps.length) : ∀ (k d n : Nat), d ≤ 3 → 4 - d ≤ k → k + 1 ≤ n → SpAW cs ps n d
  | 0, d, n, h, g, _ => by omega
  | k + 1, d, n, h, g, hn => by
    obtain ⟨n, rfl⟩ : ∃ n', n = n' + 2 := ⟨n - 2, by omega⟩
    intro s r x pp b Q R B hb hQ
    have l4 := T.len
    have l1 : ps.length ≤ 16777216 := by omega
    rw [call_eqn (p := 3) (m := 10) (b := b__law_any_worth) rfl]
    simp [b__law_any_worth]
    refine w_four n _ R B T hp fun a1 a2 a3 a4 q s1 u1 v1 u2 v2 u3 v3 u4 v4 R1 B1 m1 hq => ?_
    simp [seqOf_ref hq, ix_lst B1.at_, ix_lst B1.tab]
    have hne := B1.ne R1
    have ha4 : (ps.map D.int)[a4.toNat]? = some (.int ps[a4.toNat]!) := by
      rw [List.getElem?_map, List.getElem?_eq_getElem (by omega : a4.toNat < ps.length)]
      simp [getElem!_pos, (by omega : a4.toNat < ps.length)]
    have e4 : a4 = (a4.toNat : Int) := by omega
    have hmany : 0 ≤ ps[a4.toNat]! ∧ ps[a4.toNat]! ≤ 3 := by
      refine T.le _ ?_
      rw [getElem!_pos ps a4.toNat (by omega)]
      exact List.getElem_mem _
    have go : ∀ (m : Int), 0 ≤ m → m ≤ 3 → (a1 = 7 → ps[a4.toNat]? = some m) → (a1 ≠ 7 → m = 2) → wSs prog (wCall prog (n + 1)) (b__law_any_worth.drop 2) ⟨fun _ s' => Q .non s', Q, fun _ _ => False, fun _ _ => False⟩
        [some (D.ref r), some (D.ref x), some (D.int d), some (.int m), none, some (D.int a1), some (D.int a2), some (D.int a3), some (D.int a4), none] s1 := fun m m0 m3 h7 h2 => by
      have K0 : K2 r x s s1 := m1.k2
      have fnum : ∀ (s' : S), s' = s1 → Q (.tup [.str (Str.ofString "num"), .int (a2 - 1000)]) s' := fun s' e => by
        subst e
        exact hQ (.num (a2 - 1000)) s' b (by unfold W.ok; omega) hb (by simp [W.c]) R1 B1 K0
      simp [b__law_any_worth, s_ifE, sizeLine, ix_lst B1.at_]
      have heavy : 1 < a1 → m ≤ b → (d = 3 → m = 0) → wISet (D.ref x) (D.int 0) (D.int (b - m)) s1 fun s4 =>
          wE prog (wCall prog (n + 1)) ((E.call 24 (Es.cons (E.var 0) (Es.cons (E.var 1) (Es.cons (E.bin BOp.add (E.var 2) (E.int 1)) Es.nil)))).lc (G.nm 9) (It.r1 (E.var 3)) O.no [9])
            [some (D.ref r), some (D.ref x), some (D.int ↑d), some (D.int m), none, some (D.int a1), some (D.int a2), some (D.int a3), some (D.int a4), none]
            s4 fun x s1 =>
            wBI BI.tuple [x] s1 fun x s1 =>
              if a1 = 7 then Q (D.tup [D.str (Str.ofString "call"), D.int a4, x]) s1
              else
                new s1 (Ob.lst [D.str (Str.ofString "add"), D.str (Str.ofString "take"), D.str (Str.ofString "times"), D.str (Str.ofString "less"), D.str (Str.ofString "same")])
                  fun x_1 s1 => wIx x_1 (D.int (a1 - 2)) s1 fun x_2 s1 => wBin BOp.add (D.tup [x_2]) x s1 Q := fun c1 c2 c3 => by
        have bn : bnd m := ⟨by omega, by omega⟩
        have ed : (d : Int) + 1 = ((d + 1 : Nat) : Int) := by omega
        have em : (m.toNat : Int) = m := by omega
        rw [iset_lst B1.at_]
        simp [e_lc, bn]
        have B2 : BoxA (put s1 x (.lst [.int (b - m), .ref pp])) x pp ps (b - m) := B1.set
        have fin : ∀ (as : List W) (s' : S) (b' : Int), (as.length : Int) = m → (as ≠ [] → d < 3) → W.oks ps (d + 1) as → 0 ≤ b' → (W.cs as : Int) - m + b' ≤ b - m → Row s' r cs → BoxA s' x pp ps b' → K2 r x s s' → new s' (.lst (W.ds as)) fun x s1 => wBI BI.tuple [x] s1 fun x s1 =>
              if a1 = 7 then Q (D.tup [D.str (Str.ofString "call"), D.int a4, x]) s1
              else
                new s1 (Ob.lst [D.str (Str.ofString "add"), D.str (Str.ofString "take"), D.str (Str.ofString "times"), D.str (Str.ofString "less"), D.str (Str.ofString "same")])
                  fun x_1 s1 => wIx x_1 (D.int (a1 - 2)) s1 fun x_2 s1 => wBin BOp.add (D.tup [x_2]) x s1 Q := fun as s' b' hl hd ho hb' hc R3 B3 k3 => by
          refine new_in fun q1 s4 n4 h4 k4 => ?_
          have R4 := R3.keep k4
          have B4 := B3.ke k4
          have K4 := k3.trans (Ke.k2 (r := r) (x := x) k4)
          show got (seqOf s4 (.ref q1)) _
          rw [seqOf_ref h4, got_some]
          by_cases e7 : a1 = 7
          · show (if a1 = 7 then _ else _)
            rw [if_pos e7]
            refine hQ (.call a4 as) s4 b' ?_ hb' (by simp only [W.c]; push_cast; omega) R4 B4 K4
            unfold W.ok
            exact ⟨h, u4, by rw [h7 e7, hl], ho⟩
          · show (if a1 = 7 then _ else _)
            rw [if_neg e7]
            refine new_in fun q2 s5 n5 h5 k5 => ?_
            rw [ix_lst h5]
            have R5 := R4.keep k5
            have B5 := B4.ke k5
            have K5 := K4.trans (Ke.k2 (r := r) (x := x) k5)
            have e2 := h2 e7
            obtain ⟨kk, hk⟩ := dbl_of (a := a1 - 2) (by omega) (by omega)
            rw [at_nat (i := (a1 - 2).toNat) (by omega) hk]
            obtain ⟨w1, w2, rfl⟩ : ∃ w1 w2, as = [w1, w2] := by
              match as, hl with
              | [], hl => simp at hl; omega
              | [_], hl => simp at hl; omega
              | [w1, w2], _ => exact ⟨w1, w2, rfl⟩
              | _ :: _ :: _ :: _, hl => simp at hl; omega
            simp only [W.oks] at ho
            rw [b_addT]
            refine ⟨by rw [ds_len]; simp [sizeLine], ?_⟩
            refine hQ (.dbl kk w1 w2) s5 b' ?_ hb' (by simp only [W.c, W.cs] at hc ⊢; push_cast at hc ⊢; omega) R5 B5 K5
            unfold W.ok
            exact ⟨h, ho.1, ho.2.1⟩
        by_cases hd : d = 3
        · have e0 := c3 hd
          subst e0
          exact ⟨trivial, fin [] _ (b - 0) (by simp) (by simp) (by simp [W.oks]) (by omega) (by simp [W.cs]) (R1.putn hne) B2 (K0.trans K2.set)⟩
        · refine w_kids (w_anyw T hp k (d + 1) (n + 1) (by omega) (by omega) (by omega)) (by omega) (fun i s K w => ?_) _ (b - m) (R1.putn hne) B2 (by omega) fun as s' b' hl ho hb' hc R3 B3 k3 => ?_
          · simpa using w
          · exact fin as s' b' (by omega) (fun _ => by omega) ho hb' (by omega) R3 B3 (K0.trans (K2.set.trans k3))
      have fvar : a1 = 1 → Q (.tup [.str (Str.ofString "var"), .int a3]) s1 := fun e => 
        hQ (.var a3) s1 b (by unfold W.ok; omega) hb (by simp [W.c]) R1 B1 K0
      repeat' (refine ite_in (fun _ => ?_) (fun _ => ?_))
      all_goals first | exact fnum _ rfl | exact fvar (by assumption) | exact heavy (by omega) (by omega) (by omega)
    by_cases h7 : a1 = 7
    · rw [if_pos h7, at_nat e4 ha4]
      exact go _ hmany.1 hmany.2 (fun _ => by rw [getElem!_pos ps a4.toNat (by omega)]; exact List.getElem?_eq_getElem _) (fun h => absurd h7 h)
    · rw [if_neg h7]
      exact go 2 (by decide) (by decide) (fun h => absurd h h7) (fun _ => rfl)
end K14
set_option Elab.async false
set_option linter.all false
set_option maxRecDepth 100000
set_option maxHeartbeats 4000000
namespace K14
open PySem Tk
/-- a comprehension over plain items as they are -/
theorem lcGo_id {chk : S → Prop} {step : D → S → (Option D → S → Prop) → Prop} {Q : List D → S → Prop} (I : List D → List D → S → Prop) (hc : ∀ r acc s, I r acc s → chk s)
    (hs : ∀ x r acc s K, I (x :: r) acc s → (∀ s', I r acc s' → K none s') → (∀ y s', I r (acc ++ [y]) s' → K (some y) s') → acc.length < sizeLine ∧ step x s K) (hQ : ∀ acc s, I [] acc s → Q acc s)
    (xs : List D) (acc : List D) (s : S) (h : I xs acc s) : lcGo chk step xs acc s Q := by
  have := lcGo_by (f := id) I hc hs hQ xs acc s h
  rwa [List.map_id] at this
theorem forGo_id {chk : S → Prop} {g : G} {body : En → LS → S → Prop} {K : En} (I : List D → LS → S → Prop) (hc : ∀ r ρ s, I r ρ s → chk s)
    (hs : ∀ x r ρ s (N : LS → S → Prop), I (x :: r) ρ s → (∀ ρ' s', I r ρ' s' → N ρ' s') → wG g x s ρ fun ρ' s' => body { K with nx := N, ct := N, bk := K.nx } ρ' s') (hQ : ∀ ρ s, I [] ρ s → K.nx ρ s)
    (xs : List D) (ρ : LS) (s : S) (h : I xs ρ s) : forGo chk g body K xs ρ s := by
  have := forGo_by (f := id) I hc hs hQ xs ρ s h
  rwa [List.map_id] at this
/-- numbers, texts, tuples of such, at most k deep, however long -/
def Pq : Nat → D → Prop
  | _, .int _ => True
  | _, .str x => PyData.strOk x = true
  | k + 1, .tup ds => ∀ d ∈ ds, Pq k d
  | _, _ => False
theorem Pq.int {k : Nat} {i : Int} : Pq k (.int i) := by cases k <;> trivial
theorem Pq.str {k : Nat} {x : Str} (h : PyData.strOk x = true) : Pq k (.str x) := by cases k <;> exact h
theorem Pq.pure : ∀ {k : Nat} {d : D}, Pq k d → Pure k d
  | k, .int i, _ => .int
  | k, .str x, h => .str (by cases k <;> exact h)
  | k + 1, .tup ds, h => .tup (Pures.all fun x hx => Pq.pure (h x hx))
  | 0, .tup _, h => h.elim
  | k, .non, h => by cases k <;> exact h.elim
  | k, .bl _, h => by cases k <;> exact h.elim
  | k, .fz _, h => by cases k <;> exact h.elim
  | k, .ref _, h => by cases k <;> exact h.elim
theorem Pq.mono : ∀ {k m : Nat} {d : D}, Pq k d → k ≤ m → Pq m d
  | k, m, .int _, _, _ => .int
  | k, m, .str x, h, _ => .str (by cases k <;> exact h)
  | k + 1, m + 1, .tup ds, h, g => fun d hd => Pq.mono (h d hd) (by omega)
  | 0, _, .tup _, h, _ => h.elim
  | k + 1, 0, .tup _, _, g => by omega
  | k, _, .non, h, _ => by cases k <;> exact h.elim
  | k, _, .bl _, h, _ => by cases k <;> exact h.elim
  | k, _, .fz _, h, _ => by cases k <;> exact h.elim
  | k, _, .ref _, h, _ => by cases k <;> exact h.elim
theorem Pq.of2 {k : Nat} {a b : D} (ha : Pq k a) (hb : Pq k b) : Pq (k + 1) (.tup [a, b]) := fun d hd => by
  simp only [List.mem_cons, List.not_mem_nil, or_false] at hd
  rcases hd with rfl | rfl <;> assumption
theorem Pq.of3 {k : Nat} {a b c : D} (ha : Pq k a) (hb : Pq k b) (hc : Pq k c) : Pq (k + 1) (.tup [a, b, c]) := fun d hd => by
  simp only [List.mem_cons, List.not_mem_nil, or_false] at hd
  rcases hd with rfl | rfl | rfl <;> assumption
theorem Pq.of4 {k : Nat} {a b c d : D} (ha : Pq k a) (hb : Pq k b) (hc : Pq k c) (hd : Pq k d) : Pq (k + 1) (.tup [a, b, c, d]) := fun e he => by
  simp only [List.mem_cons, List.not_mem_nil, or_false] at he
  rcases he with rfl | rfl | rfl | rfl <;> assumption
theorem W.pq {ps : List Int} : ∀ (k : Nat) {w : W} {d : Nat}, W.ok ps d w → 4 - d ≤ k → Pq (2 * k) w.d
  | 0, w, d, h, g => by have := W.ok_le h; omega
  | k + 1, .num n, d, h, g => by unfold W.d; exact (Pq.of2 (.str (ofs_ok _)) .int : Pq (2 * k + 1 + 1) _)
  | k + 1, .var n, d, h, g => by unfold W.d; exact (Pq.of2 (.str (ofs_ok _)) .int : Pq (2 * k + 1 + 1) _)
  | k + 1, .dbl n a b, d, h, g => by
    unfold W.d
    have hd := W.ok_le h
    unfold W.ok at h
    exact (Pq.of3 (.str (dbl_ok n)) ((W.pq k h.2.1 (by omega)).mono (by omega)) ((W.pq k h.2.2 (by omega)).mono (by omega)) : Pq (2 * k + 1 + 1) _)
  | k + 1, .call c as, d, h, g => by
    unfold W.d
    have hd := W.ok_le h
    unfold W.ok at h
    have hs : ∀ (as : List W), W.oks ps (d + 1) as → ∀ x ∈ W.ds as, Pq (2 * k) x := by
      intro as
      induction as with
      | nil => intro _ x hx; simp [W.ds] at hx
      | cons w r ih =>
        intro h x hx
        unfold W.oks at h
        simp only [W.ds, List.mem_cons] at hx
        rcases hx with rfl | hx
        · exact W.pq k h.1 (by omega)
        · exact ih h.2 x hx
    exact (Pq.of3 (.str (ofs_ok _)) .int (show Pq (2 * k + 1) (.tup _) from hs as h.2.2.2) : Pq (2 * k + 1 + 1) _)
theorem Dd.pq {ps : List Int} : ∀ (k : Nat) {w : Dd} {d : Nat}, Dd.ok ps d w → 4 - d ≤ k → Pq (2 * k + 8) w.d
  | 0, w, d, h, g => by have := Dd.ok_le h; omega
  | k + 1, .lt v w, d, h, g => by
    unfold Dd.d
    unfold Dd.ok at h
    exact Pq.mono (Pq.of3 (.str (ofs_ok _)) .int ((W.pq 4 h.2.2.2 (by omega)).mono (by omega)) : Pq (2 * k + 8 + 1 + 1) _) (by omega)
  | k + 1, .whl t b, d, h, g => by
    unfold Dd.d
    have hd := Dd.ok_le h
    unfold Dd.ok at h
    have hb : Pq (2 * k + 8 + 1) (.tup (Dd.ds b)) := fun x hx => by
      rw [Dd.ds_map] at hx
      obtain ⟨y, hy, rfl⟩ := List.mem_map.mp hx
      exact Dd.pq k (Dd.oks_all h.2.2 y hy) (by omega)
    exact Pq.mono (Pq.of3 (.str (ofs_ok _)) ((W.pq 4 h.2.1 (by omega)).mono (by omega)) hb : Pq (2 * k + 8 + 1 + 1) _) (by omega)
  | k + 1, .ife t a b, d, h, g => by
    unfold Dd.d
    have hd := Dd.ok_le h
    unfold Dd.ok at h
    have hs : ∀ b, Dd.oks ps (d + 1) b → Pq (2 * k + 8 + 1) (.tup (Dd.ds b)) := fun b hb x hx => by
      rw [Dd.ds_map] at hx
      obtain ⟨y, hy, rfl⟩ := List.mem_map.mp hx
      exact Dd.pq k (Dd.oks_all hb y hy) (by omega)
    exact Pq.mono (Pq.of4 (.str (ofs_ok _)) ((W.pq 4 h.2.1 (by omega)).mono (by omega)) (hs a h.2.2.1) (hs b h.2.2.2) : Pq (2 * k + 8 + 1 + 1) _) (by omega)
@[simp] theorem c_neU0 {s : S} {Q : Q1} : wCmp .ne (.tup []) (.tup []) s Q = Q (.bl false) s := by
  show (_ ∧ _ ∧ _) = _
  exact propext ⟨fun h => h.2.2, fun h => ⟨rfl, rfl, h⟩⟩
/-- how many deeds and expressions there are -/
def hd1 : List D → Nat
  | .str _ :: _ => 1
  | _ => 0
mutual
def th : D → Nat
  | .tup ds => hd1 ds + ths ds
  | _ => 0
def ths : List D → Nat
  | [] => 0
  | d :: r => th d + ths r
end
theorem w_things : ∀ (k : Nat) (ds : List D) (n : Nat), (∀ d ∈ ds, Pq k d) → k ≤ 60 → k + 1 ≤ n → ∀ (s : S) (Q : Q1), Q (.int (ths ds)) s → wCall prog n 10 [.tup ds] s Q := by
  intro k
  induction k with
  | zero =>
    intro ds n h _ hn s Q hQ
    obtain ⟨n, rfl⟩ : ∃ n', n = n' + 1 := ⟨n - 1, by omega⟩
    rw [call_eqn (p := 1) (m := 3) (b := b__law_things) rfl]
    simp [b__law_things, s_forE, wVal]
    refine forGo_id (fun q ρ s' => (∀ d ∈ q, Pq 0 d) ∧ s' = s ∧ ∃ (t : Nat) (o : Option D), ρ = [some (.tup ds), some (.int t), o] ∧ t + ths q = ths ds) (fun _ _ _ _ => trivial) ?_ ?_ ds _ s ⟨h, rfl, 0, none, rfl, by simp⟩
    · rintro x q _ s1 N ⟨hq, rfl, t, o, rfl, ht⟩ hN
      have hx := hq x (List.mem_cons_self ..)
      cases x with
      | int i =>
        simp [s_ifE, isTy]
        exact hN _ _ ⟨fun d hd => hq d (List.mem_cons_of_mem _ hd), rfl, t, _, rfl, by simpa [ths, th] using ht⟩
      | str i =>
        simp [s_ifE, isTy]
        exact hN _ _ ⟨fun d hd => hq d (List.mem_cons_of_mem _ hd), rfl, t, _, rfl, by simpa [ths, th] using ht⟩
      | _ => exact hx.elim
    · rintro _ _ ⟨_, rfl, t, o, rfl, ht⟩
      simp [ths] at ht
      subst ht
      simpa using hQ
  | succ k ih =>
    intro ds n h hk hn s Q hQ
    obtain ⟨n, rfl⟩ : ∃ n', n = n' + 1 := ⟨n - 1, by omega⟩
    rw [call_eqn (p := 1) (m := 3) (b := b__law_things) rfl]
    simp [b__law_things, s_forE, wVal]
    refine forGo_id (fun q ρ s' => (∀ d ∈ q, Pq (k + 1) d) ∧ s' = s ∧ ∃ (t : Nat) (o : Option D), ρ = [some (.tup ds), some (.int t), o] ∧ t + ths q = ths ds) (fun _ _ _ _ => trivial) ?_ ?_ ds _ s ⟨h, rfl, 0, none, rfl, by simp⟩
    · rintro x q _ s1 N ⟨hq, rfl, t, o, rfl, ht⟩ hN
      have hx := hq x (List.mem_cons_self ..)
      cases x with
      | int i =>
        simp [s_ifE, isTy]
        exact hN _ _ ⟨fun d hd => hq d (List.mem_cons_of_mem _ hd), rfl, t, _, rfl, by simpa [ths, th] using ht⟩
      | str i =>
        simp [s_ifE, isTy]
        exact hN _ _ ⟨fun d hd => hq d (List.mem_cons_of_mem _ hd), rfl, t, _, rfl, by simpa [ths, th] using ht⟩
      | tup es =>
        have pu := (Pq.pure hx).mono (show k + 1 ≤ 64 by omega)
        have go : ∀ (u : Nat), u = t + hd1 es → wCall prog n 10 [.tup es] s1 fun y s1 => wBin .add (.int u) y s1 fun x s2 => N [some (.tup ds), some x, some (.tup es)] s2 := fun u hu => by
          refine ih es n hx (by omega) (by omega) s1 _ ?_
          rw [b_addI]
          exact hN _ _ ⟨fun d hd => hq d (List.mem_cons_of_mem _ hd), rfl, u + ths es, _, by push_cast; rfl, by simp only [ths, th] at ht; omega⟩
        cases es with
        | nil =>
          simp [s_ifE, isTy]
          exact go t (by simp [hd1])
        | cons y r =>
          have hy := hx y (List.mem_cons_self ..)
          cases y with
          | str z =>
            simp [s_ifE, isTy, c_neU pu]
            exact go (t + 1) (by simp [hd1])
          | int z =>
            simp [s_ifE, isTy, c_neU pu]
            exact go t (by simp [hd1])
          | tup z =>
            simp [s_ifE, isTy, c_neU pu]
            exact go t (by simp [hd1])
          | _ => cases k <;> exact hy.elim
      | _ => exact hx.elim
    · rintro _ _ ⟨_, rfl, t, o, rfl, ht⟩
      simp [ths] at ht
      subst ht
      simpa using hQ
@[simp] theorem hd1_str {z : Str} {r : List D} : hd1 (.str z :: r) = 1 := rfl
theorem W.hd (w : W) : ∃ z r, w.d = .tup (.str z :: r) := by cases w <;> exact ⟨_, _, rfl⟩
theorem hd_ds (as : List W) : hd1 (W.ds as) = 0 := by
  cases as with
  | nil => rfl
  | cons a r => obtain ⟨z, t, e⟩ := a.hd; simp only [W.ds, e]; rfl
mutual
theorem th_w : ∀ w : W, th w.d = w.c
  | .num n => rfl
  | .var n => rfl
  | .dbl k a b => by
    simp only [W.d, th, ths, hd1_str, W.c, th_w a, th_w b]; omega
  | .call c as => by
    simp only [W.d, th, ths, hd1_str, W.c, hd_ds, ths_w as]; omega
theorem ths_w : ∀ as : List W, ths (W.ds as) = W.cs as
  | [] => rfl
  | w :: r => by simp only [W.ds, ths, W.cs, th_w w, ths_w r]
end
theorem Dd.hd (w : Dd) : ∃ z r, w.d = .tup (.str z :: r) := by cases w <;> exact ⟨_, _, rfl⟩
theorem hd_dds (as : List Dd) : hd1 (Dd.ds as) = 0 := by
  cases as with
  | nil => rfl
  | cons a r => obtain ⟨z, t, e⟩ := a.hd; simp only [Dd.ds, e]; rfl
mutual
theorem th_d : ∀ w : Dd, th w.d = w.c
  | .lt v w => by simp only [Dd.d, th, ths, hd1_str, Dd.c, th_w w]; omega
  | .whl t b => by simp only [Dd.d, th, ths, hd1_str, Dd.c, th_w t, hd_dds, ths_d b]; omega
  | .ife t a b => by simp only [Dd.d, th, ths, hd1_str, Dd.c, th_w t, hd_dds, ths_d a, ths_d b]; omega
theorem ths_d : ∀ as : List Dd, ths (Dd.ds as) = Dd.cs as
  | [] => rfl
  | w :: r => by simp only [Dd.ds, ths, Dd.cs, th_d w, ths_d r]
end
end K14
set_option Elab.async false
set_option linter.all false
set_option maxRecDepth 100000
set_option maxHeartbeats 4000000
namespace K14
open PySem Tk
/-- the box of the first way: what is left, the table, which may be called -/
structure Bx (s : S) (x pp cc : Addr) (ps cl : List Int) (b : Int) : Prop where
  at_ : s x = some (.lst [.int b, .ref pp, .ref cc])
  tab : s pp = some (.lst (ps.map D.int))
  cal : s cc = some (.lst (cl.map D.int))
theorem ints_mem {ps : List Int} {d : D} (h : d ∈ ps.map D.int) : ∃ i, d = .int i := by
  obtain ⟨i, _, e⟩ := List.mem_map.mp h
  exact ⟨i, e.symm⟩
theorem lst_inj {s : S} {p : Addr} {a b : List D} (h : s p = some (.lst a)) (g : s p = some (.lst b)) : a = b := by
  rw [h] at g; injection g with g; injection g
theorem Bx.keep {s s' : S} {x pp cc r : Addr} {ps cl cs : List Int} {b : Int} (h : Bx s x pp cc ps cl b) (R : Row s r cs) (k : Kp r s s') : Bx s' x pp cc ps cl b := by
  obtain ⟨⟨i, a, c, hr, _⟩, _⟩ := R
  refine ⟨k _ _ (fun e => ?_) h.at_, k _ _ (fun e => ?_) h.tab, k _ _ (fun e => ?_) h.cal⟩
  · subst e; have := lst_inj hr h.at_; simp at this
  · subst e; have := lst_inj hr h.tab; obtain ⟨_, e⟩ := ints_mem (d := .fz (cs.map D.int)) (by rw [← this]; simp); cases e
  · subst e; have := lst_inj hr h.cal; obtain ⟨_, e⟩ := ints_mem (d := .fz (cs.map D.int)) (by rw [← this]; simp); cases e
theorem Bx.ke {s s' : S} {x pp cc : Addr} {ps cl : List Int} {b : Int} (h : Bx s x pp cc ps cl b) (k : Ke s s') : Bx s' x pp cc ps cl b := ⟨k _ _ h.at_, k _ _ h.tab, k _ _ h.cal⟩
theorem Bx.set {s : S} {x pp cc : Addr} {ps cl : List Int} {b c : Int} (h : Bx s x pp cc ps cl b) : Bx (put s x (.lst [.int c, .ref pp, .ref cc])) x pp cc ps cl c := by
  refine ⟨put_same, ?_, ?_⟩
  · rw [put_ne fun e => ?_]
    · exact h.tab
    · subst e; have := lst_inj h.at_ h.tab; obtain ⟨_, e⟩ := ints_mem (d := .ref pp) (by rw [← this]; simp); cases e
  · rw [put_ne fun e => ?_]
    · exact h.cal
    · subst e; have := lst_inj h.at_ h.cal; obtain ⟨_, e⟩ := ints_mem (d := .ref cc) (by rw [← this]; simp); cases e
theorem Bx.ne {s : S} {r x pp cc : Addr} {cs ps cl : List Int} {b : Int} (R : Row s r cs) (B : Bx s x pp cc ps cl b) : r ≠ x := by
  obtain ⟨⟨i, a, c, hr, h1⟩, hl⟩ := R
  intro e; subst e; have := lst_inj hr B.at_; simp at this
/-- worth's promise -/
def SpW1 (cs ps cl : List Int) (n e : Nat) : Prop := ∀ (s : S) (r x pp cc : Addr) (b : Int) (Q : Q1), Row s r cs → Bx s x pp cc ps cl b →
  (∀ (w : W) (s' : S) (b' : Int), (∀ d, d + e ≤ 3 → W.ok ps d w) → Row s' r cs → Bx s' x pp cc ps cl b' → K2 r x s s' → Q w.d s') → wCall prog n 9 [.ref r, .ref x, .int e] s Q
theorem w_kids1 {cs ps cl : List Int} {n e m : Nat} {r x pp cc : Addr} {step : D → S → (Option D → S → Prop) → Prop} {Qf : List D → S → Prop} (hsp : SpW1 cs ps cl n e) (hm : m ≤ 3)
    (hst : ∀ (i : Nat) s K, wCall prog n 9 [.ref r, .ref x, .int e] s (fun y s' => K (some y) s') → step (.int (0 + (i : Nat))) s K)
    (s : S) (b : Int) (R : Row s r cs) (B : Bx s x pp cc ps cl b)
    (hQ : ∀ (as : List W) (s' : S) (b' : Int), as.length = m → (∀ d, d + e ≤ 3 → W.oks ps d as) → Row s' r cs → Bx s' x pp cc ps cl b' → K2 r x s s' → Qf (W.ds as) s') :
    lcGo (fun _ => True) step (rng 0 m) [] s Qf := by
  refine lcGo_by (f := fun i : Nat => .int (0 + (i : Nat))) (fun q acc s' => ∃ as b', acc = W.ds as ∧ (∀ d, d + e ≤ 3 → W.oks ps d as) ∧ as.length + q.length = m ∧ Row s' r cs ∧ Bx s' x pp cc ps cl b' ∧ K2 r x s s') (fun _ _ _ _ => trivial) ?_ ?_ (List.range m) [] s ⟨[], b, by simp [W.ds], by simp [W.oks], by simp, R, B, K2.refl⟩
  · rintro i q acc s1 K ⟨as, b1, rfl, ho, hl, R1, B1, k1⟩ kn ks
    simp only [List.length_cons] at hl
    refine ⟨by rw [ds_len]; exact sz (n := as.length + 1) (by omega), hst i s1 _ (hsp s1 r x pp cc b1 _ R1 B1 fun w s2 b2 hw R2 B2 k2 => ?_)⟩
    exact ks w.d s2 ⟨as ++ [w], b2, by rw [ds_map, ds_map, List.map_append]; rfl, fun d hd => W.oks_app (ho d hd) (hw d hd), by simp; omega, R2, B2, k1.trans k2⟩
  · rintro acc s1 ⟨as, b1, rfl, ho, hl, R1, B1, k1⟩
    simp only [List.length_nil, Nat.add_zero] at hl
    exact hQ as s1 b1 hl ho R1 B1 k1
/-- which may be called -/
structure Cl (ps cl : List Int) : Prop where
  len : cl.length ≤ 4
  ok : ∀ c ∈ cl, 0 ≤ c ∧ c < (ps.length : Int)
/-- draws one of two numbers -/
theorem w_pick2 {s : S} {r : Addr} {cs : List Int} {a b : Int} (n : Nat) (Q : Q1) (R : Row s r cs) (hQ : ∀ v s', v = a ∨ v = b → Row s' r cs → Kp r s s' → Q (.int v) s') :
    new s (.lst [.int a, .int b]) fun x s1 => wCall prog (n + 1) 6 [.ref r, .int 2] s1 fun y s2 => wIx x y s2 Q := by
  refine new_in fun q s1 n1 h1 k1 => ?_
  refine w_taken n _ (R.keep k1) (by decide) (by decide) fun u s2 u0 u1 R2 m2 => ?_
  have hq : s2 q = some (.lst [.int a, .int b]) := by
    refine m2 q _ (fun e => ?_) h1
    subst e
    obtain ⟨⟨i, a, b, hr, _⟩, _⟩ := R
    rw [n1] at hr; cases hr
  have hu : u = 0 ∨ u = 1 := by omega
  rcases hu with rfl | rfl
  · simp [ix_lst hq]
    exact hQ _ s2 (.inl rfl) R2 (k1.k.trans m2)
  · simp [ix_lst hq]
    exact hQ _ s2 (.inr rfl) R2 (k1.k.trans m2)
/-- draws one of the words -/
theorem w_pick5 {s : S} {r : Addr} {cs : List Int} (n : Nat) (Q : Q1) (R : Row s r cs) (hQ : ∀ k s', Row s' r cs → Kp r s s' → Q (.str (dblN k)) s') :
    new s (.lst [.str "add", .str "take", .str "times", .str "less", .str "same"]) fun x s1 => wCall prog (n + 1) 6 [.ref r, .int 5] s1 fun y s2 => wIx x y s2 Q := by
  refine new_in fun q s1 n1 h1 k1 => ?_
  refine w_taken n _ (R.keep k1) (by decide) (by decide) fun u s2 u0 u1 R2 m2 => ?_
  have hq : s2 q = some (.lst [.str "add", .str "take", .str "times", .str "less", .str "same"]) := by
    refine m2 q _ (fun e => ?_) h1
    subst e
    obtain ⟨⟨i, a, b, hr, _⟩, _⟩ := R
    rw [n1] at hr; cases hr
  obtain ⟨k, hk⟩ := dbl_of u0 u1
  rw [ix_lst hq, at_nat (i := u.toNat) (by omega) hk]
  exact hQ k s2 R2 (k1.k.trans m2)
/-- draws a variable -/
theorem w_drawv {s : S} {r : Addr} {cs : List Int} (n : Nat) (Q : Q1) (R : Row s r cs) (hQ : ∀ v s', 0 ≤ v → v < 6 → Row s' r cs → Kp r s s' → Q (.int v) s') :
    new s (.lst [.int 3, .int 6]) fun x s1 => wCall prog (n + 1) 6 [.ref r, .int 2] s1 fun y s2 => wIx x y s2 fun x s1 => wCall prog (n + 1) 6 [.ref r, x] s1 Q :=
  w_pick2 n _ R fun v s1 hv R1 k1 => w_taken n _ R1 (by omega) (by omega) fun u s2 u0 u1 R2 k2 => hQ u s2 u0 (by omega) R2 (k1.trans k2)
theorem w_leaf1 {s : S} {r : Addr} {cs : List Int} {v : Int} (n : Nat) (Q : Q1) (R : Row s r cs) (hQ : ∀ w s', (∀ d ps, d ≤ 3 → W.ok ps d w) → Row s' r cs → Kp r s s' → Q w.d s') :
    if v % 3 = 0 then wCall prog (n + 2) 26 [D.ref r] s fun x s1 => 2 ≤ sizeLine ∧ Q (D.tup [D.str (Str.ofString "num"), x]) s1
    else 2 ≤ sizeLine ∧ new s (Ob.lst [D.int 3, D.int 6]) fun x s1 => wCall prog (n + 2) 6 [D.ref r, D.int 2] s1 fun y s2 => wIx x y s2 fun x s1 => wCall prog (n + 2) 6 [D.ref r, x] s1 fun x s1 => 2 ≤ sizeLine ∧ Q (D.tup [D.str (Str.ofString "var"), x]) s1 := by
  refine ite_in (fun _ => ?_) (fun _ => ⟨sz (by decide), ?_⟩)
  · exact w_lnum n _ R fun v s1 v0 v1 R1 k1 => ⟨sz (by decide), hQ (.num v) s1 (fun d ps hd => by unfold W.ok; omega) R1 k1⟩
  · exact w_drawv (n + 1) _ R fun v s1 v0 v1 R1 k1 => ⟨sz (by decide), hQ (.var v) s1 (fun d ps hd => by unfold W.ok; omega) R1 k1⟩
/-- a list beside an empty one -/
theorem wEq_nil {neg : Bool} {s : S} {p q : Addr} {ds : List D} {Q : Q1} (h : s p = some (.lst ds)) (g : s q = some (.lst [])) (hp : Pures 60 ds) : wEq neg (.ref p) (.ref q) s Q = Q (.bl (if neg then !ds.isEmpty else ds.isEmpty)) s := by
  cases ds with
  | nil => rw [c_eqLL h g]; cases neg <;> rfl
  | cons x xs =>
    obtain ⟨ps, h1, h2, h3⟩ := hp
    have e : ∃ a b, ps = a :: b := by
      unfold purePs at h1
      split at h1
      · cases h1; exact ⟨_, _, rfl⟩
      · cases h1
    obtain ⟨a, b, rfl⟩ := e
    unfold wEq toP
    simp only [h, g, h1, Option.map_some, got_some]
    have e1 : SeqAt.shaped (.list (a :: b)) = true := Pure.shaped h2 (by show _ + 1 ≤ 64; omega)
    have e2 : PyData.eqv (.list (a :: b)) (.list []) = false := by simp [PyData.eqv, PyData.eqvAll]
    show (SeqAt.shaped (.list (a :: b)) = true ∧ SeqAt.shaped (.list []) = true ∧ _) = _
    rw [e1, e2]
    cases neg <;> exact propext ⟨fun h => h.2.2, fun h => ⟨rfl, rfl, h⟩⟩
theorem c_eqnil {s : S} {p q : Addr} {ds : List D} {Q : Q1} (h : s p = some (.lst ds)) (g : s q = some (.lst [])) (hp : Pures 60 ds) : wCmp .eq (.ref p) (.ref q) s Q = Q (.bl ds.isEmpty) s := by
  show wEq false _ _ s Q = _
  rw [wEq_nil h g hp]; rfl
theorem c_nenil {s : S} {p q : Addr} {ds : List D} {Q : Q1} (h : s p = some (.lst ds)) (g : s q = some (.lst [])) (hp : Pures 60 ds) : wCmp .ne (.ref p) (.ref q) s Q = Q (.bl (!ds.isEmpty)) s := by
  show wEq true _ _ s Q = _
  rw [wEq_nil h g hp]; rfl
theorem ints_pure {cl : List Int} : Pures 60 (cl.map D.int) := Pures.all fun x hx => by
  obtain ⟨i, rfl⟩ := ints_mem hx
  exact .int
theorem w_worth1 {cs ps cl : List Int} (T : Tb ps) (L : Cl ps cl) : ∀ (e n : Nat), e ≤ 3 → e + 3 ≤ n → SpW1 cs ps cl n e := by
  intro e
  induction e with
  | zero =>
    intro n he hn s r x pp cc b Q R B hQ
    obtain ⟨n, rfl⟩ : ∃ n', n = n' + 3 := ⟨n - 3, by omega⟩
    have hne := B.ne R
    rw [call_eqn (p := 3) (m := 7) (b := b__law_worth) rfl]
    simp [b__law_worth, ix_lst B.at_, iset_lst B.at_]
    refine w_taken (n + 1) _ (R.putn hne) (by decide) (by decide) fun v s1 v0 v1 R1 m1 => ?_
    have B1 := B.set.keep (R.putn hne) m1
    simp [s_ifE]
    exact w_leaf1 n _ R1 fun w s2 hw R2 m2 => hQ w s2 _ (fun d hd => hw d ps (by omega)) R2 (B1.keep R1 m2) (K2.set.trans (m1.k2.trans m2.k2))
  | succ e ih =>
    intro n he hn s r x pp cc b Q R B hQ
    obtain ⟨n, rfl⟩ : ∃ n', n = n' + 3 := ⟨n - 3, by omega⟩
    have hne := B.ne R
    rw [call_eqn (p := 3) (m := 7) (b := b__law_worth) rfl]
    simp [b__law_worth, ix_lst B.at_, iset_lst B.at_]
    refine w_taken (n + 1) _ (R.putn hne) (by decide) (by decide) fun v s1 v0 v1 R1 m1 => ?_
    have B1 := B.set (c := b - 1) |>.keep (R.putn hne) m1
    have K1 : K2 r x s s1 := K2.set.trans m1.k2
    rw [s_ifE]
    simp [ix_lst B1.at_]
    have leaf := w_leaf1 (v := v) n Q R1 fun w s2 hw R2 m2 => hQ w s2 _ (fun d hd => hw d ps (by omega)) R2 (B1.keep R1 m2) (K1.trans m2.k2)
    refine ite_in (fun _ => leaf) fun _ => ite_in (fun _ => leaf) fun _ => ite_in (fun _ => leaf) fun _ => ?_
    have ee : ((e : Int) + 1 - 1) = (e : Int) := by omega
    rw [s_ifE]
    simp [ix_lst B1.at_, ee]
    have dbl : ∀ (s1 : S) (b1 : Int), Row s1 r cs → Bx s1 x pp cc ps cl b1 → K2 r x s s1 → 5 ≤ sizeLine ∧
      new s1 (Ob.lst [D.str (Str.ofString "add"), D.str (Str.ofString "take"), D.str (Str.ofString "times"), D.str (Str.ofString "less"), D.str (Str.ofString "same")])
        fun x_1 s1 =>
        wCall prog (n + 2) 6 [D.ref r, D.int 5] s1 fun y s2 =>
          wIx x_1 y s2 fun x_2 s1 =>
            wCall prog (n + 2) 9 [D.ref r, D.ref x, D.int ↑e] s1 fun x_3 s1 =>
              wCall prog (n + 2) 9 [D.ref r, D.ref x, D.int ↑e] s1 fun x s1 => 3 ≤ sizeLine ∧ Q (D.tup [x_2, x_3, x]) s1 := fun s1 b1 R1 B1 K1 =>
      ⟨sz (by decide), w_pick5 (n + 1) _ R1 fun k s2 R2 k2 => ih (n + 2) (by omega) (by omega) s2 r x pp cc _ _ R2 (B1.keep R1 k2) fun w1 s3 b3 hw1 R3 B3 k3 =>
        ih (n + 2) (by omega) (by omega) s3 r x pp cc _ _ R3 B3 fun w2 s4 b4 hw2 R4 B4 k4 => ⟨sz (by decide), hQ (.dbl k w1 w2) s4 b4 (fun d hd => by
          unfold W.ok
          exact ⟨by omega, hw1 _ (by omega), hw2 _ (by omega)⟩) R4 B4 (K1.trans (k2.k2.trans (k3.trans k4)))⟩⟩
    refine ite_in (fun _ => dbl s1 _ R1 B1 K1) fun _ => ?_
    refine new_in fun q s2 n2 h2 k2 => ?_
    have R2 := R1.keep k2
    have B2 := B1.ke k2
    have K2' : K2 r x s s2 := K1.trans k2.k2
    rw [c_eqnil B2.cal h2 ints_pure, truthB_bl]
    cases hcl : cl with
    | nil => exact dbl s2 _ R2 B2 K2'
    | cons c0 cr =>
      rw [if_neg (by simp)]
      have lcl := L.len
      have hl0 : 0 < cl.length := by rw [hcl]; simp
      have l1 : cl.length ≤ 16777216 := by omega
      simp [ix_lst B2.at_, len_lst B2.cal, sizeLine, l1]
      refine w_taken (n + 1) _ R2 (by omega) (by omega) fun u s3 u0 u1 R3 m3 => ?_
      have B3 := B2.keep R2 m3
      have hu : (cl.map D.int)[u.toNat]? = some (.int cl[u.toNat]!) := by
        rw [List.getElem?_map, List.getElem?_eq_getElem (by omega : u.toNat < cl.length)]
        simp [getElem!_pos, (by omega : u.toNat < cl.length)]
      have hc := L.ok cl[u.toNat]! (by rw [getElem!_pos cl u.toNat (by omega)]; exact List.getElem_mem _)
      rw [ix_lst B3.cal, at_nat (i := u.toNat) (by omega) hu]
      generalize cl[u.toNat]! = c at hc
      have hcp : ps[c.toNat]? = some ps[c.toNat]! := by
        rw [List.getElem?_eq_getElem (by omega : c.toNat < ps.length), getElem!_pos ps c.toNat (by omega)]
      have hm := T.le ps[c.toNat]! (by rw [getElem!_pos ps c.toNat (by omega)]; exact List.getElem_mem _)
      have hcd : (ps.map D.int)[c.toNat]? = some (.int ps[c.toNat]!) := by rw [List.getElem?_map, hcp]; rfl
      generalize ps[c.toNat]! = m at hcp hm hcd
      have bn : bnd m := ⟨by omega, by omega⟩
      simp [e_lc, ix_lst B3.at_, ix_lst B3.tab, at_nat (i := c.toNat) (k := c) (by omega) hcd, bn]
      have K3 : K2 r x s s3 := K2'.trans m3.k2
      refine w_kids1 (ih (n + 2) (by omega) (by omega)) (by omega) (fun i s K w => by simpa [ee] using w) s3 _ R3 B3 fun as s4 b4 hl ho R4 B4 k4 => ?_
      refine new_in fun q4 s5 n5 h5 k5 => ?_
      show got (seqOf s5 (.ref q4)) _
      rw [seqOf_ref h5, got_some]
      refine hQ (.call c as) s5 _ (fun d hd => ?_) (R4.keep k5) (B4.ke k5) (K3.trans (k4.trans k5.k2))
      unfold W.ok
      exact ⟨by omega, hc.1, by rw [hcp, hl]; congr 1; omega, ho _ (by omega)⟩
end K14
set_option Elab.async false
set_option linter.all false
set_option maxRecDepth 100000
set_option maxHeartbeats 4000000
namespace K14
open PySem Tk
theorem Dd.oks_app {ps : List Int} {d : Nat} : ∀ {as bs : List Dd}, Dd.oks ps d as → Dd.oks ps d bs → Dd.oks ps d (as ++ bs)
  | [], bs, _, h => h
  | a :: as, w, g, h => by
    simp only [Dd.oks, List.cons_append] at g ⊢
    exact ⟨g.1, Dd.oks_app g.2 h⟩
theorem Dd.oks_one {ps : List Int} {d : Nat} {w : Dd} (h : Dd.ok ps d w) : Dd.oks ps d [w] := by simp only [Dd.oks]; exact ⟨h, trivial⟩
theorem Dd.cs_app : ∀ (as bs : List Dd), Dd.cs (as ++ bs) = Dd.cs as + Dd.cs bs
  | [], w => by simp [Dd.cs]
  | a :: as, w => by simp only [Dd.cs, List.cons_append, Dd.cs_app as w]; omega
theorem K2.put {r x q : Addr} {s s' : S} {o : Ob} (k : K2 r x s s') (n : s q = none) : K2 r x s (put s' q o) := fun c v h1 h2 g => by rw [put_ne (ne_fresh g n)]; exact k c v h1 h2 g
/-- whatever has no place but r and x stays -/
theorem K2.at {r x q : Addr} {s s' : S} {o : Ob} (k : K2 r x s s') (h1 : q ≠ r) (h2 : q ≠ x) (h : s q = some o) : s' q = some o := k q o h1 h2 h
theorem Row.fresh {s : S} {r q : Addr} {cs : List Int} (h : Row s r cs) (n : s q = none) : q ≠ r := by
  obtain ⟨⟨i, a, b, hr, h1⟩, hl⟩ := h
  intro e; subst e; rw [n] at hr; cases hr
theorem BoxA.fresh {s : S} {x pp q : Addr} {ps : List Int} {b : Int} (h : BoxA s x pp ps b) (n : s q = none) : q ≠ x ∧ q ≠ pp := by
  refine ⟨fun e => ?_, fun e => ?_⟩
  · subst e; have := h.at_; rw [n] at this; cases this
  · subst e; have := h.tab; rw [n] at this; cases this
theorem BoxA.putq {s : S} {x pp q : Addr} {ps : List Int} {b : Int} {o : Ob} (h : BoxA s x pp ps b) (h1 : q ≠ x) (h2 : q ≠ pp) : BoxA (put s q o) x pp ps b := ⟨by rw [put_ne h1.symm]; exact h.at_, by rw [put_ne h2.symm]; exact h.tab⟩
/-- any_deeds' promise -/
def SpAD (cs ps : List Int) (n d : Nat) : Prop := ∀ (s : S) (r x pp : Addr) (b : Int) (Q : Q1), Row s r cs → BoxA s x pp ps b → 0 ≤ b → b ≤ 1000 →
  (∀ (as : List Dd) (s' : S) (b' : Int), Dd.oks ps d as → 0 ≤ b' → (Dd.cs as : Int) + b' ≤ b → Row s' r cs → BoxA s' x pp ps b' → K2 r x s s' → Q (.tup (Dd.ds as)) s') → wCall prog n 23 [.ref r, .ref x, .int d] s Q
theorem w_sidesA {cs ps : List Int} {n d m : Nat} {r x pp : Addr} {step : D → S → (Option D → S → Prop) → Prop} {Qf : List D → S → Prop} (hsp : SpAD cs ps n (d + 1)) (hm : m ≤ 3)
    (hst : ∀ (i : Nat) s K, wCall prog n 23 [.ref r, .ref x, .int ((d : Int) + 1)] s (fun y s' => K (some y) s') → step (.int (0 + (i : Nat))) s K)
    (s : S) (b : Int) (R : Row s r cs) (B : BoxA s x pp ps b) (hb : 0 ≤ b) (hbm : b ≤ 1000)
    (hQ : ∀ (bs : List (List Dd)) (s' : S) (b' : Int), bs.length = m → (∀ c ∈ bs, Dd.oks ps (d + 1) c) → 0 ≤ b' → ((bs.map Dd.cs).sum : Int) + b' ≤ b → Row s' r cs → BoxA s' x pp ps b' → K2 r x s s' → Qf (bs.map fun c => .tup (Dd.ds c)) s') :
    lcGo (fun _ => True) step (rng 0 m) [] s Qf := by
  refine lcGo_by (f := fun i : Nat => .int (0 + (i : Nat))) (fun q acc s' => ∃ (bs : List (List Dd)) (b' : Int), acc = (bs.map fun c => .tup (Dd.ds c)) ∧ (∀ c ∈ bs, Dd.oks ps (d + 1) c) ∧ bs.length + q.length = m ∧ 0 ≤ b' ∧ ((bs.map Dd.cs).sum : Int) + b' ≤ b ∧ Row s' r cs ∧ BoxA s' x pp ps b' ∧ K2 r x s s') (fun _ _ _ _ => trivial) ?_ ?_ (List.range m) [] s ⟨[], b, by simp, by simp, by simp, hb, by simp, R, B, K2.refl⟩
  · rintro i q acc s1 K ⟨bs, b1, rfl, ho, hl, hb1, hc, R1, B1, k1⟩ kn ks
    simp only [List.length_cons] at hl
    have e : (d : Int) + 1 = ((d + 1 : Nat) : Int) := by omega
    refine ⟨by rw [List.length_map]; exact sz (n := bs.length + 1) (by omega), hst i s1 _ ?_⟩
    rw [e]
    refine hsp s1 r x pp b1 _ R1 B1 hb1 (by omega) fun w s2 b2 hw hb2 hc2 R2 B2 k2 => ?_
    refine ks _ s2 ⟨bs ++ [w], b2, by rw [List.map_append]; rfl, ?_, by simp; omega, hb2, ?_, R2, B2, k1.trans k2⟩
    · intro c hc
      rcases List.mem_append.mp hc with hc | hc
      · exact ho c hc
      · rw [List.mem_singleton.mp hc]; exact hw
    · rw [List.map_append, List.sum_append]
      simp only [List.map_cons, List.map_nil, List.sum_cons, List.sum_nil]
      push_cast
      omega
  · rintro acc s1 ⟨as, b1, rfl, ho, hl, hb1, hc, R1, B1, k1⟩
    simp only [List.length_nil, Nat.add_zero] at hl
    exact hQ as s1 b1 hl ho hb1 hc R1 B1 k1
theorem w_anyd {cs ps : List Int} (T : Tb ps) (hp : 1 ≤ ps.length) : ∀ (k d n : Nat), d ≤ 4 → 4 - d ≤ k → k + 7 ≤ n → SpAD cs ps n d := by
  intro k
  induction k with
  | zero =>
    intro d n hd g hn s r x pp b Q R B hb hbm hQ
    obtain ⟨n, rfl⟩ : ∃ n', n = n' + 7 := ⟨n - 7, by omega⟩
    rw [call_eqn (p := 3) (m := 9) (b := b__law_any_deeds) rfl]
    simp [b__law_any_deeds]
    refine new_in fun q s1 n1 h1 k1 => ?_
    rw [s_whlE]
    have e4 : ¬ ((d : Int) < 4) := by omega
    refine ⟨1, ?_⟩
    simp [whileN, ix_lst (B.ke k1).at_, e4]
    show got (seqOf s1 (.ref q)) _
    rw [seqOf_ref h1, got_some]
    exact hQ [] s1 b (by simp [Dd.oks]) hb (by simp [Dd.cs]) (R.keep k1) (B.ke k1) k1.k2
  | succ k ih =>
    intro d n hd g hn s r x pp b Q R B hb hbm hQ
    obtain ⟨n, rfl⟩ : ∃ n', n = n' + 8 := ⟨n - 8, by omega⟩
    rw [call_eqn (p := 3) (m := 9) (b := b__law_any_deeds) rfl]
    simp [b__law_any_deeds]
    refine new_in fun q s1 n1 h1 k1 => ?_
    rw [s_whlE]
    have nr := R.fresh n1
    have nx := B.fresh n1
    refine ⟨b.toNat + 1, whileN_by (fun c ρ s' => ∃ as b' o4 o5 o6 o7, 0 ≤ b' ∧ c = b'.toNat ∧ ρ = [some (.ref r), some (.ref x), some (.int d), some (.ref q), o4, o5, o6, o7, none] ∧ Row s' r cs ∧ BoxA s' x pp ps b' ∧ s' q = some (.lst (Dd.ds as)) ∧ Dd.oks ps d as ∧ (Dd.cs as : Int) + b' ≤ b ∧ K2 r x s s') ?_ b.toNat _ s1 ⟨[], b, none, none, none, none, hb, rfl, rfl, R.keep k1, B.ke k1, h1, by simp [Dd.oks], by simp [Dd.cs], k1.k2⟩ _ (by omega)⟩
    rintro c ρ s2 N ⟨as, b2, o4, o5, o6, o7, hb2, rfl, rfl, R2, B2, hq, ho, hc, k2⟩ hN
    have l1 : as.length ≤ 16777216 := by have := Dd.len_cs as; omega
    have fin : wBI .tuple [.ref q] s2 Q := by
      show got (seqOf s2 (.ref q)) _
      rw [seqOf_ref hq, got_some]
      exact hQ as s2 b2 ho hb2 hc R2 B2 k2
    simp [ix_lst B2.at_]
    refine ite_in (fun g1 => ?_) (fun _ => fin)
    refine ite_in (fun g2 => ?_) (fun _ => fin)
    refine w_taken (n + 6) _ R2 (by decide) (by decide) fun a1 s3 u1 v1 R3 m3 => ?_
    have B3 := B2.keep R2 m3
    have k3 := k2.trans m3.k2
    have hq3 := m3 q _ nr hq
    simp [ix_lst B3.at_, iset_lst B3.at_]
    refine ite_in (fun g3 => ?_) (fun _ => ?_)
    · have B3' := B3.set (c := b2 - 2)
      have R3' : Row (put s3 x (.lst [.int (b2 - 2), .ref pp])) r cs := R3.putn (B3.ne R3)
      have hq3' : (put s3 x (.lst [.int (b2 - 2), .ref pp])) q = some (.lst (Dd.ds as)) := by rw [put_ne nx.1]; exact hq3
      have k3' : K2 r x s (put s3 x (.lst [.int (b2 - 2), .ref pp])) := k3.trans K2.set
      refine w_taken (n + 6) _ R3' (by decide) (by decide) fun way s4 u4 v4 R4 m4 => ?_
      have B4 := B3'.keep R3' m4
      have hq4 := m4 q _ nr hq3'
      refine w_taken (n + 6) _ R4 (by decide) (by decide) fun var s5 u5 v5 R5 m5 => ?_
      have B5 := B4.keep R4 m5
      have hq5 := m5 q _ nr hq4
      refine w_anyw T hp 4 0 (n + 7) (by omega) (by omega) (by omega) s5 r x pp _ _ R5 B5 (by omega) fun w s6 b6 hw hb6 hc6 R6 B6 k6 => ?_
      have hq6 := k6.at nr nx.1 hq5
      have K6 : K2 r x s s6 := k3'.trans (m4.k2.trans (m5.k2.trans k6))
      have la : (Dd.ds as).length ≤ 1000 := by rw [Dd.ds_len]; have := Dd.len_cs as; omega
      have last : ∀ (e : Dd) (s7 : S) (b7 : Int), Dd.ok ps d e → 0 ≤ b7 → (e.c : Int) + b7 ≤ b2 → Row s7 r cs → BoxA s7 x pp ps b7 → K2 r x s s7 → s7 q = some (.lst (Dd.ds as)) → ∀ o4 o5 o6 o7, wBM .append (.ref q) [e.d] s7 fun _ s8 => N [some (.ref r), some (.ref x), some (.int d), some (.ref q), o4, o5, o6, o7, none] s8 := fun e s7 b7 he hb7 hc7 R7 B7 k7 hq7 o4 o5 o6 o7 => by
        refine app_in hq7 la ?_
        have e1 : 1 ≤ e.c := by cases e <;> simp [Dd.c] <;> omega
        refine hN _ _ ⟨b7.toNat, by omega, as ++ [e], b7, o4, o5, o6, o7, hb7, rfl, rfl, R7.putn nr.symm, B7.putq nx.1 nx.2, by rw [put_same, Dd.ds_app]; rfl, Dd.oks_app ho (Dd.oks_one he), ?_, k7.put n1⟩
        rw [Dd.cs_app]
        simp only [Dd.cs]
        push_cast
        omega
      rw [s_ifE]
      simp
      refine ite_in (fun g4 => ?_) (fun g4 => ?_)
      · refine ⟨⟨_, _, rfl, hq6⟩, sz (by decide), ?_⟩
        refine last (.lt var w) s6 b6 ?_ hb6 ?_ R6 B6 K6 hq6 _ _ _ _
        · unfold Dd.ok; exact ⟨by omega, u5, v5, hw⟩
        · simp only [Dd.c]; push_cast; omega
      · have bn : bnd (3 - way) := ⟨by omega, by omega⟩
        simp [e_lc, bn]
        refine w_sidesA (m := (3 - way).toNat) (ih (d + 1) (n + 7) (by omega) (by omega) (by omega)) (by omega) (fun i s K w => by simpa using w) s6 b6 R6 B6 hb6 (by omega) fun bs s7 b7 hl hbs hb7 hc7 R7 B7 k7 => ?_
        have hq7 := k7.at nr nx.1 hq6
        have K7 := K6.trans k7
        refine new_in fun q8 s8 n8 h8 k8 => ?_
        show got (seqOf s8 (.ref q8)) _
        rw [seqOf_ref h8, got_some]
        refine ⟨⟨_, _, rfl, k8 _ _ hq7⟩, sz (by decide), ?_⟩
        refine new_in fun q9 s9 n9 h9 k9 => ?_
        have k79 := k8.trans k9
        rw [ix_lst h9]
        have hway : way = 1 ∨ way = 2 := by omega
        rcases hway with rfl | rfl
        · obtain ⟨c1, c2, rfl⟩ : ∃ c1 c2, bs = [c1, c2] := by
            match bs, hl with
            | [c1, c2], _ => exact ⟨c1, c2, rfl⟩
          simp [sizeLine]
          refine last (.ife w c1 c2) s9 b7 ?_ hb7 ?_ (R7.keep k79) (B7.ke k79) (K7.trans k79.k2) (k79 _ _ hq7) _ _ _ _
          · unfold Dd.ok; exact ⟨by omega, hw, hbs c1 (by simp), hbs c2 (by simp)⟩
          · simp at hc7; simp only [Dd.c]; push_cast; omega
        · obtain ⟨c1, rfl⟩ : ∃ c1, bs = [c1] := by
            match bs, hl with
            | [c1], _ => exact ⟨c1, rfl⟩
          simp [sizeLine]
          refine last (.whl w c1) s9 b7 ?_ hb7 ?_ (R7.keep k79) (B7.ke k79) (K7.trans k79.k2) (k79 _ _ hq7) _ _ _ _
          · unfold Dd.ok; exact ⟨by omega, hw, hbs c1 (by simp)⟩
          · simp at hc7; simp only [Dd.c]; push_cast; omega
    · show got (seqOf s3 (.ref q)) _
      rw [seqOf_ref hq3, got_some]
      exact hQ as s3 b2 ho hb2 hc R3 B3 k3
end K14
set_option Elab.async false
set_option linter.all false
set_option maxRecDepth 100000
set_option maxHeartbeats 4000000
namespace K14
open PySem Tk
/-- a list of counts of params -/
theorem w_params {cs : List Int} {m : Nat} {r : Addr} {step : D → S → (Option D → S → Prop) → Prop} {Qf : List D → S → Prop} (hm : m ≤ 4)
    (hst : ∀ (i : Nat) s K, Row s r cs → (∀ v s', 0 ≤ v → v < 4 → Row s' r cs → Kp r s s' → K (some (.int v)) s') → step (.int (0 + (i : Nat))) s K)
    (s : S) (R : Row s r cs) (hQ : ∀ (ps : List Int) (s' : S), ps.length = m → (∀ x ∈ ps, 0 ≤ x ∧ x ≤ 3) → Row s' r cs → Kp r s s' → Qf (ps.map D.int) s') :
    lcGo (fun _ => True) step (rng 0 m) [] s Qf := by
  refine lcGo_by (f := fun i : Nat => .int (0 + (i : Nat))) (fun q acc s' => ∃ ps : List Int, acc = ps.map D.int ∧ (∀ x ∈ ps, 0 ≤ x ∧ x ≤ 3) ∧ ps.length + q.length = m ∧ Row s' r cs ∧ Kp r s s') (fun _ _ _ _ => trivial) ?_ ?_ (List.range m) [] s ⟨[], rfl, by simp, by simp, R, Kp.refl⟩
  · rintro i q acc s1 K ⟨ps, rfl, ho, hl, R1, k1⟩ kn ks
    simp only [List.length_cons] at hl
    refine ⟨by rw [List.length_map]; exact sz (n := ps.length + 1) (by omega), hst i s1 _ R1 fun v s2 v0 v1 R2 k2 => ?_⟩
    refine ks _ s2 ⟨ps ++ [v], by simp, ?_, by simp; omega, R2, k1.trans k2⟩
    intro x hx
    rcases List.mem_append.mp hx with hx | hx
    · exact ho x hx
    · rw [List.mem_singleton.mp hx]; omega
  · rintro acc s1 ⟨as, rfl, ho, hl, R1, k1⟩
    simp only [List.length_nil, Nat.add_zero] at hl
    exact hQ as s1 hl ho R1 k1
theorem Kp.box {r x : Addr} {s0 s s' : S} {o : Ob} (h : Kp r s0 s) (n : s x = none) (k : K2 r x (put s x o) s') (h0 : r ≠ x) : Kp r s0 s' := fun c v hc g => by
  have g1 := h c v hc g
  have cx : c ≠ x := ne_fresh g1 n
  exact k c v hc cx (by rw [put_ne cx]; exact g1)
theorem Kp.nn {r q : Addr} {s s1 : S} (k : Kp r s s1) (n : s1 q = none) (h : q ≠ r) : s q = none := by
  cases e : s q with
  | none => rfl
  | some o => rw [k q o h e] at n; cases n
theorem Kp.putf {r q : Addr} {s s1 : S} {o : Ob} (k : Kp r s s1) (n : s q = none) : Kp r s (put s1 q o) := fun c v hc g => by rw [put_ne (ne_fresh g n)]; exact k c v hc g
theorem w_anyf {cs : List Int} (n : Nat) (s : S) (r : Addr) (Q : Q1) (R : Row s r cs) (hQ : ∀ fs s', Good fs → Row s' r cs → Kp r s s' → Q (progD fs) s') : wCall prog (n + 20) 7 [.ref r] s Q := by
  rw [call_eqn (p := 1) (m := 7) (b := b__law_any_functions) rfl]
  simp [b__law_any_functions, e_lc]
  refine w_taken (n + 18) _ R (by decide) (by decide) fun m s1 m0 m1 R1 k1 => ?_
  have bn : bnd (1 + m) := ⟨by omega, by omega⟩
  simp [bn]
  refine w_params (m := (1 + m).toNat) (by omega) (fun i s K R w => ?_) s1 R1 fun ps s2 hl hps R2 k2 => ?_
  · skip
    exact w_taken (n + 18) _ R (by decide) (by decide) w
  have T : Tb ps := ⟨by omega, hps⟩
  have hp1 : 1 ≤ ps.length := by omega
  refine new_in fun pp s3 n3 h3 k3 => new_in fun fq s4 n4 h4 k4 => ?_
  have k34 := k3.trans k4
  have K4 : Kp r s s4 := k1.trans (k2.trans k34.k)
  have R4 := R2.keep k34
  have np : s pp = none → True := fun _ => trivial
  have hpr : pp ≠ r := (R2.fresh n3)
  have hfr : fq ≠ r := (R2.keep k3).fresh n4
  have hfp : fq ≠ pp := fun e => by rw [e, h3] at n4; cases n4
  rw [s_forE]
  simp [wVal, withL_eq (k4 _ _ h3)]
  have nf : s fq = none := (k1.trans (k2.trans k3.k)).nn n4 hfr
  refine forGo_by (f := D.int) (fun q ρ s' => ∃ (fs : List F) (o3 o4 o5 : Option D), ρ = [some (.ref r), some (.ref pp), some (.ref fq), o3, o4, o5, none] ∧ Row s' r cs ∧ s' pp = some (.lst (ps.map D.int)) ∧ s' fq = some (.lst (fs.map F.d)) ∧ fs.map F.p ++ q = ps ∧ (∀ f ∈ fs, f.ok ps) ∧ Kp r s s') (fun _ _ _ h => ?_) ?_ ?_ ps _ s4 ⟨[], none, none, none, rfl, R4, k4 _ _ h3, h4, rfl, by simp, K4⟩
  · obtain ⟨fs, o3, o4, o5, _, _, h, _⟩ := h
    exact h
  · rintro x q _ s5 N ⟨fs, o3, o4, o5, rfl, R5, hp5, hf5, hfs, hok, k5⟩ hN
    simp
    refine ⟨sz (by decide), ?_⟩
    intro bx n6
    have nbr := R5.fresh n6
    have B6 : BoxA (put s5 bx (.lst [.int 39, .ref pp])) bx pp ps 39 := ⟨put_same, by rw [put_ne (ne_fresh hp5 n6)]; exact hp5⟩
    have R6 : Row (put s5 bx (.lst [.int 39, .ref pp])) r cs := R5.putn nbr.symm
    refine w_anyd T hp1 4 0 (n + 19) (by omega) (by omega) (by omega) _ r bx pp _ _ R6 B6 (by omega) (by omega) fun ds s7 b7 hds hb7 hc7 R7 B7 k7 => ?_
    have hfb : fq ≠ bx := ne_fresh hf5 n6
    have hf7 := k7.at hfr hfb (show put s5 bx _ fq = _ by rw [put_ne hfb]; exact hf5)
    simp [bmTy, hf7]
    refine w_anyw T hp1 4 0 (n + 19) (by omega) (by omega) (by omega) s7 r bx pp _ _ R7 B7 hb7 fun w s8 b8 hw hb8 hc8 R8 B8 k8 => ?_
    have hf8 := k8.at hfr hfb hf7
    have K8 := k5.box n6 (k7.trans k8) nbr.symm
    have hp8 : s8 pp = some (.lst (ps.map D.int)) := B8.tab
    refine ⟨sz (by decide), ?_⟩
    have hxp : x ∈ ps := by rw [← hfs]; simp
    have hx := hps x hxp
    have lf : (fs.map F.d).length ≤ 1000 := by
      have := congrArg List.length hfs
      simp at this ⊢
      omega
    refine app_in hf8 lf ?_
    refine hN _ _ ⟨fs ++ [⟨x, ds, w⟩], _, _, _, rfl, R8.putn hfr.symm, by rw [put_ne hfp.symm]; exact hp8, by rw [put_same, List.map_append]; rfl, by rw [← hfs]; simp, ?_, K8.putf nf⟩
    intro f hf
    rcases List.mem_append.mp hf with hf | hf
    · exact hok f hf
    · rw [List.mem_singleton.mp hf]
      exact ⟨hx.1, hx.2, hds, hw, by simp only []; omega⟩
  · rintro _ s5 ⟨fs, o3, o4, o5, rfl, R5, hp5, hf5, hfs, hok, k5⟩
    simp
    show got (seqOf s5 (.ref fq)) _
    rw [seqOf_ref hf5, got_some]
    simp at hfs
    refine hQ fs s5 ⟨?_, ?_, by rw [hfs]; exact hok⟩ R5 k5
    · rintro rfl
      simp at hfs
      rw [hfs] at hp1; simp at hp1
    · have := congrArg List.length hfs
      simp at this
      omega
end K14
set_option Elab.async false
set_option linter.all false
set_option maxRecDepth 100000
set_option maxHeartbeats 4000000
namespace K14
open PySem Tk
theorem Bx.fresh {s : S} {x pp cc q : Addr} {ps cl : List Int} {b : Int} (h : Bx s x pp cc ps cl b) (n : s q = none) : q ≠ x ∧ q ≠ pp ∧ q ≠ cc := by
  refine ⟨fun e => ?_, fun e => ?_, fun e => ?_⟩
  · subst e; have := h.at_; rw [n] at this; cases this
  · subst e; have := h.tab; rw [n] at this; cases this
  · subst e; have := h.cal; rw [n] at this; cases this
theorem Bx.putq {s : S} {x pp cc q : Addr} {ps cl : List Int} {b : Int} {o : Ob} (h : Bx s x pp cc ps cl b) (n : q ≠ x ∧ q ≠ pp ∧ q ≠ cc) : Bx (put s q o) x pp cc ps cl b := ⟨by rw [put_ne n.1.symm]; exact h.at_, by rw [put_ne n.2.1.symm]; exact h.tab, by rw [put_ne n.2.2.symm]; exact h.cal⟩
theorem K2.nn {r x q : Addr} {s s1 : S} (k : K2 r x s s1) (n : s1 q = none) (h1 : q ≠ r) (h2 : q ≠ x) : s q = none := by
  cases e : s q with
  | none => rfl
  | some o => rw [k q o h1 h2 e] at n; cases n
def SpD1 (cs ps cl : List Int) (n e : Nat) : Prop := ∀ (s : S) (r x pp cc : Addr) (b most : Int) (Q : Q1), Row s r cs → Bx s x pp cc ps cl b → 1 ≤ most → most ≤ 4 →
  (∀ (as : List Dd) (q : Addr) (s' : S) (b' : Int), Dd.oks ps e as → as.length ≤ 8 → s q = none → s' q = some (.lst (Dd.ds as)) → Row s' r cs → Bx s' x pp cc ps cl b' → K2 r x s s' → Q (.ref q) s') → wCall prog n 8 [.ref r, .ref x, .int e, .int most] s Q
def SpC1 (cs ps cl : List Int) (n e : Nat) : Prop := ∀ (s : S) (r x pp cc : Addr) (b : Int) (Q : Q1), Row s r cs → Bx s x pp cc ps cl b →
  (∀ (a1 a2 : Dd) (q : Addr) (s' : S) (b' : Int), Dd.oks ps e [a1, a2] → s q = none → s' q = some (.lst (Dd.ds [a1, a2])) → Row s' r cs → Bx s' x pp cc ps cl b' → K2 r x s s' → Q (.ref q) s') → wCall prog n 25 [.ref r, .ref x, .int e] s Q
theorem c_ne_any {x y : D} (h : Pure 64 x) (g : Pure 64 y) : ∃ b : Bool, ∀ (s : S) (Q : Q1), wCmp .ne x y s Q = Q (.bl b) s := by
  obtain ⟨p, h1, h2, h3⟩ := h
  obtain ⟨q, g1, g2, g3⟩ := g
  refine ⟨!PyData.eqv p q, fun s Q => ?_⟩
  show wEq true _ _ s Q = _
  unfold wEq
  rw [toP_of h1, toP_of g1]
  simp only [got_some, Pure.shaped h2 h3, Pure.shaped g2 g3]
  simp
theorem Dd.two {ps : List Int} {d : Nat} {w : Dd} (h : Dd.ok ps d w) : ∃ z y r, w.d = .tup (.str z :: y :: r) ∧ Pure 64 (.tup [.str z, y]) := by
  cases w with
  | lt v w => exact ⟨_, _, _, rfl, (Pure.tup (.cons (.str (ofs_ok _)) (.cons .int .nil)) : Pure (63 + 1) _)⟩
  | whl t b =>
    unfold Dd.ok at h
    exact ⟨_, _, _, rfl, (Pure.tup (.cons (.str (ofs_ok _)) (.cons ((W.pure 4 h.2.1 (by omega)).mono (by omega)) .nil)) : Pure (63 + 1) _)⟩
  | ife t a b =>
    unfold Dd.ok at h
    exact ⟨_, _, _, rfl, (Pure.tup (.cons (.str (ofs_ok _)) (.cons ((W.pure 4 h.2.1 (by omega)).mono (by omega)) .nil)) : Pure (63 + 1) _)⟩
@[simp] theorem cut02 {x y : D} {r : List D} : cutD (x :: y :: r) none (some 2) = [x, y] := by
  simp [cutD, HT.sIx]
theorem ext_gen {s : S} {p q : Addr} {xs ys : List D} {Q : Q1} (h : s p = some (.lst xs)) (g : s q = some (.lst ys)) (hl : xs.length + ys.length ≤ 1000) (k : Q .non (put s p (.lst (xs ++ ys)))) : wBM .extend (.ref p) [.ref q] s Q := by
  show withL s p _
  rw [withL_eq h, withL_eq g]
  exact ⟨sz (by omega), k⟩
theorem ite_in3 {a b c p q : Prop} [Decidable a] [Decidable b] [Decidable c] (hp : a ∨ b ∨ c → p) (hq : ¬a → ¬b → ¬c → q) : if a then p else if b then p else if c then p else q :=
  ite_in (fun h => hp (.inl h)) fun h1 => ite_in (fun h => hp (.inr (.inl h))) fun h2 => ite_in (fun h => hp (.inr (.inr h))) fun h3 => hq h1 h2 h3
theorem w_count1 {cs ps cl : List Int} {n e : Nat} (he : e ≤ 2) (h8 : SpD1 cs ps cl (n + 1) (e + 1)) : SpC1 cs ps cl (n + 2) e := by
  intro s r x pp cc b Q R B hQ
  have hne := B.ne R
  rw [call_eqn (p := 3) (m := 8) (b := b__law_count) rfl]
  simp [b__law_count, ix_lst B.at_, iset_lst B.at_, e_lc]
  have B1 := B.set (c := b - 8)
  have R1 : Row (put s x (.lst [.int (b - 8), .ref pp, .ref cc])) r cs := R.putn hne
  refine w_taken n _ R1 (by decide) (by decide) fun m s2 m0 m1 R2 k2 => ?_
  have B2 := B1.keep R1 k2
  have K2' : K2 r x s s2 := K2.set.trans k2.k2
  have ee : ((e : Int) + 1) = ((e + 1 : Nat) : Int) := by omega
  simp
  rw [ee]
  refine h8 s2 r x pp cc _ _ _ R2 B2 (by omega) (by omega) fun as q s3 b3 ho hl nq hq R3 B3 k3 => ?_
  have n3 : s q = none := K2'.nn nq (R2.fresh nq) (B2.fresh nq).1
  rw [wVal, withL_eq hq, Dd.ds_map]
  have v0 : 0 ≤ (e : Int) % 3 := Int.emod_nonneg _ (by decide)
  have v3 : (e : Int) % 3 < 3 := Int.emod_lt_of_pos _ (by decide)
  generalize hv : 5 - (e : Int) % 3 = v
  refine lcGo_by (f := Dd.d) (fun q1 acc s' => s' = s3 ∧ Dd.oks ps (e + 1) q1 ∧ ∃ bs : List Dd, acc = Dd.ds bs ∧ Dd.oks ps (e + 1) bs ∧ bs.length + q1.length ≤ 8) (fun _ _ _ h => ?_) ?_ ?_ as [] s3 ⟨rfl, ho, [], rfl, by simp [Dd.oks], by simpa using hl⟩
  · rw [h.1, ← Dd.ds_map]; exact hq
  · rintro x q1 acc s1 K ⟨rfl, ho1, bs, rfl, hbs, hl1⟩ kn ks
    simp only [Dd.oks] at ho1
    simp only [List.length_cons] at hl1
    refine ⟨by rw [Dd.ds_len]; exact sz (n := bs.length + 1) (by omega), ?_⟩
    obtain ⟨z, y, t, ex, px⟩ := Dd.two ho1.1
    obtain ⟨bb, hb⟩ := c_ne_any px (y := .tup [.str "let", .int v]) (Pure.tup (.cons (.str (ofs_ok _)) (.cons .int .nil)) : Pure (63 + 1) _)
    rw [ex, sl_tup, cut02]
    refine ⟨sz (by decide), ?_⟩
    rw [hb, truthB_bl]
    refine ite_in (fun _ => ?_) (fun _ => kn _ ⟨rfl, ho1.2, bs, rfl, hbs, by omega⟩)
    rw [← ex]
    exact ks _ _ ⟨rfl, ho1.2, bs ++ [x], by rw [Dd.ds_app]; rfl, Dd.oks_app hbs (Dd.oks_one ho1.1), by simp; omega⟩
  · rintro acc _ ⟨rfl, _, bs, rfl, hbs, hl1⟩
    simp only [List.length_nil, Nat.add_zero] at hl1
    refine new_in fun q4 s4 n4 h4 k4 => ⟨sz (by decide), sz (by decide), sz (by decide), ?_⟩
    refine w_taken n _ (R3.keep k4) (by decide) (by decide) fun u s5 u0 u1 R5 m5 => ⟨sz (by decide), sz (by decide), sz (by decide), sz (by decide), ?_⟩
    have B5 := (B3.ke k4).keep (R3.keep k4) m5
    have h5 := m5 q4 _ (R3.fresh n4) h4
    show got (seqOf s5 (.ref q4)) _
    rw [seqOf_ref h5, got_some]
    refine ⟨sz (by decide), ?_⟩
    rw [b_addT]
    refine ⟨by rw [Dd.ds_len]; exact sz (n := bs.length + 1) (by omega), sz (by decide), sz (by decide), new_in fun q6 s6 n6 h6 k6 => ?_⟩
    have K5 := K2'.trans (k3.trans (k4.k2.trans m5.k2))
    refine hQ (.lt v (.num 0)) (.whl (.dbl 3 (.var v) (.num u)) (bs ++ [.lt v (.dbl 0 (.var v) (.num 1))])) q6 s6 b3 ?_ (K5.nn n6 (R5.fresh n6) (B5.fresh n6).1) ?_ (R5.keep k6) (B5.ke k6) (K5.trans k6.k2)
    · simp only [Dd.oks, Dd.ok, W.ok]
      refine ⟨⟨by omega, by omega, by omega, by omega, by omega, by omega⟩, ⟨by omega, ⟨by omega, ⟨by omega, by omega, by omega⟩, by omega, by omega, by omega⟩, Dd.oks_app hbs (Dd.oks_one ?_)⟩, trivial⟩
      simp only [Dd.ok, W.ok]
      exact ⟨by omega, by omega, by omega, by omega, ⟨by omega, by omega, by omega⟩, by omega, by omega, by omega⟩
    · rw [h6]
      simp only [Dd.ds, Dd.d, W.d, Dd.ds_app, dblN]
theorem w_deeds1 {cs ps cl : List Int} (T : Tb ps) (L : Cl ps cl) {n e : Nat} (he : e ≤ 3) (h8 : e < 3 → SpD1 cs ps cl (n + 7) (e + 1)) (hc : e < 3 → SpC1 cs ps cl (n + 7) e) : SpD1 cs ps cl (n + 8) e := by
  intro s r x pp cc b most Q R B hm0 hm4 hQ
  have hne := B.ne R
  rw [call_eqn (p := 4) (m := 10) (b := b__law_deeds) rfl]
  simp [b__law_deeds]
  refine new_in fun q s1 n1 h1 k1 => ?_
  rw [s_forE]
  simp
  refine w_taken (n + 6) _ (R.keep k1) (by omega) (by omega) fun m s2 m0 m1 R2 k2 => ?_
  have B2 := (B.ke k1).keep (R.keep k1) k2
  have nr := R.fresh n1
  have nx := B.fresh n1
  have bn : bnd (1 + m) := ⟨by omega, by omega⟩
  simp [bn]
  refine forGo_by (f := fun i : Nat => .int (0 + (i : Nat))) (fun w ρ s' => ∃ (as : List Dd) (b' : Int) (o5 o6 o7 o8 : Option D), ρ = [some (.ref r), some (.ref x), some (.int e), some (.int most), some (.ref q), o5, o6, o7, o8, none] ∧ Row s' r cs ∧ Bx s' x pp cc ps cl b' ∧ s' q = some (.lst (Dd.ds as)) ∧ Dd.oks ps e as ∧ as.length + 2 * w.length ≤ 8 ∧ K2 r x s s') (fun _ _ _ _ => trivial) ?_ ?_ (List.range (1 + m).toNat) _ s2 ⟨[], b, none, none, none, none, rfl, R2, B2, k2 q _ nr h1, by simp [Dd.oks], by simp; omega, k1.k2.trans k2.k2⟩
  · rintro i w _ s3 N ⟨as, b3, o5, o6, o7, o8, rfl, R3, B3, hq, ho, hl, k3⟩ hN
    simp only [List.length_cons] at hl
    simp
    refine w_taken (n + 6) _ R3 (by decide) (by decide) fun way s4 v0 v1 R4 m4 => ?_
    have B4 := B3.keep R3 m4
    have k4 := k3.trans m4.k2
    have hq4 := m4 q _ nr hq
    have B5 := B4.set (c := b3 - 1)
    have R5 : Row (put s4 x (.lst [.int (b3 - 1), .ref pp, .ref cc])) r cs := R4.putn hne
    have hq5 : (put s4 x (.lst [.int (b3 - 1), .ref pp, .ref cc])) q = some (.lst (Dd.ds as)) := by rw [put_ne nx.1]; exact hq4
    have k5 : K2 r x s (put s4 x (.lst [.int (b3 - 1), .ref pp, .ref cc])) := k4.trans K2.set
    have last : ∀ (e1 : Dd) (s7 : S) (b7 : Int), Dd.ok ps e e1 → Row s7 r cs → Bx s7 x pp cc ps cl b7 → K2 r x s s7 → s7 q = some (.lst (Dd.ds as)) → ∀ o5 o6 o7 o8, wBM .append (.ref q) [e1.d] s7 fun _ s8 => N [some (.ref r), some (.ref x), some (.int e), some (.int most), some (.ref q), o5, o6, o7, o8, none] s8 := fun e1 s7 b7 he R7 B7 k7 hq7 o5 o6 o7 o8 => by
      refine app_in hq7 (by rw [Dd.ds_len]; omega) ?_
      exact hN _ _ ⟨as ++ [e1], b7, o5, o6, o7, o8, rfl, R7.putn nr.symm, B7.putq nx, by rw [put_same, Dd.ds_app]; rfl, Dd.oks_app ho (Dd.oks_one he), by simp; omega, k7.put n1⟩
    rw [s_ifE]
    simp [ix_lst B4.at_]
    refine ite_in3 (fun _ => ?_) (fun g1 g2 g3 => ?_)
    · rw [s_ifE]
      simp [ix_lst B4.at_, iset_lst B4.at_]
      refine ite_in (fun g4 => ?_) (fun g4 => ?_)
      · refine ⟨⟨_, _, rfl, hq5⟩, sz (by decide), w_drawv (n + 6) _ R5 fun v s6 v0 v1 R6 m6 => w_worth1 T L 2 (n + 7) (by omega) (by omega) s6 r x pp cc _ _ R6 (B5.keep R5 m6) fun w s7 b7 hw R7 B7 k7 => ⟨sz (by decide), last (.lt v w) s7 b7 ?_ R7 B7 (k5.trans (m6.k2.trans k7)) (k7.at nr nx.1 (m6 q _ nr hq5)) _ _ _ _⟩⟩
        unfold Dd.ok
        exact ⟨he, v0, v1, hw 0 (by omega)⟩
      · exact hN _ _ ⟨as, b3, _, _, _, _, rfl, R4, B4, hq4, ho, by omega, k4⟩
    · have he3 : e < 3 := by omega
      rw [s_ifE]
      simp
      refine ite_in (fun g4 => ?_) (fun g4 => ?_)
      · refine ⟨⟨_, _, rfl, hq4⟩, hc he3 s4 r x pp cc _ _ R4 B4 fun a1 a2 q2 s5 b5 ho5 nq5 hq5 R5 B5 k5 => ?_⟩
        have hq5' := k5.at nr nx.1 hq4
        refine ext_gen hq5' hq5 (by rw [Dd.ds_len]; simp [Dd.ds]; omega) ?_
        exact hN _ _ ⟨as ++ [a1, a2], b5, _, _, _, _, rfl, R5.putn nr.symm, B5.putq nx, by rw [put_same, Dd.ds_app], Dd.oks_app ho ho5, by simp; omega, (k4.trans k5).put n1⟩
      · simp [ix_lst B4.at_, iset_lst B4.at_]
        refine w_worth1 T L 1 (n + 7) (by omega) (by omega) _ r x pp cc _ _ R5 B5 fun w s6 b6 hw R6 B6 k6 => ?_
        have hq6 := k6.at nr nx.1 hq5
        have K6 := k5.trans k6
        simp [e_lc]
        have ee : ((e : Int) + 1) = ((e + 1 : Nat) : Int) := by omega
        refine ⟨⟨by decide, by decide⟩, ?_⟩
        rw [show rng 0 2 = [.int 0, .int 1] from rfl, ee]
        refine ⟨trivial, h8 he3 s6 r x pp cc _ 2 _ R6 B6 (by decide) (by decide) fun b1 q7 s7 b7 ho7 _ nq7 hq7 R7 B7 k7 => ?_⟩
        show got (seqOf s7 (.ref q7)) _
        rw [seqOf_ref hq7, got_some]
        refine ⟨sz (by simp), trivial, h8 he3 s7 r x pp cc _ 2 _ R7 B7 (by decide) (by decide) fun b2 q8 s8 b8 ho8 _ nq8 hq8 R8 B8 k8 => ?_⟩
        show got (seqOf s8 (.ref q8)) _
        rw [seqOf_ref hq8, got_some]
        refine ⟨sz (by simp), trivial, new_in fun q9 s9 n9 h9 k9 => ?_⟩
        have hqq := (k7.trans k8).at nr nx.1 hq6
        have R9 := R8.keep k9
        have B9 := B8.ke k9
        have K9 := K6.trans (k7.trans (k8.trans k9.k2))
        refine ⟨⟨_, _, rfl, k9 _ _ hqq⟩, ?_⟩
        simp [ix_lst h9]
        refine ⟨sz (by decide), new_in fun q10 s10 n10 h10 k10 => ?_⟩
        refine w_taken (n + 6) _ (R9.keep k10) (by decide) (by decide) fun t s11 t0 t1 R11 m11 => ?_
        have B11 := (B9.ke k10).keep (R9.keep k10) m11
        have h11 := m11 q10 _ (R9.fresh n10) h10
        have h9' := m11 q9 _ (R8.fresh n9) (k10 _ _ h9)
        have hq11 := m11 q _ nr (k10 _ _ (k9 _ _ hqq))
        have K11 := K9.trans (k10.k2.trans m11.k2)
        simp [ix_lst h11, ix_lst h9']
        have fin : ∀ c1 : List Dd, Dd.oks ps (e + 1) c1 → 2 ≤ sizeLine ∧
            new s11 (.lst [.tup (Dd.ds b2), D.tup []]) fun x_8 s1 =>
              wCall prog (n + 7) 6 [D.ref r, D.int 2] s1 fun y s2 =>
                wIx x_8 y s2 fun x_9 s1 =>
                  4 ≤ sizeLine ∧
                    wBM BM.append (D.ref q) [D.tup [D.str (Str.ofString "if"), w.d, .tup (Dd.ds c1), x_9]] s1
                      fun x_10 s1 =>
                      N [some (D.ref r), some (D.ref x), some (D.int ↑e), some (D.int most), some (D.ref q), some (D.int ↑i), some (D.int way), some w.d, some (.ref q9), none] s1 := fun c1 hc1 => by
          refine ⟨sz (by decide), new_in fun q12 s12 n12 h12 k12 => ?_⟩
          refine w_taken (n + 6) _ (R11.keep k12) (by decide) (by decide) fun t s13 t0 t1 R13 m13 => ?_
          have B13 := (B11.ke k12).keep (R11.keep k12) m13
          have h13 := m13 q12 _ (R11.fresh n12) h12
          have hq13 := m13 q _ nr (k12 _ _ hq11)
          have K13 := K11.trans (k12.k2.trans m13.k2)
          have ht : t = 0 ∨ t = 1 := by omega
          rcases ht with rfl | rfl
          · simp [ix_lst h13]
            refine ⟨sz (by decide), last (.ife w c1 b2) s13 _ ?_ R13 B13 K13 hq13 _ _ _ _⟩
            unfold Dd.ok
            exact ⟨he, hw 0 (by omega), hc1, ho8⟩
          · simp [ix_lst h13]
            refine ⟨sz (by decide), last (.ife w c1 []) s13 _ ?_ R13 B13 K13 hq13 _ _ _ _⟩
            unfold Dd.ok
            exact ⟨he, hw 0 (by omega), hc1, by simp [Dd.oks]⟩
        by_cases ht : t = 4
        · simp [ht, ix_lst h9']
          exact fin [] (by simp [Dd.oks])
        · simp [ht, ix_lst h9']
          exact fin b1 ho7
  · rintro _ s3 ⟨as, b3, o5, o6, o7, o8, rfl, R3, B3, hq, ho, hl, k3⟩
    simp
    exact hQ as q s3 b3 ho (by simpa using hl) n1 hq R3 B3 k3
end K14
set_option Elab.async false
set_option linter.all false
set_option maxRecDepth 100000
set_option maxHeartbeats 4000000
namespace K14
open PySem Tk
theorem w_ds1 {cs ps cl : List Int} (T : Tb ps) (L : Cl ps cl) : ∀ (k e n : Nat), e ≤ 3 → 3 - e ≤ k → 2 * k + 8 ≤ n → SpD1 cs ps cl n e
  | 0, e, n, he, g, hn => by
    obtain ⟨n, rfl⟩ : ∃ n', n = n' + 8 := ⟨n - 8, by omega⟩
    exact w_deeds1 T L he (fun h => by omega) (fun h => by omega)
  | k + 1, e, n, he, g, hn => by
    obtain ⟨n, rfl⟩ : ∃ n', n = n' + 8 := ⟨n - 8, by omega⟩
    exact w_deeds1 T L he (fun h => w_ds1 T L k (e + 1) (n + 7) (by omega) (by omega) (by omega)) (fun h => w_count1 (n := n + 5) (by omega) (w_ds1 T L k (e + 1) (n + 6) (by omega) (by omega) (by omega)))
/-- a function but for its size -/
structure F.okm (ps : List Int) (f : F) : Prop where
  p0 : 0 ≤ f.p
  p3 : f.p ≤ 3
  b : Dd.oks ps 0 f.b
  r : W.ok ps 0 f.r
theorem F.okm.pure {ps : List Int} {f : F} (h : f.okm ps) : Pure 18 f.d := by
  have hb : Pures 16 (Dd.ds f.b) := by
    rw [Dd.ds_map]
    refine Pures.all fun x hx => ?_
    obtain ⟨w, hw, rfl⟩ := List.mem_map.mp hx
    exact Dd.pure 4 (Dd.oks_all h.b w hw) (by omega)
  have hr := (W.pure 4 h.r (by omega)).mono (show 2 * 4 ≤ 17 by omega)
  exact (Pure.tup (.cons .int (.cons (.tup hb) (.cons hr .nil))) : Pure (16 + 1 + 1) _)
theorem w_taken' {s : S} {r : Addr} {cs : List Int} (n : Nat) {many : Int} (Q : Q1) (R : Row s r cs) (h : 1 ≤ many ∧ many < 1000) (hQ : ∀ v s', 0 ≤ v → v < many → Row s' r cs → Kp r s s' → Q (.int v) s') : wCall prog (n + 1) 6 [.ref r, .int many] s Q :=
  w_taken n Q R (by omega) (by omega) hQ
theorem good1 : Good [⟨1, [], .dbl 0 (.var 0) (.num 1)⟩] := by
  refine ⟨by simp, by simp, ?_⟩
  intro f hf
  rw [List.mem_singleton.mp hf]
  refine ⟨by decide, by decide, by simp [Dd.oks], ?_, by simp [Dd.cs, W.c]⟩
  simp only [W.ok]
  exact ⟨by omega, ⟨by omega, by omega, by omega⟩, by omega, by omega, by omega⟩
theorem Kp.of2 {r x : Addr} {s0 s s1 s' : S} (h : Kp r s0 s) (n : s x = none) (e : Ke s s1) (k : K2 r x s1 s') : Kp r s0 s' := fun c v hc g =>
  k c v hc (ne_fresh (h c v hc g) n) (e _ _ (h c v hc g))
theorem w_prog {cs : List Int} (n : Nat) (s : S) (r : Addr) (Q : Q1) (R : Row s r cs) (hQ : ∀ fs s', Good fs → Row s' r cs → Kp r s s' → Q (progD fs) s') : wCall prog (n + 40) 1 [.ref r] s Q := by
  rw [call_eqn (p := 1) (m := 9) (b := b__law_program) rfl]
  simp [b__law_program]
  rw [s_ifE]
  simp
  refine w_taken (n + 38) _ R (by decide) (by decide) fun a s1 a0 a1 R1 k1 => ?_
  simp
  refine ite_in (fun _ => ?_) (fun _ => ?_)
  · exact w_anyf (n + 19) s1 r _ R1 fun fs s2 G R2 k2 => hQ fs s2 G R2 (k1.trans k2)
  refine ⟨sz (by decide), w_pick2 (n + 38) _ R1 fun v s2 hv R2 k2 => ?_⟩
  refine w_taken (n + 38) _ R2 (by omega) (by omega) fun m s3 m0 m1 R3 k3 => ?_
  have bn : bnd (1 + m) := ⟨by omega, by omega⟩
  simp [e_lc, bn]
  refine w_params (m := (1 + m).toNat) (by omega) (fun i s K R w => ?_) s3 R3 fun ps s4 hl hps R4 k4 => ?_
  · exact w_taken (n + 38) _ R (by decide) (by decide) w
  have T : Tb ps := ⟨by omega, hps⟩
  have hp1 : 1 ≤ ps.length := by omega
  have K4 : Kp r s s4 := k1.trans (k2.trans (k3.trans k4))
  refine new_in fun pp s5 n5 h5 k5 => new_in fun fq s6 n6 h6 k6 => ?_
  have hpr := R4.fresh n5
  have hfr := (R4.keep k5).fresh n6
  have hfp : fq ≠ pp := fun e => by rw [e, h5] at n6; cases n6
  have nf : s fq = none := (K4.trans k5.k).nn n6 hfr
  have K6 : Kp r s s6 := K4.trans (k5.trans k6).k
  have R6 := R4.keep (k5.trans k6)
  rw [s_forE]
  simp [bn]
  show forGo _ _ _ _ (rng 0 (1 + m).toNat) _ _
  rw [show (1 + m).toNat = ps.length from hl.symm]
  unfold rng
  rw [List.range_eq_range']
  refine forGo_by (f := fun i : Nat => .int (0 + (i : Nat))) (fun w ρ s' => ∃ (fs : List F) (o4 o5 o6 : Option D), w = List.range' fs.length (ps.length - fs.length) ∧ ρ = [some (.ref r), some (.int (1 + m)), some (.ref pp), some (.ref fq), o4, o5, o6, none, none] ∧ Row s' r cs ∧ s' pp = some (.lst (ps.map D.int)) ∧ s' fq = some (.lst (fs.map F.d)) ∧ fs.map F.p = ps.take fs.length ∧ fs.length ≤ ps.length ∧ (∀ f ∈ fs, f.okm ps) ∧ Kp r s s') (fun _ _ _ _ => trivial) ?_ ?_ _ _ s6 ⟨[], none, none, none, by simp, rfl, R6, k6 _ _ h5, h6, rfl, by simp, by simp, K6⟩
  · rintro i w _ s7 N ⟨fs, o4, o5, o6, hw, rfl, R7, hp7, hf7, hfs, hlen, hok, k7⟩ hN
    have hlt : fs.length < ps.length := by
      rcases Nat.lt_or_ge fs.length ps.length with h | h
      · exact h
      · rw [show ps.length - fs.length = 0 by omega] at hw; cases hw
    obtain ⟨kk, hk⟩ : ∃ kk, ps.length - fs.length = kk + 1 := ⟨ps.length - fs.length - 1, by omega⟩
    rw [hk, List.range'_succ] at hw
    injection hw with hi hw
    subst hi
    simp
    refine ⟨sz (by decide), w_pick2 (n + 38) _ R7 fun b0 s8 hb0 R8 k8 => ?_⟩
    have hp8 := k8 pp _ hpr hp7
    have hf8 := k8 fq _ hfr hf7
    have K8 := k7.trans k8
    have bn1 : bnd ((fs.length : Int) + 1) := ⟨by omega, by omega⟩
    simp [bn1, bn]
    refine ⟨by unfold sizeLine; omega, new_in fun cc s9 n9 h9 k9 => ?_⟩
    refine ⟨sz (by decide), ?_⟩
    intro bx n10
    have hcp : cc ≠ bx := ne_fresh h9 n10
    have hp9 := k9 _ _ hp8
    have hf9 := k9 _ _ hf8
    have R9 := R8.keep k9
    have L : Cl ps ((List.range (1 + m - ((fs.length : Int) + 1)).toNat).map fun i : Nat => (fs.length : Int) + 1 + i) := by
      refine ⟨by rw [List.length_map, List.length_range]; omega, fun c hc => ?_⟩
      obtain ⟨i, hi, rfl⟩ := List.mem_map.mp hc
      have := List.mem_range.mp hi
      omega
    have hrng : (List.range (1 + m - ((fs.length : Int) + 1)).toNat).map (fun i : Nat => D.int ((fs.length : Int) + 1 + i)) = ((List.range (1 + m - ((fs.length : Int) + 1)).toNat).map fun i : Nat => (fs.length : Int) + 1 + i).map D.int := by
      rw [List.map_map]; rfl
    rw [hrng] at h9
    generalize ((List.range (1 + m - ((fs.length : Int) + 1)).toNat).map fun i : Nat => (fs.length : Int) + 1 + i) = cl at h9 L
    have hbr := R9.fresh n10
    have hpb := ne_fresh hp9 n10
    have hfb := ne_fresh hf9 n10
    have R10 : Row (put s9 bx (.lst [.int b0, .ref pp, .ref cc])) r cs := R9.putn hbr.symm
    have B10 : Bx (put s9 bx (.lst [.int b0, .ref pp, .ref cc])) bx pp cc ps cl b0 := ⟨put_same, by rw [put_ne hpb]; exact hp9, by rw [put_ne hcp]; exact h9⟩
    refine w_ds1 T L 3 0 (n + 39) (by omega) (by omega) (by omega) _ r bx pp cc _ 4 _ R10 B10 (by decide) (by decide) fun as q s11 b11 has hal nq hq R11 B11 k11 => ?_
    show got (seqOf s11 (.ref q)) _
    rw [seqOf_ref hq, got_some]
    simp [ix_lst B11.at_, iset_lst B11.at_]
    have R12 : Row (put s11 bx (.lst [.int (if 3 < b11 then b11 else 3), .ref pp, .ref cc])) r cs := R11.putn hbr.symm
    have B12 := B11.set (c := if 3 < b11 then b11 else 3)
    have hf10 : (put s9 bx (.lst [.int b0, .ref pp, .ref cc])) fq = some (.lst (fs.map F.d)) := by rw [put_ne hfb]; exact hf9
    have hf11 := k11.at hfr hfb hf10
    have hf12 : (put s11 bx (.lst [.int (if 3 < b11 then b11 else 3), .ref pp, .ref cc])) fq = some (.lst (fs.map F.d)) := by rw [put_ne hfb]; exact hf11
    have hpx : (ps.map D.int)[fs.length]? = some (.int ps[fs.length]) := by rw [List.getElem?_map, List.getElem?_eq_getElem hlt]; rfl
    refine ⟨⟨_, _, rfl, hf12⟩, ?_⟩
    rw [ix_lst B12.tab, at_nat (i := fs.length) rfl hpx]
    refine w_worth1 T L 2 (n + 39) (by omega) (by omega) _ r bx pp cc _ _ R12 B12 fun w2 s13 b13 hw2 R13 B13 k13 => ?_
    have hf13 := k13.at hfr hfb hf12
    have K9 : Kp r s s9 := K8.trans k9.k
    have K13 : Kp r s s13 := K9.box n10 (k11.trans (K2.set.trans k13)) hbr.symm
    refine ⟨sz (by decide), app_in hf13 (by rw [List.length_map]; omega) ?_⟩
    have hx := hps ps[fs.length] (List.getElem_mem _)
    refine hN _ _ ⟨fs ++ [⟨ps[fs.length], as, w2⟩], _, _, _, by rw [hw]; simp [show ps.length - (fs.length + 1) = kk by omega], rfl, R13.putn hfr.symm, by rw [put_ne hfp.symm]; exact B13.tab, by rw [put_same, List.map_append]; rfl, ?_, by simp; omega, ?_, K13.putf nf⟩
    · simp only [List.map_append, List.length_append, List.map_cons, List.map_nil, List.length_cons, List.length_nil, hfs]
      rw [List.take_add_one, List.getElem?_eq_getElem hlt]; rfl
    intro f hf
    rcases List.mem_append.mp hf with hf | hf
    · exact hok f hf
    · rw [List.mem_singleton.mp hf]
      exact ⟨hx.1, hx.2, has, hw2 0 (by omega)⟩
  · rintro _ s7 ⟨fs, o4, o5, o6, hw, rfl, R7, hp7, hf7, hfs, hlen, hok, k7⟩
    have hle : fs.length = ps.length := by
      rcases Nat.lt_or_ge fs.length ps.length with h | h
      · obtain ⟨kk, hk⟩ : ∃ kk, ps.length - fs.length = kk + 1 := ⟨ps.length - fs.length - 1, by omega⟩
        rw [hk, List.range'_succ] at hw; cases hw
      · omega
    rw [hle, List.take_length] at hfs
    simp only [ss_cons]
    rw [s_ifE]
    simp [e_lc]
    rw [wVal, withL_eq hf7]
    refine lcGo_by (f := F.d) (fun q acc s' => s' = s7 ∧ (∀ f ∈ q, f.okm ps) ∧ ∃ kept : List F, acc = kept.map F.d ∧ (∀ f ∈ kept, f.okm ps) ∧ kept.length + q.length ≤ 4 ∧ (kept = [] → ∀ f ∈ fs, f ∉ q → Dd.cs f.b + f.r.c ≤ 40)) (fun _ _ _ h => by rw [h.1]; exact hf7) ?_ ?_ fs [] s7 ⟨rfl, hok, [], rfl, by simp, by simp; omega, fun _ f hf h => absurd hf h⟩
    · rintro f q acc s1 K ⟨rfl, hq, kept, rfl, hk, hkl, hke⟩ kn ks
      simp only [List.length_cons] at hkl
      have hf := hq f (List.mem_cons_self ..)
      refine ⟨by rw [List.length_map]; exact sz (n := kept.length + 1) (by omega), ?_⟩
      simp [F.d]
      have hpb : ∀ d ∈ Dd.ds f.b, Pq 16 d := fun x hx => by
        rw [Dd.ds_map] at hx
        obtain ⟨y, hy, rfl⟩ := List.mem_map.mp hx
        exact Dd.pq 4 (Dd.oks_all hf.b y hy) (by omega)
      have hpr : ∀ d ∈ [f.r.d], Pq 8 d := fun x hx => by
        rw [List.mem_singleton.mp hx]
        exact W.pq 4 hf.r (by omega)
      refine w_things 16 _ (n + 39) hpb (by omega) (by omega) s1 _ ⟨sz (by decide), ?_⟩
      refine w_things 8 _ (n + 39) hpr (by omega) (by omega) s1 _ ?_
      have e1 : ths (Dd.ds f.b) = Dd.cs f.b := ths_d f.b
      have e2 : ths [f.r.d] = f.r.c := by simp [ths, th_w]
      rw [e1, e2]
      simp
      refine ite_in (fun g => ?_) (fun g => ?_)
      · exact ks _ _ ⟨rfl, fun g hg => hq g (List.mem_cons_of_mem _ hg), kept ++ [f], by simp [F.d], fun g hg => by
          rcases List.mem_append.mp hg with hg | hg
          · exact hk g hg
          · rw [List.mem_singleton.mp hg]; exact hf, by simp; omega, fun h => by simp at h⟩
      · refine kn _ ⟨rfl, fun g hg => hq g (List.mem_cons_of_mem _ hg), kept, rfl, hk, by omega, fun h g' hg hn => ?_⟩
        by_cases hgf : g' ∈ f :: q
        · rcases List.mem_cons.mp hgf with rfl | h'
          · omega
          · exact absurd h' hn
        · exact hke h g' hg hgf
    · rintro acc s1 ⟨rfl, _, kept, rfl, hk, hkl, hke⟩
      refine new_in fun qa s8 n8 h8 k8 => new_in fun qb s9 n9 h9 k9 => ?_
      have pk : Pures 60 (kept.map F.d) := Pures.all fun x hx => by
        obtain ⟨f, hf, rfl⟩ := List.mem_map.mp hx
        exact (hk f hf).pure.mono (by omega)
      rw [c_nenil (k9 _ _ h8) h9 pk, truthB_bl]
      have R9 := R7.keep (k8.trans k9)
      have K9 := k7.trans (k8.trans k9).k
      refine ite_in (fun hne => ?_) (fun hne => ?_)
      · simp [sizeLine]
        exact hQ _ s9 good1 R9 K9
      · have hk0 : kept = [] := by
          cases kept with
          | nil => rfl
          | cons a b => simp at hne
        skip
        show got (seqOf s9 (.ref fq)) _
        rw [seqOf_ref ((k8.trans k9) _ _ hf7), got_some]
        refine hQ fs s9 ⟨?_, by omega, ?_⟩ R9 K9
        · rintro rfl; simp at hle; omega
        · intro f hf
          have h := hok f hf
          rw [hfs]
          exact ⟨h.p0, h.p3, h.b, h.r, hke hk0 f hf (by simp)⟩
end K14
set_option Elab.async false
set_option linter.all false
set_option maxRecDepth 100000
set_option maxHeartbeats 4000000
namespace K14
open PySem Tk
theorem law_ok : ∀ ns : List Int, ns.length ≤ 63 → wCall prog 346 0 [.fz (ns.map D.int)] (fun _ => none) fun d _ => d = .bl true := by
  intro ns hns
  rw [call_eqn (p := 1) (m := 10) (b := b_law) rfl]
  simp [b_law]
  refine ⟨sz (by decide), new_in fun r s1 n1 h1 k1 => ?_⟩
  have R1 : Row s1 r ns := ⟨⟨0, 0, 0, h1, by decide, by decide, by decide⟩, hns⟩
  rw [s_forE]
  simp
  refine ⟨⟨by decide, by decide⟩, ?_⟩
  show forGo _ _ _ _ (rng 0 6) _ _
  refine forGo_by (f := fun i : Nat => .int (0 + (i : Nat))) (fun w ρ s' => (∃ o2 o3 o4 o5 o6 o7 o8 o9 : Option D, ρ = [some (.fz (ns.map D.int)), some (.ref r), o2, o3, o4, o5, o6, o7, o8, o9]) ∧ Row s' r ns) (fun _ _ _ _ => trivial) ?_ ?_ (List.range 6) _ s1 ⟨⟨none, none, none, none, none, none, none, none, rfl⟩, R1⟩
  · rintro i w _ s2 N ⟨⟨o2, o3, o4, o5, o6, o7, o8, o9, rfl⟩, R2⟩ hN
    simp
    refine w_prog 305 s2 r _ R2 fun fs s3 G R3 k3 => ?_
    have T := G.tb
    obtain ⟨go, gl⟩ := progW_ok T fs G.ok
    have g4 := G.len
    refine new_in fun q s4 n4 h4 k4 => ?_
    have R4 := R3.keep k4
    rw [s_forE]
    simp [progD, wVal]
    refine forGo_by (f := F.d) (fun w ρ s' => (∀ f ∈ w, f.ok (fs.map F.p)) ∧ Row s' r ns ∧ ∃ (o7 o8 o9 : Option D) (q : Addr) (a : List Str), ρ = [some (.fz (ns.map D.int)), some (.ref r), some (.int i), some (progD fs), some (.ref q), o5, o6, o7, o8, o9] ∧ s' q = some (.lst (sts a)) ∧ a ++ progW w = progW fs) (fun _ _ _ _ => trivial) ?_ ?_ fs _ s4 ⟨G.ok, R4, o7, o8, o9, q, [], rfl, h4, rfl⟩
    · rintro x w _ s5 N' ⟨hr, R5, o7, o8, o9, q, a, rfl, hq, ha⟩ hN'
      have hx := hr x (List.mem_cons_self ..)
      have el : a.length + x.ws.length ≤ 16777216 := by
        have := congrArg List.length ha
        simp only [progW, List.length_append] at this
        omega
      have p0 := hx.p0
      have p3 := hx.p3
      have lg := log_ok (i := x.p) (by omega) (by omega)
      have hc := hx.c
      have b1 := Dd.wss_len x.b
      have b2 := W.ws_len x.r
      simp only [F.ws, List.length_append, List.length_cons, List.length_nil] at el
      simp [F.d, sizeLine, lg]
      refine new_in fun p2 s6 n6 h6 k6 => add_in (ys := [Str.ofString "fun", nw x.p]) (k6 _ _ hq) h6 (by simp; omega) fun p7 s7 n7 h7 k7 => ?_
      refine w_lws T 4 x.b 0 345 hx.b (by omega) (by omega) (by omega) s7 _ fun s8 p8 k8 n8 h8 => add_in (k8 _ _ h7) h8 (by simp; omega) fun p9 s9 n9 h9 k9 => ?_
      refine new_in fun p10 s10 n10 h10 k10 => add_in (ys := [Str.ofString "back"]) (k10 _ _ h9) h10 (by simp; omega) fun p11 s11 n11 h11 k11 => ?_
      refine w_lw9 T hx.r (by omega) 341 _ _ fun s12 p12 k12 n12 h12 => add_in (k12 _ _ h11) h12 (by simp; omega) fun p13 s13 n13 h13 k13 => ?_
      have K := k6.trans (k7.trans (k8.trans (k9.trans (k10.trans (k11.trans (k12.trans k13))))))
      refine hN' _ _ ⟨fun f hf => hr f (List.mem_cons_of_mem _ hf), R5.keep K, _, _, _, p13, _, rfl, h13, ?_⟩
      rw [← ha]; simp [progW, F.ws]
    · rintro _ s5 ⟨_, R5, o7, o8, o9, q, a, rfl, hq, ha⟩
      rw [show a = progW fs by rw [← ha]; simp [progW]] at hq
      have l1 : (sts (progW fs)).length ≤ 16777216 := by rw [sts_len]; omega
      have ht := txt_ok go
      simp [bmTy]
      refine join_in hq go (by omega) ?_
      simp [len_lst hq]
      refine ⟨sz (by omega), ?_⟩
      have fin : ∀ s6, Ke s5 s6 → wS prog (wCall prog 345)
          (St.ife
            ((E.call 4 (Es.cons (E.call 5 (Es.cons (E.var 3) Es.nil)) (Es.cons (E.var 5) Es.nil))).not.or
              ((E.call 4 (Es.cons (E.var 6) (Es.cons (E.var 3) Es.nil))).not.or
                (E.cmp COp.ne (E.call 5 (Es.cons (E.var 6) Es.nil)) (E.var 5))))
            [St.ret (E.bl false)] [])
          { nx := wSs prog (wCall prog 345) []
                { nx := N, rt := fun d x => d = D.bl true,
                  bk := wSs prog (wCall prog 345) [St.ret (E.bl true)] { nx := fun x s' => False, rt := fun d x => d = D.bl true, bk := fun x s' => False, ct := fun x s' => False },
                  ct := N },
            rt := fun d x => d = D.bl true,
            bk := wSs prog (wCall prog 345) [St.ret (E.bl true)] { nx := fun x s' => False, rt := fun d x => d = D.bl true, bk := fun x s' => False, ct := fun x s' => False },
            ct := N }
          [some (D.fz (List.map D.int ns)), some (D.ref r), some (D.int ↑i), some (progD fs), some (D.ref q), some (D.str (txt (progW fs))), some (progD fs), o7, o8, o9]
          s6 := fun s6 k6 => by
        rw [s_ifE]
        simp
        refine w_written G 325 s6 _ fun s7 k7 => ?_
        refine w_alike 0 _ 345 (Pl.str ht) (by omega) s7 _ fun s8 k8 => ?_
        simp
        refine w_alike 19 _ 345 G.pl (by omega) s8 _ fun s9 k9 => ?_
        simp
        refine w_written G 325 s9 _ fun s10 k10 => ?_
        rw [c_neS ht ht]
        simp
        exact hN _ _ ⟨⟨_, _, _, _, _, _, _, _, rfl⟩, R5.keep (k6.trans (k7.trans (k8.trans (k9.trans k10))))⟩
      exact ite_in (fun _ => w_read G 325 s5 _ fun s6 k6 => fin s6 k6) (fun _ => fin s5 Ke.refl)
  · rintro _ s2 ⟨⟨o2, o3, o4, o5, o6, o7, o8, o9, rfl⟩, R2⟩
    simp
end K14
set_option Elab.async false
set_option linter.all false
set_option maxRecDepth 100000
set_option maxHeartbeats 4000000
namespace K14
open PySem PySem.Spec PyProof.Rows L2 Tk
theorem nil_all {α : Type} {p : α → Prop} : ∀ x ∈ ([] : List α), p x := fun x h => nomatch h
theorem cons_all {α : Type} {p : α → Prop} {a : α} {l : List α} (h : p a) (r : ∀ x ∈ l, p x) : ∀ x ∈ a :: l, p x := fun x m => (List.mem_cons.mp m).elim (fun e => e ▸ h) (r x)
theorem all_mk {l : PySem.W.OpenLaw} {w : World} {K : PySem.W.Frag} {h : Heap} {mg : Str → Option Value} {fa f0 f1 f2 f3 f4 f5 f6 f7 f8 f9 f10 f11 f12 f13 f14 f15 f16 f17 f18 f19 f20 f21 f22 f23 f24 f25 f26 f27 f28 f29 f30 f31 f32 f33 f34 f35 C0 C1 : Addr} (X : K.In h) (G : h.Ns mainGlobals mg) (hfa : mg "law" = some (.ref fa))
    {od0 an0 od1 an1 od2 an2 od3 an3 od4 an4 od5 an5 od6 an6 od7 an7 od8 an8 od9 an9 od10 an10 od11 an11 od12 an12 od13 an13 od14 an14 od15 an15 od16 an16 od17 an17 od18 an18 od19 an19 od20 an20 od21 an21 od22 an22 od23 an23 od24 an24 od25 an25 od26 an26 od27 an27 od28 an28 od29 an29 od30 an30 od31 an31 od32 an32 od33 an33 od34 an34 od35 an35 : Option Addr} {sl0 sl1 sl2 sl3 sl4 sl5 sl6 sl7 sl8 sl9 sl10 sl11 sl12 sl13 sl14 sl15 sl16 sl17 sl18 sl19 sl20 sl21 sl22 sl23 sl24 sl25 sl26 sl27 sl28 sl29 sl30 sl31 sl32 sl33 sl34 sl35 : Array (Option Value)}
    {oc0 kV0 dc0 pm0 cd0 ct0 oc1 kV1 dc1 pm1 cd1 ct1 oc2 kV2 dc2 pm2 cd2 ct2 oc3 kV3 dc3 pm3 cd3 ct3 oc4 kV4 dc4 pm4 cd4 ct4 oc5 kV5 dc5 pm5 cd5 ct5 oc6 kV6 dc6 pm6 cd6 ct6 oc7 kV7 dc7 pm7 cd7 ct7 oc8 kV8 dc8 pm8 cd8 ct8 oc9 kV9 dc9 pm9 cd9 ct9 oc10 kV10 dc10 pm10 cd10 ct10 oc11 kV11 dc11 pm11 cd11 ct11 oc12 kV12 dc12 pm12 cd12 ct12 oc13 kV13 dc13 pm13 cd13 ct13 oc14 kV14 dc14 pm14 cd14 ct14 oc15 kV15 dc15 pm15 cd15 ct15 oc16 kV16 dc16 pm16 cd16 ct16 oc17 kV17 dc17 pm17 cd17 ct17 oc18 kV18 dc18 pm18 cd18 ct18 oc19 kV19 dc19 pm19 cd19 ct19 oc20 kV20 dc20 pm20 cd20 ct20 oc21 kV21 dc21 pm21 cd21 ct21 oc22 kV22 dc22 pm22 cd22 ct22 oc23 kV23 dc23 pm23 cd23 ct23 oc24 kV24 dc24 pm24 cd24 ct24 oc25 kV25 dc25 pm25 cd25 ct25 oc26 kV26 dc26 pm26 cd26 ct26 oc27 kV27 dc27 pm27 cd27 ct27 oc28 kV28 dc28 pm28 cd28 ct28 oc29 kV29 dc29 pm29 cd29 ct29 oc30 kV30 dc30 pm30 cd30 ct30 oc31 kV31 dc31 pm31 cd31 ct31 oc32 kV32 dc32 pm32 cd32 ct32 oc33 kV33 dc33 pm33 cd33 ct33 oc34 kV34 dc34 pm34 cd34 ct34 oc35 kV35 dc35 pm35 cd35 ct35 : Value}
    (aC0 : PySem.W.nsIn K mainGlobals "Reader" = some (some (.ref C0)))
    (aC1 : PySem.W.nsIn K mainGlobals "Looker" = some (some (.ref C1)))
    (a0 : PySem.W.nsIn K mainGlobals "law" = some (some (.ref f0)))
    (l0 : K.lookup f0 = some ⟨oc0, od0, .func (PySem.W.fnOf "law" "law" (defArgs s_law) (defBody s_law) (defScope s_law) .none kV0 dc0 pm0 an0 cd0 ct0), sl0⟩) (c0 : PySem.W.codeIn K cd0 "law" = true) (k0 : PySem.W.keepIn K (.ref f0) = true)
    (a1 : PySem.W.nsIn K mainGlobals "_law_program" = some (some (.ref f1)))
    (l1 : K.lookup f1 = some ⟨oc1, od1, .func (PySem.W.fnOf "_law_program" "_law_program" (defArgs s__law_program) (defBody s__law_program) (defScope s__law_program) .none kV1 dc1 pm1 an1 cd1 ct1), sl1⟩) (c1 : PySem.W.codeIn K cd1 "_law_program" = true) (k1 : PySem.W.keepIn K (.ref f1) = true)
    (a2 : PySem.W.nsIn K mainGlobals "read" = some (some (.ref f2)))
    (l2 : K.lookup f2 = some ⟨oc2, od2, .func (PySem.W.fnOf "read" "read" (defArgs s_read) (defBody s_read) (defScope s_read) .none kV2 dc2 pm2 an2 cd2 ct2), sl2⟩) (c2 : PySem.W.codeIn K cd2 "read" = true) (k2 : PySem.W.keepIn K (.ref f2) = true)
    (a3 : PySem.W.nsIn K mainGlobals "_law_words" = some (some (.ref f3)))
    (l3 : K.lookup f3 = some ⟨oc3, od3, .func (PySem.W.fnOf "_law_words" "_law_words" (defArgs s__law_words) (defBody s__law_words) (defScope s__law_words) .none kV3 dc3 pm3 an3 cd3 ct3), sl3⟩) (c3 : PySem.W.codeIn K cd3 "_law_words" = true) (k3 : PySem.W.keepIn K (.ref f3) = true)
    (a4 : PySem.W.nsIn K mainGlobals "_law_alike" = some (some (.ref f4)))
    (l4 : K.lookup f4 = some ⟨oc4, od4, .func (PySem.W.fnOf "_law_alike" "_law_alike" (defArgs s__law_alike) (defBody s__law_alike) (defScope s__law_alike) .none kV4 dc4 pm4 an4 cd4 ct4), sl4⟩) (c4 : PySem.W.codeIn K cd4 "_law_alike" = true) (k4 : PySem.W.keepIn K (.ref f4) = true)
    (a5 : PySem.W.nsIn K mainGlobals "written" = some (some (.ref f5)))
    (l5 : K.lookup f5 = some ⟨oc5, od5, .func (PySem.W.fnOf "written" "written" (defArgs s_written) (defBody s_written) (defScope s_written) .none kV5 dc5 pm5 an5 cd5 ct5), sl5⟩) (c5 : PySem.W.codeIn K cd5 "written" = true) (k5 : PySem.W.keepIn K (.ref f5) = true)
    (a6 : PySem.W.nsIn K mainGlobals "_law_taken" = some (some (.ref f6)))
    (l6 : K.lookup f6 = some ⟨oc6, od6, .func (PySem.W.fnOf "_law_taken" "_law_taken" (defArgs s__law_taken) (defBody s__law_taken) (defScope s__law_taken) .none kV6 dc6 pm6 an6 cd6 ct6), sl6⟩) (c6 : PySem.W.codeIn K cd6 "_law_taken" = true) (k6 : PySem.W.keepIn K (.ref f6) = true)
    (a7 : PySem.W.nsIn K mainGlobals "_law_any_functions" = some (some (.ref f7)))
    (l7 : K.lookup f7 = some ⟨oc7, od7, .func (PySem.W.fnOf "_law_any_functions" "_law_any_functions" (defArgs s__law_any_functions) (defBody s__law_any_functions) (defScope s__law_any_functions) .none kV7 dc7 pm7 an7 cd7 ct7), sl7⟩) (c7 : PySem.W.codeIn K cd7 "_law_any_functions" = true) (k7 : PySem.W.keepIn K (.ref f7) = true)
    (a8 : PySem.W.nsIn K mainGlobals "_law_deeds" = some (some (.ref f8)))
    (l8 : K.lookup f8 = some ⟨oc8, od8, .func (PySem.W.fnOf "_law_deeds" "_law_deeds" (defArgs s__law_deeds) (defBody s__law_deeds) (defScope s__law_deeds) .none kV8 dc8 pm8 an8 cd8 ct8), sl8⟩) (c8 : PySem.W.codeIn K cd8 "_law_deeds" = true) (k8 : PySem.W.keepIn K (.ref f8) = true)
    (a9 : PySem.W.nsIn K mainGlobals "_law_worth" = some (some (.ref f9)))
    (l9 : K.lookup f9 = some ⟨oc9, od9, .func (PySem.W.fnOf "_law_worth" "_law_worth" (defArgs s__law_worth) (defBody s__law_worth) (defScope s__law_worth) .none kV9 dc9 pm9 an9 cd9 ct9), sl9⟩) (c9 : PySem.W.codeIn K cd9 "_law_worth" = true) (k9 : PySem.W.keepIn K (.ref f9) = true)
    (a10 : PySem.W.nsIn K mainGlobals "_law_things" = some (some (.ref f10)))
    (l10 : K.lookup f10 = some ⟨oc10, od10, .func (PySem.W.fnOf "_law_things" "_law_things" (defArgs s__law_things) (defBody s__law_things) (defScope s__law_things) .none kV10 dc10 pm10 an10 cd10 ct10), sl10⟩) (c10 : PySem.W.codeIn K cd10 "_law_things" = true) (k10 : PySem.W.keepIn K (.ref f10) = true)
    (a11 : PySem.W.findIn K (.ref C0) "__init__" = some (some (.ref f11))) (i11 : PySem.W.isFn K (.ref f11) = true)
    (l11 : K.lookup f11 = some ⟨oc11, od11, .func (PySem.W.fnOf "__init__" "Reader.__init__" (defArgs s_Reader___init__) (defBody s_Reader___init__) (defScope s_Reader___init__) .none kV11 dc11 pm11 an11 cd11 ct11), sl11⟩) (c11 : PySem.W.codeIn K cd11 "Reader.__init__" = true) (k11 : PySem.W.keepIn K (.ref f11) = true)
    (a12 : PySem.W.findIn K (.ref C0) "word" = some (some (.ref f12))) (i12 : PySem.W.isFn K (.ref f12) = true)
    (l12 : K.lookup f12 = some ⟨oc12, od12, .func (PySem.W.fnOf "word" "Reader.word" (defArgs s_Reader_word) (defBody s_Reader_word) (defScope s_Reader_word) .none kV12 dc12 pm12 an12 cd12 ct12), sl12⟩) (c12 : PySem.W.codeIn K cd12 "Reader.word" = true) (k12 : PySem.W.keepIn K (.ref f12) = true)
    (a13 : PySem.W.findIn K (.ref C0) "number" = some (some (.ref f13))) (i13 : PySem.W.isFn K (.ref f13) = true)
    (l13 : K.lookup f13 = some ⟨oc13, od13, .func (PySem.W.fnOf "number" "Reader.number" (defArgs s_Reader_number) (defBody s_Reader_number) (defScope s_Reader_number) .none kV13 dc13 pm13 an13 cd13 ct13), sl13⟩) (c13 : PySem.W.codeIn K cd13 "Reader.number" = true) (k13 : PySem.W.keepIn K (.ref f13) = true)
    (a14 : PySem.W.findIn K (.ref C0) "variable" = some (some (.ref f14))) (i14 : PySem.W.isFn K (.ref f14) = true)
    (l14 : K.lookup f14 = some ⟨oc14, od14, .func (PySem.W.fnOf "variable" "Reader.variable" (defArgs s_Reader_variable) (defBody s_Reader_variable) (defScope s_Reader_variable) .none kV14 dc14 pm14 an14 cd14 ct14), sl14⟩) (c14 : PySem.W.codeIn K cd14 "Reader.variable" = true) (k14 : PySem.W.keepIn K (.ref f14) = true)
    (a15 : PySem.W.findIn K (.ref C0) "expression" = some (some (.ref f15))) (i15 : PySem.W.isFn K (.ref f15) = true)
    (l15 : K.lookup f15 = some ⟨oc15, od15, .func (PySem.W.fnOf "expression" "Reader.expression" (defArgs s_Reader_expression) (defBody s_Reader_expression) (defScope s_Reader_expression) .none kV15 dc15 pm15 an15 cd15 ct15), sl15⟩) (c15 : PySem.W.codeIn K cd15 "Reader.expression" = true) (k15 : PySem.W.keepIn K (.ref f15) = true)
    (a16 : PySem.W.findIn K (.ref C0) "deeds" = some (some (.ref f16))) (i16 : PySem.W.isFn K (.ref f16) = true)
    (l16 : K.lookup f16 = some ⟨oc16, od16, .func (PySem.W.fnOf "deeds" "Reader.deeds" (defArgs s_Reader_deeds) (defBody s_Reader_deeds) (defScope s_Reader_deeds) .none kV16 dc16 pm16 an16 cd16 ct16), sl16⟩) (c16 : PySem.W.codeIn K cd16 "Reader.deeds" = true) (k16 : PySem.W.keepIn K (.ref f16) = true)
    (a17 : PySem.W.findIn K (.ref C0) "choice" = some (some (.ref f17))) (i17 : PySem.W.isFn K (.ref f17) = true)
    (l17 : K.lookup f17 = some ⟨oc17, od17, .func (PySem.W.fnOf "choice" "Reader.choice" (defArgs s_Reader_choice) (defBody s_Reader_choice) (defScope s_Reader_choice) .none kV17 dc17 pm17 an17 cd17 ct17), sl17⟩) (c17 : PySem.W.codeIn K cd17 "Reader.choice" = true) (k17 : PySem.W.keepIn K (.ref f17) = true)
    (a18 : PySem.W.findIn K (.ref C0) "one_function" = some (some (.ref f18))) (i18 : PySem.W.isFn K (.ref f18) = true)
    (l18 : K.lookup f18 = some ⟨oc18, od18, .func (PySem.W.fnOf "one_function" "Reader.one_function" (defArgs s_Reader_one_function) (defBody s_Reader_one_function) (defScope s_Reader_one_function) .none kV18 dc18 pm18 an18 cd18 ct18), sl18⟩) (c18 : PySem.W.codeIn K cd18 "Reader.one_function" = true) (k18 : PySem.W.keepIn K (.ref f18) = true)
    (a19 : PySem.W.nsIn K mainGlobals "need_program" = some (some (.ref f19)))
    (l19 : K.lookup f19 = some ⟨oc19, od19, .func (PySem.W.fnOf "need_program" "need_program" (defArgs s_need_program) (defBody s_need_program) (defScope s_need_program) .none kV19 dc19 pm19 an19 cd19 ct19), sl19⟩) (c19 : PySem.W.codeIn K cd19 "need_program" = true) (k19 : PySem.W.keepIn K (.ref f19) = true)
    (a20 : PySem.W.nsIn K mainGlobals "_law_deed_words" = some (some (.ref f20)))
    (l20 : K.lookup f20 = some ⟨oc20, od20, .func (PySem.W.fnOf "_law_deed_words" "_law_deed_words" (defArgs s__law_deed_words) (defBody s__law_deed_words) (defScope s__law_deed_words) .none kV20 dc20 pm20 an20 cd20 ct20), sl20⟩) (c20 : PySem.W.codeIn K cd20 "_law_deed_words" = true) (k20 : PySem.W.keepIn K (.ref f20) = true)
    (a21 : PySem.W.nsIn K mainGlobals "worth_words" = some (some (.ref f21)))
    (l21 : K.lookup f21 = some ⟨oc21, od21, .func (PySem.W.fnOf "worth_words" "worth_words" (defArgs s_worth_words) (defBody s_worth_words) (defScope s_worth_words) .none kV21 dc21 pm21 an21 cd21 ct21), sl21⟩) (c21 : PySem.W.codeIn K cd21 "worth_words" = true) (k21 : PySem.W.keepIn K (.ref f21) = true)
    (a22 : PySem.W.nsIn K mainGlobals "deeds_words" = some (some (.ref f22)))
    (l22 : K.lookup f22 = some ⟨oc22, od22, .func (PySem.W.fnOf "deeds_words" "deeds_words" (defArgs s_deeds_words) (defBody s_deeds_words) (defScope s_deeds_words) .none kV22 dc22 pm22 an22 cd22 ct22), sl22⟩) (c22 : PySem.W.codeIn K cd22 "deeds_words" = true) (k22 : PySem.W.keepIn K (.ref f22) = true)
    (a23 : PySem.W.nsIn K mainGlobals "_law_any_deeds" = some (some (.ref f23)))
    (l23 : K.lookup f23 = some ⟨oc23, od23, .func (PySem.W.fnOf "_law_any_deeds" "_law_any_deeds" (defArgs s__law_any_deeds) (defBody s__law_any_deeds) (defScope s__law_any_deeds) .none kV23 dc23 pm23 an23 cd23 ct23), sl23⟩) (c23 : PySem.W.codeIn K cd23 "_law_any_deeds" = true) (k23 : PySem.W.keepIn K (.ref f23) = true)
    (a24 : PySem.W.nsIn K mainGlobals "_law_any_worth" = some (some (.ref f24)))
    (l24 : K.lookup f24 = some ⟨oc24, od24, .func (PySem.W.fnOf "_law_any_worth" "_law_any_worth" (defArgs s__law_any_worth) (defBody s__law_any_worth) (defScope s__law_any_worth) .none kV24 dc24 pm24 an24 cd24 ct24), sl24⟩) (c24 : PySem.W.codeIn K cd24 "_law_any_worth" = true) (k24 : PySem.W.keepIn K (.ref f24) = true)
    (a25 : PySem.W.nsIn K mainGlobals "_law_count" = some (some (.ref f25)))
    (l25 : K.lookup f25 = some ⟨oc25, od25, .func (PySem.W.fnOf "_law_count" "_law_count" (defArgs s__law_count) (defBody s__law_count) (defScope s__law_count) .none kV25 dc25 pm25 an25 cd25 ct25), sl25⟩) (c25 : PySem.W.codeIn K cd25 "_law_count" = true) (k25 : PySem.W.keepIn K (.ref f25) = true)
    (a26 : PySem.W.nsIn K mainGlobals "_law_number" = some (some (.ref f26)))
    (l26 : K.lookup f26 = some ⟨oc26, od26, .func (PySem.W.fnOf "_law_number" "_law_number" (defArgs s__law_number) (defBody s__law_number) (defScope s__law_number) .none kV26 dc26 pm26 an26 cd26 ct26), sl26⟩) (c26 : PySem.W.codeIn K cd26 "_law_number" = true) (k26 : PySem.W.keepIn K (.ref f26) = true)
    (a27 : PySem.W.nsIn K mainGlobals "number_of" = some (some (.ref f27)))
    (l27 : K.lookup f27 = some ⟨oc27, od27, .func (PySem.W.fnOf "number_of" "number_of" (defArgs s_number_of) (defBody s_number_of) (defScope s_number_of) .none kV27 dc27 pm27 an27 cd27 ct27), sl27⟩) (c27 : PySem.W.codeIn K cd27 "number_of" = true) (k27 : PySem.W.keepIn K (.ref f27) = true)
    (a28 : PySem.W.findIn K (.ref C1) "__init__" = some (some (.ref f28))) (i28 : PySem.W.isFn K (.ref f28) = true)
    (l28 : K.lookup f28 = some ⟨oc28, od28, .func (PySem.W.fnOf "__init__" "Looker.__init__" (defArgs s_Looker___init__) (defBody s_Looker___init__) (defScope s_Looker___init__) .none kV28 dc28 pm28 an28 cd28 ct28), sl28⟩) (c28 : PySem.W.codeIn K cd28 "Looker.__init__" = true) (k28 : PySem.W.keepIn K (.ref f28) = true)
    (a29 : PySem.W.findIn K (.ref C1) "is_worth" = some (some (.ref f29))) (i29 : PySem.W.isFn K (.ref f29) = true)
    (l29 : K.lookup f29 = some ⟨oc29, od29, .func (PySem.W.fnOf "is_worth" "Looker.is_worth" (defArgs s_Looker_is_worth) (defBody s_Looker_is_worth) (defScope s_Looker_is_worth) .none kV29 dc29 pm29 an29 cd29 ct29), sl29⟩) (c29 : PySem.W.codeIn K cd29 "Looker.is_worth" = true) (k29 : PySem.W.keepIn K (.ref f29) = true)
    (a30 : PySem.W.findIn K (.ref C1) "are_worths" = some (some (.ref f30))) (i30 : PySem.W.isFn K (.ref f30) = true)
    (l30 : K.lookup f30 = some ⟨oc30, od30, .func (PySem.W.fnOf "are_worths" "Looker.are_worths" (defArgs s_Looker_are_worths) (defBody s_Looker_are_worths) (defScope s_Looker_are_worths) .none kV30 dc30 pm30 an30 cd30 ct30), sl30⟩) (c30 : PySem.W.codeIn K cd30 "Looker.are_worths" = true) (k30 : PySem.W.keepIn K (.ref f30) = true)
    (a31 : PySem.W.findIn K (.ref C1) "is_deed" = some (some (.ref f31))) (i31 : PySem.W.isFn K (.ref f31) = true)
    (l31 : K.lookup f31 = some ⟨oc31, od31, .func (PySem.W.fnOf "is_deed" "Looker.is_deed" (defArgs s_Looker_is_deed) (defBody s_Looker_is_deed) (defScope s_Looker_is_deed) .none kV31 dc31 pm31 an31 cd31 ct31), sl31⟩) (c31 : PySem.W.codeIn K cd31 "Looker.is_deed" = true) (k31 : PySem.W.keepIn K (.ref f31) = true)
    (a32 : PySem.W.findIn K (.ref C1) "are_deeds" = some (some (.ref f32))) (i32 : PySem.W.isFn K (.ref f32) = true)
    (l32 : K.lookup f32 = some ⟨oc32, od32, .func (PySem.W.fnOf "are_deeds" "Looker.are_deeds" (defArgs s_Looker_are_deeds) (defBody s_Looker_are_deeds) (defScope s_Looker_are_deeds) .none kV32 dc32 pm32 an32 cd32 ct32), sl32⟩) (c32 : PySem.W.codeIn K cd32 "Looker.are_deeds" = true) (k32 : PySem.W.keepIn K (.ref f32) = true)
    (a33 : PySem.W.findIn K (.ref C1) "is_function" = some (some (.ref f33))) (i33 : PySem.W.isFn K (.ref f33) = true)
    (l33 : K.lookup f33 = some ⟨oc33, od33, .func (PySem.W.fnOf "is_function" "Looker.is_function" (defArgs s_Looker_is_function) (defBody s_Looker_is_function) (defScope s_Looker_is_function) .none kV33 dc33 pm33 an33 cd33 ct33), sl33⟩) (c33 : PySem.W.codeIn K cd33 "Looker.is_function" = true) (k33 : PySem.W.keepIn K (.ref f33) = true)
    (a34 : PySem.W.nsIn K mainGlobals "is_shape" = some (some (.ref f34)))
    (l34 : K.lookup f34 = some ⟨oc34, od34, .func (PySem.W.fnOf "is_shape" "is_shape" (defArgs s_is_shape) (defBody s_is_shape) (defScope s_is_shape) .none kV34 dc34 pm34 an34 cd34 ct34), sl34⟩) (c34 : PySem.W.codeIn K cd34 "is_shape" = true) (k34 : PySem.W.keepIn K (.ref f34) = true)
    (a35 : PySem.W.nsIn K mainGlobals "is_within" = some (some (.ref f35)))
    (l35 : K.lookup f35 = some ⟨oc35, od35, .func (PySem.W.fnOf "is_within" "is_within" (defArgs s_is_within) (defBody s_is_within) (defScope s_is_within) .none kV35 dc35 pm35 an35 cd35 ct35), sl35⟩) (c35 : PySem.W.codeIn K cd35 "is_within" = true) (k35 : PySem.W.keepIn K (.ref f35) = true)
    (pg0 : PySem.W.plainGet K C0 Str.empty = true) (hd0 : PySem.W.hasDictIn K C0 = true) (po0 : PySem.W.plainOver K C0 = true) (sa0 : PySem.W.findIn K (.ref C0) "__setattr__" = some (some (.builtin "object.__setattr__"))) (mk0 : PySem.W.makesIn K C0 = true) (kc0 : PySem.W.keepIn K (.ref C0) = true)
    (n0_0 : PySem.W.findIn K (.ref C0) "words" = some none)
    (n0_1 : PySem.W.findIn K (.ref C0) "place" = some none)
    (pg1 : PySem.W.plainGet K C1 Str.empty = true) (hd1 : PySem.W.hasDictIn K C1 = true) (po1 : PySem.W.plainOver K C1 = true) (sa1 : PySem.W.findIn K (.ref C1) "__setattr__" = some (some (.builtin "object.__setattr__"))) (mk1 : PySem.W.makesIn K C1 = true) (kc1 : PySem.W.keepIn K (.ref C1) = true)
    (n1_0 : PySem.W.findIn K (.ref C1) "many" = some none)
    (n1_1 : PySem.W.findIn K (.ref C1) "things" = some none)
    {u0 : Addr} {o0 : Obj} {it0 : Array Value} {m0 : Nat} (g0 : PySem.W.nsIn K mainGlobals "DOUBLES" = some (some (.ref u0))) (go0 : K.lookup u0 = some o0) (gc0 : o0.cls = .type "tuple") (gd0 : o0.data = .seq it0 m0) (gz0 : it0.size ≤ sizeLine) (gv0 : Vals [.str "add", .str "take", .str "times", .str "less", .str "same"] it0.toList)
    {u1 : Value} (g1 : PySem.W.nsIn K mainGlobals "MOST_FUNCTIONS" = some (some u1)) (gr1 : RelV (.int 4) u1)
    {u2 : Value} (g2 : PySem.W.nsIn K mainGlobals "MOST_FIGURES" = some (some u2)) (gr2 : RelV (.int 4) u2)
    {u3 : Value} (g3 : PySem.W.nsIn K mainGlobals "FIGURES" = some (some u3)) (gr3 : RelV (.str "0123456789") u3)
    {u4 : Value} (g4 : PySem.W.nsIn K mainGlobals "MOST_DEEP" = some (some u4)) (gr4 : RelV (.int 3) u4)
    {u5 : Value} (g5 : PySem.W.nsIn K mainGlobals "HALF" = some (some u5)) (gr5 : RelV (.int 1000) u5)
    {u6 : Value} (g6 : PySem.W.nsIn K mainGlobals "VARS" = some (some u6)) (gr6 : RelV (.int 6) u6)
    {u7 : Value} (g7 : PySem.W.nsIn K mainGlobals "MOST_THINGS" = some (some u7)) (gr7 : RelV (.int 40) u7)
    {u8 : Value} (g8 : PySem.W.nsIn K mainGlobals "MOST_PARAMS" = some (some u8)) (gr8 : RelV (.int 3) u8)
    (z_len : PySem.W.nsIn K mainGlobals "len" = some none)
    (z_max : PySem.W.nsIn K mainGlobals "max" = some none)
    (z_min : PySem.W.nsIn K mainGlobals "min" = some none)
    (z_int : PySem.W.nsIn K mainGlobals "int" = some none)
    (z_str : PySem.W.nsIn K mainGlobals "str" = some none)
    (z_tuple : PySem.W.nsIn K mainGlobals "tuple" = some none)
    (z_list : PySem.W.nsIn K mainGlobals "list" = some none)
    (z_range : PySem.W.nsIn K mainGlobals "range" = some none)
    (z_zip : PySem.W.nsIn K mainGlobals "zip" = some none)
    (z_isinstance : PySem.W.nsIn K mainGlobals "isinstance" = some none)
    (z_bool : PySem.W.nsIn K mainGlobals "bool" = some none)
    (law : ∀ ns : List Int, ns.length ≤ 63 → wCall prog 346 0 [.fz (ns.map D.int)] (fun _ => none) fun d _ => d = .bl true) :
    ∃ fd : FuncData, (∀ (s : Shared) (v : Value), BindsTo s fd ⟨[v], []⟩ [("_law_script", v)]) ∧ ∀ base : Heap, K.In base → base.Ns mainGlobals mg → FnOk l.prog w K mg base CX0 231 fa fd ["_law_script"] (spLaw K) := by
  have e := hfa.symm.trans (PySem.W.mg_of X G a0)
  cases e
  have F0 := fun_mk (st := s_law) l0 c0 k0
  have F1 := fun_mk (st := s__law_program) l1 c1 k1
  have F2 := fun_mk (st := s_read) l2 c2 k2
  have F3 := fun_mk (st := s__law_words) l3 c3 k3
  have F4 := fun_mk (st := s__law_alike) l4 c4 k4
  have F5 := fun_mk (st := s_written) l5 c5 k5
  have F6 := fun_mk (st := s__law_taken) l6 c6 k6
  have F7 := fun_mk (st := s__law_any_functions) l7 c7 k7
  have F8 := fun_mk (st := s__law_deeds) l8 c8 k8
  have F9 := fun_mk (st := s__law_worth) l9 c9 k9
  have F10 := fun_mk (st := s__law_things) l10 c10 k10
  have F11 := fun_mk (st := s_Reader___init__) l11 c11 k11
  have F12 := fun_mk (st := s_Reader_word) l12 c12 k12
  have F13 := fun_mk (st := s_Reader_number) l13 c13 k13
  have F14 := fun_mk (st := s_Reader_variable) l14 c14 k14
  have F15 := fun_mk (st := s_Reader_expression) l15 c15 k15
  have F16 := fun_mk (st := s_Reader_deeds) l16 c16 k16
  have F17 := fun_mk (st := s_Reader_choice) l17 c17 k17
  have F18 := fun_mk (st := s_Reader_one_function) l18 c18 k18
  have F19 := fun_mk (st := s_need_program) l19 c19 k19
  have F20 := fun_mk (st := s__law_deed_words) l20 c20 k20
  have F21 := fun_mk (st := s_worth_words) l21 c21 k21
  have F22 := fun_mk (st := s_deeds_words) l22 c22 k22
  have F23 := fun_mk (st := s__law_any_deeds) l23 c23 k23
  have F24 := fun_mk (st := s__law_any_worth) l24 c24 k24
  have F25 := fun_mk (st := s__law_count) l25 c25 k25
  have F26 := fun_mk (st := s__law_number) l26 c26 k26
  have F27 := fun_mk (st := s_number_of) l27 c27 k27
  have F28 := fun_mk (st := s_Looker___init__) l28 c28 k28
  have F29 := fun_mk (st := s_Looker_is_worth) l29 c29 k29
  have F30 := fun_mk (st := s_Looker_are_worths) l30 c30 k30
  have F31 := fun_mk (st := s_Looker_is_deed) l31 c31 k31
  have F32 := fun_mk (st := s_Looker_are_deeds) l32 c32 k32
  have F33 := fun_mk (st := s_Looker_is_function) l33 c33 k33
  have F34 := fun_mk (st := s_is_shape) l34 c34 k34
  have F35 := fun_mk (st := s_is_within) l35 c35 k35
  let FA : CAt := fun i => match i with
    | 0 => fa
    | 1 => f1
    | 2 => f2
    | 3 => f3
    | 4 => f4
    | 5 => f5
    | 6 => f6
    | 7 => f7
    | 8 => f8
    | 9 => f9
    | 10 => f10
    | 11 => f11
    | 12 => f12
    | 13 => f13
    | 14 => f14
    | 15 => f15
    | 16 => f16
    | 17 => f17
    | 18 => f18
    | 19 => f19
    | 20 => f20
    | 21 => f21
    | 22 => f22
    | 23 => f23
    | 24 => f24
    | 25 => f25
    | 26 => f26
    | 27 => f27
    | 28 => f28
    | 29 => f29
    | 30 => f30
    | 31 => f31
    | 32 => f32
    | 33 => f33
    | 34 => f34
    | 35 => f35
    | _ => 0
  let CA : CAt := fun i => match i with
    | 0 => C0
    | 1 => C1
    | _ => 0
  have M : Mods K mg prog tab CA FA := by
    refine ⟨?con, ?fns, ?clss, ?mths, ?flds, ?blt⟩
    case con =>
      intro x d hx
      replace hx : con x = some d := hx
      unfold con at hx
      by_cases e0 : x = "DOUBLES"
      · subst e0; rw [if_pos rfl] at hx; cases hx; exact ⟨_, V.ref u0, PySem.W.mg_of X G g0, rfl, fun H => .tup (.inr ⟨_, _, _, go0, gc0, gd0, gz0, gv0⟩) (.cons (.str _) (.cons (.str _) (.cons (.str _) (.cons (.str _) (.cons (.str _) .nil)))))⟩
      rw [if_neg e0] at hx
      by_cases e1 : x = "MOST_FUNCTIONS"
      · subst e1; rw [if_pos rfl] at hx; cases hx; exact ⟨_, _, PySem.W.mg_of X G g1, gr1, fun H => .int _⟩
      rw [if_neg e1] at hx
      by_cases e2 : x = "MOST_FIGURES"
      · subst e2; rw [if_pos rfl] at hx; cases hx; exact ⟨_, _, PySem.W.mg_of X G g2, gr2, fun H => .int _⟩
      rw [if_neg e2] at hx
      by_cases e3 : x = "FIGURES"
      · subst e3; rw [if_pos rfl] at hx; cases hx; exact ⟨_, _, PySem.W.mg_of X G g3, gr3, fun H => .str _⟩
      rw [if_neg e3] at hx
      by_cases e4 : x = "MOST_DEEP"
      · subst e4; rw [if_pos rfl] at hx; cases hx; exact ⟨_, _, PySem.W.mg_of X G g4, gr4, fun H => .int _⟩
      rw [if_neg e4] at hx
      by_cases e5 : x = "HALF"
      · subst e5; rw [if_pos rfl] at hx; cases hx; exact ⟨_, _, PySem.W.mg_of X G g5, gr5, fun H => .int _⟩
      rw [if_neg e5] at hx
      by_cases e6 : x = "VARS"
      · subst e6; rw [if_pos rfl] at hx; cases hx; exact ⟨_, _, PySem.W.mg_of X G g6, gr6, fun H => .int _⟩
      rw [if_neg e6] at hx
      by_cases e7 : x = "MOST_THINGS"
      · subst e7; rw [if_pos rfl] at hx; cases hx; exact ⟨_, _, PySem.W.mg_of X G g7, gr7, fun H => .int _⟩
      rw [if_neg e7] at hx
      by_cases e8 : x = "MOST_PARAMS"
      · subst e8; rw [if_pos rfl] at hx; cases hx; exact ⟨_, _, PySem.W.mg_of X G g8, gr8, fun H => .int _⟩
      rw [if_neg e8] at hx
      cases hx
    case fns =>
      have q : ∀ p ∈ tab.fns, mg p.2 = some (.ref (FA p.1)) ∧ PySem.W.keepIn K (.ref (FA p.1)) = true := (cons_all ⟨PySem.W.mg_of X G a0, k0⟩ (cons_all ⟨PySem.W.mg_of X G a1, k1⟩ (cons_all ⟨PySem.W.mg_of X G a2, k2⟩ (cons_all ⟨PySem.W.mg_of X G a3, k3⟩ (cons_all ⟨PySem.W.mg_of X G a4, k4⟩ (cons_all ⟨PySem.W.mg_of X G a5, k5⟩ (cons_all ⟨PySem.W.mg_of X G a6, k6⟩ (cons_all ⟨PySem.W.mg_of X G a7, k7⟩ (cons_all ⟨PySem.W.mg_of X G a8, k8⟩ (cons_all ⟨PySem.W.mg_of X G a9, k9⟩ (cons_all ⟨PySem.W.mg_of X G a10, k10⟩ (cons_all ⟨PySem.W.mg_of X G a19, k19⟩ (cons_all ⟨PySem.W.mg_of X G a20, k20⟩ (cons_all ⟨PySem.W.mg_of X G a21, k21⟩ (cons_all ⟨PySem.W.mg_of X G a22, k22⟩ (cons_all ⟨PySem.W.mg_of X G a23, k23⟩ (cons_all ⟨PySem.W.mg_of X G a24, k24⟩ (cons_all ⟨PySem.W.mg_of X G a25, k25⟩ (cons_all ⟨PySem.W.mg_of X G a26, k26⟩ (cons_all ⟨PySem.W.mg_of X G a27, k27⟩ (cons_all ⟨PySem.W.mg_of X G a34, k34⟩ (cons_all ⟨PySem.W.mg_of X G a35, k35⟩ nil_all))))))))))))))))))))))
      exact fun f x hp => q (f, x) hp
    case clss =>
      have q : ∀ p ∈ tab.clss, mg p.2 = some (.ref (CA p.1)) ∧ ∃ f, prog.init p.1 = some f ∧ Mk K (CA p.1) (FA f) := (cons_all ⟨PySem.W.mg_of X G aC0, 11, rfl, mk0, a11, i11, kc0⟩ (cons_all ⟨PySem.W.mg_of X G aC1, 28, rfl, mk1, a28, i28, kc1⟩ nil_all))
      exact fun c x hp => q (c, x) hp
    case mths =>
      have q : ∀ p ∈ tab.mths, Cls K (CA p.1) ∧ Meth K (CA p.1) p.2.1 (FA p.2.2) := (cons_all ⟨⟨pg0, hd0, po0, sa0⟩, a12, i12, k12⟩ (cons_all ⟨⟨pg0, hd0, po0, sa0⟩, a13, i13, k13⟩ (cons_all ⟨⟨pg0, hd0, po0, sa0⟩, a14, i14, k14⟩ (cons_all ⟨⟨pg0, hd0, po0, sa0⟩, a15, i15, k15⟩ (cons_all ⟨⟨pg0, hd0, po0, sa0⟩, a16, i16, k16⟩ (cons_all ⟨⟨pg0, hd0, po0, sa0⟩, a17, i17, k17⟩ (cons_all ⟨⟨pg0, hd0, po0, sa0⟩, a18, i18, k18⟩ (cons_all ⟨⟨pg1, hd1, po1, sa1⟩, a29, i29, k29⟩ (cons_all ⟨⟨pg1, hd1, po1, sa1⟩, a30, i30, k30⟩ (cons_all ⟨⟨pg1, hd1, po1, sa1⟩, a31, i31, k31⟩ (cons_all ⟨⟨pg1, hd1, po1, sa1⟩, a32, i32, k32⟩ (cons_all ⟨⟨pg1, hd1, po1, sa1⟩, a33, i33, k33⟩ nil_all))))))))))))
      exact fun c m f hp => q (c, m, f) hp
    case flds =>
      intro c f hf
      match c, hf with
      | 0, hf => exact ⟨⟨pg0, hd0, po0, sa0⟩, (show ∀ f ∈ flds 0, NoAttr K C0 f from (cons_all n0_0 (cons_all n0_1 nil_all))) f hf⟩
      | 1, hf => exact ⟨⟨pg1, hd1, po1, sa1⟩, (show ∀ f ∈ flds 1, NoAttr K C1 f from (cons_all n1_0 (cons_all n1_1 nil_all))) f hf⟩
      | n + 2, hf => exact absurd hf (by intro z; cases z)
    case blt =>
      exact (show ∀ x ∈ bltns, mg x = none from (cons_all (PySem.W.mg_none_of X G z_len) (cons_all (PySem.W.mg_none_of X G z_max) (cons_all (PySem.W.mg_none_of X G z_min) (cons_all (PySem.W.mg_none_of X G z_int) (cons_all (PySem.W.mg_none_of X G z_str) (cons_all (PySem.W.mg_none_of X G z_tuple) (cons_all (PySem.W.mg_none_of X G z_list) (cons_all (PySem.W.mg_none_of X G z_range) (cons_all (PySem.W.mg_none_of X G z_zip) (cons_all (PySem.W.mg_none_of X G z_isinstance) (cons_all (PySem.W.mg_none_of X G z_bool) nil_all))))))))))))
  have HD : ∀ f, DefOk K tab prog FA f ∨ (prog.fn f).body = [.raise] := by
    intro f
    match f with
    | 0 => exact .inl ⟨_, _, s_law, n_law, p_law, _, F0, c_law, rfl, rfl, k_law, fun _ _ _ _ _ _ us hl => match us, hl with | [_], _ => rfl⟩
    | 1 => exact .inl ⟨_, _, s__law_program, n__law_program, p__law_program, _, F1, c__law_program, rfl, rfl, k__law_program, fun _ _ _ _ _ _ us hl => match us, hl with | [_], _ => rfl⟩
    | 2 => exact .inl ⟨_, _, s_read, n_read, p_read, _, F2, c_read, rfl, rfl, k_read, fun _ _ _ _ _ _ us hl => match us, hl with | [_], _ => rfl⟩
    | 3 => exact .inl ⟨_, _, s__law_words, n__law_words, p__law_words, _, F3, c__law_words, rfl, rfl, k__law_words, fun _ _ _ _ _ _ us hl => match us, hl with | [_], _ => rfl⟩
    | 4 => exact .inl ⟨_, _, s__law_alike, n__law_alike, p__law_alike, _, F4, c__law_alike, rfl, rfl, k__law_alike, fun _ _ _ _ _ _ us hl => match us, hl with | [_, _], _ => rfl⟩
    | 5 => exact .inl ⟨_, _, s_written, n_written, p_written, _, F5, c_written, rfl, rfl, k_written, fun _ _ _ _ _ _ us hl => match us, hl with | [_], _ => rfl⟩
    | 6 => exact .inl ⟨_, _, s__law_taken, n__law_taken, p__law_taken, _, F6, c__law_taken, rfl, rfl, k__law_taken, fun _ _ _ _ _ _ us hl => match us, hl with | [_, _], _ => rfl⟩
    | 7 => exact .inl ⟨_, _, s__law_any_functions, n__law_any_functions, p__law_any_functions, _, F7, c__law_any_functions, rfl, rfl, k__law_any_functions, fun _ _ _ _ _ _ us hl => match us, hl with | [_], _ => rfl⟩
    | 8 => exact .inl ⟨_, _, s__law_deeds, n__law_deeds, p__law_deeds, _, F8, c__law_deeds, rfl, rfl, k__law_deeds, fun _ _ _ _ _ _ us hl => match us, hl with | [_, _, _, _], _ => rfl⟩
    | 9 => exact .inl ⟨_, _, s__law_worth, n__law_worth, p__law_worth, _, F9, c__law_worth, rfl, rfl, k__law_worth, fun _ _ _ _ _ _ us hl => match us, hl with | [_, _, _], _ => rfl⟩
    | 10 => exact .inl ⟨_, _, s__law_things, n__law_things, p__law_things, _, F10, c__law_things, rfl, rfl, k__law_things, fun _ _ _ _ _ _ us hl => match us, hl with | [_], _ => rfl⟩
    | 11 => exact .inl ⟨_, _, s_Reader___init__, n_Reader___init__, p_Reader___init__, _, F11, c_Reader___init__, rfl, rfl, k_Reader___init__, fun _ _ _ _ _ _ us hl => match us, hl with | [_, _], _ => rfl⟩
    | 12 => exact .inl ⟨_, _, s_Reader_word, n_Reader_word, p_Reader_word, _, F12, c_Reader_word, rfl, rfl, k_Reader_word, fun _ _ _ _ _ _ us hl => match us, hl with | [_, _], _ => rfl⟩
    | 13 => exact .inl ⟨_, _, s_Reader_number, n_Reader_number, p_Reader_number, _, F13, c_Reader_number, rfl, rfl, k_Reader_number, fun _ _ _ _ _ _ us hl => match us, hl with | [_], _ => rfl⟩
    | 14 => exact .inl ⟨_, _, s_Reader_variable, n_Reader_variable, p_Reader_variable, _, F14, c_Reader_variable, rfl, rfl, k_Reader_variable, fun _ _ _ _ _ _ us hl => match us, hl with | [_], _ => rfl⟩
    | 15 => exact .inl ⟨_, _, s_Reader_expression, n_Reader_expression, p_Reader_expression, _, F15, c_Reader_expression, rfl, rfl, k_Reader_expression, fun _ _ _ _ _ _ us hl => match us, hl with | [_], _ => rfl⟩
    | 16 => exact .inl ⟨_, _, s_Reader_deeds, n_Reader_deeds, p_Reader_deeds, _, F16, c_Reader_deeds, rfl, rfl, k_Reader_deeds, fun _ _ _ _ _ _ us hl => match us, hl with | [_], _ => rfl⟩
    | 17 => exact .inl ⟨_, _, s_Reader_choice, n_Reader_choice, p_Reader_choice, _, F17, c_Reader_choice, rfl, rfl, k_Reader_choice, fun _ _ _ _ _ _ us hl => match us, hl with | [_], _ => rfl⟩
    | 18 => exact .inl ⟨_, _, s_Reader_one_function, n_Reader_one_function, p_Reader_one_function, _, F18, c_Reader_one_function, rfl, rfl, k_Reader_one_function, fun _ _ _ _ _ _ us hl => match us, hl with | [_], _ => rfl⟩
    | 19 => exact .inl ⟨_, _, s_need_program, n_need_program, p_need_program, _, F19, c_need_program, rfl, rfl, k_need_program, fun _ _ _ _ _ _ us hl => match us, hl with | [_], _ => rfl⟩
    | 20 => exact .inl ⟨_, _, s__law_deed_words, n__law_deed_words, p__law_deed_words, _, F20, c__law_deed_words, rfl, rfl, k__law_deed_words, fun _ _ _ _ _ _ us hl => match us, hl with | [_], _ => rfl⟩
    | 21 => exact .inl ⟨_, _, s_worth_words, n_worth_words, p_worth_words, _, F21, c_worth_words, rfl, rfl, k_worth_words, fun _ _ _ _ _ _ us hl => match us, hl with | [_], _ => rfl⟩
    | 22 => exact .inl ⟨_, _, s_deeds_words, n_deeds_words, p_deeds_words, _, F22, c_deeds_words, rfl, rfl, k_deeds_words, fun _ _ _ _ _ _ us hl => match us, hl with | [_], _ => rfl⟩
    | 23 => exact .inl ⟨_, _, s__law_any_deeds, n__law_any_deeds, p__law_any_deeds, _, F23, c__law_any_deeds, rfl, rfl, k__law_any_deeds, fun _ _ _ _ _ _ us hl => match us, hl with | [_, _, _], _ => rfl⟩
    | 24 => exact .inl ⟨_, _, s__law_any_worth, n__law_any_worth, p__law_any_worth, _, F24, c__law_any_worth, rfl, rfl, k__law_any_worth, fun _ _ _ _ _ _ us hl => match us, hl with | [_, _, _], _ => rfl⟩
    | 25 => exact .inl ⟨_, _, s__law_count, n__law_count, p__law_count, _, F25, c__law_count, rfl, rfl, k__law_count, fun _ _ _ _ _ _ us hl => match us, hl with | [_, _, _], _ => rfl⟩
    | 26 => exact .inl ⟨_, _, s__law_number, n__law_number, p__law_number, _, F26, c__law_number, rfl, rfl, k__law_number, fun _ _ _ _ _ _ us hl => match us, hl with | [_], _ => rfl⟩
    | 27 => exact .inl ⟨_, _, s_number_of, n_number_of, p_number_of, _, F27, c_number_of, rfl, rfl, k_number_of, fun _ _ _ _ _ _ us hl => match us, hl with | [_], _ => rfl⟩
    | 28 => exact .inl ⟨_, _, s_Looker___init__, n_Looker___init__, p_Looker___init__, _, F28, c_Looker___init__, rfl, rfl, k_Looker___init__, fun _ _ _ _ _ _ us hl => match us, hl with | [_, _], _ => rfl⟩
    | 29 => exact .inl ⟨_, _, s_Looker_is_worth, n_Looker_is_worth, p_Looker_is_worth, _, F29, c_Looker_is_worth, rfl, rfl, k_Looker_is_worth, fun _ _ _ _ _ _ us hl => match us, hl with | [_, _, _], _ => rfl⟩
    | 30 => exact .inl ⟨_, _, s_Looker_are_worths, n_Looker_are_worths, p_Looker_are_worths, _, F30, c_Looker_are_worths, rfl, rfl, k_Looker_are_worths, fun _ _ _ _ _ _ us hl => match us, hl with | [_, _, _], _ => rfl⟩
    | 31 => exact .inl ⟨_, _, s_Looker_is_deed, n_Looker_is_deed, p_Looker_is_deed, _, F31, c_Looker_is_deed, rfl, rfl, k_Looker_is_deed, fun _ _ _ _ _ _ us hl => match us, hl with | [_, _, _], _ => rfl⟩
    | 32 => exact .inl ⟨_, _, s_Looker_are_deeds, n_Looker_are_deeds, p_Looker_are_deeds, _, F32, c_Looker_are_deeds, rfl, rfl, k_Looker_are_deeds, fun _ _ _ _ _ _ us hl => match us, hl with | [_, _, _], _ => rfl⟩
    | 33 => exact .inl ⟨_, _, s_Looker_is_function, n_Looker_is_function, p_Looker_is_function, _, F33, c_Looker_is_function, rfl, rfl, k_Looker_is_function, fun _ _ _ _ _ _ us hl => match us, hl with | [_, _], _ => rfl⟩
    | 34 => exact .inl ⟨_, _, s_is_shape, n_is_shape, p_is_shape, _, F34, c_is_shape, rfl, rfl, k_is_shape, fun _ _ _ _ _ _ us hl => match us, hl with | [_], _ => rfl⟩
    | 35 => exact .inl ⟨_, _, s_is_within, n_is_within, p_is_within, _, F35, c_is_within, rfl, rfl, k_is_within, fun _ _ _ _ _ _ us hl => match us, hl with | [_, _, _], _ => rfl⟩
    | n + 36 => exact .inr rfl
  refine ⟨_, fun s v => ?_, fun base _ _ => law_fn (f := 0) (fun C X => zip_ok prog CA tab C X) M HD F0 c_law rfl rfl k_law law⟩
  exact .of_eq rfl
end K14
open PySem PySem.W PyProof.Rows
set_option maxHeartbeats 0 in
theorem PySem.Challenge.cw_tokenmachine_k14_written_and_read_holds : PySem.Challenge.rw_tokenmachine_k14_written_and_read.Holds := by
  w_on; o_law; k_head; (case hw => w_witness2)
  k_fill
  refine Tk.walk (x := "_law_script") (l := PySem.Challenge.rw_tokenmachine_k14_written_and_read) rfl rfl (fun w h Y => PySem.W.kIn_of Y) ?F
  case F =>
    intro w mg fa h KX G hmg
    refine' K14.all_mk KX G hmg ?q_aC0 ?q_aC1 ?q_a0 ?q_l0 ?q_c0 ?q_k0 ?q_a1 ?q_l1 ?q_c1 ?q_k1 ?q_a2 ?q_l2 ?q_c2 ?q_k2 ?q_a3 ?q_l3 ?q_c3 ?q_k3 ?q_a4 ?q_l4 ?q_c4 ?q_k4 ?q_a5 ?q_l5 ?q_c5 ?q_k5 ?q_a6 ?q_l6 ?q_c6 ?q_k6 ?q_a7 ?q_l7 ?q_c7 ?q_k7 ?q_a8 ?q_l8 ?q_c8 ?q_k8 ?q_a9 ?q_l9 ?q_c9 ?q_k9 ?q_a10 ?q_l10 ?q_c10 ?q_k10 ?q_a11 ?q_i11 ?q_l11 ?q_c11 ?q_k11 ?q_a12 ?q_i12 ?q_l12 ?q_c12 ?q_k12 ?q_a13 ?q_i13 ?q_l13 ?q_c13 ?q_k13 ?q_a14 ?q_i14 ?q_l14 ?q_c14 ?q_k14 ?q_a15 ?q_i15 ?q_l15 ?q_c15 ?q_k15 ?q_a16 ?q_i16 ?q_l16 ?q_c16 ?q_k16 ?q_a17 ?q_i17 ?q_l17 ?q_c17 ?q_k17 ?q_a18 ?q_i18 ?q_l18 ?q_c18 ?q_k18 ?q_a19 ?q_l19 ?q_c19 ?q_k19 ?q_a20 ?q_l20 ?q_c20 ?q_k20 ?q_a21 ?q_l21 ?q_c21 ?q_k21 ?q_a22 ?q_l22 ?q_c22 ?q_k22 ?q_a23 ?q_l23 ?q_c23 ?q_k23 ?q_a24 ?q_l24 ?q_c24 ?q_k24 ?q_a25 ?q_l25 ?q_c25 ?q_k25 ?q_a26 ?q_l26 ?q_c26 ?q_k26 ?q_a27 ?q_l27 ?q_c27 ?q_k27 ?q_a28 ?q_i28 ?q_l28 ?q_c28 ?q_k28 ?q_a29 ?q_i29 ?q_l29 ?q_c29 ?q_k29 ?q_a30 ?q_i30 ?q_l30 ?q_c30 ?q_k30 ?q_a31 ?q_i31 ?q_l31 ?q_c31 ?q_k31 ?q_a32 ?q_i32 ?q_l32 ?q_c32 ?q_k32 ?q_a33 ?q_i33 ?q_l33 ?q_c33 ?q_k33 ?q_a34 ?q_l34 ?q_c34 ?q_k34 ?q_a35 ?q_l35 ?q_c35 ?q_k35 ?q_pg0 ?q_hd0 ?q_po0 ?q_sa0 ?q_mk0 ?q_kc0 ?q_n0_0 ?q_n0_1 ?q_pg1 ?q_hd1 ?q_po1 ?q_sa1 ?q_mk1 ?q_kc1 ?q_n1_0 ?q_n1_1 ?q_g0 ?q_go0 ?q_gc0 ?q_gd0 ?q_gz0 ?q_gv0 ?q_g1 ?q_gr1 ?q_g2 ?q_gr2 ?q_g3 ?q_gr3 ?q_g4 ?q_gr4 ?q_g5 ?q_gr5 ?q_g6 ?q_gr6 ?q_g7 ?q_gr7 ?q_g8 ?q_gr8 ?q_z_len ?q_z_max ?q_z_min ?q_z_int ?q_z_str ?q_z_tuple ?q_z_list ?q_z_range ?q_z_zip ?q_z_isinstance ?q_z_bool K14.law_ok
    (case q_aC0 => k_is)
    (case q_aC1 => k_is)
    (case q_a0 => k_is)
    (case q_l0 => k_is)
    (case q_c0 => k_is)
    (case q_k0 => k_is)
    (case q_a1 => k_is)
    (case q_l1 => k_is)
    (case q_c1 => k_is)
    (case q_k1 => k_is)
    (case q_a2 => k_is)
    (case q_l2 => k_is)
    (case q_c2 => k_is)
    (case q_k2 => k_is)
    (case q_a3 => k_is)
    (case q_l3 => k_is)
    (case q_c3 => k_is)
    (case q_k3 => k_is)
    (case q_a4 => k_is)
    (case q_l4 => k_is)
    (case q_c4 => k_is)
    (case q_k4 => k_is)
    (case q_a5 => k_is)
    (case q_l5 => k_is)
    (case q_c5 => k_is)
    (case q_k5 => k_is)
    (case q_a6 => k_is)
    (case q_l6 => k_is)
    (case q_c6 => k_is)
    (case q_k6 => k_is)
    (case q_a7 => k_is)
    (case q_l7 => k_is)
    (case q_c7 => k_is)
    (case q_k7 => k_is)
    (case q_a8 => k_is)
    (case q_l8 => k_is)
    (case q_c8 => k_is)
    (case q_k8 => k_is)
    (case q_a9 => k_is)
    (case q_l9 => k_is)
    (case q_c9 => k_is)
    (case q_k9 => k_is)
    (case q_a10 => k_is)
    (case q_l10 => k_is)
    (case q_c10 => k_is)
    (case q_k10 => k_is)
    (case q_a11 => k_is)
    (case q_i11 => k_is)
    (case q_l11 => k_is)
    (case q_c11 => k_is)
    (case q_k11 => k_is)
    (case q_a12 => k_is)
    (case q_i12 => k_is)
    (case q_l12 => k_is)
    (case q_c12 => k_is)
    (case q_k12 => k_is)
    (case q_a13 => k_is)
    (case q_i13 => k_is)
    (case q_l13 => k_is)
    (case q_c13 => k_is)
    (case q_k13 => k_is)
    (case q_a14 => k_is)
    (case q_i14 => k_is)
    (case q_l14 => k_is)
    (case q_c14 => k_is)
    (case q_k14 => k_is)
    (case q_a15 => k_is)
    (case q_i15 => k_is)
    (case q_l15 => k_is)
    (case q_c15 => k_is)
    (case q_k15 => k_is)
    (case q_a16 => k_is)
    (case q_i16 => k_is)
    (case q_l16 => k_is)
    (case q_c16 => k_is)
    (case q_k16 => k_is)
    (case q_a17 => k_is)
    (case q_i17 => k_is)
    (case q_l17 => k_is)
    (case q_c17 => k_is)
    (case q_k17 => k_is)
    (case q_a18 => k_is)
    (case q_i18 => k_is)
    (case q_l18 => k_is)
    (case q_c18 => k_is)
    (case q_k18 => k_is)
    (case q_a19 => k_is)
    (case q_l19 => k_is)
    (case q_c19 => k_is)
    (case q_k19 => k_is)
    (case q_a20 => k_is)
    (case q_l20 => k_is)
    (case q_c20 => k_is)
    (case q_k20 => k_is)
    (case q_a21 => k_is)
    (case q_l21 => k_is)
    (case q_c21 => k_is)
    (case q_k21 => k_is)
    (case q_a22 => k_is)
    (case q_l22 => k_is)
    (case q_c22 => k_is)
    (case q_k22 => k_is)
    (case q_a23 => k_is)
    (case q_l23 => k_is)
    (case q_c23 => k_is)
    (case q_k23 => k_is)
    (case q_a24 => k_is)
    (case q_l24 => k_is)
    (case q_c24 => k_is)
    (case q_k24 => k_is)
    (case q_a25 => k_is)
    (case q_l25 => k_is)
    (case q_c25 => k_is)
    (case q_k25 => k_is)
    (case q_a26 => k_is)
    (case q_l26 => k_is)
    (case q_c26 => k_is)
    (case q_k26 => k_is)
    (case q_a27 => k_is)
    (case q_l27 => k_is)
    (case q_c27 => k_is)
    (case q_k27 => k_is)
    (case q_a28 => k_is)
    (case q_i28 => k_is)
    (case q_l28 => k_is)
    (case q_c28 => k_is)
    (case q_k28 => k_is)
    (case q_a29 => k_is)
    (case q_i29 => k_is)
    (case q_l29 => k_is)
    (case q_c29 => k_is)
    (case q_k29 => k_is)
    (case q_a30 => k_is)
    (case q_i30 => k_is)
    (case q_l30 => k_is)
    (case q_c30 => k_is)
    (case q_k30 => k_is)
    (case q_a31 => k_is)
    (case q_i31 => k_is)
    (case q_l31 => k_is)
    (case q_c31 => k_is)
    (case q_k31 => k_is)
    (case q_a32 => k_is)
    (case q_i32 => k_is)
    (case q_l32 => k_is)
    (case q_c32 => k_is)
    (case q_k32 => k_is)
    (case q_a33 => k_is)
    (case q_i33 => k_is)
    (case q_l33 => k_is)
    (case q_c33 => k_is)
    (case q_k33 => k_is)
    (case q_a34 => k_is)
    (case q_l34 => k_is)
    (case q_c34 => k_is)
    (case q_k34 => k_is)
    (case q_a35 => k_is)
    (case q_l35 => k_is)
    (case q_c35 => k_is)
    (case q_k35 => k_is)
    (case q_pg0 => k_is)
    (case q_hd0 => k_is)
    (case q_po0 => k_is)
    (case q_sa0 => k_is)
    (case q_mk0 => k_is)
    (case q_kc0 => k_is)
    (case q_n0_0 => k_is)
    (case q_n0_1 => k_is)
    (case q_pg1 => k_is)
    (case q_hd1 => k_is)
    (case q_po1 => k_is)
    (case q_sa1 => k_is)
    (case q_mk1 => k_is)
    (case q_kc1 => k_is)
    (case q_n1_0 => k_is)
    (case q_n1_1 => k_is)
    (case q_g0 => k_is)
    (case q_go0 => k_is)
    (case q_gc0 => rfl)
    (case q_gd0 => rfl)
    (case q_gz0 => decide)
    (case q_gv0 => (repeat (first | exact Paired.nil | refine Paired.cons ⟨_, rfl⟩ ?_)))
    (case q_g1 => k_is)
    (case q_gr1 => exact ⟨_, rfl⟩)
    (case q_g2 => k_is)
    (case q_gr2 => exact ⟨_, rfl⟩)
    (case q_g3 => k_is)
    (case q_gr3 => exact ⟨_, rfl⟩)
    (case q_g4 => k_is)
    (case q_gr4 => exact ⟨_, rfl⟩)
    (case q_g5 => k_is)
    (case q_gr5 => exact ⟨_, rfl⟩)
    (case q_g6 => k_is)
    (case q_gr6 => exact ⟨_, rfl⟩)
    (case q_g7 => k_is)
    (case q_gr7 => exact ⟨_, rfl⟩)
    (case q_g8 => k_is)
    (case q_gr8 => exact ⟨_, rfl⟩)
    (case q_z_len => k_is)
    (case q_z_max => k_is)
    (case q_z_min => k_is)
    (case q_z_int => k_is)
    (case q_z_str => k_is)
    (case q_z_tuple => k_is)
    (case q_z_list => k_is)
    (case q_z_range => k_is)
    (case q_z_zip => k_is)
    (case q_z_isinstance => k_is)
    (case q_z_bool => k_is)
