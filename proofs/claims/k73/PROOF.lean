import PyProof.Rows.All
import Wide.All
import OpenK.AllK
import Wide.FinOn
import HandS.ForMost
import HandS.Exc
import HandS.IsInst
import HandS.Zip
import HandS.TupAny
import HandS.Deep
import HandS.RaiseMore
import HandS.Replace
import HandS.Defaults
import HandS.More
import HandS.WordsExc
import KE.KEqNest
import HandS.Codes
import HandS.ReplaceLit
import HandS.ReplaceDef
import HandS.Words
import HandS.HeadHook4
import HandS.MakeKwOnly
import KE.KStateDown
import HandS.Head0
import HandS.Head1
import HandS.Head2
import HandS.HeadEnd
import HandS.HeadHook1
import HandS.HeadHook2
import HandS.HeadWalk
import PySem.Challenge.RW_tidehouse_k73_deeds_written
set_option Elab.async false
set_option linter.all false
section T_TA
/-! Data, the IR, its evaluator: plain Lean, no Python here. -/
namespace TH
set_option linter.all false
/-- immutable data (a list here is one that nobody changes any more) -/
inductive P where
  | non | bl (b : Bool) | int (i : Int) | str (s : List Nat) | tup (xs : List P) | lst (xs : List P) | dct (ks vs : List P) | scr (ns : List Int)
  deriving Inhabited, Repr
mutual
def P.beq : P → P → Bool
  | .non, .non => true
  | .bl a, .bl b => a == b
  | .int a, .int b => a == b
  | .str a, .str b => a == b
  | .tup a, .tup b => Ps.beq a b
  | .lst a, .lst b => Ps.beq a b
  | .dct k v, .dct k' v' => Ps.beq k k' && Ps.beq v v'
  | .scr a, .scr b => decide (a = b)
  | _, _ => false
def Ps.beq : List P → List P → Bool
  | [], [] => true
  | a :: r, b :: s => P.beq a b && Ps.beq r s
  | _, _ => false
end
mutual
theorem P.beq_iff : ∀ {a b : P}, P.beq a b = true ↔ a = b
  | .non, b => by cases b <;> simp [P.beq]
  | .bl x, b => by cases b <;> simp [P.beq]
  | .int x, b => by cases b <;> simp [P.beq]
  | .str x, b => by cases b <;> simp [P.beq]
  | .tup x, b => by
    cases b with
    | tup y => simp only [P.beq, P.tup.injEq]; exact Ps.beq_iff
    | _ => simp [P.beq]
  | .lst x, b => by
    cases b with
    | lst y => simp only [P.beq, P.lst.injEq]; exact Ps.beq_iff
    | _ => simp [P.beq]
  | .dct k v, b => by
    cases b with
    | dct k' v' =>
      simp only [P.beq, P.dct.injEq, Bool.and_eq_true]
      exact and_congr Ps.beq_iff Ps.beq_iff
    | _ => simp [P.beq]
  | .scr x, b => by cases b <;> simp [P.beq]
theorem Ps.beq_iff : ∀ {a b : List P}, Ps.beq a b = true ↔ a = b
  | [], b => by cases b <;> simp [Ps.beq]
  | x :: r, b => by
    cases b with
    | nil => simp [Ps.beq]
    | cons y s =>
      simp only [Ps.beq, Bool.and_eq_true, List.cons.injEq]
      exact and_congr P.beq_iff Ps.beq_iff
end
instance : DecidableEq P := fun a b => decidable_of_iff _ (P.beq_iff (a := a) (b := b))

/-- values: data, an object of the store, a tuple that holds such -/
inductive D where
  | p (x : P) | ref (n : Nat) | tup (xs : List D)
  deriving Inhabited, Repr
mutual
def D.beq : D → D → Bool
  | .p a, .p b => decide (a = b)
  | .ref a, .ref b => a == b
  | .tup a, .tup b => Ds.beq a b
  | _, _ => false
def Ds.beq : List D → List D → Bool
  | [], [] => true
  | a :: r, b :: s => D.beq a b && Ds.beq r s
  | _, _ => false
end
mutual
theorem D.beq_iff : ∀ {a b : D}, D.beq a b = true ↔ a = b
  | .p x, b => by cases b <;> simp [D.beq]
  | .ref x, b => by cases b <;> simp [D.beq]
  | .tup x, b => by
    cases b with
    | tup y => simp only [D.beq, D.tup.injEq]; exact Ds.beq_iff
    | _ => simp [D.beq]
theorem Ds.beq_iff : ∀ {a b : List D}, Ds.beq a b = true ↔ a = b
  | [], b => by cases b <;> simp [Ds.beq]
  | x :: r, b => by
    cases b with
    | nil => simp [Ds.beq]
    | cons y s =>
      simp only [Ds.beq, Bool.and_eq_true, List.cons.injEq]
      exact and_congr D.beq_iff Ds.beq_iff
end
instance : DecidableEq D := fun a b => decidable_of_iff _ (D.beq_iff (a := a) (b := b))
/-- the objects of the store: a list, an instance (its class, its fields) -/
inductive Cell where
  | lst (xs : List D) | ins (c : Nat) (fs : List (Nat × D))
  deriving Inhabited, Repr, DecidableEq
abbrev Sto := List Cell
/-- an exception: its class, its field -/
structure Exn where
  cls : Nat
  val : Option P := none
  deriving Inhabited, Repr, DecidableEq
inductive R (α : Type) where
  | ok (a : α) (s : Sto) | exc (x : Exn) (s : Sto) | bad
  deriving Inhabited, Repr
@[reducible] def M (α : Type) := Sto → R α
def R.bind {α β : Type} (r : R α) (f : α → M β) : R β := match r with
  | .ok a s => f a s
  | .exc x s => .exc x s
  | .bad => .bad
/-- no exception comes out here -/
def R.calm {α : Type} (r : R α) : R α := match r with
  | .exc _ _ => .bad
  | r => r
@[simp] theorem R.calm_ok {α : Type} (a : α) (s : Sto) : (R.ok a s).calm = .ok a s := rfl
@[simp] theorem R.calm_exc {α : Type} (x : Exn) (s : Sto) : (R.exc x s : R α).calm = .bad := rfl
@[simp] theorem R.calm_bad {α : Type} : (R.bad : R α).calm = .bad := rfl
@[reducible] def M.pure {α : Type} (a : α) : M α := fun s => .ok a s
@[reducible] def M.bind {α β : Type} (m : M α) (f : α → M β) : M β := fun s => (m s).bind f
/-- of an option -/
@[reducible] def M.opt {α : Type} : Option α → M α
  | some a => fun s => .ok a s
  | none => fun _ => .bad
@[simp] theorem R.bind_ok {α β : Type} (a : α) (s : Sto) (f : α → M β) : (R.ok a s).bind f = f a s := rfl
@[simp] theorem R.bind_exc {α β : Type} (x : Exn) (s : Sto) (f : α → M β) : (R.exc x s : R α).bind f = .exc x s := rfl
@[simp] theorem R.bind_bad {α β : Type} (f : α → M β) : (R.bad : R α).bind f = .bad := rfl

/-! ### operations on data -/
def line : Nat := 16777216
abbrev big : Nat := 9223372036854775808
/-- all are data -/
def pall : List D → Option (List P)
  | [] => some []
  | .p x :: r => (pall r).map (x :: ·)
  | _ :: _ => none
@[simp] theorem pall_nil : pall [] = some [] := rfl
@[simp] theorem pall_cons (x : P) (r : List D) : pall (.p x :: r) = (pall r).map (x :: ·) := rfl
@[simp] theorem pall_map (xs : List P) : pall (xs.map D.p) = some xs := by
  induction xs with
  | nil => rfl
  | cons x r ih => simp [ih]
theorem pall_eq {ds : List D} {xs : List P} (h : pall ds = some xs) : ds = xs.map D.p := by
  induction ds generalizing xs with
  | nil => cases h; rfl
  | cons d r ih =>
    cases d with
    | p x =>
      simp only [pall_cons, Option.map_eq_some_iff] at h
      obtain ⟨ys, e, rfl⟩ := h
      simp [ih e]
    | _ => cases h
/-- a value read as data now -/
def view (s : Sto) : D → Option P
  | .p x => some x
  | .ref n => match s[n]? with
    | some (.lst xs) => (pall xs).map .lst
    | _ => none
  | .tup _ => none
@[simp] theorem view_p (s : Sto) (x : P) : view s (.p x) = some x := rfl
def mkTup (ds : List D) : D := match pall ds with
  | some xs => .p (.tup xs)
  | none => .tup ds
/-- comparison by ==, to a depth -/
def scalP : P → P → Bool
  | .non, .non => true | .non, .int _ => true | .int _, .non => true | .non, .bl _ => true | .bl _, .non => true | .non, .str _ => true | .str _, .non => true
  | .int _, .int _ => true | .bl _, .bl _ => true | .str _, .str _ => true
  | .int _, .str _ => true | .str _, .int _ => true | .bl _, .str _ => true | .str _, .bl _ => true
  | _, _ => false
def allO : List (Option Bool) → Option Bool
  | [] => some true
  | some a :: r => (allO r).map (a && ·)
  | none :: _ => none
def pyEq : Nat → P → P → Option Bool
  | n + 1, .tup xs, .tup ys => (allO (List.zipWith (pyEq n) xs ys)).map fun b => b && (xs.length == ys.length)
  | n + 1, .lst xs, .lst ys => if xs.length = ys.length then allO (List.zipWith (pyEq n) xs ys) else some false
  | _, x, y => if scalP x y then some (decide (x = y)) else none
abbrev eqN : Nat := 20
def isIn (x : P) : P → Option Bool
  | .str s => match x with
    | .str [c] => some (decide (c ∈ s))
    | _ => none
  | .tup xs => if (scalP x x && xs.all (fun y => scalP x y)) then some (decide (x ∈ xs)) else none
  | .lst xs => if (scalP x x && xs.all (fun y => scalP x y)) then some (decide (x ∈ xs)) else none
  | .dct ks _ => match x with
    | .str _ => some (decide (x ∈ ks))
    | _ => none
  | _ => none
inductive Op2 where
  | add | sub | mul | fdiv | mod | pow
  deriving DecidableEq, Repr
def smallI (i : Int) : Bool := decide (-18446744073709551616 < i) && decide (i < 18446744073709551616)
def binP : Op2 → P → P → Option P
  | .add, .int i, .int j => some (.int (i + j))
  | .add, .str a, .str b => if a.length + b.length ≤ line then some (.str (a ++ b)) else none
  | .add, .tup a, .tup b => if a.length + b.length ≤ line then some (.tup (a ++ b)) else none
  | .add, .lst a, .lst b => if a.length + b.length ≤ line then some (.lst (a ++ b)) else none
  | .sub, .int i, .int j => some (.int (i - j))
  | .mul, .int i, .int j => if smallI i || smallI j then some (.int (i * j)) else none
  | .mul, .str a, .int j => if a.length = 1 ∧ (j = 0 ∨ j = 1) then some (.str (if j = 1 then a else [])) else none
  | .mul, .lst a, .int j => if 0 ≤ j ∧ j < 1000 ∧ a.length < 1000 then some (.lst (List.replicate j.toNat a).flatten) else none
  | .fdiv, .int i, .int j => if 0 < j ∧ j < 1073741824 then some (.int (i / j)) else none
  | .mod, .int i, .int j => if 0 < j then some (.int (i % j)) else none
  | .pow, .int i, .int j => if 0 ≤ j ∧ j ≤ 100 ∧ i.natAbs < 1000 then some (.int (i ^ j.toNat)) else none
  | _, _, _ => none
inductive Cp where
  | eq | ne | lt | le | gt | ge | isN | notN | inn | notIn
  deriving DecidableEq, Repr
/-- the order of texts -/
def strLt (a b : List Nat) : Bool := decide (a < b)
def cmpP : Cp → P → P → Option Bool
  | .eq, x, y => pyEq eqN x y
  | .ne, x, y => (pyEq eqN x y).map (!·)
  | .lt, .int i, .int j => some (decide (i < j))
  | .le, .int i, .int j => some (decide (i ≤ j))
  | .gt, .int i, .int j => some (decide (j < i))
  | .ge, .int i, .int j => some (decide (j ≤ i))
  | .lt, .str a, .str b => some (strLt a b)
  | .ge, .str a, .str b => some (!strLt a b)
  | .inn, x, y => isIn x y
  | .notIn, x, y => (isIn x y).map (!·)
  | .isN, x, .non => some (decide (x = .non))
  | .notN, x, .non => some (!decide (x = .non))
  | _, _, _ => none
def cmpD (s : Sto) (o : Cp) (a b : D) : Option Bool := match o, a, b with
  | .isN, .ref _, .p .non => some false
  | .notN, .ref _, .p .non => some true
  | _, _, _ => match view s a, view s b with
    | some x, some y => cmpP o x y
    | _, _ => none
def truthP : P → Option Bool
  | .non => some false
  | .bl b => some b
  | .int i => some (decide (i ≠ 0))
  | .str x => if x.length ≤ line then some (!x.isEmpty) else none
  | .tup xs => some (!xs.isEmpty)
  | .lst xs => some (!xs.isEmpty)
  | .dct _ _ => none
  | .scr _ => none
def truth (s : Sto) (d : D) : Option Bool := (view s d).bind truthP
/-- the place of an index -/
def place (n : Nat) (i : Int) : Option Nat :=
  if 0 ≤ i ∧ i < n then some i.toNat else if i < 0 ∧ -(n : Int) ≤ i then some (i + n).toNat else none
def lookP : List P → List P → P → Option P
  | k :: ks, v :: vs, x => if k = x then some v else lookP ks vs x
  | _, _, _ => none
def idxP : P → P → Option P
  | .tup xs, .int i => (place xs.length i).bind fun n => xs[n]?
  | .lst xs, .int i => (place xs.length i).bind fun n => xs[n]?
  | .dct ks vs, .str x => lookP ks vs (.str x)
  | _, _ => none
def idxD (s : Sto) (a i : D) : Option D := match a, i with
  | .p x, .p y => (idxP x y).map .p
  | .ref n, .p (.int i) => match s[n]? with
    | some (.lst xs) => (place xs.length i).bind fun n => xs[n]?
    | _ => none
  | .tup xs, .p (.int i) => (place xs.length i).bind fun n => xs[n]?
  | _, _ => none
/-- a bound of a slice: where it lies -/
def cutAt (n d : Nat) : Option Int → Nat
  | none => d
  | some v => if v < 0 then (v + (n : Int)).toNat else min v.toNat n
def cutL {α : Type} (xs : List α) (lo hi : Option Int) : List α := (xs.drop (cutAt xs.length 0 lo)).take (cutAt xs.length xs.length hi - cutAt xs.length 0 lo)
def slcP (x : P) (lo hi : Option Int) : Option P := match x with
  | .str s => if s.length ≤ line then some (.str (cutL s lo hi)) else none
  | .tup xs => some (.tup (cutL xs lo hi))
  | .lst xs => some (.lst (cutL xs lo hi))
  | _ => none
inductive Ty where
  | str | int | bool | tuple | list
  deriving DecidableEq, Repr
def isTy : Ty → P → Option Bool
  | t, .str _ => some (decide (t = .str))
  | t, .int _ => some (decide (t = .int))
  | t, .bl _ => some (decide (t = .bool) || decide (t = .int))
  | t, .tup _ => some (decide (t = .tuple))
  | t, .lst _ => some (decide (t = .list))
  | _, .non => some false
  | _, _ => none
/-- the first place of a sign -/
def partAt (c : Nat) : List Nat → List Nat × Bool × List Nat
  | [] => ([], false, [])
  | x :: r => if x = c then ([], true, r) else let (a, b, d) := partAt c r; (x :: a, b, d)
def splitAt (c : Nat) : List Nat → List (List Nat)
  | [] => [[]]
  | x :: r => if x = c then [] :: splitAt c r else match splitAt c r with
    | [] => [[x]]
    | y :: ys => (x :: y) :: ys
def joinS (sep : List Nat) : List (List Nat) → List Nat
  | [] => []
  | [a] => a
  | a :: b :: r => a ++ sep ++ joinS sep (b :: r)
def replS (c : Nat) (t : List Nat) : List Nat → List Nat
  | [] => []
  | x :: r => (if x = c then t else [x]) ++ replS c t r
def strsOf : List P → Option (List (List Nat))
  | [] => some []
  | .str x :: r => (strsOf r).map (x :: ·)
  | _ :: _ => none
@[simp] theorem strsOf_map (xs : List (List Nat)) : strsOf (xs.map P.str) = some xs := by
  induction xs with
  | nil => rfl
  | cons x r ih => simp [strsOf, ih]
def boolsOf : List P → Option (List Bool)
  | [] => some []
  | .bl x :: r => (boolsOf r).map (x :: ·)
  | _ :: _ => none
@[simp] theorem boolsOf_map (xs : List Bool) : boolsOf (xs.map P.bl) = some xs := by
  induction xs with
  | nil => rfl
  | cons x r ih => simp [boolsOf, ih]
/-- str(n) -/
def digs (n : Nat) : List Nat := (toString n).toList.map Char.toNat
def intS (i : Int) : List Nat := (toString i).toList.map Char.toNat
def digVal : List Nat → Option Nat
  | [] => some 0
  | l => l.foldl (fun a c => match a with
    | some n => if 48 ≤ c ∧ c ≤ 57 then some (n * 10 + (c - 48)) else none
    | none => none) (some 0)
/-- int(text), of figures, - ahead -/
def intOf (x : List Nat) : Option Int := match x with
  | [] => none
  | 45 :: r => if r = [] then none else (digVal r).map fun n => -(n : Int)
  | r => (digVal r).map fun n => (n : Int)
def insS (x : List Nat) : List (List Nat) → List (List Nat)
  | [] => [x]
  | y :: r => if strLt y x then y :: insS x r else x :: y :: r
def sortS : List (List Nat) → List (List Nat)
  | [] => []
  | x :: r => insS x (sortS r)
end TH
end T_TA
section T_TB
/-! The IR and its evaluator. -/
namespace TH
set_option linter.all false
inductive Bi where
  | len | isinst (t : Ty) | toList | toTuple | all | any | toInt | toStr | abs | sorted | max2 | min2 | sum
  | join | partition | split | replace | startswith | endswith
  | append | popAt | extend | dget
  deriving DecidableEq, Repr
inductive ItK where
  | seq | range1 | range2 | zip | enum
  deriving DecidableEq, Repr
inductive Tg where
  | name (i : Nat) | tup (is : List Nat)
  deriving DecidableEq, Repr
inductive E where
  | var (i : Nat)
  | con (p : P)
  | glo (g : Nat)
  | bin (o : Op2) (a b : E)
  | neg (a : E)
  | not (a : E)
  | and (a b : E)
  | or (a b : E)
  | cmp (o : Cp) (a b : E)
  | chn (o o' : Cp) (a b c : E)
  | ite (c a b : E)
  | tup (es : List E)
  | lst (m : Bool) (es : List E)
  | dic (ks vs : List E)
  | idx (a b : E)
  | slc (a : E) (lo hi : Option E)
  | fld (a : E) (f : Nat)
  | call (f : Nat) (es : List E)
  | new (c : Nat) (es : List E)
  | met (m : Nat) (a : E) (es : List E)
  | bi (m : Bool) (b : Bi) (es : List E)
  | bm (m : Bool) (b : Bi) (a : E) (es : List E)
  | lc (m : Bool) (own : List Nat) (tg : Tg) (ik : ItK) (its : List E) (cs : List E) (elt : E)
  | addl (m : Bool) (a b : E)
  | never
inductive S where
  | set (i : Nat) (e : E)
  | unp (is : List Nat) (e : E)
  | star (i j : Nat) (e : E)
  | sfld (a : E) (f : Nat) (e : E)
  | sidx (a i e : E)
  | aug (i : Nat) (o : Op2) (e : E)
  | augf (a : E) (f : Nat) (o : Op2) (e : E)
  | expr (e : E)
  | ret (e : E)
  | retN
  | ifs (c : E) (a b : List S)
  | for_ (tg : Tg) (ik : ItK) (its : List E) (body : List S)
  | whl (c : E) (body : List S)
  | raise (c : Nat) (e : E)
  | try_ (body : List S) (c : Nat) (suite : List S)
  | thru (body : List S)
  | pass | brk | cont | never
structure FDef where
  npar : Nat
  nloc : Nat
  mode : Nat
  body : List S
structure Prog where
  fn : Nat → Option FDef
  meth : Nat → Nat → Option Nat
  init : Nat → Option Nat
  gv : Nat → P
  sub : Nat → Nat → Bool
  fuel : Nat := 100000
abbrev Env := List (Option D)

/-! ### helpers -/
def fin (m : Bool) (x : P) : M D := fun s => match m, x with
  | true, .lst xs => .ok (.ref s.length) (s ++ [.lst (xs.map D.p)])
  | true, _ => .bad
  | false, x => .ok (.p x) s
def notL : P → Bool
  | .lst _ => false
  | _ => true
def biP : Bi → List P → Option P
  | .len, [.str x] => if x.length ≤ line then some (.int x.length) else none
  | .len, [.tup x] => some (.int x.length)
  | .len, [.lst x] => some (.int x.length)
  | .isinst t, [x] => (isTy t x).map .bl
  | .toList, [.lst x] => some (.lst x)
  | .toList, [.tup x] => some (.lst x)
  | .toTuple, [.lst x] => some (.tup x)
  | .toTuple, [.tup x] => some (.tup x)
  | .all, [.lst x] => (boolsOf x).map fun bs => .bl (bs.all id)
  | .any, [.lst x] => (boolsOf x).map fun bs => .bl (bs.any id)
  | .toInt, [.int i] => some (.int i)
  | .toInt, [.str x] => if x.length ≤ 640 then (intOf x).map .int else none
  | .sorted, [.lst x] => (strsOf x).bind fun ys => if ys.length < 64 then some (.lst ((sortS ys).map P.str)) else none
  | .toInt, [.bl b] => some (.int (if b then 1 else 0))
  | .toStr, [.int i] => if i.natAbs < 1000000000000000000 then some (.str (intS i)) else none
  | .toStr, [.str x] => some (.str x)
  | .abs, [.int i] => some (.int (if i < 0 then -i else i))
  | .max2, [.int i, .int j] => some (.int (if j > i then j else i))
  | .min2, [.int i, .int j] => some (.int (if j < i then j else i))
  | .join, [.str x, .lst ys] => (strsOf ys).bind fun zs => if (zs.map (·.length)).sum + zs.length * x.length ≤ line then some (.str (joinS x zs)) else none
  | .partition, [.str x, .str [c]] => if x.length ≤ line then let (a, b, d) := partAt c x; some (.tup [.str a, .str (if b then [c] else []), .str d]) else none
  | .split, [.str x, .str [c]] => if x.length + 2 ≤ line ∧ c < 256 then some (.lst ((splitAt c x).map P.str)) else none
  | .replace, [.str x, .str [c], .str t] => if x.length ≤ 100000 ∧ t.length ≤ 100 ∧ c < 256 ∧ t ≠ [c] then some (.str (replS c t x)) else none
  | .startswith, [.str x, .str [c]] => some (.bl (decide (x.head? = some c)))
  | .endswith, [.str x, .str [c]] => some (.bl (decide (x.getLast? = some c)))
  | .dget, [.dct ks vs, .str x, d] => if notL d then some ((lookP ks vs (.str x)).getD d) else none
  | _, _ => none
/-- what changes a list -/
def biD : Bi → List D → M D
  | .append, [.ref n, d] => fun s => match s[n]? with
    | some (.lst xs) => if xs.length < line then .ok (.p .non) (s.set n (.lst (xs ++ [d]))) else .bad
    | _ => .bad
  | .extend, [.ref n, .p (.lst ys)] => fun s => match s[n]? with
    | some (.lst xs) => if xs.length + ys.length ≤ line then .ok (.p .non) (s.set n (.lst (xs ++ ys.map D.p))) else .bad
    | _ => .bad
  | .popAt, [.ref n, .p (.int i)] => fun s => match s[n]? with
    | some (.lst xs) => match place xs.length i with
      | some k => match xs[k]? with
        | some d => .ok d (s.set n (.lst (xs.eraseIdx k)))
        | none => .bad
      | none => .bad
    | _ => .bad
  | _, _ => fun _ => .bad
def Bi.changes : Bi → Bool
  | .append => true
  | .extend => true
  | .popAt => true
  | _ => false
def Bi.fresh : Bi → Bool
  | .toList => true
  | .sorted => true
  | .split => true
  | _ => false
def views (s : Sto) : List D → Option (List P)
  | [] => some []
  | d :: r => match view s d, views s r with
    | some x, some xs => some (x :: xs)
    | _, _ => none
def runBi (m : Bool) (b : Bi) (ds : List D) : M D := fun s =>
  if b.changes then (if m then .bad else biD b ds s) else if m && !b.fresh then .bad else match views s ds with
    | some xs => match biP b xs with
      | some x => fin m x s
      | none => .bad
    | none => .bad
/-- a method's receiver: 0 a text, 1 a list of the store, 2 a dict -/
def Bi.recv : Bi → Nat
  | .join => 0 | .partition => 0 | .split => 0 | .replace => 0 | .startswith => 0 | .endswith => 0
  | .append => 1 | .popAt => 1 | .extend => 1
  | .dget => 2
  | _ => 9
def recvOk (b : Bi) (s : Sto) (x : D) : Bool := match b.recv with
  | 0 => match view s x with
    | some (.str _) => true
    | _ => false
  | 1 => match x with
    | .ref n => match s[n]? with
      | some (.lst _) => true
      | _ => false
    | _ => false
  | 2 => match view s x with
    | some (.dct _ _) => true
    | _ => false
  | _ => false
def getV (env : Env) (i : Nat) : Option D := match env[i]? with
  | some (some d) => some d
  | _ => none
def wipeE (env : Env) : List Nat → Env
  | [] => env
  | v :: vs => (wipeE env vs).set v none
/-- what a loop walks: the items as they stand at its start -/
def items (k : ItK) (ds : List D) (s : Sto) : Option (List D) := match k, ds with
  | .seq, [.p (.lst xs)] => some (xs.map D.p)
  | .seq, [.p (.tup xs)] => some (xs.map D.p)
  | .seq, [.p (.scr ns)] => some (ns.map fun i => D.p (.int i))
  | .seq, [.p (.str x)] => if x.length ≤ line then some (x.map fun c => D.p (.str [c])) else none
  | .seq, [.ref n] => match s[n]? with
    | some (.lst xs) => some xs
    | _ => none
  | .range1, [.p (.int j)] => if j.natAbs < 1000000000 then some ((List.range j.toNat).map fun (i : Nat) => D.p (.int (i : Int))) else none
  | .range2, [.p (.int i), .p (.int j)] => if i.natAbs < 1000000000 ∧ j.natAbs < 1000000000 then some ((List.range (j - i).toNat).map fun (k : Nat) => D.p (.int (i + (k : Int)))) else none
  | .zip, [.p (.tup xs), .p (.tup ys)] => some ((xs.zip ys).map fun q => .p (.tup [q.1, q.2]))
  | .enum, [d] => match view s d with
    | some (.lst xs) => some ((List.range xs.length).zipWith (fun (i : Nat) x => D.p (.tup [.int (i : Int), x])) xs)
    | _ => none
  | _, _ => none
/-- the list that is walked stands as at the start -/
def stands (k : ItK) (ds : List D) (s0 s : Sto) : Bool := match k, ds with
  | .seq, [.ref n] => decide (s[n]? = s0[n]?)
  | .enum, [.ref n] => decide (s[n]? = s0[n]?)
  | _, _ => true
def setAll (env : Env) : List Nat → List D → Option Env
  | [], [] => some env
  | i :: is, d :: ds => setAll (env.set i (some d)) is ds
  | _, _ => none
def asTup : D → Option (List D)
  | .p (.tup xs) => some (xs.map D.p)
  | .tup ds => some ds
  | _ => none
def setTg (env : Env) : Tg → D → Option Env
  | .name i, d => some (env.set i (some d))
  | .tup is, d => (asTup d).bind fun ds => if ds.length = is.length then setAll env is ds else none
mutual
/-- only objects below L -/
def D.bnd (L : Nat) : D → Bool
  | .p _ => true
  | .ref n => decide (n < L)
  | .tup xs => Ds.bnd L xs
def Ds.bnd (L : Nat) : List D → Bool
  | [] => true
  | d :: ds => D.bnd L d && Ds.bnd L ds
end
def bndC (L : Nat) : Cell → Bool
  | .lst xs => Ds.bnd L xs
  | .ins _ fs => Ds.bnd L (fs.map (·.2))
/-- a comprehension's turns; its list is the object n -/
def lcL (tg : Tg) (cond : Env → M Bool) (elt : Env → M D) (ok : Sto → Bool) (n : Nat) (env : Env) : List D → M Unit
  | [] => fun s => if ok s then .ok () s else .bad
  | d :: ds => fun s => if ok s then match setTg env tg d with
      | some env' => (cond env' s).calm.bind fun b s1 => if b then (elt env' s1).calm.bind fun y s2 => match s2[n]? with
          | some (.lst acc) => if acc.length < line then lcL tg cond elt ok n env ds (s2.set n (.lst (acc ++ [y]))) else .bad
          | _ => .bad
        else lcL tg cond elt ok n env ds s1
      | none => .bad
    else .bad
def lcDone (m : Bool) (n : Nat) : M D := fun s => if m then .ok (.ref n) s else if s.length = n + 1 ∧ (s.take n).all (bndC n) = true then match view s (.ref n) with
    | some x => .ok (.p x) (s.take n)
    | none => .bad
  else .bad
def lcEnd (m : Bool) (ys : List D) : M D := fun s => match m with
  | true => .ok (.ref s.length) (s ++ [.lst ys])
  | false => match pall ys with
    | some xs => .ok (.p (.lst xs)) s
    | none => .bad
def truthM (d : D) : M Bool := fun s => match truth s d with
  | some b => .ok b s
  | none => .bad

section
variable (G : Prog) (cf ci : Nat → List D → M D)
mutual
def evE : E → Env → M D
  | .var i, env => M.opt (getV env i)
  | .con p, _ => M.pure (.p p)
  | .glo g, _ => M.pure (.p (G.gv g))
  | .bin o a b, env => (evE a env).bind fun x => (evE b env).bind fun y s => match view s x, view s y with
    | some p, some q => match binP o p q with
      | some r => .ok (.p r) s
      | none => .bad
    | _, _ => .bad
  | .neg a, env => (evE a env).bind fun x => match x with
    | .p (.int i) => M.pure (.p (.int (-i)))
    | _ => fun _ => .bad
  | .not a, env => (evE a env).bind fun x => (truthM x).bind fun b => M.pure (.p (.bl (!b)))
  | .and a b, env => (evE a env).bind fun x => (truthM x).bind fun t => if t then evE b env else M.pure x
  | .or a b, env => (evE a env).bind fun x => (truthM x).bind fun t => if t then M.pure x else evE b env
  | .cmp o a b, env => (evE a env).bind fun x => (evE b env).bind fun y s => match cmpD s o x y with
    | some r => .ok (.p (.bl r)) s
    | none => .bad
  | .chn o o' a b c, env => (evE a env).bind fun x => (evE b env).bind fun y s => match cmpD s o x y with
    | some true => ((evE c env).bind fun z s => match cmpD s o' y z with
      | some r => .ok (.p (.bl r)) s
      | none => .bad) s
    | some false => .ok (.p (.bl false)) s
    | none => .bad
  | .ite c a b, env => (evE c env).bind fun x => (truthM x).bind fun t => if t then evE a env else evE b env
  | .tup es, env => (evEs es env).bind fun ds => M.pure (mkTup ds)
  | .lst m es, env => (evEs es env).bind fun ds => lcEnd m ds
  | .dic ks vs, env => (evEs ks env).bind fun k => (evEs vs env).bind fun v => match pall k, pall v with
    | some k, some v => M.pure (.p (.dct k v))
    | _, _ => fun _ => .bad
  | .idx a b, env => (evE a env).bind fun x => (evE b env).bind fun y s => match idxD s x y with
    | some d => .ok d s
    | none => .bad
  | .slc a lo hi, env => (evE a env).bind fun x => (evO lo env).bind fun l => (evO hi env).bind fun h s => match view s x with
    | some p => match slcP p l h with
      | some r => .ok (.p r) s
      | none => .bad
    | none => .bad
  | .fld a f, env => (evE a env).bind fun x s => match x with
    | .ref n => match s[n]? with
      | some (.ins _ fs) => match fs.lookup f with
        | some d => .ok d s
        | none => .bad
      | _ => .bad
    | _ => .bad
  | .call f es, env => (evEs es env).bind fun ds => cf f ds
  | .new c es, env => (evEs es env).bind fun ds s => match G.init c with
    | some f => (ci f (.ref s.length :: ds) (s ++ [.ins c []])).bind fun d s' => if d = .p .non then .ok (.ref s.length) s' else .bad
    | none => .bad
  | .met m a es, env => (evE a env).bind fun x s => match x with
    | .ref n => match s[n]? with
      | some (.ins c _) => match G.meth c m with
        | some f => ((evEs es env).bind fun ds => cf f (.ref n :: ds)) s
        | none => .bad
      | _ => .bad
    | _ => .bad
  | .bi m b es, env => (evEs es env).bind fun ds => runBi m b ds
  | .bm m b a es, env => (evE a env).bind fun x s => if recvOk b s x then ((evEs es env).bind fun ds => runBi m b (x :: ds)) s else .bad
  | .lc m own tg ik its cs elt, env => (evEs its env).bind fun ds s => match items ik ds s with
    | some xs => (lcL tg (fun env' => evC cs env') (fun env' => evE elt env') (fun s' => stands ik ds s s') s.length (wipeE env own) xs (s ++ [.lst []])).bind fun _ => lcDone m s.length
    | none => .bad
  | .addl m a b, env => (evE a env).bind fun x => (evE b env).bind fun y s => match view s x, view s y with
    | some p, some q => match binP .add p q with
      | some r => fin m r s
      | none => .bad
    | _, _ => .bad
  | .never, _ => fun _ => .bad
def evEs : List E → Env → M (List D)
  | [], _ => M.pure []
  | e :: es, env => (evE e env).bind fun d => (evEs es env).bind fun ds => M.pure (d :: ds)
def evC : List E → Env → M Bool
  | [], _ => M.pure true
  | e :: _, env => (evE e env).bind fun d => truthM d
def evO : Option E → Env → M (Option Int)
  | none, _ => M.pure none
  | some e, env => (evE e env).bind fun d => match d with
    | .p (.int i) => M.pure (some i)
    | _ => fun _ => .bad
end
end
/-- how a block ends -/
inductive X where
  | nx (env : Env) (s : Sto) | ret (d : D) (s : Sto) | brk (env : Env) (s : Sto) | ct (env : Env) (s : Sto) | exc (x : Exn) (env : Env) (s : Sto) | bad
/-- an expression's end within a block -/
def X.of {α : Type} (r : R α) (env : Env) (f : α → Sto → X) : X := match r with
  | .ok a s => f a s
  | .exc x s => .exc x env s
  | .bad => .bad
@[simp] theorem X.of_ok {α : Type} (a : α) (s : Sto) (env : Env) (f : α → Sto → X) : X.of (.ok a s) env f = f a s := rfl
@[simp] theorem X.of_exc {α : Type} (x : Exn) (s : Sto) (env : Env) (f : α → Sto → X) : X.of (.exc x s) env f = .exc x env s := rfl
@[simp] theorem X.of_bad {α : Type} (env : Env) (f : α → Sto → X) : X.of (.bad) env f = .bad := rfl
def X.seq (x : X) (f : Env → Sto → X) : X := match x with
  | .nx env s => f env s
  | x => x
@[simp] theorem X.seq_nx (env : Env) (s : Sto) (f : Env → Sto → X) : (X.nx env s).seq f = f env s := rfl
@[simp] theorem X.seq_ret (d : D) (s : Sto) (f : Env → Sto → X) : (X.ret d s).seq f = .ret d s := rfl
@[simp] theorem X.seq_brk (env : Env) (s : Sto) (f : Env → Sto → X) : (X.brk env s).seq f = .brk env s := rfl
@[simp] theorem X.seq_ct (env : Env) (s : Sto) (f : Env → Sto → X) : (X.ct env s).seq f = .ct env s := rfl
@[simp] theorem X.seq_exc (x : Exn) (env : Env) (s : Sto) (f : Env → Sto → X) : (X.exc x env s).seq f = .exc x env s := rfl
@[simp] theorem X.seq_bad (f : Env → Sto → X) : X.bad.seq f = .bad := rfl
def forL (tg : Tg) (body : Env → Sto → X) (ok : Sto → Bool) : List D → Env → Sto → X
  | [], env, s => if ok s then .nx env s else .bad
  | d :: ds, env, s => if ok s then match setTg env tg d with
      | some env' => match body env' s with
        | .nx e s' => forL tg body ok ds e s'
        | .ct e s' => forL tg body ok ds e s'
        | .brk e s' => .nx e s'
        | x => x
      | none => .bad
    else .bad
def whileL (c : Env → M Bool) (body : Env → Sto → X) : Nat → Env → Sto → X
  | 0, _, _ => .bad
  | n + 1, env, s => X.of (c env s) env fun b s1 => if b then match body env s1 with
      | .nx e s' => whileL c body n e s'
      | .ct e s' => whileL c body n e s'
      | .brk e s' => .nx e s'
      | x => x
    else .nx env s1
def putFd (f : Nat) (d : D) : List (Nat × D) → List (Nat × D)
  | [] => [(f, d)]
  | (g, x) :: r => if g = f then (g, d) :: r else (g, x) :: putFd f d r
section
variable (G : Prog) (cf ci : Nat → List D → M D)
mutual
def exec : S → Env → Sto → X
  | .set i e, env, s => X.of (evE G cf ci e env s) env fun d s1 => .nx (env.set i (some d)) s1
  | .unp is e, env, s => X.of (evE G cf ci e env s) env fun d s1 => match (asTup d).bind fun ds => if ds.length = is.length then setAll env is ds else none with
    | some env' => .nx env' s1
    | none => .bad
  | .star i j e, env, s => X.of (evE G cf ci e env s) env fun d s1 => match d with
    | .p (.tup (x :: xs)) => .nx ((env.set i (some (.p x))).set j (some (.p (.lst xs)))) s1
    | _ => .bad
  | .sfld a f e, env, s => X.of (evE G cf ci e env s) env fun d s1 => X.of (evE G cf ci a env s1) env fun x s2 => match x with
    | .ref n => match s2[n]? with
      | some (.ins c fs) => if fs.length < 100 then .nx env (s2.set n (.ins c (putFd f d fs))) else .bad
      | _ => .bad
    | _ => .bad
  | .sidx a i e, env, s => X.of (evE G cf ci e env s) env fun d s1 => X.of (evE G cf ci a env s1) env fun x s2 => X.of (evE G cf ci i env s2) env fun y s3 => match x, y with
    | .ref n, .p (.int j) => match s3[n]? with
      | some (.lst xs) => match place xs.length j with
        | some k => .nx env (s3.set n (.lst (xs.set k d)))
        | none => .bad
      | _ => .bad
    | _, _ => .bad
  | .aug i o e, env, s => match getV env i with
    | some x => X.of (evE G cf ci e env s) env fun y s1 => match view s1 x, view s1 y with
      | some (.int p), some (.int q) => match binP o (.int p) (.int q) with
        | some r => .nx (env.set i (some (.p r))) s1
        | none => .bad
      | _, _ => .bad
    | none => .bad
  | .augf a f o e, env, s => X.of (evE G cf ci a env s) env fun x s1 => match x with
    | .ref n => match s1[n]? with
      | some (.ins _ fs) => match fs.lookup f with
        | some (.p (.int p)) => X.of (evE G cf ci e env s1) env fun y s2 => match y with
          | .p (.int q) => match binP o (.int p) (.int q) with
            | some r => match s2[n]? with
              | some (.ins c fs') => if fs'.length < 100 then .nx env (s2.set n (.ins c (putFd f (.p r) fs'))) else .bad
              | _ => .bad
            | none => .bad
          | _ => .bad
        | _ => .bad
      | _ => .bad
    | _ => .bad
  | .expr e, env, s => X.of (evE G cf ci e env s) env fun _ s1 => .nx env s1
  | .ret e, env, s => X.of (evE G cf ci e env s) env fun d s1 => .ret d s1
  | .retN, _, s => .ret (.p .non) s
  | .ifs c a b, env, s => X.of (evE G cf ci c env s) env fun d s1 => X.of (truthM d s1) env fun t s2 => if t then execs a env s2 else execs b env s2
  | .for_ tg ik its body, env, s => X.of (evEs G cf ci its env s) env fun ds s1 => match items ik ds s1 with
    | some xs => forL tg (fun env' s' => execs body env' s') (fun s' => stands ik ds s1 s') xs env s1
    | none => .bad
  | .whl c body, env, s => whileL (fun env' => (evE G cf ci c env').bind truthM) (fun env' s' => execs body env' s') G.fuel env s
  | .raise c e, env, s => X.of (evE G cf ci e env s) env fun d s1 => match d with
    | .p x => .exc ⟨c, some x⟩ env s1
    | _ => .bad
  | .try_ body c suite, env, s => match execs body env s with
    | .exc x env' s' => if G.sub x.cls c then execs suite env' s' else .exc x env' s'
    | r => r
  | .thru body, env, s => match execs body env s with
    | .exc _ _ _ => .bad
    | r => r
  | .pass, env, s => .nx env s
  | .brk, env, s => .brk env s
  | .cont, env, s => .ct env s
  | .never, _, _ => .bad
def execs : List S → Env → Sto → X
  | [], env, s => .nx env s
  | st :: r, env, s => (exec st env s).seq fun env' s' => execs r env' s'
end
end
/-- a def's end: 0 what was made is let go, data (or an older object) is handed back; 1 all as it is; 2 as 0, and a new list handed back -/
def finish (mode : Nat) (s : Sto) (x : X) : R D :=
  let r : R D := match x with
    | .nx _ s' => .ok (.p .non) s'
    | .ret d s' => .ok d s'
    | .exc x _ s' => .exc x s'
    | _ => .bad
  match mode, r with
  | 1, r => r
  | _, .exc x s' => if (s'.take s.length).all (bndC s.length) then .exc x (s'.take s.length) else .bad
  | 0, .ok d s' => if (s'.take s.length).all (bndC s.length) then match d with
      | .p x => .ok (.p x) (s'.take s.length)
      | .ref n => if n < s.length then .ok (.ref n) (s'.take s.length) else match view s' (.ref n) with
        | some x => .ok (.p x) (s'.take s.length)
        | none => .bad
      | .tup _ => .bad
    else .bad
  | 2, .ok d s' => if (s'.take s.length).all (bndC s.length) then match d with
      | .ref n => if n < s.length then .bad else match view s' (.ref n) with
        | some (.lst xs) => .ok (.ref s.length) (s'.take s.length ++ [.lst (xs.map D.p)])
        | _ => .bad
      | _ => .bad
    else .bad
  | _, _ => .bad
def callF (G : Prog) : Nat → Nat → List D → M D
  | 0, _, _ => fun _ => .bad
  | k + 1, f, ds => fun s => match G.fn f with
    | some fd => if ds.length = fd.npar then finish fd.mode s (execs G (callF G k) (callF G (k - 1)) fd.body (ds.map some ++ List.replicate (fd.nloc - ds.length) none) s) else .bad
    | none => .bad
end TH
end T_TB
section T_TC
set_option Elab.async false
set_option linter.all false
set_option maxRecDepth 100000
/-! What data, the store, the names are on the abstract heap. -/
namespace TH
open PySem PySem.Spec PyProof.Rows L2
abbrev Frag := PySem.W.Frag
def sS (l : List Nat) : Str := ⟨l.toArray⟩
theorem sS_inj {a b : List Nat} : sS a = sS b ↔ a = b := by
  constructor
  · intro h
    have := congrArg (fun s : Str => s.cps.toList) h
    simpa [sS] using this
  · rintro rfl; rfl
theorem sS_len (a : List Nat) : (sS a).length = a.length := by simp [sS, Str.length]
theorem sS_app (a b : List Nat) : sS a ++ sS b = sS (a ++ b) := by
  show Str.append (sS a) (sS b) = _
  simp [sS, Str.append]
theorem sS_of (s : Str) : sS s.cps.toList = s := by cases s; simp [sS]
/-- a dict of the text at a, with these text keys -/
def KD (K : Frag) (w : World) (a : Addr) (kvs : List (List Nat × V)) : Prop :=
  ∃ es n, KDict K w a es n ∧ ∀ x : List Nat, match kvs.lookup x with
    | some v => ∃ u, PySem.W.nsIn K a (sS x) = some (some u) ∧ RelV v u
    | none => PySem.W.nsIn K a (sS x) = some none
/-- a tuple of the text -/
def TupK (K : Frag) (a : Addr) (vs : List V) : Prop :=
  ∃ (o : Obj) (its : Array Value) (n : Nat), K.lookup a = some o ∧ o.cls = .type "tuple" ∧ o.data = .seq its n ∧ its.size ≤ sizeLine ∧ Vals vs its.toList
section
variable (K : Frag) (w : World) (B : Addr → Prop) (H : Hp)
mutual
/-- v holds the data x; B: what may change -/
inductive Rp : V → P → Prop
  | non : Rp .non .non
  | bl (b : Bool) : Rp (.bl b) (.bl b)
  | int (i : Int) : Rp (.int i) (.int i)
  | str (s : List Nat) : Rp (.str (sS s)) (.str s)
  | tup {a : Addr} {vs : List V} {xs : List P} : Rd H a (.tup vs) → ¬ B a → RpL vs xs → Rp (.ref a) (.tup xs)
  | tupK {a : Addr} {vs : List V} {xs : List P} : TupK K a vs → RpL vs xs → Rp (.ref a) (.tup xs)
  | lst {a : Addr} {vs : List V} {xs : List P} : H a = some (.lst vs) → ¬ B a → RpL vs xs → Rp (.ref a) (.lst xs)
  | dctK {a : Addr} {kvs : List (List Nat × V)} {xs : List P} : KD K w a kvs → RpL (kvs.map (·.2)) xs → Rp (.ref a) (.dct (kvs.map fun q => .str q.1) xs)
  | dctH {a : Addr} {kvs : List (List Nat × V)} {xs : List P} : H a = some (.dK (kvs.map fun q => (.inr (sS q.1), q.2))) → ¬ B a → RpL (kvs.map (·.2)) xs → Rp (.ref a) (.dct (kvs.map fun q => .str q.1) xs)
  | scr {a : Addr} {ns : List Int} : Rd H a (.lst (ns.map V.int)) → ¬ B a → Rp (.ref a) (.scr ns)
  | scrK {a : Addr} {ns : List Int} {o : Obj} {its : Array Value} {n : Nat} : K.lookup a = some o → o.cls = .type "list" → o.dict = none → o.data = .seq its n → its.size ≤ sizeLine → Vals (ns.map V.int) its.toList → Rp (.ref a) (.scr ns)
inductive RpL : List V → List P → Prop
  | nil : RpL [] []
  | cons {v : V} {vs : List V} {x : P} {xs : List P} : Rp v x → RpL vs xs → RpL (v :: vs) (x :: xs)
end
end
section
variable {K : Frag} {w : World} {B B' : Addr → Prop} {H H' : Hp}
theorem RpL.length : ∀ {vs : List V} {xs : List P}, RpL K w B H vs xs → vs.length = xs.length
  | _, _, .nil => rfl
  | _, _, .cons _ t => by simp [RpL.length t]
theorem RpL.get : ∀ {vs : List V} {xs : List P} {i : Nat} {x : P}, RpL K w B H vs xs → xs[i]? = some x → ∃ v, vs[i]? = some v ∧ Rp K w B H v x
  | _, _, _, _, .nil, e => by simp at e
  | _, _, 0, _, .cons r _, e => by simp at e; subst e; exact ⟨_, rfl, r⟩
  | _, _, i + 1, x, .cons _ t, e => by
    obtain ⟨v, h1, h2⟩ := RpL.get (i := i) (x := x) t (by simpa using e)
    exact ⟨v, by simpa using h1, h2⟩
theorem RpL.getV : ∀ {vs : List V} {xs : List P} {i : Nat} {v : V}, RpL K w B H vs xs → vs[i]? = some v → ∃ x, xs[i]? = some x ∧ Rp K w B H v x
  | _, _, _, _, .nil, e => by simp at e
  | _, _, 0, _, .cons r _, e => by simp at e; subst e; exact ⟨_, rfl, r⟩
  | _, _, i + 1, v, .cons _ t, e => by
    obtain ⟨x, h1, h2⟩ := RpL.getV (i := i) (v := v) t (by simpa using e)
    exact ⟨x, by simpa using h1, h2⟩
theorem RpL.append : ∀ {vs us : List V} {xs ys : List P}, RpL K w B H vs xs → RpL K w B H us ys → RpL K w B H (vs ++ us) (xs ++ ys)
  | _, _, _, _, .nil, s => s
  | _, _, _, _, .cons r t, s => .cons r (RpL.append t s)
theorem RpL.take : ∀ {vs : List V} {xs : List P} (n : Nat), RpL K w B H vs xs → RpL K w B H (vs.take n) (xs.take n)
  | _, _, 0, _ => .nil
  | _, _, _ + 1, .nil => .nil
  | _, _, n + 1, .cons r t => .cons r (RpL.take n t)
theorem RpL.drop : ∀ {vs : List V} {xs : List P} (n : Nat), RpL K w B H vs xs → RpL K w B H (vs.drop n) (xs.drop n)
  | _, _, 0, r => r
  | _, _, _ + 1, .nil => .nil
  | _, _, n + 1, .cons _ t => RpL.drop n t
mutual
theorem Rp.mono (hH : ∀ a o, H a = some o → ¬ B a → H' a = some o) (hB : ∀ a o, H a = some o → ¬ B a → ¬ B' a) : ∀ {x : P} {v : V}, Rp K w B H v x → Rp K w B' H' v x
  | .non, _, .non => .non
  | .bl _, _, .bl b => .bl b
  | .int _, _, .int i => .int i
  | .str _, _, .str s => .str s
  | .tup _, _, .tup h nb r => by
    rcases h with h | ⟨o, h⟩
    · exact .tup (.inl (hH _ _ h nb)) (hB _ _ h nb) (RpL.mono hH hB r)
    · exact .tup (.inr ⟨o, hH _ _ h nb⟩) (hB _ _ h nb) (RpL.mono hH hB r)
  | .tup _, _, .tupK h r => .tupK h (RpL.mono hH hB r)
  | .lst _, _, .lst h nb r => .lst (hH _ _ h nb) (hB _ _ h nb) (RpL.mono hH hB r)
  | .dct _ _, _, .dctK h r => .dctK h (RpL.mono hH hB r)
  | .dct _ _, _, .dctH h nb r => .dctH (hH _ _ h nb) (hB _ _ h nb) (RpL.mono hH hB r)
  | .scr _, _, .scr h nb => by
    rcases h with h | ⟨o, h⟩
    · exact .scr (.inl (hH _ _ h nb)) (hB _ _ h nb)
    · exact .scr (.inr ⟨o, hH _ _ h nb⟩) (hB _ _ h nb)
  | .scr _, _, .scrK h1 h2 h3 h4 h5 h6 => .scrK h1 h2 h3 h4 h5 h6
theorem RpL.mono (hH : ∀ a o, H a = some o → ¬ B a → H' a = some o) (hB : ∀ a o, H a = some o → ¬ B a → ¬ B' a) : ∀ {xs : List P} {vs : List V}, RpL K w B H vs xs → RpL K w B' H' vs xs
  | [], _, .nil => .nil
  | _ :: _, _, .cons r t => .cons (Rp.mono hH hB r) (RpL.mono hH hB t)
end
/-- nothing may change -/
theorem Rp.calm (r : Rp K w B H v x) : Rp K w (fun _ => False) H v x := r.mono (fun _ _ h _ => h) (fun _ _ _ _ h => h)
end
def live (ρ : Nat → Addr) (L : Nat) (a : Addr) : Prop := ∃ n, n < L ∧ ρ n = a
section
variable (K : Frag) (w : World) (ρ : Nat → Addr) (L : Nat) (H : Hp)
mutual
inductive Rv : V → D → Prop
  | p {v : V} {x : P} : Rp K w (live ρ L) H v x → Rv v (.p x)
  | ref {n : Nat} : n < L → Rv (.ref (ρ n)) (.ref n)
  | tup {a : Addr} {vs : List V} {ds : List D} : Rd H a (.tup vs) → ¬ live ρ L a → RvL vs ds → Rv (.ref a) (.tup ds)
inductive RvL : List V → List D → Prop
  | nil : RvL [] []
  | cons {v : V} {vs : List V} {d : D} {ds : List D} : Rv v d → RvL vs ds → RvL (v :: vs) (d :: ds)
end
/-- a field -/
def RvF (fs : List (Str × V)) (nm : Nat → Str) (ds : List (Nat × D)) : Prop := fs.map (·.1) = ds.map (fun q => nm q.1) ∧ RvL K w ρ L H (fs.map (·.2)) (ds.map (·.2))
end
/-- the names of classes and fields -/
structure Names where
  cls : Nat → Addr
  fld : Nat → Str
def CellOk (K : Frag) (w : World) (nm : Names) (ρ : Nat → Addr) (L : Nat) (H : Hp) (a : Addr) : Cell → Prop
  | .lst ds => ∃ vs, H a = some (.lst vs) ∧ RvL K w ρ L H vs ds
  | .ins c fs => ∃ dx vfs, H a = some (.ins (nm.cls c) dx vfs) ∧ RvF K w ρ L H vfs nm.fld fs
structure StR (K : Frag) (w : World) (nm : Names) (ρ : Nat → Addr) (st : Sto) (H : Hp) : Prop where
  inj : ∀ m n, m < st.length → n < st.length → ρ m = ρ n → m = n
  cell : ∀ n c, st[n]? = some c → CellOk K w nm ρ st.length H (ρ n) c
/-- what a step may do -/
structure Ext (ρ : Nat → Addr) (L : Nat) (H : Hp) (ρ' : Nat → Addr) (L' : Nat) (H' : Hp) : Prop where
  le : L ≤ L'
  same : ∀ n, n < L → ρ' n = ρ n
  new : ∀ n, L ≤ n → n < L' → H (ρ' n) = none
  keep : ∀ a o, H a = some o → ¬ live ρ L a → H' a = some o
  there : ∀ a o, H a = some o → ∃ o', H' a = some o'
section
variable {K : Frag} {w : World} {nm : Names} {ρ ρ' ρ2 : Nat → Addr} {L L' L2 : Nat} {H H' H2 : Hp}
theorem Ext.refl : Ext ρ L H ρ L H := ⟨Nat.le_refl _, fun _ _ => rfl, fun n h1 h2 => absurd h2 (Nat.not_lt.mpr h1), fun _ _ h _ => h, fun _ o h => ⟨o, h⟩⟩
theorem Ext.live_old (e : Ext ρ L H ρ' L' H') {a : Addr} {o : HO} (ha : H a = some o) (h : ¬ live ρ L a) : ¬ live ρ' L' a := by
  rintro ⟨n, hn, rfl⟩
  by_cases hl : n < L
  · exact h ⟨n, hl, (e.same n hl).symm⟩
  · have := e.new n (Nat.not_lt.mp hl) hn
    rw [ha] at this
    cases this
theorem Ext.free (e : Ext ρ L H ρ' L' H') {a : Addr} (h : H' a = none) : H a = none := by
  cases q : H a with
  | none => rfl
  | some o =>
    obtain ⟨o', h'⟩ := e.there a o q
    rw [h] at h'
    cases h'
theorem Ext.trans (e : Ext ρ L H ρ' L' H') (f : Ext ρ' L' H' ρ2 L2 H2) : Ext ρ L H ρ2 L2 H2 := by
  refine ⟨Nat.le_trans e.le f.le, fun n h => (f.same n (Nat.lt_of_lt_of_le h e.le)).trans (e.same n h), fun n h1 h2 => ?_, fun a o h nl => ?_, fun a o h => ?_⟩
  · by_cases h : n < L'
    · rw [f.same n h]
      exact e.new n h1 h
    · exact e.free (f.new n (Nat.not_lt.mp h) h2)
  · exact f.keep a o (e.keep a o h nl) (e.live_old h nl)
  · obtain ⟨o', h'⟩ := e.there a o h
    exact f.there a o' h'
theorem Ext.rp (e : Ext ρ L H ρ' L' H') {x : P} {v : V} (r : Rp K w (live ρ L) H v x) : Rp K w (live ρ' L') H' v x :=
  r.mono e.keep fun _ _ h nl => e.live_old h nl
theorem Ext.rpL (e : Ext ρ L H ρ' L' H') {xs : List P} {vs : List V} (r : RpL K w (live ρ L) H vs xs) : RpL K w (live ρ' L') H' vs xs :=
  r.mono e.keep fun _ _ h nl => e.live_old h nl
mutual
theorem Ext.rv (e : Ext ρ L H ρ' L' H') : ∀ {d : D} {v : V}, Rv K w ρ L H v d → Rv K w ρ' L' H' v d
  | .p _, _, .p r => .p (e.rp r)
  | .ref n, _, .ref h => by
    rw [← e.same n h]
    exact .ref (Nat.lt_of_lt_of_le h e.le)
  | .tup _, _, .tup h nl r => by
    rcases h with h | ⟨o, h⟩
    · exact .tup (.inl (e.keep _ _ h nl)) (e.live_old h nl) (e.rvL r)
    · exact .tup (.inr ⟨o, e.keep _ _ h nl⟩) (e.live_old h nl) (e.rvL r)
theorem Ext.rvL (e : Ext ρ L H ρ' L' H') : ∀ {ds : List D} {vs : List V}, RvL K w ρ L H vs ds → RvL K w ρ' L' H' vs ds
  | [], _, .nil => .nil
  | _ :: _, _, .cons r t => .cons (e.rv r) (e.rvL t)
end
theorem RvL.length : ∀ {vs : List V} {xs : List D}, RvL K w ρ L H vs xs → vs.length = xs.length
  | _, _, .nil => rfl
  | _, _, .cons _ t => by simp [RvL.length t]
theorem RvL.get : ∀ {vs : List V} {xs : List D} {i : Nat} {x : D}, RvL K w ρ L H vs xs → xs[i]? = some x → ∃ v, vs[i]? = some v ∧ Rv K w ρ L H v x
  | _, _, _, _, .nil, e => by simp at e
  | _, _, 0, _, .cons r _, e => by simp at e; subst e; exact ⟨_, rfl, r⟩
  | _, _, i + 1, x, .cons _ t, e => by
    obtain ⟨v, h1, h2⟩ := RvL.get (i := i) (x := x) t (by simpa using e)
    exact ⟨v, by simpa using h1, h2⟩
theorem RvL.getV : ∀ {vs : List V} {xs : List D} {i : Nat} {v : V}, RvL K w ρ L H vs xs → vs[i]? = some v → ∃ x, xs[i]? = some x ∧ Rv K w ρ L H v x
  | _, _, _, _, .nil, e => by simp at e
  | _, _, 0, _, .cons r _, e => by simp at e; subst e; exact ⟨_, rfl, r⟩
  | _, _, i + 1, v, .cons _ t, e => by
    obtain ⟨x, h1, h2⟩ := RvL.getV (i := i) (v := v) t (by simpa using e)
    exact ⟨x, by simpa using h1, h2⟩
theorem RvL.append : ∀ {vs us : List V} {xs ys : List D}, RvL K w ρ L H vs xs → RvL K w ρ L H us ys → RvL K w ρ L H (vs ++ us) (xs ++ ys)
  | _, _, _, _, .nil, s => s
  | _, _, _, _, .cons r t, s => .cons r (RvL.append t s)
theorem RvL.set : ∀ {vs : List V} {xs : List D} {v : V} {d : D} (i : Nat), Rv K w ρ L H v d → RvL K w ρ L H vs xs → RvL K w ρ L H (vs.set i v) (xs.set i d)
  | _, _, _, _, _, _, .nil => .nil
  | _, _, _, _, 0, r, .cons _ t => .cons r t
  | _, _, _, _, i + 1, r, .cons q t => .cons q (RvL.set i r t)
theorem RvL.eraseIdx : ∀ {vs : List V} {xs : List D} (i : Nat), RvL K w ρ L H vs xs → RvL K w ρ L H (vs.eraseIdx i) (xs.eraseIdx i)
  | _, _, _, .nil => .nil
  | _, _, 0, .cons _ t => t
  | _, _, i + 1, .cons q t => .cons q (RvL.eraseIdx i t)
theorem RvL.of_rp : ∀ {vs : List V} {xs : List P}, RpL K w (live ρ L) H vs xs → RvL K w ρ L H vs (xs.map D.p)
  | _, _, .nil => .nil
  | _, _, .cons r t => .cons (.p r) (RvL.of_rp t)
theorem RvL.to_rp : ∀ {xs : List P} {vs : List V}, RvL K w ρ L H vs (xs.map D.p) → RpL K w (live ρ L) H vs xs
  | [], _, .nil => .nil
  | _ :: _, _, .cons (.p r) t => .cons r (RvL.to_rp t)
theorem Ext.cell (e : Ext ρ L H ρ' L' H') {a : Addr} {c : Cell} (h : CellOk K w nm ρ L H a c) (k : ∀ o, H a = some o → H' a = some o) : CellOk K w nm ρ' L' H' a c := by
  cases c with
  | lst ds =>
    obtain ⟨vs, h1, h2⟩ := h
    exact ⟨vs, k _ h1, e.rvL h2⟩
  | ins c fs =>
    obtain ⟨dx, vfs, h1, h2, h3⟩ := h
    exact ⟨dx, vfs, k _ h1, h2, e.rvL h3⟩
theorem StR.tracked {st : Sto} (s : StR K w nm ρ st H) {n : Nat} (h : n < st.length) : ∃ o, H (ρ n) = some o ∧ ((∃ vs, o = .lst vs) ∨ ∃ C dx fs, o = .ins C dx fs) := by
  have e : st[n]? = some st[n] := List.getElem?_eq_getElem h
  have q := s.cell n _ e
  cases hc : st[n] with
  | lst ds =>
    rw [hc] at q
    obtain ⟨vs, h1, _⟩ := q
    exact ⟨_, h1, .inl ⟨vs, rfl⟩⟩
  | ins c fs =>
    rw [hc] at q
    obtain ⟨dx, vfs, h1, _⟩ := q
    exact ⟨_, h1, .inr ⟨_, dx, vfs, rfl⟩⟩
/-- an address that is tracked otherwise is not live -/
theorem StR.not_live {st : Sto} (s : StR K w nm ρ st H) {a : Addr} (h : ∀ o, H a = some o → (∀ vs, o ≠ .lst vs) ∧ ∀ C dx fs, o ≠ .ins C dx fs) : ¬ live ρ st.length a := by
  rintro ⟨n, hn, rfl⟩
  obtain ⟨o, h1, h2⟩ := s.tracked hn
  obtain ⟨h3, h4⟩ := h o h1
  rcases h2 with ⟨vs, rfl⟩ | ⟨C, dx, fs, rfl⟩
  · exact h3 _ rfl
  · exact h4 _ _ _ rfl
theorem StR.not_live_new {st : Sto} (s : StR K w nm ρ st H) {a : Addr} (h : H a = none) : ¬ live ρ st.length a := by
  rintro ⟨n, hn, rfl⟩
  obtain ⟨o, h1, _⟩ := s.tracked hn
  rw [h] at h1
  cases h1
/-- an untracked object is laid and stays data -/
theorem Ext.laid {st : Sto} (s : StR K w nm ρ st H) {p : Addr} {o : HO} (h : H p = none) : Ext ρ st.length H ρ st.length (upd H p o) :=
  ⟨Nat.le_refl _, fun _ _ => rfl, fun n h1 h2 => absurd h2 (Nat.not_lt.mpr h1), fun a u ha _ => by rw [upd_ne (ne_of_none ha h)]; exact ha,
    fun a u ha => ⟨u, by rw [upd_ne (ne_of_none ha h)]; exact ha⟩⟩
theorem StR.laid {st : Sto} (s : StR K w nm ρ st H) {p : Addr} {o : HO} (h : H p = none) : StR K w nm ρ st (upd H p o) :=
  ⟨s.inj, fun n c e => (Ext.laid s h).cell (s.cell n c e) fun u hu => by rw [upd_ne (ne_of_none hu h)]; exact hu⟩
/-- an untracked object is laid and is an object of the store from now on -/
def setρ (ρ : Nat → Addr) (n : Nat) (a : Addr) : Nat → Addr := fun m => if m = n then a else ρ m
theorem setρ_same (ρ : Nat → Addr) (n : Nat) (a : Addr) : setρ ρ n a n = a := by simp [setρ]
theorem setρ_old (ρ : Nat → Addr) {m n : Nat} (a : Addr) (h : m < n) : setρ ρ n a m = ρ m := by
  have : m ≠ n := Nat.ne_of_lt h
  simp [setρ, this]
theorem Ext.push {st : Sto} (s : StR K w nm ρ st H) {p : Addr} {o : HO} (h : H p = none) : Ext ρ st.length H (setρ ρ st.length p) (st.length + 1) (upd H p o) :=
  ⟨Nat.le_succ _, fun n hn => setρ_old ρ p hn, fun n h1 h2 => by
    have : n = st.length := by omega
    subst this
    rw [setρ_same]; exact h, fun a u ha _ => by rw [upd_ne (ne_of_none ha h)]; exact ha,
    fun a u ha => ⟨u, by rw [upd_ne (ne_of_none ha h)]; exact ha⟩⟩
theorem StR.push {st : Sto} {c : Cell} (s : StR K w nm ρ st H) {p : Addr} {o : HO} (h : H p = none) (hc : CellOk K w nm (setρ ρ st.length p) (st.length + 1) (upd H p o) p c) :
    StR K w nm (setρ ρ st.length p) (st ++ [c]) (upd H p o) := by
  constructor
  · intro m n hm hn e
    simp only [List.length_append, List.length_singleton] at hm hn
    by_cases h1 : m = st.length
    · by_cases h2 : n = st.length
      · omega
      · exfalso
        have h3 : n < st.length := by omega
        rw [h1, setρ_same, setρ_old ρ p h3] at e
        obtain ⟨u, hu, _⟩ := s.tracked h3
        rw [← e, h] at hu
        cases hu
    · have h1' : m < st.length := by omega
      by_cases h2 : n = st.length
      · exfalso
        rw [h2, setρ_same, setρ_old ρ p h1'] at e
        obtain ⟨u, hu, _⟩ := s.tracked h1'
        rw [e, h] at hu
        cases hu
      · have h2' : n < st.length := by omega
        rw [setρ_old ρ p h1', setρ_old ρ p h2'] at e
        exact s.inj m n h1' h2' e
  · intro n d e
    rw [List.length_append, List.length_singleton]
    by_cases h1 : n < st.length
    · rw [List.getElem?_append_left h1] at e
      rw [setρ_old ρ p h1]
      exact (Ext.push s h).cell (s.cell n d e) fun u hu => by rw [upd_ne (ne_of_none hu h)]; exact hu
    · have h2 : n = st.length := by
        have := (List.getElem?_eq_some_iff.mp e).1
        simp only [List.length_append, List.length_singleton] at this
        omega
      subst h2
      rw [List.getElem?_append_right (Nat.le_refl _)] at e
      simp at e
      subst e
      rw [setρ_same]
      exact hc
/-- an object of the store is written -/
theorem Ext.write {st : Sto} (s : StR K w nm ρ st H) {n : Nat} {o : HO} (hn : n < st.length) : Ext ρ st.length H ρ st.length (upd H (ρ n) o) :=
  ⟨Nat.le_refl _, fun _ _ => rfl, fun m h1 h2 => absurd h2 (Nat.not_lt.mpr h1), fun a u ha nl => by
    rw [upd_ne (fun e => nl ⟨n, hn, e.symm⟩)]; exact ha,
    fun a u ha => by
      by_cases e : a = ρ n
      · subst e; exact ⟨o, upd_same⟩
      · exact ⟨u, by rw [upd_ne e]; exact ha⟩⟩
theorem StR.write {st : Sto} {c : Cell} (s : StR K w nm ρ st H) {n : Nat} {o : HO} (hn : n < st.length) (hc : CellOk K w nm ρ st.length (upd H (ρ n) o) (ρ n) c) : StR K w nm ρ (st.set n c) (upd H (ρ n) o) := by
  constructor
  · intro a b ha hb e
    rw [List.length_set] at ha hb
    exact s.inj a b ha hb e
  · intro m d e
    rw [List.length_set]
    by_cases h : m = n
    · subst h
      rw [List.getElem?_set_self hn] at e
      cases e
      exact hc
    · rw [List.getElem?_set_ne (Ne.symm h)] at e
      have hm : m < st.length := (List.getElem?_eq_some_iff.mp e).1
      refine (Ext.write s hn).cell (s.cell m d e) fun u hu => ?_
      rw [upd_ne (fun q => h (s.inj m n hm hn q))]
      exact hu
end
end TH
end T_TC
section T_TD
set_option Elab.async false
set_option linter.all false
set_option maxRecDepth 100000
/-! Readings of the IR over HandS: expressions' ends, operators by values. -/
namespace TH
open PySem PySem.Spec PyProof.Rows L2
/-- how an exception lies: its class, its own dict, its field -/
def ExR (K : Frag) (w : World) (nm : Names) (B : Addr → Prop) (H : Hp) (x : Exn) (cls : Value) (d : Option Addr) : Prop :=
  cls = .ref (nm.cls x.cls) ∧ match x.val with
    | none => True
    | some p => ∃ dx f v, d = some dx ∧ H dx = some (.xd [(f, v)]) ∧ ¬ B dx ∧ Rp K w B H v p
/-- what is wanted behind a computation -/
def Got (K : Frag) (w : World) (nm : Names) (W : WX) (ρ : Nat → Addr) (L : Nat) (H : Hp) (σ : L2.St) {α : Type} (r : R α) (κ : α → Sto → (Nat → Addr) → Hp → Prop) : Prop := match r with
  | .ok a st' => ∀ ρ' H', Ext ρ L H ρ' st'.length H' → StR K w nm ρ' st' H' → κ a st' ρ' H'
  | .exc x st' => ∀ ρ' H' cls d, Ext ρ L H ρ' st'.length H' → StR K w nm ρ' st' H' → ExR K w nm (live ρ' st'.length) H' x cls d → W cls d σ H'
  | .bad => False
def Post (K : Frag) (w : World) (nm : Names) (W : WX) (ρ : Nat → Addr) (L : Nat) (H : Hp) (σ : L2.St) (r : R D) (Q : VK) : Prop := Got K w nm W ρ L H σ r fun d st' ρ' H' => ∀ v, Rv K w ρ' st'.length H' v d → Q v H'
def PostL (K : Frag) (w : World) (nm : Names) (W : WX) (ρ : Nat → Addr) (L : Nat) (H : Hp) (σ : L2.St) (r : R (List D)) (Q : List V → Hp → Prop) : Prop := Got K w nm W ρ L H σ r fun ds st' ρ' H' => ∀ vs, RvL K w ρ' st'.length H' vs ds → Q vs H'
def PostT (K : Frag) (w : World) (nm : Names) (W : WX) (ρ : Nat → Addr) (L : Nat) (H : Hp) (σ : L2.St) (r : R Bool) (Q : Bool → Hp → Prop) : Prop := Got K w nm W ρ L H σ r fun b st' ρ' H' => Q b H'
/-- the names -/
structure EnvR (K : Frag) (w : World) (ρ : Nat → Addr) (L : Nat) (H : Hp) (σ : L2.St) (env : Env) : Prop where
  len : σ.length = env.length
  at_ : ∀ (i : Nat) (d : D), env[i]? = some (some d) → ∃ v : V, σ[i]? = some (some v) ∧ Rv K w ρ L H v d
/-- a computation's reading -/
def rd (K : Frag) (w : World) (nm : Names) (W : WX) (m : Env → M D) : TE := fun σ H Q => ∃ ρ st env, EnvR K w ρ st.length H σ env ∧ StR K w nm ρ st H ∧ Post K w nm W ρ st.length H σ (m env st) Q
def rdL (K : Frag) (w : World) (nm : Names) (W : WX) (m : Env → M (List D)) : TA := fun σ H Q => ∃ ρ st env, EnvR K w ρ st.length H σ env ∧ StR K w nm ρ st H ∧ PostL K w nm W ρ st.length H σ (m env st) Q
def rdT (K : Frag) (w : World) (nm : Names) (W : WX) (m : Env → M Bool) : TT := fun σ H Q => ∃ ρ st env, EnvR K w ρ st.length H σ env ∧ StR K w nm ρ st H ∧ PostT K w nm W ρ st.length H σ (m env st) Q
section
variable {K : Frag} {w : World} {nm : Names} {W : WX} {ρ ρ' : Nat → Addr} {L : Nat} {H H' : Hp} {σ : L2.St} {env : Env} {st st' : Sto}
theorem Ext.envR {L' : Nat} (e : Ext ρ L H ρ' L' H') (r : EnvR K w ρ L H σ env) : EnvR K w ρ' L' H' σ env :=
  ⟨r.len, fun i d h => let ⟨v, h1, h2⟩ := r.at_ i d h; ⟨v, h1, e.rv h2⟩⟩
/-- one behind another -/
theorem Got.bind {α β : Type} {r : R α} {f : α → M β} {κ : β → Sto → (Nat → Addr) → Hp → Prop} {κ1 : α → Sto → (Nat → Addr) → Hp → Prop} (h : Got K w nm W ρ L H σ (r.bind f) κ)
    (k : ∀ a st1 ρ1 H1, r = .ok a st1 → Ext ρ L H ρ1 st1.length H1 → StR K w nm ρ1 st1 H1 → Got K w nm W ρ1 st1.length H1 σ (f a st1) κ → κ1 a st1 ρ1 H1) : Got K w nm W ρ L H σ r κ1 := by
  cases r with
  | bad => exact h
  | exc x s => exact h
  | ok a st1 =>
    intro ρ1 H1 e s
    refine k a st1 ρ1 H1 rfl e s ?_
    have h' : Got K w nm W ρ L H σ (f a st1) κ := h
    cases hf : f a st1 with
    | bad => rw [hf] at h'; exact h'
    | exc x st2 =>
      rw [hf] at h'
      exact fun ρ2 H2 cls dd e2 s2 x2 => h' ρ2 H2 cls dd (e.trans e2) s2 x2
    | ok b st2 =>
      rw [hf] at h'
      exact fun ρ2 H2 e2 s2 => h' ρ2 H2 (e.trans e2) s2
theorem Got.imp {α : Type} {r : R α} {κ κ1 : α → Sto → (Nat → Addr) → Hp → Prop} (h : Got K w nm W ρ L H σ r κ) (k : ∀ a st1 ρ1 H1, κ a st1 ρ1 H1 → κ1 a st1 ρ1 H1) : Got K w nm W ρ L H σ r κ1 := by
  cases r with
  | bad => exact h
  | exc x s => exact h
  | ok a st1 => exact fun ρ1 H1 e s => k _ _ _ _ (h ρ1 H1 e s)
/-- the end of an operation that makes at most new things that are tracked -/
def KeepN (H H' : Hp) : Prop := ∀ a o, H a = some o → H' a = some o
theorem KeepN.refl : KeepN H H := fun _ _ h => h
theorem KeepN.upd {p : Addr} {o : HO} (h : H p = none) : KeepN H (upd H p o) := fun a u ha => by rw [upd_ne (ne_of_none ha h)]; exact ha
theorem Ext.more (k : KeepN H H') : Ext ρ L H ρ L H' := ⟨Nat.le_refl _, fun _ _ => rfl, fun n h1 h2 => absurd h2 (Nat.not_lt.mpr h1), fun a o h _ => k a o h, fun a o h => ⟨o, k a o h⟩⟩
theorem StR.more (s : StR K w nm ρ st H) (k : KeepN H H') : StR K w nm ρ st H' := ⟨s.inj, fun n c e => (Ext.more k).cell (s.cell n c e) fun o h => k _ o h⟩
theorem Got.here {α : Type} {a : α} {κ : α → Sto → (Nat → Addr) → Hp → Prop} (h : Got K w nm W ρ st.length H σ (.ok a st) κ) (s : StR K w nm ρ st H) : κ a st ρ H := h ρ H Ext.refl s
theorem Got.more {α : Type} {a : α} {κ : α → Sto → (Nat → Addr) → Hp → Prop} (h : Got K w nm W ρ st.length H σ (.ok a st) κ) (s : StR K w nm ρ st H) (k : KeepN H H') : κ a st ρ H' := h ρ H' (Ext.more k) (s.more k)
/-- a value read as data -/
inductive Vw (K : Frag) (w : World) (B : Addr → Prop) (H : Hp) : V → P → Prop
  | of {v : V} {x : P} : Rp K w B H v x → Vw K w B H v x
  | lst {a : Addr} {vs : List V} {xs : List P} : H a = some (.lst vs) → RpL K w B H vs xs → Vw K w B H (.ref a) (.lst xs)
theorem StR.view (s : StR K w nm ρ st H) {d : D} {v : V} {x : P} (r : Rv K w ρ st.length H v d) (h : view st d = some x) : Vw K w (live ρ st.length) H v x := by
  cases r with
  | p r =>
    cases h
    exact .of r
  | tup _ _ _ => cases h
  | @ref n hn =>
    unfold TH.view at h
    dsimp only at h
    cases hc : st[n]? with
    | none => rw [hc] at h; cases h
    | some c =>
      rw [hc] at h
      have q := s.cell n c hc
      cases c with
      | ins c fs => cases h
      | lst ds =>
        obtain ⟨vs, h1, h2⟩ := q
        dsimp only at h
        cases hp : pall ds with
        | none => rw [hp] at h; cases h
        | some xs =>
          rw [hp] at h
          cases h
          rw [pall_eq hp] at h2
          exact .lst h1 h2.to_rp
/-- the list, the tuple that is read -/
theorem Vw.list {B : Addr → Prop} {v : V} {xs : List P} (h : Vw K w B H v (.lst xs)) : ∃ a vs, v = .ref a ∧ H a = some (.lst vs) ∧ RpL K w B H vs xs := by
  cases h with
  | of r =>
    cases r with
    | lst h _ r => exact ⟨_, _, rfl, h, r⟩
  | lst h r => exact ⟨_, _, rfl, h, r⟩
theorem Rp.tuple {B : Addr → Prop} {v : V} {xs : List P} (h : Rp K w B H v (.tup xs)) : ∃ a vs, v = .ref a ∧ SqT K H a vs ∧ RpL K w B H vs xs := by
  cases h with
  | tup h _ r => exact ⟨_, _, rfl, .inl h, r⟩
  | tupK h r => exact ⟨_, _, rfl, .inr h, r⟩
theorem Vw.tuple {B : Addr → Prop} {v : V} {xs : List P} (h : Vw K w B H v (.tup xs)) : ∃ a vs, v = .ref a ∧ SqT K H a vs ∧ RpL K w B H vs xs := by
  cases h with
  | of r => exact r.tuple
theorem Vw.int {B : Addr → Prop} {v : V} {i : Int} (h : Vw K w B H v (.int i)) : v = .int i := by
  cases h with
  | of r => cases r; rfl
theorem Vw.str {B : Addr → Prop} {v : V} {i : List Nat} (h : Vw K w B H v (.str i)) : v = .str (sS i) := by
  cases h with
  | of r => cases r; rfl
theorem Vw.bl {B : Addr → Prop} {v : V} {i : Bool} (h : Vw K w B H v (.bl i)) : v = .bl i := by
  cases h with
  | of r => cases r; rfl
theorem Vw.non {B : Addr → Prop} {v : V} (h : Vw K w B H v .non) : v = .non := by
  cases h with
  | of r => cases r; rfl
/-- new data -/
theorem Rp.newL {B : Addr → Prop} {p : Addr} {vs : List V} {xs : List P} (hB : ∀ a, H a = none → ¬ B a) (h : H p = none) (r : RpL K w B H vs xs) : Rp K w B (upd H p (.lst vs)) (.ref p) (.lst xs) :=
  .lst upd_same (hB p h) (r.mono (fun a o ha _ => KeepN.upd h a o ha) fun _ _ _ h => h)
theorem Rp.newT {B : Addr → Prop} {p : Addr} {vs : List V} {xs : List P} (hB : ∀ a, H a = none → ¬ B a) (h : H p = none) (r : RpL K w B H vs xs) : Rp K w B (upd H p (.tup vs)) (.ref p) (.tup xs) :=
  .tup (.inl upd_same) (hB p h) (r.mono (fun a o ha _ => KeepN.upd h a o ha) fun _ _ _ h => h)
theorem line_eq : sizeLine = line := by decide
end
/-! ### operators by values -/
/-- the universal reading of a two-place operation on data -/
def rB (K : Frag) (w : World) (f : P → P → Option P) : R2 := fun x y H Q => ∃ (B : Addr → Prop) (p q r : P), (∀ a, H a = none → ¬ B a) ∧ Vw K w B H x p ∧ Vw K w B H y q ∧ f p q = some r ∧ ∀ v H', KeepN H H' → Rp K w B H' v r → Q v H'
section
variable {X : Cx}
theorem OpR.imp {f : Value → Value → Sem Value} {r r' : R2} (h : OpR X f r) (k : ∀ x y H Q, r' x y H Q → r x y H Q) : OpR X f r' := fun pins s σ H x y v u Q I rx ry q => h pins s σ H x y v u Q I rx ry (k _ _ _ _ q)
/-- by cases on what is read -/
theorem OpR.case {ι : Type} {f : Value → Value → Sem Value} {r : ι → R2} (h : ∀ i, OpR X f (r i)) : OpR X f (fun x y H Q => ∃ i, r i x y H Q) := fun pins s σ H x y v u Q I rx ry ⟨i, q⟩ => h i pins s σ H x y v u Q I rx ry q

end
end TH
end T_TD
section T_TE
set_option Elab.async false
set_option linter.all false
set_option maxRecDepth 100000
namespace TH
open PySem PySem.Spec PyProof.Rows L2
def opOf : Op2 → Operator
  | .add => .Add | .sub => .Sub | .mul => .Mult | .fdiv => .FloorDiv | .mod => .Mod | .pow => .Pow
section
variable {X : Cx}
theorem of_ite {α : Type} {c : Prop} [Decidable c] {x : Option α} {y : α} (h : (if c then x else none) = some y) : c ∧ x = some y := by
  split at h
  · rename_i hc
    exact ⟨hc, h⟩
  · cases h
theorem strlen_cps (a : List Nat) : (sS a).cps.toList = a := by simp [sS]
theorem RpL.flat {K : Frag} {w : World} {B : Addr → Prop} {H : Hp} {vs : List V} {xs : List P} (r : RpL K w B H vs xs) (n : Nat) : RpL K w B H (List.replicate n vs).flatten (List.replicate n xs).flatten := by
  induction n with
  | zero => exact .nil
  | succ n ih => simp only [List.replicate_succ, List.flatten_cons]; exact r.append ih
theorem smallI_ok {i : Int} (h : smallI i = true) : -(2 ^ 64) < i ∧ i < 2 ^ 64 := by
  unfold smallI at h
  simp only [Bool.and_eq_true, decide_eq_true_eq] at h
  omega
theorem op_mul_str1 : OpR X (binaryOp .Mult) (fun x y H Q => ∃ (a : List Nat) (j : Int), x = .str (sS a) ∧ y = .int j ∧ a.length = 1 ∧ (j = 0 ∨ j = 1) ∧ Q (.str (sS (if j = 1 then a else []))) H) := by
  intro pins s σ H x y v u Q I rx ry h
  obtain ⟨a, j, rfl, rfl, ha, hj, q⟩ := h
  obtain ⟨t, rfl⟩ := rx
  obtain ⟨t', rfl⟩ := ry
  rcases hj with rfl | rfl
  · refine PySem.SB.mul (x := sS a) (n := 0) ⟨by decide, fun h => absurd (by decide) h, fun h => absurd (by decide) h⟩ (fun t k => ⟨.str (sS []), H, I.tok _, ⟨t, ?_⟩, q⟩)
    all_goals rfl
  · refine PySem.SB.mul (x := sS a) (n := 1) ⟨by decide, fun _ h => absurd h (by simp), fun _ h => absurd h (by simp)⟩ (fun t k => ⟨.str (sS a), H, I.tok _, ⟨t, ?_⟩, q⟩)
    all_goals rfl
/-- operators on data -/
theorem opB (o : Op2) : OpR X (binaryOp (opOf o)) (rB X.K X.w (binP o)) := by
  intro pins s σ H x y v u Q I rx ry h
  obtain ⟨B, p, q, r, hB, vx, vy, e, k⟩ := h
  cases o with
  | add =>
    cases p with
    | int i => cases q with
      | int j =>
        cases e
        rw [vx.int] at rx; rw [vy.int] at ry
        exact op_add pins s σ H _ _ v u Q I rx ry ⟨_, _, rfl, rfl, k _ _ KeepN.refl (.int _)⟩
      | _ => cases e
    | str a => cases q with
      | str b =>
        rw [vx.str] at rx; rw [vy.str] at ry
        obtain ⟨hl, e⟩ := of_ite e
        cases e
        refine op_add_str pins s σ H _ _ v u Q I rx ry ⟨_, _, rfl, rfl, by rw [sS_len, sS_len, line_eq]; exact hl, ?_⟩
        rw [sS_app]
        exact k _ _ KeepN.refl (.str _)
      | _ => cases e
    | tup a => cases q with
      | tup b =>
        obtain ⟨hl, e⟩ := of_ite e
        cases e
        obtain ⟨aa, vs, rfl, h1, r1⟩ := vx.tuple
        obtain ⟨bb, us, rfl, h2, r2⟩ := vy.tuple
        have k1 : vs = [] → Rp X.K X.w B H (.ref bb) (.tup (a ++ b)) := fun e0 => by
          subst e0; cases r1
          rw [List.nil_append]
          cases vy with
          | of r => exact r
        have k2 : us = [] → Rp X.K X.w B H (.ref aa) (.tup (a ++ b)) := fun e0 => by
          subst e0; cases r2
          rw [List.append_nil]
          cases vx with
          | of r => exact r
        exact op_catA pins s σ H _ _ v u Q I rx ry ⟨aa, bb, vs, us, rfl, rfl, h1, h2, by rw [r1.length, r2.length, line_eq]; exact hl, fun e0 => k _ _ KeepN.refl (k1 e0), fun _ e0 => k _ _ KeepN.refl (k2 e0),
          fun _ _ p hp => k _ _ (KeepN.upd hp) (Rp.newT hB hp (r1.append r2))⟩
      | _ => cases e
    | lst a => cases q with
      | lst b =>
        obtain ⟨hl, e⟩ := of_ite e
        cases e
        obtain ⟨aa, vs, rfl, h1, r1⟩ := vx.list
        obtain ⟨bb, us, rfl, h2, r2⟩ := vy.list
        exact op_cat pins s σ H _ _ v u Q I rx ry ⟨aa, bb, vs, us, rfl, rfl, h1, h2, by rw [r1.length, r2.length, line_eq]; exact hl, fun p hp => k _ _ (KeepN.upd hp) (Rp.newL hB hp (r1.append r2))⟩
      | _ => cases e
    | _ => cases q <;> cases e
  | sub =>
    cases p with
    | int i => cases q with
      | int j =>
        cases e
        rw [vx.int] at rx; rw [vy.int] at ry
        exact op_sub pins s σ H _ _ v u Q I rx ry ⟨_, _, rfl, rfl, k _ _ KeepN.refl (.int _)⟩
      | _ => cases e
    | _ => cases q <;> cases e
  | mul =>
    cases p with
    | int i => cases q with
      | int j =>
        obtain ⟨hs, e⟩ := of_ite e
        cases e
        rw [vx.int] at rx; rw [vy.int] at ry
        refine op_mul pins s σ H _ _ v u Q I rx ry ⟨_, _, rfl, rfl, ?_, k _ _ KeepN.refl (.int _)⟩
        rcases Bool.or_eq_true_iff.mp hs with z | z
        · exact .inl (smallI_ok z)
        · exact .inr (smallI_ok z)
      | _ => cases e
    | str a => cases q with
      | int j =>
        obtain ⟨hs, e⟩ := of_ite e
        cases e
        rw [vx.str] at rx; rw [vy.int] at ry
        exact op_mul_str1 pins s σ H _ _ v u Q I rx ry ⟨_, _, rfl, rfl, hs.1, hs.2, k _ _ KeepN.refl (.str _)⟩
      | _ => cases e
    | lst a => cases q with
      | int j =>
        obtain ⟨hs, e⟩ := of_ite e
        cases e
        obtain ⟨aa, vs, rfl, h1, r1⟩ := vx.list
        rw [vy.int] at ry
        refine op_rep pins s σ H _ _ v u Q I rx ry ⟨aa, j, vs, rfl, rfl, h1, by omega, by omega, ?_, fun p hp => k _ _ (KeepN.upd hp) (Rp.newL hB hp (r1.flat _))⟩
        rw [r1.length, line_eq]
        have h3 : j.toNat ≤ 1000 := by omega
        have h4 : a.length ≤ 1000 := by omega
        exact Nat.le_trans (Nat.mul_le_mul h4 h3) (by decide)
      | _ => cases e
    | _ => cases q <;> cases e
  | fdiv =>
    cases p with
    | int i => cases q with
      | int j =>
        obtain ⟨hs, e⟩ := of_ite e
        cases e
        rw [vx.int] at rx; rw [vy.int] at ry
        exact op_fdiv pins s σ H _ _ v u Q I rx ry ⟨_, _, rfl, rfl, hs, k _ _ KeepN.refl (.int _)⟩
      | _ => cases e
    | _ => cases q <;> cases e
  | mod =>
    cases p with
    | int i => cases q with
      | int j =>
        obtain ⟨hs, e⟩ := of_ite e
        cases e
        rw [vx.int] at rx; rw [vy.int] at ry
        exact op_mod pins s σ H _ _ v u Q I rx ry ⟨_, _, rfl, rfl, hs, k _ _ KeepN.refl (.int _)⟩
      | _ => cases e
    | _ => cases q <;> cases e
  | pow =>
    cases p with
    | int i => cases q with
      | int j =>
        obtain ⟨hs, e⟩ := of_ite e
        cases e
        rw [vx.int] at rx; rw [vy.int] at ry
        exact op_pow pins s σ H _ _ v u Q I rx ry ⟨_, _, rfl, rfl, ⟨hs.1, by omega, by omega⟩, k _ _ KeepN.refl (.int _)⟩
      | _ => cases e
    | _ => cases q <;> cases e
end
end TH
end T_TE
section T_TF
set_option Elab.async false
set_option linter.all false
set_option maxRecDepth 100000
namespace TH
open PySem PySem.Spec PyProof.Rows L2
/-! ### == -/
theorem allO_zip {f : P → P → Option Bool} : ∀ {xs ys : List P} {b : Bool}, allO (List.zipWith f xs ys) = some b →
    ∃ e : Nat → Bool, (∀ j (h1 : j < xs.length) (h2 : j < ys.length), f xs[j] ys[j] = some (e j)) ∧ (List.range (min xs.length ys.length)).all e = b
  | [], ys, b, h => ⟨fun _ => true, fun j h1 => absurd h1 (Nat.not_lt_zero _), by simp only [List.zipWith_nil_left, allO, Option.some.injEq] at h; simp [← h]⟩
  | x :: xs, [], b, h => ⟨fun _ => true, fun j _ h2 => absurd h2 (Nat.not_lt_zero _), by simp only [List.zipWith_nil_right, allO, Option.some.injEq] at h; simp [← h]⟩
  | x :: xs, y :: ys, b, h => by
    simp only [List.zipWith_cons_cons] at h
    cases hf : f x y with
    | none => rw [hf] at h; simp [allO] at h
    | some a =>
      rw [hf] at h
      simp only [allO, Option.map_eq_some_iff] at h
      obtain ⟨c, h1, rfl⟩ := h
      obtain ⟨e, h2, h3⟩ := allO_zip h1
      refine ⟨fun j => match j with | 0 => a | j + 1 => e j, fun j j1 j2 => ?_, ?_⟩
      · cases j with
        | zero => exact hf
        | succ j =>
          simp only [List.length_cons, Nat.add_lt_add_iff_right] at j1 j2
          exact h2 j j1 j2
      · have e1 : min (x :: xs).length (y :: ys).length = min xs.length ys.length + 1 := by simp only [List.length_cons]; omega
        rw [e1, List.range_succ_eq_map, List.all_cons, List.all_map, ← h3]
        rfl
section
variable {X : Cx} {B B' : Addr → Prop} {H : Hp} {σ : L2.St} {s : Shared} {pins : List (Addr × Obj)}
theorem scal_eq {x y : P} {v z : V} {u t : Value} {A : Around} (hs : scalP x y = true) (r1 : Vw X.K X.w B H v x) (r2 : Vw X.K X.w B' H z y) (q1 : RelV v u) (q2 : RelV z t) : SeqAt.EqAt A s u t (decide (x = y)) := by
  have fx : flatV v = true ∧ flatV z = true ∧ eqV v z = decide (x = y) := by
    cases x <;> cases y <;> first | (exact absurd (show false = true from hs) Bool.false_ne_true) | skip
    all_goals first | rw [r1.non] | rw [r1.bl] | rw [r1.int] | rw [r1.str]
    all_goals first | rw [r2.non] | rw [r2.bl] | rw [r2.int] | rw [r2.str]
    all_goals refine ⟨rfl, rfl, ?_⟩
    all_goals first | (simp [eqV]; done) | skip
    · simp only [eqV, P.bl.injEq]
      exact (Bool.beq_eq_decide_eq _ _)
    · simp only [eqV, P.int.injEq]
      exact (Bool.beq_eq_decide_eq _ _)
    · simp only [eqV, P.str.injEq]
      rw [Bool.beq_eq_decide_eq]
      exact decide_eq_decide.mpr sS_inj
  rw [← fx.2.2]
  exact eqAt_V q1 q2 fx.1 fx.2.1
theorem RpL.vals_get {vs : List V} {xs : List P} {its : List Value} (r : RpL X.K X.w B H vs xs) (q : Vals vs its) {j : Nat} (h : j < its.length) : ∃ (hx : j < xs.length) (v : V), Rp X.K X.w B H v xs[j] ∧ RelV v its[j] := by
  have hl := q.length
  have hl2 := r.length
  have hx : j < xs.length := by omega
  obtain ⟨v, h1, h2⟩ := r.get (List.getElem?_eq_getElem hx)
  obtain ⟨u, h3, h4⟩ := q.get h1
  rw [List.getElem?_eq_getElem h] at h3
  cases h3
  exact ⟨hx, v, h2, h4⟩
theorem all_of {f : P → P → Option Bool} {xs ys : List P} {b : Bool} (h : allO (List.zipWith f xs ys) = some b) (k : ∀ j (h1 : j < xs.length) (h2 : j < ys.length) (c : Bool), f xs[j] ys[j] = some c → c = true) : b = true := by
  obtain ⟨e, h2, h3⟩ := allO_zip h
  rw [← h3, List.all_eq_true]
  intro j hj
  have hj' := List.mem_range.mp hj
  have j1 : j < xs.length := by omega
  have j2 : j < ys.length := by omega
  exact k j j1 j2 _ (h2 j j1 j2)
theorem eq_same (I : Inv X pins σ H s) : ∀ (n : Nat) {x y : P} {b : Bool} {v : V}, pyEq n x y = some b → Vw X.K X.w B H v x → Vw X.K X.w B' H v y → b = true
  | n, x, y, b, v, e, r1, r2 => by
    by_cases hs : scalP x y = true
    · have e' : b = decide (x = y) := by
        have : pyEq n x y = some (decide (x = y)) := by
          cases n <;> cases x <;> cases y <;> first | (exact absurd (show false = true from hs) Bool.false_ne_true) | (simp only [pyEq]; rw [if_pos hs]; done)
        rw [this] at e
        exact (Option.some.inj e).symm
      rw [e']
      have : x = y := by
        cases x <;> cases y <;> first | (exact absurd (show false = true from hs) Bool.false_ne_true) | skip
        all_goals first | (have h1 := r1.non; subst h1) | (have h1 := r1.bl; subst h1) | (have h1 := r1.int; subst h1) | (have h1 := r1.str; subst h1)
        all_goals first | (have h2 := r2.non) | (have h2 := r2.bl) | (have h2 := r2.int) | (have h2 := r2.str)
        all_goals first | (cases h2; done) | skip
        all_goals first | rfl | (simp only [V.bl.injEq, V.int.injEq, V.str.injEq, sS_inj] at h2; rw [h2])
      simp [this]
    · have hs' : scalP x y = false := by simpa using hs
      cases n with
      | zero =>
        have : pyEq 0 x y = none := by
          cases x <;> cases y <;> first | (simp only [pyEq]; rw [if_neg hs]; done) | rfl
        rw [this] at e
        cases e
      | succ n =>
        cases x with
        | tup xs => cases y with
          | tup ys =>
            simp only [pyEq, Option.map_eq_some_iff] at e
            obtain ⟨c, h1, rfl⟩ := e
            obtain ⟨a1, vs, rfl, k1, p1⟩ := r1.tuple
            obtain ⟨a2, us, e2, k2, p2⟩ := r2.tuple
            cases e2
            have hvs := I.tuple_inj k1 k2
            subst hvs
            have l3 := p1.length
            have l4 := p2.length
            have e1 : c = true := all_of h1 fun j j1 j2 c hc => by
              obtain ⟨v1, q1, w1⟩ := p1.get (List.getElem?_eq_getElem j1)
              obtain ⟨v2, q2, w2⟩ := p2.get (List.getElem?_eq_getElem j2)
              rw [q1] at q2
              cases q2
              exact eq_same I n hc (.of w1) (.of w2)
            rw [e1, ← l3, ← l4]
            simp
          | _ => simp only [pyEq, hs'] at e; cases e
        | lst xs => cases y with
          | lst ys =>
            obtain ⟨a1, vs, rfl, k1, p1⟩ := r1.list
            obtain ⟨a2, us, e2, k2, p2⟩ := r2.list
            cases e2
            rw [k1] at k2
            cases k2
            have l3 := p1.length
            have l4 := p2.length
            simp only [pyEq] at e
            rw [if_pos (by omega)] at e
            exact all_of e fun j j1 j2 c hc => by
              obtain ⟨v1, q1, w1⟩ := p1.get (List.getElem?_eq_getElem j1)
              obtain ⟨v2, q2, w2⟩ := p2.get (List.getElem?_eq_getElem j2)
              rw [q1] at q2
              cases q2
              exact eq_same I n hc (.of w1) (.of w2)
          | _ => simp only [pyEq, hs'] at e; cases e
        | _ => cases y <;> (simp only [pyEq, hs'] at e; cases e)
theorem eq_deep (I : Inv X pins σ H s) : ∀ (n : Nat) {x y : P} {b : Bool} {v z : V} {u t : Value} {A : Around}, pyEq n x y = some b → Vw X.K X.w B H v x → Vw X.K X.w B' H z y → RelV v u → RelV z t → A.units + n < cLine → SeqAt.EqAt A s u t b
  | n, x, y, b, v, z, u, t, A, e, r1, r2, q1, q2, hu => by
    by_cases hs : scalP x y = true
    · have e' : b = decide (x = y) := by
        have : pyEq n x y = some (decide (x = y)) := by
          cases n <;> cases x <;> cases y <;> first | (exact absurd (show false = true from hs) Bool.false_ne_true) | (simp only [pyEq]; rw [if_pos hs]; done)
        rw [this] at e
        exact (Option.some.inj e).symm
      subst e'
      exact scal_eq hs r1 r2 q1 q2
    · have hs' : scalP x y = false := by simpa using hs
      cases n with
      | zero =>
        have : pyEq 0 x y = none := by
          cases x <;> cases y <;> first | (simp only [pyEq]; rw [if_neg hs]; done) | rfl
        rw [this] at e
        cases e
      | succ n =>
        cases x with
        | tup xs => cases y with
          | tup ys =>
            simp only [pyEq, Option.map_eq_some_iff] at e
            obtain ⟨c, h1, rfl⟩ := e
            obtain ⟨ee, h2, h3⟩ := allO_zip h1
            obtain ⟨a1, vs, rfl, k1, p1⟩ := r1.tuple
            obtain ⟨a2, us, rfl, k2, p2⟩ := r2.tuple
            cases q1
            cases q2
            obtain ⟨its, rv, ht, _⟩ := I.tuple k1
            obtain ⟨jts, rv2, ht2, _⟩ := I.tuple k2
            have l1 := rv.length
            have l2 := rv2.length
            have l3 := p1.length
            have l4 := p2.length
            have go : ∀ j (j1 : j < its.toArray.size) (j2 : j < jts.toArray.size), SeqAt.EqAt A.in1 s its.toArray[j] jts.toArray[j] (ee j) := fun j j1 j2 => by
              simp only [List.size_toArray] at j1 j2
              obtain ⟨x1, v1, w1, w2⟩ := p1.vals_get rv j1
              obtain ⟨x2, v2, w3, w4⟩ := p2.vals_get rv2 j2
              simp only [List.getElem_toArray]
              exact eq_deep I n (h2 j x1 x2) (.of w1) (.of w3) w2 w4 (by show A.units + 1 + n < cLine; omega)
            have eb : (c && (xs.length == ys.length)) = ((List.range (min its.toArray.size jts.toArray.size)).all ee && its.toArray.size == jts.toArray.size) := by
              simp only [List.size_toArray]
              rw [← l1, ← l2, l3, l4, h3]
            rw [eb]
            by_cases hne : a1 = a2
            · subst hne
              have e5 := eq_same (B := B) (B' := B') I (n + 1) (b := c && (xs.length == ys.length)) (x := .tup xs) (y := .tup ys) (v := .ref a1) (by simp only [pyEq, h1, Option.map_some]) r1 r2
              rw [eb] at e5
              rw [e5]
              exact SeqAt.EqAt.same _
            · exact SeqAt.EqAt.of_refs hne (SeqAt.RcAt.tuples ht ht2 (by omega) go)
          | _ => simp only [pyEq, hs'] at e; cases e
        | lst xs => cases y with
          | lst ys =>
            obtain ⟨a1, vs, rfl, k1, p1⟩ := r1.list
            obtain ⟨a2, us, rfl, k2, p2⟩ := r2.list
            cases q1
            cases q2
            by_cases hne : a1 = a2
            · subst hne
              have e5 := eq_same (B := B) (B' := B') I (n + 1) e r1 r2
              rw [e5]
              exact SeqAt.EqAt.same _
            · obtain ⟨its, rv, ht, _⟩ := I.list (.inl (.inl k1))
              obtain ⟨jts, rv2, ht2, _⟩ := I.list (.inl (.inl k2))
              have l1 := rv.length
              have l2 := rv2.length
              have l3 := p1.length
              have l4 := p2.length
              simp only [pyEq] at e
              by_cases hl : xs.length = ys.length
              · rw [if_pos hl] at e
                obtain ⟨ee, h2, h3⟩ := allO_zip e
                have eb : b = (List.range its.toArray.size).all ee := by
                  simp only [List.size_toArray]
                  rw [← l1, l3, ← h3, hl, Nat.min_self]
                rw [eb]
                refine SeqAt.EqAt.of_refs hne (SeqAt.RcAt.lists ht.isList ht2.isList (by simp only [List.size_toArray]; omega) (by omega) fun j j1 j2 => ?_)
                simp only [List.size_toArray] at j1 j2
                obtain ⟨x1, v1, w1, w2⟩ := p1.vals_get rv j1
                obtain ⟨x2, v2, w3, w4⟩ := p2.vals_get rv2 j2
                simp only [List.getElem_toArray]
                exact eq_deep I n (h2 j x1 x2) (.of w1) (.of w3) w2 w4 (by show A.units + 1 + n < cLine; omega)
              · rw [if_neg hl] at e
                cases e
                refine SeqAt.EqAt.of_refs hne (SeqAt.RcAt.lists_lengths ht.isList ht2.isList ?_ (by omega))
                simp only [List.size_toArray, bne_iff_ne, ne_eq]
                omega
          | _ => simp only [pyEq, hs'] at e; cases e
        | _ => cases y <;> (simp only [pyEq, hs'] at e; cases e)
/-- x == y -/
theorem op_eqP (hu : X.A.units + 64 < cLine) : OpR X (compareOp .Eq) (rB X.K X.w fun x y => (pyEq eqN x y).map .bl) := by
  intro pins s σ H x y v u Q I rx ry h
  obtain ⟨B, p, q, r, hB, vx, vy, e, k⟩ := h
  obtain ⟨b, e1, rfl⟩ := Option.map_eq_some_iff.mp e
  clear e
  have e := e1
  have fin : EP X pins σ Q (.bool b) s := ⟨.bl b, H, I, rfl, k _ _ KeepN.refl (.bl b)⟩
  by_cases hs : scalP p q = true
  · have e' : b = decide (p = q) := by
      have : pyEq eqN p q = some (decide (p = q)) := by
        cases p <;> cases q <;> first | (exact absurd (show false = true from hs) Bool.false_ne_true) | (simp only [pyEq, eqN]; rw [if_pos hs]; done)
      rw [this] at e
      exact (Option.some.inj e).symm
    have hx : scal x y = true ∧ decide (x = y) = b := by
      subst e'
      cases p <;> cases q <;> first | (exact absurd (show false = true from hs) Bool.false_ne_true) | skip
      all_goals first | rw [vx.non] | rw [vx.bl] | rw [vx.int] | rw [vx.str]
      all_goals first | rw [vy.non] | rw [vy.bl] | rw [vy.int] | rw [vy.str]
      all_goals refine ⟨rfl, ?_⟩
      all_goals first | (simp; done) | skip
      simp only [V.str.injEq, P.str.injEq, sS_inj]
    refine op_eq pins s σ H x y v u Q I rx ry ⟨hx.1, ?_⟩
    rw [hx.2]
    exact k _ _ KeepN.refl (.bl b)
  · have hs' : scalP p q = false := by simpa using hs
    cases p with
    | tup xs => cases q with
      | tup ys =>
        simp only [pyEq, eqN, Option.map_eq_some_iff] at e
        obtain ⟨c, h1, rfl⟩ := e
        obtain ⟨ee, h2, h3⟩ := allO_zip h1
        obtain ⟨a1, vs, rfl, k1, p1⟩ := vx.tuple
        obtain ⟨a2, us, rfl, k2, p2⟩ := vy.tuple
        cases rx
        cases ry
        obtain ⟨its, rv, ht, _⟩ := I.tuple k1
        obtain ⟨jts, rv2, ht2, _⟩ := I.tuple k2
        have l1 := rv.length
        have l2 := rv2.length
        have l3 := p1.length
        have l4 := p2.length
        have eb : (c && (xs.length == ys.length)) = ((List.range (min its.toArray.size jts.toArray.size)).all ee && its.toArray.size == jts.toArray.size) := by
          simp only [List.size_toArray]
          rw [← l1, ← l2, l3, l4, h3]
        rw [eb] at fin
        exact SeqAt.RcAt.tuples ht ht2 (by omega) (fun j j1 j2 => by
          simp only [List.size_toArray] at j1 j2
          obtain ⟨x1, v1, w1, w2⟩ := p1.vals_get rv j1
          obtain ⟨x2, v2, w3, w4⟩ := p2.vals_get rv2 j2
          simp only [List.getElem_toArray]
          exact eq_deep I _ (h2 j x1 x2) (.of w1) (.of w3) w2 w4 (by show X.A.units + 1 + 19 < cLine; omega)) _ _ _ _ fin
      | _ => simp only [pyEq, eqN, hs'] at e; cases e
    | lst xs => cases q with
      | lst ys =>
        obtain ⟨a1, vs, rfl, k1, p1⟩ := vx.list
        obtain ⟨a2, us, rfl, k2, p2⟩ := vy.list
        cases rx
        cases ry
        obtain ⟨its, rv, ht, _⟩ := I.list (.inl (.inl k1))
        obtain ⟨jts, rv2, ht2, _⟩ := I.list (.inl (.inl k2))
        have l1 := rv.length
        have l2 := rv2.length
        have l3 := p1.length
        have l4 := p2.length
        simp only [pyEq, eqN] at e
        by_cases hl : xs.length = ys.length
        · rw [if_pos hl] at e
          obtain ⟨ee, h2, h3⟩ := allO_zip e
          have eb : b = (List.range its.toArray.size).all ee := by
            simp only [List.size_toArray]
            rw [← l1, l3, ← h3, hl, Nat.min_self]
          rw [eb] at fin
          exact SeqAt.RcAt.lists ht.isList ht2.isList (by simp only [List.size_toArray]; omega) (by omega) (fun j j1 j2 => by
            simp only [List.size_toArray] at j1 j2
            obtain ⟨x1, v1, w1, w2⟩ := p1.vals_get rv j1
            obtain ⟨x2, v2, w3, w4⟩ := p2.vals_get rv2 j2
            simp only [List.getElem_toArray]
            exact eq_deep I _ (h2 j x1 x2) (.of w1) (.of w3) w2 w4 (by show X.A.units + 1 + 19 < cLine; omega)) _ _ _ _ fin
        · rw [if_neg hl] at e
          cases e
          exact SeqAt.RcAt.lists_lengths ht.isList ht2.isList (by simp only [List.size_toArray, bne_iff_ne, ne_eq]; omega) (by omega) _ _ _ _ fin
      | _ => simp only [pyEq, eqN, hs'] at e; cases e
    | _ => cases q <;> (simp only [pyEq, eqN, hs'] at e; cases e)
theorem op_neP (hu : X.A.units + 64 < cLine) : OpR X (compareOp .NotEq) (rB X.K X.w fun x y => ((pyEq eqN x y).map (!·)).map .bl) := by
  intro pins s σ H x y v u Q I rx ry h
  obtain ⟨B, p, q, r, hB, vx, vy, e, k⟩ := h
  obtain ⟨b', e1, rfl⟩ := Option.map_eq_some_iff.mp e
  obtain ⟨b, e2, rfl⟩ := Option.map_eq_some_iff.mp e1
  clear e e1
  have e := e2
  have fin : EP X pins σ Q (.bool (!b)) s := ⟨.bl (!b), H, I, rfl, k _ _ KeepN.refl (.bl (!b))⟩
  by_cases hs : scalP p q = true
  · have e' : b = decide (p = q) := by
      have : pyEq eqN p q = some (decide (p = q)) := by
        cases p <;> cases q <;> first | (exact absurd (show false = true from hs) Bool.false_ne_true) | (simp only [pyEq, eqN]; rw [if_pos hs]; done)
      rw [this] at e
      exact (Option.some.inj e).symm
    have hx : scal x y = true ∧ decide (x = y) = b := by
      subst e'
      cases p <;> cases q <;> first | (exact absurd (show false = true from hs) Bool.false_ne_true) | skip
      all_goals first | rw [vx.non] | rw [vx.bl] | rw [vx.int] | rw [vx.str]
      all_goals first | rw [vy.non] | rw [vy.bl] | rw [vy.int] | rw [vy.str]
      all_goals refine ⟨rfl, ?_⟩
      all_goals first | (simp; done) | skip
      simp only [V.str.injEq, P.str.injEq, sS_inj]
    refine op_ne pins s σ H x y v u Q I rx ry ⟨hx.1, ?_⟩
    rw [hx.2]
    exact k _ _ KeepN.refl (.bl (!b))
  · have hs' : scalP p q = false := by simpa using hs
    cases p with
    | tup xs => cases q with
      | tup ys =>
        simp only [pyEq, eqN, Option.map_eq_some_iff] at e
        obtain ⟨c, h1, rfl⟩ := e
        obtain ⟨ee, h2, h3⟩ := allO_zip h1
        obtain ⟨a1, vs, rfl, k1, p1⟩ := vx.tuple
        obtain ⟨a2, us, rfl, k2, p2⟩ := vy.tuple
        cases rx
        cases ry
        obtain ⟨its, rv, ht, _⟩ := I.tuple k1
        obtain ⟨jts, rv2, ht2, _⟩ := I.tuple k2
        have l1 := rv.length
        have l2 := rv2.length
        have l3 := p1.length
        have l4 := p2.length
        have eb : (c && (xs.length == ys.length)) = ((List.range (min its.toArray.size jts.toArray.size)).all ee && its.toArray.size == jts.toArray.size) := by
          simp only [List.size_toArray]
          rw [← l1, ← l2, l3, l4, h3]
        rw [eb] at fin
        exact SeqAt.RcNeAt.tuples ht ht2 (by omega) (fun j j1 j2 => by
          simp only [List.size_toArray] at j1 j2
          obtain ⟨x1, v1, w1, w2⟩ := p1.vals_get rv j1
          obtain ⟨x2, v2, w3, w4⟩ := p2.vals_get rv2 j2
          simp only [List.getElem_toArray]
          exact eq_deep I _ (h2 j x1 x2) (.of w1) (.of w3) w2 w4 (by show X.A.units + 1 + 19 < cLine; omega)) _ _ _ _ fin
      | _ => simp only [pyEq, eqN, hs'] at e; cases e
    | lst xs => cases q with
      | lst ys =>
        obtain ⟨a1, vs, rfl, k1, p1⟩ := vx.list
        obtain ⟨a2, us, rfl, k2, p2⟩ := vy.list
        cases rx
        cases ry
        obtain ⟨its, rv, ht, _⟩ := I.list (.inl (.inl k1))
        obtain ⟨jts, rv2, ht2, _⟩ := I.list (.inl (.inl k2))
        have l1 := rv.length
        have l2 := rv2.length
        have l3 := p1.length
        have l4 := p2.length
        simp only [pyEq, eqN] at e
        by_cases hl : xs.length = ys.length
        · rw [if_pos hl] at e
          obtain ⟨ee, h2, h3⟩ := allO_zip e
          have eb : b = (List.range its.toArray.size).all ee := by
            simp only [List.size_toArray]
            rw [← l1, l3, ← h3, hl, Nat.min_self]
          rw [eb] at fin
          exact SeqAt.RcNeAt.lists ht.isList ht2.isList (by simp only [List.size_toArray]; omega) (by omega) (fun j j1 j2 => by
            simp only [List.size_toArray] at j1 j2
            obtain ⟨x1, v1, w1, w2⟩ := p1.vals_get rv j1
            obtain ⟨x2, v2, w3, w4⟩ := p2.vals_get rv2 j2
            simp only [List.getElem_toArray]
            exact eq_deep I _ (h2 j x1 x2) (.of w1) (.of w3) w2 w4 (by show X.A.units + 1 + 19 < cLine; omega)) _ _ _ _ fin
        · rw [if_neg hl] at e
          cases e
          exact SeqAt.RcNeAt.lists_lengths ht.isList ht2.isList (by simp only [List.size_toArray, bne_iff_ne, ne_eq]; omega) (by omega) _ _ _ _ fin
      | _ => simp only [pyEq, eqN, hs'] at e; cases e
    | _ => cases q <;> (simp only [pyEq, eqN, hs'] at e; cases e)
end
end TH
end T_TF
section T_TG
set_option Elab.async false
set_option linter.all false
set_option maxRecDepth 100000
namespace TH
open PySem PySem.Spec PyProof.Rows L2
/-! ### dicts with text keys, read -/
structure TxtD (prog : Program) (w : World) (h : Heap) (a : Addr) (find : List Nat → Option Value) : Prop where
  ex : ∃ (Kt : Type) (_ : DecidableEq Kt) (knd : KeyKind prog w Kt) (f : Kt → Option Value) (key : List Nat → Kt), (∀ x t, knd.is (key x) (.str (sS x) t) = true) ∧ h.MapOf knd a f ∧ ∀ x, f (key x) = find x
  low : (a == sysModules) = false
theorem lookP_map {K : Frag} {w : World} {B : Addr → Prop} {H : Hp} : ∀ {kvs : List (List Nat × V)} {xs : List P} (x : List Nat), RpL K w B H (kvs.map (·.2)) xs →
    match lookP (kvs.map fun q => P.str q.1) xs (.str x) with
    | some p => ∃ v, kvs.lookup x = some v ∧ Rp K w B H v p
    | none => kvs.lookup x = none
  | [], _, x, r => by cases r; rfl
  | (k, v) :: kvs, _, x, r => by
    cases r with
    | @cons _ _ p xs r t =>
      simp only [List.map_cons, lookP, P.str.injEq, List.lookup_cons]
      by_cases h : k = x
      · subst h
        simp only [if_true, beq_self_eq_true]
        exact ⟨v, rfl, r⟩
      · rw [if_neg h]
        have hb : (x == k) = false := beq_eq_false_iff_ne.mpr (Ne.symm h)
        rw [hb]
        exact lookP_map x t
section
variable {X : Cx} {B B' : Addr → Prop} {H : Hp} {σ : L2.St} {s : Shared} {pins : List (Addr × Obj)}
theorem Rp.dict (I : Inv X pins σ H s) {v : V} {ks vs : List P} (r : Rp X.K X.w B H v (.dct ks vs)) :
    ∃ a find, v = .ref a ∧ TxtD X.prog X.w s.heap a find ∧ (∀ t, TyX X.K H (.ref a) t → t = t) ∧ ∀ x : List Nat, match lookP ks vs (.str x) with
      | some p => ∃ u w', find x = some u ∧ RelV w' u ∧ Rp X.K X.w B H w' p
      | none => find x = none := by
  cases r with
  | @dctK a kvs xs hk rl =>
    obtain ⟨es, n, D, hf⟩ := hk
    refine ⟨a, fun x => findBy Value.isStrOf es (sS x), rfl, ⟨⟨Str, inferInstance, strKind X.prog X.w, _, sS, fun x t => strKind_is X.prog X.w (sS x) t, PySem.W.mapOf_K (prog := X.prog) I.kIn D.at_ D.lit, fun _ => rfl⟩, D.low⟩, fun _ _ => rfl, fun x => ?_⟩
    have q := lookP_map x rl
    have f := hf x
    cases hl : lookP (kvs.map fun q => P.str q.1) vs (.str x) with
    | some p =>
      rw [hl] at q
      obtain ⟨v, h1, h2⟩ := q
      rw [h1] at f
      obtain ⟨u, e, r⟩ := f
      exact ⟨u, v, PySem.W.find_K D.at_ e, r, h2⟩
    | none =>
      rw [hl] at q
      have q' : kvs.lookup x = none := q
      rw [q'] at f
      exact PySem.W.find_K D.at_ f
  | @dctH a kvs xs hh nb rl =>
    obtain ⟨z, hd, us, rel, dd⟩ := dk_of I.hok hh
    refine ⟨a, fun x => valueAt us (.inr (sS x)), rfl, ⟨⟨L2.Key, inferInstance, mixKind X.prog X.w, _, fun x => .inr (sS x), fun x t => mixKind_str X.prog X.w (sS x) t, dd.mapOf, fun _ => rfl⟩, hd⟩, fun _ _ => rfl, fun x => ?_⟩
    have q := lookP_map x rl
    have f := rel.val (Sum.inr (sS x))
    have e : valV (kvs.map fun q => ((Sum.inr (sS q.1) : L2.Key), q.2)) (.inr (sS x)) = kvs.lookup x := by
      clear rl rel dd hh q f hd z
      induction kvs with
      | nil => rfl
      | cons q kvs ih =>
        obtain ⟨k0, v0⟩ := q
        unfold valV at ih ⊢
        simp only [List.map_cons, List.find?_cons, List.lookup_cons]
        by_cases h : k0 = x
        · subst h
          simp
        · have hb : (x == k0) = false := beq_eq_false_iff_ne.mpr (Ne.symm h)
          have hd' : decide ((Sum.inr (sS k0) : L2.Key) = Sum.inr (sS x)) = false := decide_eq_false fun z => h (sS_inj.mp (Sum.inr.inj z))
          rw [hb, hd']
          exact ih
    rw [e] at f
    cases hl : lookP (kvs.map fun q => P.str q.1) vs (.str x) with
    | some p =>
      rw [hl] at q
      obtain ⟨v, h1, h2⟩ := q
      rw [h1] at f
      obtain ⟨u, e, r⟩ := f.some_of
      exact ⟨u, v, e, r, h2⟩
    | none =>
      rw [hl] at q
      have q' : kvs.lookup x = none := q
      rw [q'] at f
      exact f.none_of
/-! ### in, not in -/
theorem lookP_mem : ∀ {ks vs : List P} {x : P}, ks.length = vs.length → (lookP ks vs x).isSome = decide (x ∈ ks)
  | [], [], x, _ => by simp [lookP]
  | k :: ks, v :: vs, x, h => by
    simp only [lookP, List.mem_cons]
    by_cases e : k = x
    · subst e; simp
    · rw [if_neg e, lookP_mem (by simpa using h)]
      have : ¬ x = k := fun z => e z.symm
      simp [this]
theorem inV_of {v : V} {x : P} : ∀ {vs : List V} {xs : List P}, Vw X.K X.w B H v x → RpL X.K X.w B' H vs xs → xs.all (fun y => scalP x y) = true → vs.all flatV = true ∧ inV v vs = decide (x ∈ xs)
  | _, _, r, .nil, _ => ⟨rfl, rfl⟩
  | _, _, r, @RpL.cons _ _ _ _ u us y ys r1 t, h => by
    simp only [List.all_cons, Bool.and_eq_true] at h
    obtain ⟨h1, h2⟩ := h
    obtain ⟨q2, q3⟩ := inV_of r t h2
    have f : flatV v = true ∧ flatV u = true ∧ eqV u v = decide (x = y) := by
      have r1' : Vw X.K X.w B' H u y := .of r1
      cases x <;> cases y <;> first | (exact absurd (show false = true from h1) Bool.false_ne_true) | skip
      all_goals first | rw [r.non] | rw [r.bl] | rw [r.int] | rw [r.str]
      all_goals first | rw [r1'.non] | rw [r1'.bl] | rw [r1'.int] | rw [r1'.str]
      all_goals refine ⟨rfl, rfl, ?_⟩
      all_goals first | (simp [eqV]; done) | skip
      · simp only [eqV, P.bl.injEq]
        rw [Bool.beq_eq_decide_eq]
        exact decide_eq_decide.mpr ⟨Eq.symm, Eq.symm⟩
      · simp only [eqV, P.int.injEq]
        rw [Bool.beq_eq_decide_eq]
        exact decide_eq_decide.mpr ⟨Eq.symm, Eq.symm⟩
      · simp only [eqV, P.str.injEq]
        rw [Bool.beq_eq_decide_eq]
        exact decide_eq_decide.mpr (sS_inj.trans ⟨Eq.symm, Eq.symm⟩)
    refine ⟨by simp only [List.all_cons, f.2.1, q2, Bool.and_self], ?_⟩
    have e : inV v (u :: us) = (eqV u v || inV v us) := rfl
    rw [e, f.2.2, q3]
    simp [List.mem_cons]
theorem flat_of {v : V} {x : P} (r : Vw X.K X.w B H v x) (h : scalP x x = true) : flatV v = true := by
  cases x <;> first | (exact absurd (show false = true from h) Bool.false_ne_true) | skip
  all_goals first | rw [r.non] | rw [r.bl] | rw [r.int] | rw [r.str]
  all_goals rfl
theorem op_inP (neg : Bool) (hne : True) : OpR X (compareOp (if neg then .NotIn else .In)) (rB X.K X.w fun x y => ((isIn x y).map fun b => if neg then !b else b).map .bl) := by
  intro pins s σ H x y v u Q I rx ry h
  obtain ⟨B, p, q, r, hB, vx, vy, e, k⟩ := h
  obtain ⟨b', e1, rfl⟩ := Option.map_eq_some_iff.mp e
  obtain ⟨b, e2, rfl⟩ := Option.map_eq_some_iff.mp e1
  clear e e1
  cases q with
  | str z => cases p with
    | str c =>
      match c, e2 with
      | [c], e2 =>
        cases e2
        rw [vx.str] at rx; rw [vy.str] at ry
        cases neg with
        | true => exact op_notIn_sign pins s σ H _ _ v u Q I rx ry ⟨c, sS z, rfl, rfl, k _ _ KeepN.refl (.bl _)⟩
        | false => exact op_in_sign pins s σ H _ _ v u Q I rx ry ⟨c, sS z, rfl, rfl, k _ _ KeepN.refl (.bl _)⟩
      | [], e2 => cases e2
      | _ :: _ :: _, e2 => cases e2
    | _ => cases e2
  | tup ys =>
    obtain ⟨hs, e⟩ := of_ite (show (if (scalP p p && ys.all (fun y => scalP p y)) then some (decide (p ∈ ys)) else none) = some b from e2)
    obtain ⟨hs0, hs⟩ := Bool.and_eq_true_iff.mp hs
    cases e
    obtain ⟨a, us, rfl, h1, r1⟩ := vy.tuple
    have f1 := flat_of vx hs0
    obtain ⟨f2, f3⟩ := inV_of vx r1 hs
    have hfin : Q (.bl (if neg then !inV x us else inV x us)) H := by rw [f3]; exact k _ _ KeepN.refl (.bl _)
    · cases neg with
      | true => exact op_notIn_seq pins s σ H _ _ v u Q I rx ry ⟨a, us, rfl, .inr h1, f1, f2, hfin⟩
      | false => exact op_in_seq pins s σ H _ _ v u Q I rx ry ⟨a, us, rfl, .inr h1, f1, f2, hfin⟩
  | lst ys =>
    obtain ⟨hs, e⟩ := of_ite (show (if (scalP p p && ys.all (fun y => scalP p y)) then some (decide (p ∈ ys)) else none) = some b from e2)
    obtain ⟨hs0, hs⟩ := Bool.and_eq_true_iff.mp hs
    cases e
    obtain ⟨a, us, rfl, h1, r1⟩ := vy.list
    have f1 := flat_of vx hs0
    obtain ⟨f2, f3⟩ := inV_of vx r1 hs
    have hfin : Q (.bl (if neg then !inV x us else inV x us)) H := by rw [f3]; exact k _ _ KeepN.refl (.bl _)
    · cases neg with
      | true => exact op_notIn_seq pins s σ H _ _ v u Q I rx ry ⟨a, us, rfl, .inl (SqL.of h1), f1, f2, hfin⟩
      | false => exact op_in_seq pins s σ H _ _ v u Q I rx ry ⟨a, us, rfl, .inl (SqL.of h1), f1, f2, hfin⟩
  | dct ks vs => cases p with
    | str z =>
      have e3 : some (decide (P.str z ∈ ks)) = some b := e2
      cases e3
      rw [vx.str] at rx
      obtain ⟨t, rfl⟩ := rx
      cases vy with
      | of rd =>
        have hl : ks.length = vs.length := by
          cases rd with
          | dctK _ rl => simpa using rl.length
          | dctH _ _ rl => simpa using rl.length
        obtain ⟨a, find, rfl, ⟨⟨Kt, _, knd, f, key, k1, k2, k3⟩, low⟩, _, hf⟩ := rd.dict I
        cases ry
        have e4 : (f (key z)).isSome = decide (P.str z ∈ ks) := by
          rw [k3, ← lookP_mem hl]
          have := hf z
          cases hq : lookP ks vs (.str z) with
          | some p =>
            rw [hq] at this
            obtain ⟨u, _, e, _⟩ := this
            rw [e]; rfl
          | none =>
            rw [hq] at this
            have e5 : find z = none := this
            rw [e5]; rfl
        cases neg with
        | true => exact wpAny_notIn_of (k1 z t) low k2 (by rw [e4]; exact ⟨.bl _, H, I.tok _, rfl, k _ _ KeepN.refl (.bl _)⟩)
        | false => exact wpAny_in_of (k1 z t) low k2 (by rw [e4]; exact ⟨.bl _, H, I.tok _, rfl, k _ _ KeepN.refl (.bl _)⟩)
    | _ => cases e2
  | _ => cases e2
end
end TH
end T_TG
section T_TH1
set_option Elab.async false
set_option linter.all false
set_option maxRecDepth 100000
namespace TH
open PySem PySem.Spec PyProof.Rows L2
def cmpOf : Cp → CmpOp
  | .eq => .Eq | .ne => .NotEq | .lt => .Lt | .le => .LtE | .gt => .Gt | .ge => .GtE | .isN => .Is | .notN => .IsNot | .inn => .In | .notIn => .NotIn
section
variable {X : Cx} {B B' : Addr → Prop} {H : Hp} {σ : L2.St} {s : Shared} {pins : List (Addr × Obj)}
theorem Rp.is_non {v : V} {x : P} (r : Rp X.K X.w B H v x) : decide (v = .non) = decide (x = .non) := by
  cases r <;> simp
theorem Vw.is_non {v : V} {x : P} (r : Vw X.K X.w B H v x) : decide (v = .non) = decide (x = .non) := by
  cases r with
  | of r => exact r.is_non
  | lst _ _ => simp
/-- comparisons on data -/
theorem opCmp (hu : X.A.units + 64 < cLine) (o : Cp) : OpR X (compareOp (cmpOf o)) (rB X.K X.w fun x y => (cmpP o x y).map .bl) := by
  cases o with
  | eq => exact op_eqP hu
  | ne => exact op_neP hu
  | inn => exact OpR.imp (op_inP (X := X) false trivial) fun x y H Q ⟨B, p, q, r, hB, vx, vy, e, k⟩ => ⟨B, p, q, r, hB, vx, vy, by simpa [cmpP] using e, k⟩
  | notIn => exact OpR.imp (op_inP (X := X) true trivial) fun x y H Q ⟨B, p, q, r, hB, vx, vy, e, k⟩ => ⟨B, p, q, r, hB, vx, vy, by simpa [cmpP] using e, k⟩
  | isN =>
    refine OpR.imp op_isN fun x y H Q ⟨B, p, q, r, hB, vx, vy, e, k⟩ => ?_
    cases q with
    | non =>
      cases e
      rw [vy.non]
      refine ⟨rfl, ?_⟩
      rw [vx.is_non]
      exact k _ _ KeepN.refl (.bl _)
    | _ => cases p <;> cases e
  | notN =>
    refine OpR.imp op_notN fun x y H Q ⟨B, p, q, r, hB, vx, vy, e, k⟩ => ?_
    cases q with
    | non =>
      cases e
      rw [vy.non]
      refine ⟨rfl, ?_⟩
      rw [vx.is_non]
      exact k _ _ KeepN.refl (.bl _)
    | _ => cases p <;> cases e
  | lt =>
    intro pins s σ H x y v u Q I rx ry h
    obtain ⟨B, p, q, r, hB, vx, vy, e, k⟩ := h
    cases p with
    | int i => cases q with
      | int j =>
        cases e
        rw [vx.int] at rx; rw [vy.int] at ry
        exact op_lt pins s σ H _ _ v u Q I rx ry ⟨_, _, rfl, rfl, k _ _ KeepN.refl (.bl _)⟩
      | _ => cases e
    | str a => cases q with
      | str b =>
        cases e
        rw [vx.str] at rx; rw [vy.str] at ry
        exact op_lt_str pins s σ H _ _ v u Q I rx ry ⟨sS a, sS b, rfl, rfl, k _ _ KeepN.refl (.bl _)⟩
      | _ => cases e
    | _ => cases q <;> cases e
  | ge =>
    intro pins s σ H x y v u Q I rx ry h
    obtain ⟨B, p, q, r, hB, vx, vy, e, k⟩ := h
    cases p with
    | int i => cases q with
      | int j =>
        cases e
        rw [vx.int] at rx; rw [vy.int] at ry
        exact op_ge pins s σ H _ _ v u Q I rx ry ⟨_, _, rfl, rfl, k _ _ KeepN.refl (.bl _)⟩
      | _ => cases e
    | str a => cases q with
      | str b =>
        cases e
        rw [vx.str] at rx; rw [vy.str] at ry
        exact op_ge_str pins s σ H _ _ v u Q I rx ry ⟨sS a, sS b, rfl, rfl, k _ _ KeepN.refl (.bl _)⟩
      | _ => cases e
    | _ => cases q <;> cases e
  | le =>
    intro pins s σ H x y v u Q I rx ry h
    obtain ⟨B, p, q, r, hB, vx, vy, e, k⟩ := h
    cases p with
    | int i => cases q with
      | int j =>
        cases e
        rw [vx.int] at rx; rw [vy.int] at ry
        exact op_le pins s σ H _ _ v u Q I rx ry ⟨_, _, rfl, rfl, k _ _ KeepN.refl (.bl _)⟩
      | _ => cases e
    | _ => cases q <;> cases e
  | gt =>
    intro pins s σ H x y v u Q I rx ry h
    obtain ⟨B, p, q, r, hB, vx, vy, e, k⟩ := h
    cases p with
    | int i => cases q with
      | int j =>
        cases e
        rw [vx.int] at rx; rw [vy.int] at ry
        exact op_gt pins s σ H _ _ v u Q I rx ry ⟨_, _, rfl, rfl, k _ _ KeepN.refl (.bl _)⟩
      | _ => cases e
    | _ => cases q <;> cases e
/-- comparisons of values -/
theorem cmpD_ok (hu : X.A.units + 64 < cLine) {nm : Names} {ρ : Nat → Addr} {st : Sto} {o : Cp} {a b : D} {r : Bool} {x y : V} {v u : Value} {Q : VK} (I : Inv X pins σ H s) (S : StR X.K X.w nm ρ st H)
    (rx : Rv X.K X.w ρ st.length H x a) (ry : Rv X.K X.w ρ st.length H y b) (qx : RelV x v) (qy : RelV y u) (e : cmpD st o a b = some r) (k : ∀ H', KeepN H H' → Q (.bl r) H') :
    wpAny (model X.prog X.w) X.A (compareOp (cmpOf o) v u) (EP X pins σ Q) X.xe s := by
  have main : (match view st a, view st b with | some x, some y => cmpP o x y | _, _ => none) = some r → wpAny (model X.prog X.w) X.A (compareOp (cmpOf o) v u) (EP X pins σ Q) X.xe s := by
    intro e
    cases ha : view st a with
    | none => rw [ha] at e; cases e
    | some p =>
      cases hb : view st b with
      | none => rw [ha, hb] at e; cases e
      | some q =>
        rw [ha, hb] at e
        exact opCmp hu o pins s σ H x y v u Q I qx qy ⟨live ρ st.length, p, q, .bl r, fun a h => S.not_live_new h, S.view rx ha, S.view ry hb, by show (cmpP o p q).map P.bl = some (P.bl r); rw [show cmpP o p q = some r from e]; rfl,
          fun v' H' kk rr => by cases rr; exact k H' kk⟩
  have isRef : ∀ n : Nat, a = .ref n → b = .p .non → y = .non ∧ decide (x = .non) = false := by
    intro n h1 h2
    subst h1 h2
    cases ry with
    | p ry =>
      cases ry
      cases rx
      exact ⟨rfl, rfl⟩
  cases o with
  | isN =>
    cases a with
    | ref n =>
      cases b with
      | p b' => cases b' with
        | non =>
          obtain ⟨h1, h2⟩ := isRef n rfl rfl
          cases e
          refine op_isN pins s σ H x y v u Q I qx qy ⟨h1, ?_⟩
          rw [h2]
          exact k H KeepN.refl
        | _ => exact main e
      | _ => exact main e
    | _ => exact main e
  | notN =>
    cases a with
    | ref n =>
      cases b with
      | p b' => cases b' with
        | non =>
          obtain ⟨h1, h2⟩ := isRef n rfl rfl
          cases e
          refine op_notN pins s σ H x y v u Q I qx qy ⟨h1, ?_⟩
          rw [h2]
          exact k H KeepN.refl
        | _ => exact main e
      | _ => exact main e
    | _ => exact main e
  | _ => exact main (by cases a <;> cases b <;> exact e)
/-! ### truth -/
theorem truth_ok {nm : Names} {ρ : Nat → Addr} {st : Sto} {a : D} {r : Bool} {x : V} (S : StR X.K X.w nm ρ st H) (rx : Rv X.K X.w ρ st.length H x a) (e : truth st a = some r) : TruV X.K x H r := by
  unfold truth at e
  cases ha : view st a with
  | none => rw [ha] at e; cases e
  | some p =>
    rw [ha] at e
    have vx := S.view rx ha
    have e' : truthP p = some r := e
    cases p with
    | non => cases e'; rw [vx.non]; rfl
    | bl b => cases e'; rw [vx.bl]; rfl
    | int i =>
      cases e'
      rw [vx.int]
      show decide (i ≠ 0) = (i != 0)
      by_cases h : i = 0 <;> simp [h]
    | str z =>
      obtain ⟨hl, e2⟩ := of_ite (show (if z.length ≤ line then some (!z.isEmpty) else none) = some r from e')
      cases e2
      rw [vx.str]
      refine ⟨by rw [sS_len, line_eq]; exact hl, ?_⟩
      rw [sS_len]
      cases z with
      | nil => rfl
      | cons c z =>
        show true = _
        simp only [List.length_cons]
        symm
        rw [bne_iff_ne]
        omega
    | tup xs =>
      cases e'
      obtain ⟨a, vs, rfl, h, rl⟩ := vx.tuple
      refine .inr (.inl ⟨vs, h, ?_⟩)
      have := rl.length
      cases xs <;> cases vs <;> simp_all
    | lst xs =>
      cases e'
      obtain ⟨a, vs, rfl, h, rl⟩ := vx.list
      refine .inl ⟨vs, SqL.of h, ?_⟩
      have := rl.length
      cases xs <;> cases vs <;> simp_all
    | dct ks vs => cases e'
    | scr _ => cases e'
/-! ### an item -/
theorem place_atI {α : Type} {xs : List α} {i : Int} {n : Nat} {v : α} (h : place xs.length i = some n) (hv : xs[n]? = some v) : atI xs i = some v := by
  have hn : n < xs.length := (List.getElem?_eq_some_iff.mp hv).1
  unfold place at h
  unfold atI ixN
  by_cases h0 : 0 ≤ i
  · rw [if_pos h0]
    by_cases h1 : i < xs.length
    · rw [if_pos ⟨h0, h1⟩] at h
      cases h
      rw [if_pos h1]
      exact hv
    · rw [if_neg (fun z => h1 z.2), if_neg (fun z => absurd z.1 (by omega))] at h
      cases h
  · rw [if_neg h0]
    rw [if_neg (fun z => h0 z.1)] at h
    by_cases h1 : -(xs.length : Int) ≤ i
    · rw [if_pos ⟨by omega, h1⟩] at h
      cases h
      rw [if_pos h1]
      exact hv
    · rw [if_neg (fun z => h1 z.2)] at h
      cases h
theorem dict_type (D : TxtD X.prog X.w s.heap a find) : s.TypeIs (.ref a) "dict" := by
  obtain ⟨⟨Kt, _, knd, f, key, _, k2, _⟩, _⟩ := D
  exact k2.typeIs
/-- the rest behind [..] -/
theorem idx_ok {nm : Names} {ρ : Nat → Addr} {st : Sto} {a b d : D} {x y : V} {v u : Value} {Q : VK} {value slice : Expr} (I : Inv X pins σ H s) (S : StR X.K X.w nm ρ st H)
    (rx : Rv X.K X.w ρ st.length H x a) (ry : Rv X.K X.w ρ st.length H y b) (qx : RelV x v) (qy : RelV y u) (e : idxD st a b = some d) (hs : subscripted slice false v u = operate [v, u] (getItem v u))
    (k : ∀ z, Rv X.K X.w ρ st.length H z d → Q z H) : wpAny (model X.prog X.w) X.A (subscriptTail value slice v u) (EP X pins σ Q) X.xe s := by
  cases a with
  | p x' => cases b with
    | p y' =>
      obtain ⟨r, e1, rfl⟩ := Option.map_eq_some_iff.mp (show (idxP x' y').map D.p = some d from e)
      cases rx with
      | p rx => cases ry with
        | p ry =>
          cases x' with
          | tup xs => cases y' with
            | int i =>
              obtain ⟨n, h1, h2⟩ := Option.bind_eq_some_iff.mp (show (place xs.length i).bind (fun n => xs[n]?) = some r from e1)
              obtain ⟨aa, vs, rfl, hq, rl⟩ := rx.tuple
              cases ry
              obtain ⟨z, hz, rz⟩ := rl.get h2
              exact ix_tup value slice pins s σ H _ _ v u Q I qx qy ⟨aa, vs, i, z, rfl, rfl, hq, place_atI (by rw [rl.length]; exact h1) hz, k z (.p rz)⟩ hs
            | _ => cases e1
          | lst xs => cases y' with
            | int i =>
              obtain ⟨n, h1, h2⟩ := Option.bind_eq_some_iff.mp (show (place xs.length i).bind (fun n => xs[n]?) = some r from e1)
              obtain ⟨aa, vs, rfl, hq, rl⟩ := (Vw.of rx).list
              cases ry
              obtain ⟨z, hz, rz⟩ := rl.get h2
              exact ix_list value slice pins s σ H _ _ v u Q I qx qy ⟨aa, vs, i, z, rfl, rfl, SqL.of hq, place_atI (by rw [rl.length]; exact h1) hz, k z (.p rz)⟩ hs
            | _ => cases e1
          | dct ks vs => cases y' with
            | str z =>
              have e2 : lookP ks vs (.str z) = some r := e1
              obtain ⟨aa, find, rfl, D, _, hf⟩ := rx.dict I
              cases ry
              cases qx
              obtain ⟨t, rfl⟩ := qy
              have q := hf z
              rw [e2] at q
              obtain ⟨uu, w', h1, h2, h3⟩ := q
              have D' := D
              obtain ⟨⟨Kt, _, knd, f, key, k1, k2, k3⟩, low⟩ := D
              exact tail_any (dict_type D') PySem.F.slot_dict_getitem.lookup (wpAny_getItem_of (k1 z t) k2 ((k3 z).trans h1) ⟨w', H, I.tok _, h2, k w' (.p h3)⟩) hs
            | _ => cases e1
          | _ => cases y' <;> cases e1
    | _ => cases e
  | ref n => cases b with
    | p y' => cases y' with
      | int i =>
        cases rx with
        | ref hn =>
          cases ry with
          | p ry =>
            cases ry
            have e1 : (match st[n]? with | some (Cell.lst xs) => (place xs.length i).bind fun n => xs[n]? | _ => none) = some d := e
            cases hc : st[n]? with
            | none => rw [hc] at e1; cases e1
            | some c =>
              rw [hc] at e1
              cases c with
              | ins _ _ => cases e1
              | lst xs =>
                obtain ⟨vs, h1, h2⟩ := S.cell n _ hc
                obtain ⟨m, g1, g2⟩ := Option.bind_eq_some_iff.mp (show (place xs.length i).bind (fun n => xs[n]?) = some d from e1)
                obtain ⟨z, hz, rz⟩ := h2.get g2
                exact ix_list value slice pins s σ H _ _ v u Q I qx qy ⟨ρ n, vs, i, z, rfl, rfl, SqL.of h1, place_atI (by rw [h2.length]; exact g1) hz, k z rz⟩ hs
      | _ => cases e
    | _ => cases e
  | tup xs => cases b with
    | p y' => cases y' with
      | int i =>
        cases rx with
        | @tup aa vs _ hq _ rl =>
          cases ry with
          | p ry =>
            cases ry
            obtain ⟨m, g1, g2⟩ := Option.bind_eq_some_iff.mp (show (place xs.length i).bind (fun n => xs[n]?) = some d from e)
            obtain ⟨z, hz, rz⟩ := rl.get g2
            exact ix_tup value slice pins s σ H _ _ v u Q I qx qy ⟨aa, vs, i, z, rfl, rfl, .inl hq, place_atI (by rw [rl.length]; exact g1) hz, k z rz⟩ hs
      | _ => cases e
    | _ => cases e
/-! ### slices -/
theorem cutAt_eq (n d : Nat) (o : Option Int) : HT.sIx n d o = cutAt n d o := by cases o <;> rfl
theorem sl_ok (B : Addr → Prop) (p r : P) (hB : ∀ a, H a = none → ¬ B a) : SlR X (fun x lo hi H Q => (∀ a, H a = none → ¬ B a) ∧ Vw X.K X.w B H x p ∧ slcP p lo hi = some r ∧ ∀ v H', KeepN H H' → Rp X.K X.w B H' v r → Q v H') := by
  intro pins s σ H x v vl vu lo hi sl Q I rx hs pl pu h
  obtain ⟨hB, vx, e, k⟩ := h
  cases p with
  | str z =>
    obtain ⟨hl, e⟩ := of_ite (show (if z.length ≤ line then some (P.str (cutL z lo hi)) else none) = some r from e)
    cases e
    rw [vx.str] at rx
    refine sl_str pins s σ H _ v vl vu lo hi sl Q I rx hs pl pu ⟨sS z, rfl, by rw [sS_len, line_eq]; exact hl, ?_⟩
    have : cutS (sS z) lo hi = sS (cutL z lo hi) := by
      unfold cutS cutL
      rw [sS_len, cutAt_eq, cutAt_eq, strlen_cps]
      rfl
    rw [this]
    exact k _ _ KeepN.refl (.str _)
  | tup xs =>
    cases e
    obtain ⟨a, vs, rfl, h1, r1⟩ := vx.tuple
    have rc : RpL X.K X.w B H (cutV vs lo hi) (cutL xs lo hi) := by
      unfold cutV cutL
      rw [r1.length, cutAt_eq, cutAt_eq]
      exact (r1.drop _).take _
    refine sl_tupA pins s σ H _ v vl vu lo hi sl Q I rx hs pl pu ⟨a, vs, rfl, h1, fun ⟨e1, e2⟩ => k _ _ KeepN.refl ?_, fun _ p hp => k _ _ (KeepN.upd hp) (Rp.newT hB hp rc)⟩
    have : cutL xs lo hi = xs := by
      unfold cutL
      rw [← r1.length, ← cutAt_eq, ← cutAt_eq, e1, e2, List.drop_zero, Nat.sub_zero]
      exact List.take_of_length_le (by rw [r1.length]; exact Nat.le_refl _)
    rw [this]
    cases vx with
    | of r => exact r
  | lst xs =>
    cases e
    obtain ⟨a, vs, rfl, h1, r1⟩ := vx.list
    have rc : RpL X.K X.w B H (cutV vs lo hi) (cutL xs lo hi) := by
      unfold cutV cutL
      rw [r1.length, cutAt_eq, cutAt_eq]
      exact (r1.drop _).take _
    exact sl_list pins s σ H _ v vl vu lo hi sl Q I rx hs pl pu ⟨a, vs, rfl, SqL.of h1, fun p hp => k _ _ (KeepN.upd hp) (Rp.newL hB hp rc)⟩
  | _ => cases e
end
end TH
end T_TH1
section T_TI1
set_option Elab.async false
set_option linter.all false
set_option maxRecDepth 100000
/-! Texts: what the methods compute, on lists of signs. -/
namespace TH
open PySem PySem.Spec PyProof.Rows L2
theorem pre_one (c x : Nat) (r : List Nat) : TL.pre [c] (x :: r) = (x == c) := by
  simp [TL.pre, List.take]
theorem spl_eq (c : Nat) : ∀ (x acc : List Nat), TL.spl [c] 0 acc x = match TH.splitAt c x with
    | [] => []
    | y :: ys => (acc ++ y) :: ys
  | [], acc => by rw [TL.spl_nil]; simp [TH.splitAt]
  | z :: r, acc => by
    by_cases h : z = c
    · subst h
      rw [TL.spl_hit (by rw [pre_one]; simp)]
      have e : TL.spl [z] ([z].length - 1) [] r = TL.spl [z] 0 [] r := rfl
      rw [e, spl_eq z r []]
      simp only [TH.splitAt, if_true, List.append_nil]
      cases hq : TH.splitAt z r with
      | nil =>
        exfalso
        cases r with
        | nil => simp [TH.splitAt] at hq
        | cons a r =>
          simp only [TH.splitAt] at hq
          split at hq
          · cases hq
          · split at hq <;> cases hq
      | cons y ys => simp
    · rw [TL.spl_miss (by rw [pre_one]; simpa using h), spl_eq c r (acc ++ [z])]
      simp only [TH.splitAt, if_neg h]
      cases hq : TH.splitAt c r with
      | nil =>
        exfalso
        cases r with
        | nil => simp [TH.splitAt] at hq
        | cons a r =>
          simp only [TH.splitAt] at hq
          split at hq
          · cases hq
          · split at hq <;> cases hq
      | cons y ys => simp
theorem splitAt_ne (c : Nat) (x : List Nat) : TH.splitAt c x ≠ [] := by
  cases x with
  | nil => simp [TH.splitAt]
  | cons a r =>
    simp only [TH.splitAt]
    split
    · simp
    · split <;> simp
theorem split_eq {c : Nat} (x : List Nat) (h : c < 256) : Txt.split (sS x) (sS [c]) = (TH.splitAt c x).map sS := by
  have e := SX.split_S (a := x) (b := [c]) (by simp) (by simpa using h)
  have e2 : Txt.split (sS x) (sS [c]) = (TL.spl [c] 0 [] x).map sS := e
  rw [e2, spl_eq]
  cases hq : TH.splitAt c x with
  | nil => exact absurd hq (splitAt_ne c x)
  | cons y ys => simp
theorem par_eq (c : Nat) : ∀ (x acc : List Nat), TL.par [c] acc x = if (TH.partAt c x).2.1 then some (acc ++ (TH.partAt c x).1, (TH.partAt c x).2.2) else none
  | [], acc => by
    have : TL.par [c] acc [] = none := TL.par_none1 (by simp)
    rw [this]; rfl
  | z :: r, acc => by
    by_cases h : z = c
    · subst h
      rw [TL.par_hit (by rw [pre_one]; simp)]
      simp [TH.partAt]
    · rw [TL.par_miss (by rw [pre_one]; simpa using h), par_eq c r (acc ++ [z])]
      simp [TH.partAt, h]
theorem partAt_none (c : Nat) : ∀ (x : List Nat), (TH.partAt c x).2.1 = false → (TH.partAt c x).1 = x ∧ (TH.partAt c x).2.2 = []
  | [], _ => ⟨rfl, rfl⟩
  | z :: r, h => by
    by_cases e : z = c
    · simp [TH.partAt, e] at h
    · simp only [TH.partAt, if_neg e] at h ⊢
      obtain ⟨h1, h2⟩ := partAt_none c r h
      exact ⟨by rw [h1], h2⟩
theorem part_eq (c : Nat) (x : List Nat) : Txt.partition (sS x) (sS [c]) = (sS (TH.partAt c x).1, sS (if (TH.partAt c x).2.1 then [c] else []), sS (TH.partAt c x).2.2) := by
  cases h : (TH.partAt c x).2.1 with
  | true =>
    have e := SX.partition_some (a := x) (b := [c]) (p := (TH.partAt c x).1) (q := (TH.partAt c x).2.2) (by simp) (by rw [par_eq, h]; simp)
    rw [if_pos rfl]
    exact e
  | false =>
    obtain ⟨h1, h2⟩ := partAt_none c x h
    have e := SX.partition_none (a := x) (b := [c]) (by simp) (by rw [par_eq, h]; simp)
    rw [h1, h2, if_neg (by simp)]
    exact e
theorem joinL_eq (a : List Nat) : ∀ (ys : List (List Nat)), TL.joinL a ys = joinS a ys
  | [] => rfl
  | [_] => rfl
  | x :: y :: r => by
    have : TL.joinL a (x :: y :: r) = x ++ a ++ TL.joinL a (y :: r) := by
      first | rfl | (show x ++ (a ++ TL.joinL a (y :: r)) = _; rw [List.append_assoc])
    rw [this, joinL_eq a (y :: r)]
    rfl
theorem join_eq' (a : List Nat) (ys : List (List Nat)) : Txt.join (sS a) (ys.map sS) = sS (joinS a ys) := by
  have e := SX.join_S a ys
  rw [joinL_eq] at e
  exact e
theorem join_split (c : Nat) (t : List Nat) : ∀ (x : List Nat), joinS t (TH.splitAt c x) = replS c t x
  | [] => rfl
  | z :: r => by
    have ih := join_split c t r
    have hne := splitAt_ne c r
    simp only [TH.splitAt, replS]
    split
    · cases hq : TH.splitAt c r with
      | nil => exact absurd hq hne
      | cons y ys => rw [hq] at ih; simp [joinS, ih]
    · cases hq : TH.splitAt c r with
      | nil => exact absurd hq hne
      | cons y ys =>
        rw [hq] at ih
        dsimp only
        rw [← ih]
        cases ys <;> simp [joinS]
theorem repl_eq (c : Nat) (x t : List Nat) (h : c < 256) : Txt.replace (sS x) (sS [c]) (sS t) = sS (replS c t x) := by
  have e := PySem.StrLaws.replace_one (sS x) (sS t) c
  have e2 : Txt.replace (sS x) (sS [c]) (sS t) = Str.join (sS t) (Txt.split (sS x) (sS [c])) := e
  rw [e2, split_eq x h, ← TL.join_eq, join_eq', join_split]
theorem starts_eq (x : List Nat) (c : Nat) : Txt.startswith (sS x) (sS [c]) = decide (x.head? = some c) := by
  have h := PySem.StrLaws.subAt_one (sS x) c 0
  rw [strlen_cps] at h
  have e : Txt.startswith (sS x) (sS [c]) = decide (0 + (sS [c]).length ≤ (sS x).length ∧ Builtin.Str.subAt (sS x) (sS [c]) 0 = true) := by
    unfold Txt.startswith
    cases hb : Builtin.Str.subAt (sS x) (sS [c]) 0 <;> simp
  rw [e]
  have h' : (0 + (sS [c]).length ≤ (sS x).length ∧ Builtin.Str.subAt (sS x) (sS [c]) 0 = true) ↔ x[0]? = some c := h
  rw [List.head?_eq_getElem?]
  exact decide_eq_decide.mpr h'
theorem ends_eq (x : List Nat) (c : Nat) : Txt.endswith (sS x) (sS [c]) = decide (x.getLast? = some c) := by
  have h := PySem.StrLaws.subAt_one (sS x) c ((sS x).length - 1)
  rw [strlen_cps] at h
  have l1 : (sS [c]).length = 1 := rfl
  have h' : ((sS x).length - 1 + (sS [c]).length ≤ (sS x).length ∧ Builtin.Str.subAt (sS x) (sS [c]) ((sS x).length - 1) = true) ↔ x[(sS x).length - 1]? = some c := h
  have e : Txt.endswith (sS x) (sS [c]) = decide (0 + (sS [c]).length ≤ (sS x).length ∧ Builtin.Str.subAt (sS x) (sS [c]) ((sS x).length - (sS [c]).length) = true) := by
    unfold Txt.endswith
    cases hb : Builtin.Str.subAt (sS x) (sS [c]) ((sS x).length - (sS [c]).length) <;> simp
  rw [e, List.getLast?_eq_getElem?, ← sS_len x]
  rw [l1] at h' ⊢
  refine decide_eq_decide.mpr (Iff.trans ?_ h')
  constructor
  · rintro ⟨p, q⟩
    exact ⟨by omega, q⟩
  · rintro ⟨p, q⟩
    exact ⟨by omega, q⟩
/-! ### numbers -/
theorem str_of_int (i : Int) : Str.ofString (toString i) = sS (intS i) := by
  refine TL.ext_tl ?_
  rw [TL.tl_ofString, TL.tl_mk]
  rfl
theorem digVal_eq : ∀ (l : List Nat) (a n : Nat), l.foldl (fun a c => match a with
    | some n => if 48 ≤ c ∧ c ≤ 57 then some (n * 10 + (c - 48)) else none
    | none => none) (some a) = some n → NumText.AllDigits l ∧ l.foldl (fun acc c => acc * 10 + (c - 48)) a = n
  | [], a, n, h => by
    simp only [List.foldl_nil, Option.some.injEq] at h
    exact ⟨fun c hc => absurd hc (by simp), h⟩
  | c :: r, a, n, h => by
    simp only [List.foldl_cons] at h ⊢
    by_cases hc : 48 ≤ c ∧ c ≤ 57
    · rw [if_pos hc] at h
      obtain ⟨h1, h2⟩ := digVal_eq r _ _ h
      refine ⟨fun x hx => ?_, h2⟩
      rcases List.mem_cons.mp hx with rfl | hx
      · exact hc
      · exact h1 x hx
    · rw [if_neg hc] at h
      exfalso
      have : ∀ (r : List Nat), r.foldl (fun a c => match a with
        | some n => if 48 ≤ c ∧ c ≤ 57 then some (n * 10 + (c - 48)) else none
        | none => none) (none : Option Nat) = none := by
        intro r
        induction r with
        | nil => rfl
        | cons x r ih => simpa using ih
      rw [this r] at h
      cases h
theorem intOf_eq {x : List Nat} {i : Int} (hl : x.length ≤ 640) (h : intOf x = some i) : intText? (sS x) = some i := by
  have main : ∀ (r : List Nat) (n : Nat), r ≠ [] → digVal r = some n → NumText.AllDigits r ∧ NumText.digitsVal r = n := by
    intro r n hr hd
    cases r with
    | nil => exact absurd rfl hr
    | cons c r => exact digVal_eq (c :: r) 0 n hd
  unfold intOf at h
  split at h
  · cases h
  · rename_i r
    split at h
    · cases h
    · rename_i hr
      cases hd : digVal r with
      | none => rw [hd] at h; cases h
      | some n =>
      rw [hd] at h
      have h' : some (-(n : Int)) = some i := h
      cases h'
      obtain ⟨h2, h3⟩ := main r n hr hd
      have := intText_neg (x := sS (45 :: r)) (cs := r) (by rw [strlen_cps]) h2 hr (by rw [sS_len]; exact Nat.le_trans hl (by decide))
      rw [this, h3]
  · rename_i r h45 hn
    cases hd : digVal x with
    | none => rw [hd] at h; cases h
    | some n =>
    rw [hd] at h
    have h' : some (n : Int) = some i := h
    cases h'
    have hr : x ≠ [] := by
      intro e; subst e
      first | exact h45 rfl | exact hn rfl
    obtain ⟨h2, h3⟩ := main x n hr hd
    have := intText_digits (x := sS x) (by rw [strlen_cps]; exact h2) (by rw [strlen_cps]; exact hr) (by rw [sS_len]; exact Nat.le_trans hl (by decide))
    rw [this, strlen_cps, h3]
/-! ### sorted -/
theorem strLt_eq (a b : List Nat) : ltCps (sS a).cps.toList (sS b).cps.toList = strLt a b := by
  rw [strlen_cps, strlen_cps, PyProof.Rows.ltCps_eq]
  rfl
theorem ins_perm (x : List Nat) : ∀ (l : List (List Nat)), (insS x l).Perm (x :: l)
  | [] => .refl _
  | y :: r => by
    simp only [insS]
    split
    · exact ((ins_perm x r).cons y).trans (.swap x y r)
    · exact .refl _
theorem sort_perm : ∀ (l : List (List Nat)), (sortS l).Perm l
  | [] => .refl _
  | x :: r => (ins_perm x (sortS r)).trans ((sort_perm r).cons x)
theorem ins_sorted (x : List Nat) : ∀ (l : List (List Nat)), l.Pairwise (· ≤ ·) → (insS x l).Pairwise (· ≤ ·)
  | [], _ => by simp [insS]
  | y :: r, h => by
    rw [List.pairwise_cons] at h
    simp only [insS]
    split
    · rename_i hlt
      have hlt' : y < x := by simpa [strLt] using hlt
      rw [List.pairwise_cons]
      refine ⟨fun z hz => ?_, ins_sorted x r h.2⟩
      rcases List.mem_cons.mp ((ins_perm x r).subset hz) with rfl | hz
      · exact List.le_of_lt hlt'
      · exact h.1 z hz
    · rename_i hlt
      have hle : x ≤ y := by
        have : ¬ y < x := by simpa [strLt] using hlt
        exact List.not_lt.mp this
      rw [List.pairwise_cons]
      refine ⟨fun z hz => ?_, List.pairwise_cons.mpr h⟩
      rcases List.mem_cons.mp hz with rfl | hz
      · exact hle
      · exact List.le_trans hle (h.1 z hz)
theorem sort_sorted : ∀ (l : List (List Nat)), (sortS l).Pairwise (· ≤ ·)
  | [] => .nil
  | x :: r => ins_sorted x _ (sort_sorted r)
theorem rising_pw : ∀ (p : Str) (l : List Str), risingS p l = true → (p.cps.toList :: l.map (·.cps.toList)).Pairwise (· ≤ ·)
  | p, [], _ => by simp
  | p, x :: r, h => by
    have h' : (!ltCps x.cps.toList p.cps.toList && risingS x r) = true := h
    rw [Bool.and_eq_true, Bool.not_eq_true', PyProof.Rows.ltCps_eq] at h'
    have hle : p.cps.toList ≤ x.cps.toList := List.not_lt.mp (of_decide_eq_false h'.1)
    have ih := rising_pw x r h'.2
    rw [List.pairwise_cons]
    refine ⟨fun z hz => ?_, ih⟩
    rw [List.map_cons] at hz
    rcases List.mem_cons.mp hz with rfl | hz
    · exact hle
    · exact List.le_trans hle ((List.pairwise_cons.mp ih).1 z hz)
theorem sorted_eq {ys : List Str} {zs : List (List Nat)} (hp : ys.Perm (zs.map sS)) (h : sortedS ys = true) : ys = (sortS zs).map sS := by
  have h1 : (ys.map (·.cps.toList)).Pairwise (· ≤ ·) := by
    cases ys with
    | nil => exact .nil
    | cons p l => exact rising_pw p l h
  have hm : (zs.map sS).map (·.cps.toList) = zs := by
    rw [List.map_map]
    have : ((fun x : Str => x.cps.toList) ∘ sS) = id := by funext x; exact strlen_cps x
    rw [this, List.map_id]
  have h2 : (ys.map (·.cps.toList)).Perm (sortS zs) := by
    have := hp.map (·.cps.toList)
    rw [hm] at this
    exact this.trans (sort_perm zs).symm
  have h3 : ys.map (·.cps.toList) = sortS zs := h2.eq_of_pairwise (fun a b _ _ p q => List.le_antisymm p q) h1 (sort_sorted zs)
  have h4 : (ys.map (·.cps.toList)).map sS = ys := by
    rw [List.map_map]
    have : (sS ∘ fun x : Str => x.cps.toList) = id := by funext x; exact sS_of x
    rw [this, List.map_id]
  rw [← h3, h4]
end TH
end T_TI1
section T_TI2
set_option Elab.async false
set_option linter.all false
set_option maxRecDepth 100000
/-! Built-in functions and methods, by values. -/
namespace TH
open PySem PySem.Spec PyProof.Rows L2
def tyN : Ty → String
  | .str => "str" | .int => "int" | .bool => "bool" | .tuple => "tuple" | .list => "list"
def bfn : Bi → Value
  | .len => .builtin "len" | .isinst _ => .builtin "isinstance" | .toList => .type "list" | .toTuple => .type "tuple" | .all => .builtin "all" | .any => .builtin "any"
  | .toInt => .type "int" | .toStr => .type "str" | .abs => .builtin "abs" | .sorted => .builtin "sorted" | .max2 => .builtin "max" | .min2 => .builtin "min" | .sum => .builtin "sum"
  | .join => .builtin "str.join" | .partition => .builtin "str.partition" | .split => .builtin "str.split" | .replace => .builtin "str.replace"
  | .startswith => .builtin "str.startswith" | .endswith => .builtin "str.endswith"
  | .append => .builtin "list.append" | .popAt => .builtin "list.pop" | .extend => .builtin "list.extend" | .dget => .builtin "dict.get"
inductive VwL (K : Frag) (w : World) (B : Addr → Prop) (H : Hp) : List V → List P → Prop
  | nil : VwL K w B H [] []
  | cons {v : V} {vs : List V} {x : P} {xs : List P} : Vw K w B H v x → VwL K w B H vs xs → VwL K w B H (v :: vs) (x :: xs)
/-- what is wanted of a built-in's end -/
def FinQ (K : Frag) (w : World) (m : Bool) (B : Addr → Prop) (H : Hp) (x : P) (Q : VK) : Prop := match m with
  | false => ∀ v H', KeepN H H' → Rp K w B H' v x → Q v H'
  | true => ∀ p us ys, x = .lst ys → H p = none → RpL K w B H us ys → Q (.ref p) (upd H p (.lst us))
section
variable {X : Cx} {B B' : Addr → Prop} {H : Hp} {σ : L2.St} {s : Shared} {pins : List (Addr × Obj)} {nm : Names} {ρ : Nat → Addr} {st : Sto}
theorem StR.viewsL (S : StR X.K X.w nm ρ st H) : ∀ {ds : List D} {vs : List V} {xs : List P}, RvL X.K X.w ρ st.length H vs ds → views st ds = some xs → VwL X.K X.w (live ρ st.length) H vs xs
  | [], _, _, .nil, e => by cases e; exact .nil
  | d :: ds, _, xs, .cons r t, e => by
    simp only [views] at e
    cases h1 : TH.view st d with
    | none => rw [h1] at e; cases e
    | some x =>
      cases h2 : views st ds with
      | none => rw [h1, h2] at e; cases e
      | some ys =>
        rw [h1, h2] at e
        cases e
        exact .cons (S.view r h1) (StR.viewsL S t h2)
theorem FinQ.new {m : Bool} {ys : List P} {Q : VK} (h : FinQ X.K X.w m B H (.lst ys) Q) (hB : ∀ a, H a = none → ¬ B a) {p : Addr} {us : List V} (hp : H p = none) (r : RpL X.K X.w B H us ys) : Q (.ref p) (upd H p (.lst us)) := by
  cases m with
  | false => exact h _ _ (KeepN.upd hp) (Rp.newL hB hp r)
  | true => exact h p us ys rfl hp r
theorem RpL.strs : ∀ {xs : List P} {vs : List V} {zs : List (List Nat)}, RpL X.K X.w B H vs xs → strsOf xs = some zs → vs = (zs.map sS).map V.str
  | [], _, _, .nil, e => by cases e; rfl
  | .str x :: r, _, zs, .cons q t, e => by
    cases q
    obtain ⟨ys, h1, rfl⟩ := Option.map_eq_some_iff.mp (show (strsOf r).map (x :: ·) = some zs from e)
    rw [RpL.strs t h1]
    rfl
  | .non :: _, _, _, .cons _ _, e => by cases e
  | .bl _ :: _, _, _, .cons _ _, e => by cases e
  | .int _ :: _, _, _, .cons _ _, e => by cases e
  | .tup _ :: _, _, _, .cons _ _, e => by cases e
  | .lst _ :: _, _, _, .cons _ _, e => by cases e
  | .dct _ _ :: _, _, _, .cons _ _, e => by cases e
theorem RpL.bools : ∀ {xs : List P} {vs : List V} {zs : List Bool}, RpL X.K X.w B H vs xs → boolsOf xs = some zs → vs = zs.map V.bl
  | [], _, _, .nil, e => by cases e; rfl
  | .bl x :: r, _, zs, .cons q t, e => by
    cases q
    obtain ⟨ys, h1, rfl⟩ := Option.map_eq_some_iff.mp (show (boolsOf r).map (x :: ·) = some zs from e)
    rw [RpL.bools t h1]
    rfl
  | .non :: _, _, _, .cons _ _, e => by cases e
  | .str _ :: _, _, _, .cons _ _, e => by cases e
  | .int _ :: _, _, _, .cons _ _, e => by cases e
  | .tup _ :: _, _, _, .cons _ _, e => by cases e
  | .lst _ :: _, _, _, .cons _ _, e => by cases e
  | .dct _ _ :: _, _, _, .cons _ _, e => by cases e
theorem RpL.of_strs : ∀ (zs : List (List Nat)), RpL X.K X.w B H ((zs.map sS).map V.str) (zs.map P.str)
  | [] => .nil
  | z :: r => .cons (.str z) (RpL.of_strs r)
/-- isinstance -/
theorem ty_of {t : Ty} {x : P} {b : Bool} {v : V} (r : Vw X.K X.w B H v x) (e : isTy t x = some b) : ∃ T : String, TyX X.K H v (.type T) ∧ PySem.W.kitOne X.K (.type T) (.type (tyN t)) = some b := by
  cases x with
  | non =>
    rw [r.non]
    cases t <;> cases e <;> exact ⟨"NoneType", .base .non, kit_ty (by decide)⟩
  | bl k =>
    rw [r.bl]
    cases t <;> cases e <;> exact ⟨"bool", .base (.bl _), kit_ty (by decide)⟩
  | int i =>
    rw [r.int]
    cases t <;> cases e <;> exact ⟨"int", .base (.int _), kit_ty (by decide)⟩
  | str z =>
    rw [r.str]
    cases t <;> cases e <;> exact ⟨"str", .base (.str _), kit_ty (by decide)⟩
  | tup xs =>
    have ht : TyX X.K H v (.type "tuple") := by
      obtain ⟨a, vs, rfl, h, rl⟩ := r.tuple
      rcases h with h | h
      · rcases h with h | ⟨o, h⟩
        · exact .base (.tup h)
        · exact .fTuple h
      · obtain ⟨o, its, n, h1, h2, _⟩ := h
        exact .kTuple h1 h2
    cases t <;> cases e <;> exact ⟨"tuple", ht, kit_ty (by decide)⟩
  | lst xs =>
    have ht : TyX X.K H v (.type "list") := by
      obtain ⟨a, vs, rfl, h, rl⟩ := r.list
      exact .base (.lst h)
    cases t <;> cases e <;> exact ⟨"list", ht, kit_ty (by decide)⟩
  | dct ks vs => cases t <;> cases e
  | scr _ => cases t <;> cases e
theorem bi_isi {t : Ty} {x : P} {b : Bool} {v : V} {u : Value} {Q : VK} (I : Inv X pins σ H s) (rv : RelV v u) (r : Vw X.K X.w B H v x) (e : isTy t x = some b) (q : Q (.bl b) H) :
    wpAny (model X.prog X.w) X.A (call (.builtin "isinstance") [u, .type (tyN t)]) (EP X pins σ Q) X.xe s := by
  obtain ⟨T, h1, h2⟩ := ty_of r e
  exact call_isi pins s σ H [v, .ty (tyN t)] [u, .type (tyN t)] Q I (.cons rv (.cons rfl .nil)) ⟨v, .ty (tyN t), .type T, .type (tyN t), b, rfl, .ty _, h1, h2, q⟩
theorem bi_get {ks vs : List P} {z : List Nat} {d : P} {v y k : V} {u uk ud : Value} {Q : VK} (I : Inv X pins σ H s) (rv : RelV v u) (rk : RelV k uk) (ry : RelV y ud)
    (r1 : Vw X.K X.w B H v (.dct ks vs)) (r2 : Vw X.K X.w B H k (.str z)) (r3 : Vw X.K X.w B H y d) (rd : Rp X.K X.w B H y d)
    (q : ∀ w', Rp X.K X.w B H w' ((lookP ks vs (.str z)).getD d) → Q w' H) :
    wpAny (model X.prog X.w) X.A (call (.builtin "dict.get") [u, uk, ud]) (EP X pins σ Q) X.xe s := by
  rw [r2.str] at rk
  obtain ⟨t, rfl⟩ := rk
  cases r1 with
  | of r1 =>
    obtain ⟨a, find, rfl, D, _, hf⟩ := r1.dict I
    cases rv
    obtain ⟨⟨Kt, _, knd, f, key, k1, k2, k3⟩, low⟩ := D
    refine call_meetsIn PySem.F.slot_dict_get k2.typeIs PySem.F.entry_dict_get (PySem.F.args_dict_get_3 _ _ _) (meets_dict_get_default knd a (k1 z t) low ud) ⟨_, k2, ?_⟩
    have hz := hf z
    rw [k3]
    cases hl : lookP ks vs (.str z) with
    | some p =>
      rw [hl] at hz
      obtain ⟨uu, w', e1, e2, e3⟩ := hz
      rw [e1]
      exact ⟨w', H, I.tok _, e2, q w' (by rw [hl]; exact e3)⟩
    | none =>
      rw [hl] at hz
      have hz' : find z = none := hz
      rw [hz']
      exact ⟨y, H, I.tok _, ry, q y (by rw [hl]; exact rd)⟩
end
end TH
end T_TI2
section T_TI3
set_option Elab.async false
set_option linter.all false
set_option maxRecDepth 100000
namespace TH
open PySem PySem.Spec PyProof.Rows L2
section
variable {X : Cx} {B B' : Addr → Prop} {H : Hp} {σ : L2.St} {s : Shared} {pins : List (Addr × Obj)} {nm : Names} {ρ : Nat → Addr} {st : Sto}
theorem Vw.notL {v : V} {x : P} (r : Vw X.K X.w B H v x) (h : notL x = true) : Rp X.K X.w B H v x := by
  cases r with
  | of r => exact r
  | lst _ _ => cases h
theorem FinQ.p {m : Bool} {x : P} {Q : VK} {b : Bi} (h : FinQ X.K X.w m B H x Q) (hm : m = true → b.fresh = true) (hb : b.fresh = false) {v : V} (r : Rp X.K X.w B H v x) : Q v H := by
  cases m with
  | false => exact h v H KeepN.refl r
  | true => rw [hm rfl] at hb; cases hb
theorem FinQ.up {m : Bool} {x : P} {Q : VK} {b : Bi} (h : FinQ X.K X.w m B H x Q) (hm : m = true → b.fresh = true) (hb : b.fresh = false) {v : V} {H' : Hp} (k : KeepN H H') (r : Rp X.K X.w B H' v x) : Q v H' := by
  cases m with
  | false => exact h v H' k r
  | true => rw [hm rfl] at hb; cases hb
theorem VwL.one {vs : List V} {x : P} (h : VwL X.K X.w B H vs [x]) : ∃ v, vs = [v] ∧ Vw X.K X.w B H v x := by
  cases h with
  | cons r t => cases t; exact ⟨_, rfl, r⟩
theorem VwL.two {vs : List V} {x y : P} (h : VwL X.K X.w B H vs [x, y]) : ∃ v z, vs = [v, z] ∧ Vw X.K X.w B H v x ∧ Vw X.K X.w B H z y := by
  cases h with
  | cons r t =>
    obtain ⟨z, rfl, q⟩ := t.one
    exact ⟨_, _, rfl, r, q⟩
theorem VwL.three {vs : List V} {x y z : P} (h : VwL X.K X.w B H vs [x, y, z]) : ∃ a b c, vs = [a, b, c] ∧ Vw X.K X.w B H a x ∧ Vw X.K X.w B H b y ∧ Vw X.K X.w B H c z := by
  cases h with
  | cons r t =>
    obtain ⟨_, _, rfl, q1, q2⟩ := t.two
    exact ⟨_, _, _, rfl, r, q1, q2⟩
def Bi.plain : Bi → Bool
  | .isinst _ => false
  | .replace => false
  | .sum => false
  | b => !b.changes
theorem sum_eq (zs : List (List Nat)) : ((zs.map sS).map (fun x => x.length)).sum = (zs.map (·.length)).sum := by
  congr 1
  rw [List.map_map]
  exact List.map_congr_left fun a _ => sS_len a
theorem signs_of (x : List Nat) : (x.map fun c => V.str ⟨#[c]⟩) = (x.map fun c => sS [c]).map V.str := by
  rw [List.map_map]; rfl
/-- what changes nothing -/
theorem bi_pure (hc : X.calm = true) (b : Bi) (hb : b.plain = true) {vs : List V} {xs : List P} {us : List Value} {x : P} {Q : VK} {m : Bool} (I : Inv X pins σ H s) (hB : ∀ a, H a = none → ¬ B a)
    (rv : VwL X.K X.w B H vs xs) (ru : Vals vs us) (e : biP b xs = some x) (hm : m = true → b.fresh = true) (k : FinQ X.K X.w m B H x Q) : wpAny (model X.prog X.w) X.A (call (bfn b) us) (EP X pins σ Q) X.xe s := by
  cases b with
  | len =>
    match xs, e with
    | [.str z], e =>
      obtain ⟨hl, e⟩ := of_ite (show (if z.length ≤ line then some (P.int z.length) else none) = some x from e)
      cases e
      obtain ⟨v, rfl, r⟩ := rv.one
      rw [r.str] at ru
      refine call_len pins s σ H _ us Q I ru ⟨_, (sS z).length, rfl, ⟨by rw [sS_len, line_eq]; exact hl, rfl⟩, ?_⟩
      rw [sS_len]
      exact k.p hm rfl (.int _)
    | [.tup z], e =>
      cases e
      obtain ⟨v, rfl, r⟩ := rv.one
      obtain ⟨a, ws, rfl, h, rl⟩ := r.tuple
      refine call_len pins s σ H _ us Q I ru ⟨_, ws.length, rfl, .inr ⟨ws, h, rfl⟩, ?_⟩
      rw [rl.length]
      exact k.p hm rfl (.int _)
    | [.lst z], e =>
      cases e
      obtain ⟨v, rfl, r⟩ := rv.one
      obtain ⟨a, ws, rfl, h, rl⟩ := r.list
      refine call_len pins s σ H _ us Q I ru ⟨_, ws.length, rfl, .inl ⟨ws, SqL.of h, rfl⟩, ?_⟩
      rw [rl.length]
      exact k.p hm rfl (.int _)
  | isinst t => cases hb
  | toList =>
    match xs, e with
    | [.lst z], e =>
      cases e
      obtain ⟨v, rfl, r⟩ := rv.one
      obtain ⟨a, ws, rfl, h, rl⟩ := r.list
      exact call_list_of pins s σ H _ us Q I ru ⟨a, ws, rfl, .inl (SqL.of h), fun l hl => k.new hB hl rl⟩
    | [.tup z], e =>
      cases e
      obtain ⟨v, rfl, r⟩ := rv.one
      obtain ⟨a, ws, rfl, h, rl⟩ := r.tuple
      exact call_list_of pins s σ H _ us Q I ru ⟨a, ws, rfl, .inr h, fun l hl => k.new hB hl rl⟩
  | toTuple =>
    match xs, e with
    | [.lst z], e =>
      cases e
      obtain ⟨v, rfl, r⟩ := rv.one
      obtain ⟨a, ws, rfl, h, rl⟩ := r.list
      exact call_tuple_of pins s σ H _ us Q I ru ⟨a, ws, rfl, .inl ⟨SqL.of h, fun l hl => k.up hm rfl (KeepN.upd hl) (Rp.newT hB hl rl)⟩⟩
    | [.tup z], e =>
      cases e
      obtain ⟨v, rfl, r⟩ := rv.one
      have r' := r.notL rfl
      obtain ⟨a, ws, rfl, h, rl⟩ := r.tuple
      exact call_tuple_of pins s σ H _ us Q I ru ⟨a, ws, rfl, .inr ⟨h, k.p hm rfl r'⟩⟩
  | all =>
    match xs, e with
    | [.lst z], e =>
      obtain ⟨bs, h1, rfl⟩ := Option.map_eq_some_iff.mp (show (boolsOf z).map (fun bs => P.bl (bs.all id)) = some x from e)
      obtain ⟨v, rfl, r⟩ := rv.one
      obtain ⟨a, ws, rfl, h, rl⟩ := r.list
      have hw := rl.bools h1
      subst hw
      exact cr_all hc pins s σ H _ us Q I ru ⟨a, bs, rfl, SqL.of h, k.p hm rfl (.bl _)⟩
  | any =>
    match xs, e with
    | [.lst z], e =>
      obtain ⟨bs, h1, rfl⟩ := Option.map_eq_some_iff.mp (show (boolsOf z).map (fun bs => P.bl (bs.any id)) = some x from e)
      obtain ⟨v, rfl, r⟩ := rv.one
      obtain ⟨a, ws, rfl, h, rl⟩ := r.list
      have hw := rl.bools h1
      subst hw
      exact cr_any hc pins s σ H _ us Q I ru ⟨a, bs, rfl, SqL.of h, k.p hm rfl (.bl _)⟩
  | toInt =>
    match xs, e with
    | [.int i], e =>
      cases e
      obtain ⟨v, rfl, r⟩ := rv.one
      rw [r.int] at ru
      exact call_int1 pins s σ H _ us Q I ru (.inl ⟨i, rfl, k.p hm rfl (.int _)⟩)
    | [.bl i], e =>
      cases e
      obtain ⟨v, rfl, r⟩ := rv.one
      rw [r.bl] at ru
      exact call_int1 pins s σ H _ us Q I ru (.inr ⟨i, rfl, k.p hm rfl (.int _)⟩)
    | [.str z], e =>
      obtain ⟨hl, e⟩ := of_ite (show (if z.length ≤ 640 then (intOf z).map P.int else none) = some x from e)
      obtain ⟨n, h1, rfl⟩ := Option.map_eq_some_iff.mp e
      obtain ⟨v, rfl, r⟩ := rv.one
      rw [r.str] at ru
      exact call_int_str pins s σ H _ us Q I ru ⟨sS z, n, rfl, intOf_eq hl h1, by rw [sS_len]; exact hl, k.p hm rfl (.int _)⟩
  | toStr =>
    match xs, e with
    | [.int i], e =>
      obtain ⟨hl, e⟩ := of_ite (show (if i.natAbs < 1000000000000000000 then some (P.str (intS i)) else none) = some x from e)
      cases e
      obtain ⟨v, rfl, r⟩ := rv.one
      rw [r.int] at ru
      refine call_str_int pins s σ H _ us Q I ru ⟨i, rfl, ?_, ?_⟩
      · by_cases h0 : i.natAbs = 0
        · rw [h0]; decide
        · have : i.natAbs.log2 < 60 := (Nat.log2_lt h0).mpr (Nat.lt_trans hl (by decide))
          omega
      · have e2 : Str.ofString (toString i) = sS (intS i) := str_of_int i
        show Q (.str (Str.ofString (toString i))) H
        rw [e2]
        exact k.p hm rfl (.str _)
    | [.str z], e =>
      cases e
      obtain ⟨v, rfl, r⟩ := rv.one
      rw [r.str] at ru
      exact SkE.call_str_str pins s σ H _ us Q I ru ⟨sS z, rfl, k.p hm rfl (.str _)⟩
  | abs =>
    match xs, e with
    | [.int i], e =>
      cases e
      obtain ⟨v, rfl, r⟩ := rv.one
      rw [r.int] at ru
      exact call_abs pins s σ H _ us Q I ru ⟨i, rfl, k.p hm rfl (.int _)⟩
  | sorted =>
    match xs, e with
    | [.lst z], e =>
      obtain ⟨zs, h1, e⟩ := Option.bind_eq_some_iff.mp (show (strsOf z).bind (fun ys => if ys.length < 64 then some (P.lst ((sortS ys).map P.str)) else none) = some x from e)
      obtain ⟨hl, e⟩ := of_ite e
      cases e
      obtain ⟨v, rfl, r⟩ := rv.one
      obtain ⟨a, ws, rfl, h, rl⟩ := r.list
      have hw := rl.strs h1
      subst hw
      refine cr_sortedS pins s σ H _ us Q I ru ⟨a, zs.map sS, rfl, SqL.of h, by rw [List.length_map]; exact hl, fun ys p hp hs hn => ?_⟩
      rw [sorted_eq hp hs]
      exact k.new hB hn (RpL.of_strs _)
  | max2 =>
    match xs, e with
    | [.int i, .int j], e =>
      cases e
      obtain ⟨v, z, rfl, r1, r2⟩ := rv.two
      rw [r1.int, r2.int] at ru
      exact call_max2 hc pins s σ H _ us Q I ru ⟨i, j, rfl, k.p hm rfl (.int _)⟩
  | min2 =>
    match xs, e with
    | [.int i, .int j], e =>
      cases e
      obtain ⟨v, z, rfl, r1, r2⟩ := rv.two
      rw [r1.int, r2.int] at ru
      exact call_min2 hc pins s σ H _ us Q I ru ⟨i, j, rfl, k.p hm rfl (.int _)⟩
  | sum => cases hb
  | join =>
    match xs, e with
    | [.str z, .lst y], e =>
      obtain ⟨zs, h1, e⟩ := Option.bind_eq_some_iff.mp (show (strsOf y).bind (fun zs => if (zs.map (·.length)).sum + zs.length * z.length ≤ line then some (P.str (joinS z zs)) else none) = some x from e)
      obtain ⟨hl, e⟩ := of_ite e
      cases e
      obtain ⟨v, w, rfl, r1, r2⟩ := rv.two
      obtain ⟨a, ws, rfl, h, rl⟩ := r2.list
      have hw := rl.strs h1
      subst hw
      rw [r1.str] at ru
      cases ru with
      | cons q1 q2 =>
        refine mt_join pins s σ H _ _ _ _ Q I q1 q2 ⟨sS z, a, zs.map sS, rfl, rfl, .inl (SqL.of h), ?_, ?_⟩
        · rw [sum_eq, List.length_map, sS_len]
          exact hl
        · rw [join_eq']
          exact k.p hm rfl (.str _)
  | partition =>
    match xs, e with
    | [.str z, .str [c]], e =>
      obtain ⟨hl, e⟩ := of_ite (show (if z.length ≤ line then some (P.tup [.str (partAt c z).1, .str (if (partAt c z).2.1 then [c] else []), .str (partAt c z).2.2]) else none) = some x from e)
      cases e
      obtain ⟨v, w, rfl, r1, r2⟩ := rv.two
      rw [r1.str, r2.str] at ru
      cases ru with
      | cons q1 q2 =>
        refine mt_partition pins s σ H _ _ _ _ Q I q1 q2 ⟨sS z, sS [c], rfl, rfl, rfl, by rw [sS_len, line_eq]; exact hl, fun p hp => ?_⟩
        rw [part_eq]
        exact k.up hm rfl (KeepN.upd hp) (Rp.newT hB hp (.cons (.str _) (.cons (.str _) (.cons (.str _) .nil))))
  | split =>
    match xs, e with
    | [.str z, .str [c]], e =>
      obtain ⟨hl, e⟩ := of_ite (show (if z.length + 2 ≤ line ∧ c < 256 then some (P.lst ((TH.splitAt c z).map P.str)) else none) = some x from e)
      cases e
      obtain ⟨v, w, rfl, r1, r2⟩ := rv.two
      rw [r1.str, r2.str] at ru
      cases ru with
      | cons q1 q2 =>
        refine mt_split pins s σ H _ _ _ _ Q I q1 q2 ⟨sS z, sS [c], rfl, rfl, rfl, by rw [sS_len, line_eq]; exact hl.1, fun p hp => ?_⟩
        rw [split_eq _ hl.2]
        exact k.new hB hp (RpL.of_strs _)
  | replace => cases hb
  | startswith =>
    match xs, e with
    | [.str z, .str [c]], e =>
      cases e
      obtain ⟨v, w, rfl, r1, r2⟩ := rv.two
      rw [r1.str, r2.str] at ru
      cases ru with
      | cons q1 q2 =>
        refine mt_startswith pins s σ H _ _ _ _ Q I q1 q2 ⟨sS z, sS [c], rfl, rfl, ?_⟩
        rw [starts_eq]
        exact k.p hm rfl (.bl _)
  | endswith =>
    match xs, e with
    | [.str z, .str [c]], e =>
      cases e
      obtain ⟨v, w, rfl, r1, r2⟩ := rv.two
      rw [r1.str, r2.str] at ru
      cases ru with
      | cons q1 q2 =>
        refine mt_endswith pins s σ H _ _ _ _ Q I q1 q2 ⟨sS z, sS [c], rfl, rfl, ?_⟩
        rw [ends_eq]
        exact k.p hm rfl (.bl _)
  | append => cases hb
  | popAt => cases hb
  | extend => cases hb
  | dget =>
    match xs, e with
    | [.dct ks vs', .str z, d], e =>
      obtain ⟨hl, e⟩ := of_ite (show (if notL d then some ((lookP ks vs' (.str z)).getD d) else none) = some x from e)
      cases e
      obtain ⟨a, b, c, rfl, r1, r2, r3⟩ := rv.three
      cases ru with
      | cons q1 q2 =>
        cases q2 with
        | cons q2 q3 =>
          cases q3 with
          | cons q3 q4 =>
            cases q4
            exact bi_get I q1 q2 q3 r1 r2 r3 (r3.notL hl) fun w' rw' => k.p hm rfl rw'
end
end TH
end T_TI3
section T_TI4
set_option Elab.async false
set_option linter.all false
set_option maxRecDepth 100000
namespace TH
open PySem PySem.Spec PyProof.Rows L2
section
variable {X : Cx} {B B' : Addr → Prop} {H : Hp} {σ : L2.St} {s : Shared} {pins : List (Addr × Obj)} {nm : Names} {ρ : Nat → Addr} {st : Sto}
theorem place_seq {n : Nat} {i : Int} {k : Nat} (h : place n i = some k) : seqIndex? i n = some k ∧ -(n : Int) ≤ i ∧ i ≤ n := by
  unfold place at h
  unfold seqIndex?
  split at h
  · rename_i hc
    cases h
    have h1 : ¬ i < 0 := by omega
    simp only [if_neg h1]
    have : (decide (0 ≤ i) && decide (i < (n : Int))) = true := by simp; omega
    rw [this]
    exact ⟨rfl, by omega, by omega⟩
  · split at h
    · rename_i hc
      cases h
      simp only [if_pos hc.1]
      have : (decide (0 ≤ i + (n : Int)) && decide (i + (n : Int) < (n : Int))) = true := by simp; omega
      rw [this]
      exact ⟨rfl, by omega, by omega⟩
    · cases h
/-- what the end of a computation is, when it ends well -/
def OkQ (K : Frag) (w : World) (nm : Names) (ρ : Nat → Addr) (L : Nat) (H : Hp) (d : D) (st' : Sto) (Q : VK) : Prop :=
  ∀ ρ' v H', Ext ρ L H ρ' st'.length H' → StR K w nm ρ' st' H' → Rv K w ρ' st'.length H' v d → Q v H'
theorem OkQ.write (S : StR X.K X.w nm ρ st H) {n : Nat} {xs : List D} {vs ws : List V} {d : D} {v : V} {Q : VK} (hn : n < st.length) (r : RvL X.K X.w ρ st.length (upd H (ρ n) (.lst ws)) ws xs)
    (rd : Rv X.K X.w ρ st.length (upd H (ρ n) (.lst ws)) v d) (k : OkQ X.K X.w nm ρ st.length H d (st.set n (.lst xs)) Q) : Q v (upd H (ρ n) (.lst ws)) := by
  refine k ρ v _ ?_ (S.write hn ⟨ws, upd_same, r⟩) ?_
  · rw [List.length_set]; exact Ext.write S hn
  · rw [List.length_set]; exact rd
theorem bi_app {d : D} {st' : Sto} {ds : List D} {vs : List V} {us : List Value} {Q : VK} (I : Inv X pins σ H s) (S : StR X.K X.w nm ρ st H) (rv : RvL X.K X.w ρ st.length H vs ds) (ru : Vals vs us)
    (e : biD .append ds st = .ok d st') (k : OkQ X.K X.w nm ρ st.length H d st' Q) : wpAny (model X.prog X.w) X.A (call (.builtin "list.append") us) (EP X pins σ Q) X.xe s := by
  match ds, e with
  | [.ref n, y], e =>
    have e1 : (match st[n]? with | some (Cell.lst xs) => if xs.length < line then R.ok (D.p .non) (st.set n (.lst (xs ++ [y]))) else .bad | _ => .bad) = .ok d st' := e
    cases hc : st[n]? with
    | none => rw [hc] at e1; cases e1
    | some c =>
      rw [hc] at e1
      cases c with
      | ins _ _ => cases e1
      | lst xs =>
        dsimp only at e1
        split at e1
        · rename_i hl
          cases e1
          obtain ⟨ws, h1, h2⟩ := S.cell n _ hc
          have hn := (List.getElem?_eq_some_iff.mp hc).1
          cases rv with
          | cons r t =>
            cases r with
            | ref _ =>
              cases t with
              | @cons vy _ _ _ r2 t2 =>
                cases t2
                cases ru with
                | cons q1 q2 =>
                  refine mt_append pins s σ H _ _ _ _ Q I q1 q2 ⟨ρ n, ws, _, rfl, rfl, h1, by rw [h2.length, line_eq]; exact hl, ?_⟩
                  have x := Ext.write (o := .lst (ws ++ [vy])) S hn
                  exact OkQ.write (vs := ws) S hn ((x.rvL h2).append (.cons (x.rv r2) .nil)) (.p .non) k
        · cases e1
theorem bi_ext {d : D} {st' : Sto} {ds : List D} {vs : List V} {us : List Value} {Q : VK} (I : Inv X pins σ H s) (S : StR X.K X.w nm ρ st H) (rv : RvL X.K X.w ρ st.length H vs ds) (ru : Vals vs us)
    (e : biD .extend ds st = .ok d st') (k : OkQ X.K X.w nm ρ st.length H d st' Q) : wpAny (model X.prog X.w) X.A (call (.builtin "list.extend") us) (EP X pins σ Q) X.xe s := by
  match ds, e with
  | [.ref n, .p (.lst ys)], e =>
    have e1 : (match st[n]? with | some (Cell.lst xs) => if xs.length + ys.length ≤ line then R.ok (D.p .non) (st.set n (.lst (xs ++ ys.map D.p))) else .bad | _ => .bad) = .ok d st' := e
    cases hc : st[n]? with
    | none => rw [hc] at e1; cases e1
    | some c =>
      rw [hc] at e1
      cases c with
      | ins _ _ => cases e1
      | lst xs =>
        dsimp only at e1
        split at e1
        · rename_i hl
          cases e1
          obtain ⟨ws, h1, h2⟩ := S.cell n _ hc
          have hn := (List.getElem?_eq_some_iff.mp hc).1
          cases rv with
          | cons r t =>
            cases r with
            | ref _ =>
              cases t with
              | cons r2 t2 =>
                cases t2
                cases r2 with
                | p r2 =>
                  obtain ⟨a, zs, rfl, g1, g2⟩ := (Vw.of r2).list
                  cases ru with
                  | cons q1 q2 =>
                    refine mt_extend pins s σ H _ _ _ _ Q I q1 q2 ⟨ρ n, a, ws, zs, rfl, rfl, h1, g1, by rw [h2.length, g2.length, line_eq]; exact hl, ?_⟩
                    have x := Ext.write (o := .lst (ws ++ zs)) S hn
                    exact OkQ.write (vs := ws) S hn ((x.rvL h2).append (x.rvL (RvL.of_rp g2))) (.p .non) k
        · cases e1
theorem bi_pop {d : D} {st' : Sto} {ds : List D} {vs : List V} {us : List Value} {Q : VK} (I : Inv X pins σ H s) (S : StR X.K X.w nm ρ st H) (rv : RvL X.K X.w ρ st.length H vs ds) (ru : Vals vs us)
    (e : biD .popAt ds st = .ok d st') (k : OkQ X.K X.w nm ρ st.length H d st' Q) : wpAny (model X.prog X.w) X.A (call (.builtin "list.pop") us) (EP X pins σ Q) X.xe s := by
  match ds, e with
  | [.ref n, .p (.int i)], e =>
    have e1 : (match st[n]? with
      | some (Cell.lst xs) => match place xs.length i with
        | some k => match xs[k]? with
          | some d => R.ok d (st.set n (.lst (xs.eraseIdx k)))
          | none => .bad
        | none => .bad
      | _ => .bad) = .ok d st' := e
    cases hc : st[n]? with
    | none => rw [hc] at e1; cases e1
    | some c =>
      rw [hc] at e1
      cases c with
      | ins _ _ => cases e1
      | lst xs =>
        dsimp only at e1
        cases hp : place xs.length i with
        | none => rw [hp] at e1; cases e1
        | some j =>
          rw [hp] at e1
          dsimp only at e1
          cases hj : xs[j]? with
          | none => rw [hj] at e1; cases e1
          | some y =>
            rw [hj] at e1
            cases e1
            obtain ⟨ws, h1, h2⟩ := S.cell n _ hc
            have hn := (List.getElem?_eq_some_iff.mp hc).1
            cases rv with
            | cons r t =>
              cases r with
              | ref _ =>
                cases t with
                | cons r2 t2 =>
                  cases t2
                  cases r2 with
                  | p r2 =>
                    cases r2
                    obtain ⟨p1, p2, p3⟩ := place_seq hp
                    obtain ⟨l1, _⟩ := I.lstM h1
                    have l2 := h2.length
                    have l3 : sizeLine = 16777216 := by decide
                    obtain ⟨z, hz, rz⟩ := h2.get hj
                    cases ru with
                    | cons q1 q2 =>
                      refine mt_popAt pins s σ H _ _ _ _ Q I q1 q2 ⟨ρ n, ws, i, j, z, rfl, rfl, h1, by omega, by omega, by rw [l2]; exact p1, hz, ?_⟩
                      have x := Ext.write (o := .lst (ws.eraseIdx j)) S hn
                      exact OkQ.write (vs := ws) S hn (RvL.eraseIdx j (x.rvL h2)) (x.rv rz) k
theorem Rv.newRef {K : Frag} {w : World} {n : Nat} {p : Addr} : Rv K w (setρ ρ n p) (n + 1) H (.ref p) (.ref n) := by
  have := Rv.ref (K := K) (w := w) (ρ := setρ ρ n p) (L := n + 1) (H := H) (Nat.lt_succ_self n)
  rw [setρ_same] at this
  exact this
theorem fin_ok {m : Bool} {x : P} {d : D} {st' : Sto} {Q : VK} (S : StR X.K X.w nm ρ st H) (e : fin m x st = .ok d st') (k : OkQ X.K X.w nm ρ st.length H d st' Q) : FinQ X.K X.w m (live ρ st.length) H x Q := by
  cases m with
  | false =>
    cases x <;> cases e <;> exact fun v H' kk r => k ρ v H' (Ext.more kk) (S.more kk) (.p r)
  | true =>
    cases x with
    | lst ys =>
      cases e
      intro p us zs hx hp r
      cases hx
      have x := Ext.push (o := .lst us) S hp
      have r2 : RvL X.K X.w (setρ ρ st.length p) (st.length + 1) (upd H p (.lst us)) us (ys.map D.p) := x.rvL (RvL.of_rp r)
      have hpush := S.push (c := .lst (ys.map D.p)) hp ⟨us, upd_same, r2⟩
      refine k (setρ ρ st.length p) (.ref p) _ ?_ hpush ?_
      · rw [List.length_append]; exact x
      · rw [List.length_append]
        exact Rv.newRef
    | _ => cases e
def Bi.ok : Bi → Bool
  | .isinst _ => false
  | .replace => false
  | .sum => false
  | _ => true
/-- a built-in's call -/
theorem bi_run (hc : X.calm = true) (b : Bi) (hb : b.ok = true) {m : Bool} {d : D} {st' : Sto} {ds : List D} {vs : List V} {us : List Value} {Q : VK} (I : Inv X pins σ H s) (S : StR X.K X.w nm ρ st H)
    (rv : RvL X.K X.w ρ st.length H vs ds) (ru : Vals vs us) (e : runBi m b ds st = .ok d st') (k : OkQ X.K X.w nm ρ st.length H d st' Q) : wpAny (model X.prog X.w) X.A (call (bfn b) us) (EP X pins σ Q) X.xe s := by
  unfold runBi at e
  by_cases hch : b.changes = true
  · rw [if_pos hch] at e
    cases m with
    | true => cases e
    | false =>
      cases b with
      | append => exact bi_app I S rv ru e k
      | extend => exact bi_ext I S rv ru e k
      | popAt => exact bi_pop I S rv ru e k
      | _ => cases hch
  · rw [if_neg hch] at e
    by_cases hf : (m && !b.fresh) = true
    · rw [if_pos hf] at e; cases e
    · rw [if_neg hf] at e
      cases hv : views st ds with
      | none => rw [hv] at e; cases e
      | some xs =>
        rw [hv] at e
        dsimp only at e
        cases hx : biP b xs with
        | none => rw [hx] at e; cases e
        | some x =>
          rw [hx] at e
          refine bi_pure hc b ?_ I (fun a h => S.not_live_new h) (S.viewsL rv hv) ru hx (fun hm => ?_) (fin_ok S e k)
          · cases b <;> first | rfl | (exact absurd rfl hch) | cases hb
          · cases hq : b.fresh with
            | true => rfl
            | false => rw [hm, hq] at hf; exact absurd rfl hf
end
end TH
end T_TI4
section T_TJ1
set_option Elab.async false
set_option linter.all false
set_option maxRecDepth 100000
/-! The expressions: one rule by form. -/
namespace TH
open PySem PySem.Spec PyProof.Rows L2
/-- the state of a body -/
structure At (X : Cx) (nm : Names) (pins : List (Addr × Obj)) (σ : L2.St) (env : TH.Env) (ρ : Nat → Addr) (st : Sto) (H : Hp) (s : Shared) : Prop where
  I : Inv X pins σ H s
  er : EnvR X.K X.w ρ st.length H σ env
  sr : StR X.K X.w nm ρ st H
/-- behind an expression -/
def Then (X : Cx) (nm : Names) (W : WX) (pins : List (Addr × Obj)) (σ : L2.St) (env : TH.Env) (ρ : Nat → Addr) (st : Sto) (H : Hp) {β : Type} (f : D → M β) (κ : β → Sto → (Nat → Addr) → Hp → Prop) (u : Value) (s1 : Shared) : Prop :=
  ∃ d st1 ρ1 v H1, At X nm pins σ env ρ1 st1 H1 s1 ∧ Ext ρ st.length H ρ1 st1.length H1 ∧ Rv X.K X.w ρ1 st1.length H1 v d ∧ RelV v u ∧ Got X.K X.w nm W ρ1 st1.length H1 σ (f d st1) κ
def ThenT (X : Cx) (nm : Names) (W : WX) (pins : List (Addr × Obj)) (σ : L2.St) (env : TH.Env) (ρ : Nat → Addr) (st : Sto) (H : Hp) {β : Type} (f : Bool → M β) (κ : β → Sto → (Nat → Addr) → Hp → Prop) (b : Bool) (s1 : Shared) : Prop :=
  ∃ st1 ρ1 H1, At X nm pins σ env ρ1 st1 H1 s1 ∧ Ext ρ st.length H ρ1 st1.length H1 ∧ Got X.K X.w nm W ρ1 st1.length H1 σ (f b st1) κ
def ThenL (X : Cx) (nm : Names) (W : WX) (pins : List (Addr × Obj)) (σ : L2.St) (env : TH.Env) (ρ : Nat → Addr) (st : Sto) (H : Hp) {β : Type} (f : List D → M β) (κ : β → Sto → (Nat → Addr) → Hp → Prop) (us : List Value) (s1 : Shared) : Prop :=
  ∃ ds st1 ρ1 vs H1, At X nm pins σ env ρ1 st1 H1 s1 ∧ Ext ρ st.length H ρ1 st1.length H1 ∧ RvL X.K X.w ρ1 st1.length H1 vs ds ∧ Vals vs us ∧ Got X.K X.w nm W ρ1 st1.length H1 σ (f ds st1) κ
section
variable {X : Cx} {nm : Names} {W : WX} {pins : List (Addr × Obj)} {σ : L2.St} {env : TH.Env} {ρ : Nat → Addr} {st : Sto} {H : Hp} {s : Shared}
/-- a state further on -/
theorem At.go {ρ1 : Nat → Addr} {st1 : Sto} {H1 : Hp} {s1 : Shared} (a : At X nm pins σ env ρ st H s) (I : Inv X pins σ H1 s1) (e : Ext ρ st.length H ρ1 st1.length H1) (sr : StR X.K X.w nm ρ1 st1 H1) : At X nm pins σ env ρ1 st1 H1 s1 := ⟨I, e.envR a.er, sr⟩
theorem At.tok (a : At X nm pins σ env ρ st H s) (t : Nat) : At X nm pins σ env ρ st H { s with toks := t } := ⟨a.I.tok t, a.er, a.sr⟩
abbrev SE (X : Cx) (nm : Names) (W : WX) (e : Expr) (m : TH.Env → M D) : Prop := PE X e (rd X.K X.w nm W m)
abbrev ST (X : Cx) (nm : Names) (W : WX) (e : Expr) (m : TH.Env → M Bool) : Prop := PT X e (rdT X.K X.w nm W m)
abbrev SL (X : Cx) (nm : Names) (W : WX) (es : List Expr) (m : TH.Env → M (List D)) : Prop := PA X es (rdL X.K X.w nm W m)
variable {β : Type} {κ : β → Sto → (Nat → Addr) → Hp → Prop}
theorem run1 {a : Expr} {ma : TH.Env → M D} {f : D → M β} (ha : SE X nm W a ma) (A : At X nm pins σ env ρ st H s) (g : Got X.K X.w nm W ρ st.length H σ ((ma env st).bind f) κ) :
    wpAny (model X.prog X.w) X.A (eval a X.env) (Then X nm W pins σ env ρ st H f κ) X.xe s := by
  refine thn (ha.run pins s σ H (fun v H1 => ∃ d st1 ρ1, Ext ρ st.length H ρ1 st1.length H1 ∧ StR X.K X.w nm ρ1 st1 H1 ∧ Rv X.K X.w ρ1 st1.length H1 v d ∧ Got X.K X.w nm W ρ1 st1.length H1 σ (f d st1) κ) A.I ⟨ρ, st, env, A.er, A.sr, ?_⟩) fun u s1 q => ?_
  · exact Got.bind g fun d st1 ρ1 H1 _ e s g1 v rv => ⟨d, st1, ρ1, e, s, rv, g1⟩
  · obtain ⟨v, H1, I1, rv, d, st1, ρ1, e, sr, r, g1⟩ := q
    exact ⟨d, st1, ρ1, v, H1, A.go I1 e sr, e, r, rv, g1⟩
theorem run1T {a : Expr} {ma : TH.Env → M Bool} {f : Bool → M β} (ha : ST X nm W a ma) (A : At X nm pins σ env ρ st H s) (g : Got X.K X.w nm W ρ st.length H σ ((ma env st).bind f) κ) :
    wpAny (model X.prog X.w) X.A (PySem.isTrue a X.env (eval a X.env)) (ThenT X nm W pins σ env ρ st H f κ) X.xe s := by
  refine thn (ha.run pins s σ H (fun b H1 => ∃ st1 ρ1, Ext ρ st.length H ρ1 st1.length H1 ∧ StR X.K X.w nm ρ1 st1 H1 ∧ Got X.K X.w nm W ρ1 st1.length H1 σ (f b st1) κ) A.I ⟨ρ, st, env, A.er, A.sr, ?_⟩) fun u s1 q => ?_
  · exact Got.bind g fun d st1 ρ1 H1 _ e s g1 => ⟨st1, ρ1, e, s, g1⟩
  · obtain ⟨H1, I1, st1, ρ1, e, sr, g1⟩ := q
    exact ⟨st1, ρ1, H1, A.go I1 e sr, e, g1⟩
theorem runL {es : List Expr} {ma : TH.Env → M (List D)} {f : List D → M β} (pos : Pos) (ha : SL X nm W es ma) (A : At X nm pins σ env ρ st H s) (g : Got X.K X.w nm W ρ st.length H σ ((ma env st).bind f) κ) :
    wpAny (model X.prog X.w) X.A (spliced (backTo pos (starEach es X.env))) (ThenL X nm W pins σ env ρ st H f κ) X.xe s := by
  refine thn (ha.run pos pins s σ H (fun vs H1 => ∃ d st1 ρ1, Ext ρ st.length H ρ1 st1.length H1 ∧ StR X.K X.w nm ρ1 st1 H1 ∧ RvL X.K X.w ρ1 st1.length H1 vs d ∧ Got X.K X.w nm W ρ1 st1.length H1 σ (f d st1) κ) A.I ⟨ρ, st, env, A.er, A.sr, ?_⟩) fun u s1 q => ?_
  · exact Got.bind g fun d st1 ρ1 H1 _ e s g1 v rv => ⟨d, st1, ρ1, e, s, rv, g1⟩
  · obtain ⟨v, H1, I1, rv, d, st1, ρ1, e, sr, r, g1⟩ := q
    exact ⟨d, st1, ρ1, v, H1, A.go I1 e sr, e, r, rv, g1⟩
/-- a rule by its run -/
theorem se_mk {e : Expr} {m : TH.Env → M D} (h : ∀ pins s σ H Q ρ st env, At X nm pins σ env ρ st H s → Post X.K X.w nm W ρ st.length H σ (m env st) Q → wpAny (model X.prog X.w) X.A (eval e X.env) (EP X pins σ Q) X.xe s) : SE X nm W e m :=
  ⟨fun pins s σ H Q I ⟨ρ, st, env, er, sr, q⟩ => h pins s σ H Q ρ st env ⟨I, er, sr⟩ q⟩
theorem st_mk {e : Expr} {m : TH.Env → M Bool} (h : ∀ pins s σ H Q ρ st env, At X nm pins σ env ρ st H s → PostT X.K X.w nm W ρ st.length H σ (m env st) Q → wpAny (model X.prog X.w) X.A (PySem.isTrue e X.env (eval e X.env)) (TP X pins σ Q) X.xe s) : ST X nm W e m :=
  ⟨fun pins s σ H Q I ⟨ρ, st, env, er, sr, q⟩ => h pins s σ H Q ρ st env ⟨I, er, sr⟩ q⟩
theorem sl_mk {es : List Expr} {m : TH.Env → M (List D)} (h : ∀ pos pins s σ H Q ρ st env, At X nm pins σ env ρ st H s → PostL X.K X.w nm W ρ st.length H σ (m env st) Q → wpAny (model X.prog X.w) X.A (spliced (backTo pos (starEach es X.env))) (AP X pins σ Q) X.xe s) : SL X nm W es m :=
  ⟨fun pos pins s σ H Q I ⟨ρ, st, env, er, sr, q⟩ => h pos pins s σ H Q ρ st env ⟨I, er, sr⟩ q⟩
/-- the end -/
theorem At.ep {v : V} {u : Value} {d : D} {Q : VK} (A : At X nm pins σ env ρ st H s) (g : Post X.K X.w nm W ρ st.length H σ (.ok d st) Q) (rv : Rv X.K X.w ρ st.length H v d) (ru : RelV v u) : EP X pins σ Q u s := ⟨v, H, A.I, ru, Got.here g A.sr v rv⟩
theorem At.epN {x : P} {Q : VK} (A : At X nm pins σ env ρ st H s) (g : Post X.K X.w nm W ρ st.length H σ (.ok (.p x) st) Q) {v : V} {H' : Hp} (k : KeepN H H') (r : Rp X.K X.w (live ρ st.length) H' v x) : Q v H' := Got.more g A.sr k v (.p r)

/-! ### leaves -/
theorem se_var {i : Nat} {x : Str} {pos : Pos} (hN : X.N[i]? = some x) (hv : Vis X.env.scope x) (hd : (x == ("__debug__" : Str)) = false) (hcd : (x == ("__classdict__" : Str)) = false) : SE X nm W (.Name x pos) fun env => M.opt (getV env i) := by
  refine se_mk fun pins s σ H Q ρ st env A g => ?_
  refine (pe_var hN hv hd hcd).run pins s σ H Q A.I ?_
  have hh : ∃ d, getV env i = some d := by
    cases hq : getV env i with
    | none => rw [hq] at g; exact False.elim g
    | some d => exact ⟨d, rfl⟩
  obtain ⟨d, hq⟩ := hh
  rw [hq] at g
  have he : env[i]? = some (some d) := by
    unfold getV at hq
    split at hq
    · rename_i x h
      rw [h, Option.some.inj hq]
    · cases hq
  obtain ⟨v, h1, h2⟩ := A.er.at_ i d he
  exact ⟨v, h1, Got.here g A.sr v h2⟩
theorem se_int {i : Int} {j : Nat} {pos : Pos} : SE X nm W (.Constant (.int i) j pos) fun _ => M.pure (.p (.int i)) :=
  se_mk fun pins s σ H Q ρ st env A g => pe_int.run pins s σ H Q A.I (A.epN g KeepN.refl (.int i))
theorem se_bl {b : Bool} {j : Nat} {pos : Pos} : SE X nm W (.Constant (.bool b) j pos) fun _ => M.pure (.p (.bl b)) :=
  se_mk fun pins s σ H Q ρ st env A g => pe_bl.run pins s σ H Q A.I (A.epN g KeepN.refl (.bl b))
theorem se_non {j : Nat} {pos : Pos} : SE X nm W (.Constant .none j pos) fun _ => M.pure (.p .non) :=
  se_mk fun pins s σ H Q ρ st env A g => pe_non.run pins s σ H Q A.I (A.epN g KeepN.refl .non)
theorem se_str {l : List Nat} {x : Str} {j : Nat} {pos : Pos} (h : x = sS l) : SE X nm W (.Constant (.str x) j pos) fun _ => M.pure (.p (.str l)) :=
  se_mk fun pins s σ H Q ρ st env A g => pe_str.run pins s σ H Q A.I (by rw [h]; exact A.epN g KeepN.refl (.str l))
theorem se_glo {x : Str} {u : Value} {v : V} {p : P} {pos : Pos} (hg : Gl X x) (hm : X.mg x = some u) (r : RelV v u) (hp : ∀ B H, Rp X.K X.w B H v p) (hd : (x == ("__debug__" : Str)) = false) : SE X nm W (.Name x pos) fun _ => M.pure (.p p) :=
  se_mk fun pins s σ H Q ρ st env A g => (pe_glob hg hm r hd).run pins s σ H Q A.I (A.epN g KeepN.refl (hp _ _))
/-! ### operators -/
/-- two values as data -/
def view2 (f : P → P → Option P) (x y : D) : M D := fun s => match view s x, view s y with
  | some p, some q => match f p q with
    | some r => .ok (.p r) s
    | none => .bad
  | _, _ => .bad
theorem view2_ok {f : P → P → Option P} {x y : D} {a b : V} {u v : Value} {Q : VK} {op : Value → Value → Sem Value} (ho : OpR X op (rB X.K X.w f)) (A : At X nm pins σ env ρ st H s) (ra : Rv X.K X.w ρ st.length H a x) (rb : Rv X.K X.w ρ st.length H b y) (qa : RelV a u) (qb : RelV b v)
    (g : Post X.K X.w nm W ρ st.length H σ (view2 f x y st) Q) : wpAny (model X.prog X.w) X.A (op u v) (EP X pins σ Q) X.xe s := by
  unfold view2 at g
  cases hx : TH.view st x with
  | none => rw [hx] at g; exact False.elim g
  | some p =>
    cases hy : TH.view st y with
    | none => rw [hx, hy] at g; exact False.elim g
    | some q =>
      rw [hx, hy] at g
      dsimp only at g
      cases hr : f p q with
      | none => rw [hr] at g; exact False.elim g
      | some r =>
        rw [hr] at g
        exact ho pins s σ H a b u v Q A.I qa qb ⟨live ρ st.length, p, q, r, fun a h => A.sr.not_live_new h, A.sr.view ra hx, A.sr.view rb hy, hr, fun v' H' k r' => A.epN g k r'⟩
theorem se_bin {o : Op2} {a b : Expr} {ma mb : TH.Env → M D} {pos : Pos} (ha : SE X nm W a ma) (hb : SE X nm W b mb) : SE X nm W (.BinOp a (opOf o) b pos) fun env s => (ma env s).bind fun x s => (mb env s).bind fun y => view2 (binP o) x y := by
  refine se_mk fun pins s σ H Q ρ st env A g => wpAny_BinOp (thn (run1 ha A g) fun u s1 ⟨d, st1, ρ1, v, H1, A1, e1, r1, q1, g1⟩ => thn (run1 hb A1 g1) fun u2 s2 ⟨d2, st2, ρ2, v2, H2, A2, e2, r2, q2, g2⟩ => ?_)
  exact view2_ok (opB o) A2 (e2.rv r1) r2 q1 q2 g2
def cmpM (o : Cp) (x y : D) : M D := fun s => match cmpD s o x y with
  | some r => .ok (.p (.bl r)) s
  | none => .bad
theorem cmpM_ok (hu : X.A.units + 64 < cLine) {o : Cp} {x y : D} {a b : V} {u v : Value} {Q : VK} (A : At X nm pins σ env ρ st H s) (ra : Rv X.K X.w ρ st.length H a x) (rb : Rv X.K X.w ρ st.length H b y) (qa : RelV a u) (qb : RelV b v)
    (g : Post X.K X.w nm W ρ st.length H σ (cmpM o x y st) Q) : wpAny (model X.prog X.w) X.A (compareOp (cmpOf o) u v) (EP X pins σ Q) X.xe s := by
  unfold cmpM at g
  cases hr : cmpD st o x y with
  | none => rw [hr] at g; exact False.elim g
  | some r =>
    rw [hr] at g
    exact cmpD_ok hu A.I A.sr ra rb qa qb hr fun H' k => A.epN g k (.bl r)
theorem se_cmp (hu : X.A.units + 64 < cLine) {o : Cp} {a b : Expr} {ma mb : TH.Env → M D} {pos : Pos} (ha : SE X nm W a ma) (hb : SE X nm W b mb) (h1 : behindInMarks (cmpOf o) b = false) :
    SE X nm W (.Compare a [cmpOf o] [b] pos) fun env s => (ma env s).bind fun x s => (mb env s).bind fun y => cmpM o x y := by
  refine se_mk fun pins s σ H Q ρ st env A g => wpAny_Compare1 (thn (run1 ha A g) fun u s1 ⟨d, st1, ρ1, v, H1, A1, e1, r1, q1, g1⟩ => thn (run1 hb A1 g1) fun u2 s2 ⟨d2, st2, ρ2, v2, H2, A2, e2, r2, q2, g2⟩ => ?_) h1
  exact cmpM_ok hu A2 (e2.rv r1) r2 q1 q2 g2
theorem se_neg {a : Expr} {ma : TH.Env → M D} {pos : Pos} (ha : SE X nm W a ma) : SE X nm W (.UnaryOp .USub a pos) fun env s => (ma env s).bind fun x => match x with
    | .p (.int i) => M.pure (.p (.int (-i)))
    | _ => fun _ => .bad := by
  refine se_mk fun pins s σ H Q ρ st env A g => UnaryOp_ (thn (run1 ha A g) fun u s1 ⟨d, st1, ρ1, v, H1, A1, e1, r1, q1, g1⟩ => ?_)
  cases r1 with
  | p r1 => cases r1 with
    | int i => exact un_neg pins s1 σ H1 _ u Q A1.I q1 ⟨i, rfl, A1.epN g1 KeepN.refl (.int _)⟩
    | _ => exact False.elim g1
  | _ => exact False.elim g1
/-! ### truth -/
theorem truthM_ok {x : D} {a : V} {u : Value} {Q : Bool → Hp → Prop} (A : At X nm pins σ env ρ st H s) (ra : Rv X.K X.w ρ st.length H a x) (qa : RelV a u) (g : PostT X.K X.w nm W ρ st.length H σ (truthM x st) Q) :
    wpAny (model X.prog X.w) X.A (truthy u) (TP X pins σ Q) X.xe s := by
  unfold truthM at g
  cases hr : truth st x with
  | none => rw [hr] at g; exact False.elim g
  | some r =>
    rw [hr] at g
    exact tru_ok pins s σ H a u Q A.I qa ⟨r, truth_ok A.sr ra hr, Got.here g A.sr⟩
/-- the truth of a value, then on -/
theorem truth_on {x : D} {a : V} {u : Value} {f : Bool → M β} (A : At X nm pins σ env ρ st H s) (ra : Rv X.K X.w ρ st.length H a x) (qa : RelV a u) (g : Got X.K X.w nm W ρ st.length H σ ((truthM x st).bind f) κ) :
    wpAny (model X.prog X.w) X.A (truthy u) (fun b s1 => At X nm pins σ env ρ st H s1 ∧ Got X.K X.w nm W ρ st.length H σ (f b st) κ) X.xe s := by
  unfold truthM at g
  cases hr : truth st x with
  | none => rw [hr] at g; exact False.elim g
  | some r =>
    rw [hr] at g
    exact thn (tru_ok pins s σ H a u (fun b H' => b = r ∧ H' = H) A.I qa ⟨r, truth_ok A.sr ra hr, rfl, rfl⟩) fun b s1 ⟨H1, I1, e1, e2⟩ => by
      subst e1 e2
      exact ⟨⟨I1, A.er, A.sr⟩, g⟩
theorem st_val {a : Expr} {ma : TH.Env → M D} (ha : SE X nm W a ma) (he : ∀ whole, PySem.isTrue a X.env whole = (do let v ← whole; standAt a.pos; holding [v] (truthy v))) : ST X nm W a fun env s => (ma env s).bind truthM := by
  refine st_mk fun pins s σ H Q ρ st env A g => isTrue_plain (thn (run1 ha A g) fun u s1 ⟨d, st1, ρ1, v, H1, A1, e1, r1, q1, g1⟩ => ?_) (he _)
  exact truthM_ok A1 r1 q1 g1
theorem se_not {a : Expr} {ma : TH.Env → M D} {pos : Pos} (ha : SE X nm W a ma) : SE X nm W (.UnaryOp .Not a pos) fun env s => (ma env s).bind fun x s => (truthM x s).bind fun b => M.pure (.p (.bl (!b))) := by
  refine se_mk fun pins s σ H Q ρ st env A g => UnaryOp_ (thn (run1 ha A g) fun u s1 ⟨d, st1, ρ1, v, H1, A1, e1, r1, q1, g1⟩ => not_of (thn (truth_on A1 r1 q1 g1) fun b s2 ⟨A2, g2⟩ => ?_))
  exact ⟨.bl (!b), H1, A2.I, rfl, A2.epN g2 KeepN.refl (.bl _)⟩
theorem se_and {a b : Expr} {rest : List Expr} {ma mb : TH.Env → M D} {pos : Pos} (ha : SE X nm W a ma) (hb : SE X nm W (.BoolOp .And (b :: rest) pos) mb) :
    SE X nm W (.BoolOp .And (a :: b :: rest) pos) fun env s => (ma env s).bind fun x s => (truthM x s).bind fun t => if t then mb env else M.pure x := by
  refine se_mk fun pins s σ H Q ρ st env A g => BoolOp_and (thn (run1 ha A g) fun u s1 ⟨d, st1, ρ1, v, H1, A1, e1, r1, q1, g1⟩ => thn (truth_on A1 r1 q1 g1) fun b s2 ⟨A2, g2⟩ => ?_)
  cases b with
  | true => exact hb.run pins s2 σ H1 Q A2.I ⟨ρ1, st1, env, A2.er, A2.sr, g2⟩
  | false => exact A2.ep g2 r1 q1
theorem se_or {a b : Expr} {rest : List Expr} {ma mb : TH.Env → M D} {pos : Pos} (ha : SE X nm W a ma) (hb : SE X nm W (.BoolOp .Or (b :: rest) pos) mb) :
    SE X nm W (.BoolOp .Or (a :: b :: rest) pos) fun env s => (ma env s).bind fun x s => (truthM x s).bind fun t => if t then M.pure x else mb env := by
  refine se_mk fun pins s σ H Q ρ st env A g => BoolOp_or (thn (run1 ha A g) fun u s1 ⟨d, st1, ρ1, v, H1, A1, e1, r1, q1, g1⟩ => thn (truth_on A1 r1 q1 g1) fun b s2 ⟨A2, g2⟩ => ?_)
  cases b with
  | false => exact hb.run pins s2 σ H1 Q A2.I ⟨ρ1, st1, env, A2.er, A2.sr, g2⟩
  | true => exact A2.ep g2 r1 q1
theorem se_one {op : BoolOp} {a : Expr} {ma : TH.Env → M D} {pos : Pos} (ha : SE X nm W a ma) : SE X nm W (.BoolOp op [a] pos) ma := pe_one ha
theorem se_ite {c a b : Expr} {mc : TH.Env → M Bool} {ma mb : TH.Env → M D} {pos : Pos} (hc : ST X nm W c mc) (ha : SE X nm W a ma) (hb : SE X nm W b mb) :
    SE X nm W (.IfExp c a b pos) fun env s => (mc env s).bind fun t => if t then ma env else mb env := by
  refine se_mk fun pins s σ H Q ρ st env A g => wpAny_IfExp (thn (run1T hc A g) fun t s1 ⟨st1, ρ1, H1, A1, e1, g1⟩ => ?_)
  cases t with
  | true => exact ha.run pins s1 σ H1 Q A1.I ⟨ρ1, st1, env, A1.er, A1.sr, g1⟩
  | false => exact hb.run pins s1 σ H1 Q A1.I ⟨ρ1, st1, env, A1.er, A1.sr, g1⟩
end
end TH
end T_TJ1
section T_TJ2
set_option Elab.async false
set_option linter.all false
set_option maxRecDepth 100000
/-! Tests, chains, displays, items, slices, fields. -/
namespace TH
open PySem PySem.Spec PyProof.Rows L2
section
variable {X : Cx} {nm : Names} {W : WX} {pins : List (Addr × Obj)} {σ : L2.St} {env : TH.Env} {ρ : Nat → Addr} {st : Sto} {H : Hp} {s : Shared}
variable {β : Type} {κ : β → Sto → (Nat → Addr) → Hp → Prop}
abbrev tM (m : TH.Env → M D) : TH.Env → M Bool := fun env s => (m env s).bind truthM
@[simp] theorem truthM_bl (b : Bool) (s : Sto) : truthM (.p (.bl b)) s = .ok b s := rfl
theorem R.bind_assoc {α β γ : Type} (r : R α) (f : α → M β) (g : β → M γ) : (r.bind f).bind g = r.bind fun a s => (f a s).bind g := by
  cases r <;> rfl
theorem truthM_twice (x : D) (s : Sto) (t : Bool) (h : truthM x s = .ok t s') : truthM x s' = .ok t s' := by
  unfold truthM at h ⊢
  cases hr : truth s x with
  | none => rw [hr] at h; cases h
  | some r => rw [hr] at h; cases h; rw [hr]
theorem and_test (r : R D) (m2 : M D) : (r.bind fun x s => (truthM x s).bind fun t => if t then m2 else M.pure x).bind truthM = (r.bind truthM).bind fun t => if t then (fun s => (m2 s).bind truthM) else M.pure false := by
  rw [R.bind_assoc, R.bind_assoc]
  cases r with
  | bad => rfl
  | exc _ _ => rfl
  | ok x s =>
    simp only [R.bind_ok]
    cases h : truthM x s with
    | bad => rfl
    | exc _ _ => rfl
    | ok t s' =>
      have h2 := truthM_twice x s t h
      cases t with
      | true => rfl
      | false => exact h2
theorem or_test (r : R D) (m2 : M D) : (r.bind fun x s => (truthM x s).bind fun t => if t then M.pure x else m2).bind truthM = (r.bind truthM).bind fun t => if t then M.pure true else (fun s => (m2 s).bind truthM) := by
  rw [R.bind_assoc, R.bind_assoc]
  cases r with
  | bad => rfl
  | exc _ _ => rfl
  | ok x s =>
    simp only [R.bind_ok]
    cases h : truthM x s with
    | bad => rfl
    | exc _ _ => rfl
    | ok t s' =>
      have h2 := truthM_twice x s t h
      cases t with
      | false => rfl
      | true => exact h2
theorem not_test (r : R D) : (r.bind fun x s => (truthM x s).bind fun b => M.pure (D.p (.bl (!b)))).bind truthM = (r.bind truthM).bind fun t => M.pure (!t) := by
  rw [R.bind_assoc, R.bind_assoc]
  cases r with
  | bad => rfl
  | exc _ _ => rfl
  | ok x s =>
    simp only [R.bind_ok]
    cases h : truthM x s <;> rfl
theorem ite_test (r : R Bool) (m1 m2 : M D) : (r.bind fun t => if t then m1 else m2).bind truthM = r.bind fun t => if t then (fun s => (m1 s).bind truthM) else (fun s => (m2 s).bind truthM) := by
  rw [R.bind_assoc]
  cases r with
  | bad => rfl
  | exc _ _ => rfl
  | ok t s => cases t <;> rfl
theorem st_not {a : Expr} {ma : TH.Env → M D} {pos : Pos} (ha : ST X nm W a (tM ma)) : ST X nm W (.UnaryOp .Not a pos) (tM fun env s => (ma env s).bind fun x s => (truthM x s).bind fun b => M.pure (.p (.bl (!b)))) := by
  refine st_mk fun pins s σ H Q ρ st env A g => isTrue_not (thn (run1T (f := fun t => M.pure (!t)) ha A (κ := fun b st' ρ' H' => Q b H') ?_) fun b s1 ⟨st1, ρ1, H1, A1, e1, g1⟩ => ⟨H1, A1.I, Got.here g1 A1.sr⟩)
  have e := not_test (ma env st)
  rw [show tM ma env st = (ma env st).bind truthM from rfl, ← e]
  exact g
theorem st_and {a b : Expr} {rest : List Expr} {ma mb : TH.Env → M D} {pos : Pos} (ha : ST X nm W a (tM ma)) (hb : ST X nm W (.BoolOp .And (b :: rest) pos) (tM mb)) :
    ST X nm W (.BoolOp .And (a :: b :: rest) pos) (tM fun env s => (ma env s).bind fun x s => (truthM x s).bind fun t => if t then mb env else M.pure x) := by
  refine st_mk fun pins s σ H Q ρ st env A g => isTrue_and (thn (run1T (f := fun t => if t then (fun s => (mb env s).bind truthM) else M.pure false) ha A (κ := fun b st' ρ' H' => Q b H') ?_) fun t s1 ⟨st1, ρ1, H1, A1, e1, g1⟩ => ?_)
  · have e := and_test (ma env st) (mb env)
    rw [show tM ma env st = (ma env st).bind truthM from rfl, ← e]
    exact g
  · cases t with
    | true => exact hb.run pins s1 σ H1 Q A1.I ⟨ρ1, st1, env, A1.er, A1.sr, g1⟩
    | false => exact ⟨H1, A1.I, Got.here g1 A1.sr⟩
theorem st_or {a b : Expr} {rest : List Expr} {ma mb : TH.Env → M D} {pos : Pos} (ha : ST X nm W a (tM ma)) (hb : ST X nm W (.BoolOp .Or (b :: rest) pos) (tM mb)) :
    ST X nm W (.BoolOp .Or (a :: b :: rest) pos) (tM fun env s => (ma env s).bind fun x s => (truthM x s).bind fun t => if t then M.pure x else mb env) := by
  refine st_mk fun pins s σ H Q ρ st env A g => isTrue_or (thn (run1T (f := fun t => if t then M.pure true else (fun s => (mb env s).bind truthM)) ha A (κ := fun b st' ρ' H' => Q b H') ?_) fun t s1 ⟨st1, ρ1, H1, A1, e1, g1⟩ => ?_)
  · have e := or_test (ma env st) (mb env)
    rw [show tM ma env st = (ma env st).bind truthM from rfl, ← e]
    exact g
  · cases t with
    | false => exact hb.run pins s1 σ H1 Q A1.I ⟨ρ1, st1, env, A1.er, A1.sr, g1⟩
    | true => exact ⟨H1, A1.I, Got.here g1 A1.sr⟩
theorem st_andN {a : Expr} {ma : TH.Env → M D} {pos : Pos} (ha : ST X nm W a (tM ma)) : ST X nm W (.BoolOp .And [a] pos) (tM ma) := (pw_and1 ha).pt
theorem st_orN {a : Expr} {ma : TH.Env → M D} {pos : Pos} (ha : ST X nm W a (tM ma)) : ST X nm W (.BoolOp .Or [a] pos) (tM ma) := (pw_or1 ha).pt
theorem st_ite {c a b : Expr} {mc : TH.Env → M Bool} {ma mb : TH.Env → M D} {pos : Pos} (hc : ST X nm W c mc) (ha : ST X nm W a (tM ma)) (hb : ST X nm W b (tM mb)) :
    ST X nm W (.IfExp c a b pos) (tM fun env s => (mc env s).bind fun t => if t then ma env else mb env) := by
  refine st_mk fun pins s σ H Q ρ st env A g => isTrue_IfExp (thn (run1T (f := fun t => if t then (fun s => (ma env s).bind truthM) else (fun s => (mb env s).bind truthM)) hc A (κ := fun b st' ρ' H' => Q b H') ?_) fun t s1 ⟨st1, ρ1, H1, A1, e1, g1⟩ => ?_)
  · rw [← ite_test]
    exact g
  · cases t with
    | true => exact ha.run pins s1 σ H1 Q A1.I ⟨ρ1, st1, env, A1.er, A1.sr, g1⟩
    | false => exact hb.run pins s1 σ H1 Q A1.I ⟨ρ1, st1, env, A1.er, A1.sr, g1⟩
/-- a comparison's value is a bool -/
theorem cmp_on (hu : X.A.units + 64 < cLine) {o : Cp} {x y : D} {a b : V} {u v : Value} {f : D → M β} (A : At X nm pins σ env ρ st H s) (ra : Rv X.K X.w ρ st.length H a x) (rb : Rv X.K X.w ρ st.length H b y) (qa : RelV a u) (qb : RelV b v)
    (g : Got X.K X.w nm W ρ st.length H σ ((cmpM o x y st).bind f) κ) : wpAny (model X.prog X.w) X.A (compareOp (cmpOf o) u v) (fun c s1 => ∃ (r : Bool) (H1 : Hp), cmpD st o x y = some r ∧ c = .bool r ∧ KeepN H H1 ∧ At X nm pins σ env ρ st H1 s1 ∧ Got X.K X.w nm W ρ st.length H1 σ (f (.p (.bl r)) st) κ) X.xe s := by
  unfold cmpM at g
  cases hr : cmpD st o x y with
  | none => rw [hr] at g; exact False.elim g
  | some r =>
    rw [hr] at g
    refine thn (cmpD_ok (Q := fun z H' => z = .bl r ∧ KeepN H H') hu A.I A.sr ra rb qa qb hr fun H' k => ⟨rfl, k⟩) fun c s1 ⟨z, H1, I1, rz, ez, k⟩ => ?_
    subst ez
    cases rz
    refine ⟨r, H1, rfl, rfl, k, A.go I1 (Ext.more k) (A.sr.more k), ?_⟩
    have g' : Got X.K X.w nm W ρ st.length H σ (f (.p (.bl r)) st) κ := g
    cases hf : f (.p (.bl r)) st with
    | bad => rw [hf] at g'; exact g'
    | exc x st2 =>
      rw [hf] at g'
      exact fun ρ2 H2 cls dd e2 s2 x2 => g' ρ2 H2 cls dd ((Ext.more k).trans e2) s2 x2
    | ok b st2 =>
      rw [hf] at g'
      exact fun ρ2 H2 e2 s2 => g' ρ2 H2 ((Ext.more k).trans e2) s2
theorem st_cmp (hu : X.A.units + 64 < cLine) {o : Cp} {a b : Expr} {ma mb : TH.Env → M D} {pos : Pos} (ha : SE X nm W a ma) (hb : SE X nm W b mb) (h1 : behindInMarks (cmpOf o) b = false) :
    ST X nm W (.Compare a [cmpOf o] [b] pos) (tM fun env s => (ma env s).bind fun x s => (mb env s).bind fun y => cmpM o x y) := by
  refine st_mk fun pins s σ H Q ρ st env A g => ?_
  have g' : Got X.K X.w nm W ρ st.length H σ ((ma env st).bind fun x s => (mb env s).bind fun y s => (cmpM o x y s).bind truthM) (fun b st' ρ' H' => Q b H') := by
    have := g
    unfold PostT tM at this
    rw [R.bind_assoc] at this
    have e : (fun a s => R.bind ((mb env s).bind fun y => cmpM o a y) truthM) = (fun x s => (mb env s).bind fun y s => (cmpM o x y s).bind truthM) := by
      funext x s
      rw [R.bind_assoc]
    rw [e] at this
    exact this
  refine wpAny_isTrue_Compare1 (thn (run1 ha A g') fun u s1 ⟨d, st1, ρ1, v, H1, A1, e1, r1, q1, g1⟩ => thn (run1 hb A1 g1) fun u2 s2 ⟨d2, st2, ρ2, v2, H2, A2, e2, r2, q2, g2⟩ => ?_) h1
  refine thn (cmp_on hu A2 (e2.rv r1) r2 q1 q2 g2) fun c s3 ⟨r, H3, _, ec, k, A3, g3⟩ => ?_
  subst ec
  exact wpAny_truthy_bool ⟨H3, A3.I, Got.here (a := r) g3 A3.sr⟩
/-- a < b < c -/
def chnM (o o' : Cp) (x y : D) (mc : M D) : M D := fun s => match cmpD s o x y with
  | some true => (mc s).bind fun z => cmpM o' y z
  | some false => .ok (.p (.bl false)) s
  | none => .bad
theorem chn_eq (o o' : Cp) (x y : D) (mc : M D) (s : Sto) : chnM o o' x y mc s = (cmpM o x y s).bind fun t => if t = .p (.bl true) then (fun s => (mc s).bind fun z => cmpM o' y z) else M.pure (.p (.bl false)) := by
  unfold chnM cmpM
  cases cmpD s o x y with
  | none => rfl
  | some r => cases r <;> simp
theorem chn_eqT (o o' : Cp) (x y : D) (mc : M D) (s : Sto) : (chnM o o' x y mc s).bind truthM = (cmpM o x y s).bind fun t => if t = .p (.bl true) then (fun s => (mc s).bind fun z s => (cmpM o' y z s).bind truthM) else M.pure false := by
  rw [chn_eq, R.bind_assoc]
  congr 1
  funext t s
  by_cases h : t = .p (.bl true)
  · simp only [h, if_true]; rw [R.bind_assoc]
  · simp only [h, if_false]; rfl
theorem se_chn (hu : X.A.units + 64 < cLine) {o o' : Cp} {a b c : Expr} {ma mb mc : TH.Env → M D} {pos : Pos} (ha : SE X nm W a ma) (hb : SE X nm W b mb) (hc : SE X nm W c mc) (hm : lastMarks [cmpOf o, cmpOf o'] [b, c] = false) :
    SE X nm W (.Compare a [cmpOf o, cmpOf o'] [b, c] pos) fun env s => (ma env s).bind fun x s => (mb env s).bind fun y => chnM o o' x y (mc env) := by
  refine se_mk fun pins s σ H Q ρ st env A g => Compare_chain (thn (run1 ha A g) fun u s1 ⟨d, st1, ρ1, v, H1, A1, e1, r1, q1, g1⟩ => chain_link (thn (run1 hb A1 g1) fun u2 s2 ⟨d2, st2, ρ2, v2, H2, A2, e2, r2, q2, g2⟩ => ?_)) hm
  have g3 : Got X.K X.w nm W ρ2 st2.length H2 σ (chnM o o' d d2 (mc env) st2) (fun d st' ρ' H' => ∀ v, Rv X.K X.w ρ' st'.length H' v d → Q v H') := g2
  rw [chn_eq] at g3
  refine thn (cmp_on hu A2 (e2.rv r1) r2 q1 q2 g3) fun c' s3 ⟨r', H3, er, ec, k, A3, g4⟩ => ?_
  subst ec
  refine wpAny_truthy_bool ?_
  cases r' with
  | false =>
    rw [if_neg (by simp)] at g4
    exact ite_ff ⟨.bl false, H3, A3.I, rfl, A3.epN g4 KeepN.refl (.bl _)⟩
  | true =>
    rw [if_pos rfl] at g4
    refine ite_tt (chain_last (thn (run1 (f := fun z => cmpM o' d2 z) hc A3 g4) fun u4 s4 ⟨d4, st4, ρ4, v4, H4, A4, e4, r4, q4, g5⟩ => ?_))
    exact cmpM_ok hu A4 (e4.rv ((Ext.more k).rv r2)) r4 q2 q4 g5
theorem st_chn (hu : X.A.units + 64 < cLine) {o o' : Cp} {a b c : Expr} {ma mb mc : TH.Env → M D} {pos : Pos} (ha : SE X nm W a ma) (hb : SE X nm W b mb) (hc : SE X nm W c mc) (hm : lastMarks [cmpOf o, cmpOf o'] [b, c] = false) :
    ST X nm W (.Compare a [cmpOf o, cmpOf o'] [b, c] pos) (tM fun env s => (ma env s).bind fun x s => (mb env s).bind fun y => chnM o o' x y (mc env)) := by
  refine st_mk fun pins s σ H Q ρ st env A g => ?_
  have g' : Got X.K X.w nm W ρ st.length H σ ((ma env st).bind fun x s => (mb env s).bind fun y s => (chnM o o' x y (mc env) s).bind truthM) (fun b st' ρ' H' => Q b H') := by
    have := g
    unfold PostT tM at this
    rw [R.bind_assoc] at this
    have e : (fun a s => R.bind ((mb env s).bind fun y => chnM o o' a y (mc env)) truthM) = (fun x s => (mb env s).bind fun y s => (chnM o o' x y (mc env) s).bind truthM) := by
      funext x s
      rw [R.bind_assoc]
    rw [e] at this
    exact this
  refine isTrue_chain (thn (run1 ha A g') fun u s1 ⟨d, st1, ρ1, v, H1, A1, e1, r1, q1, g1⟩ => test_link (thn (run1 hb A1 g1) fun u2 s2 ⟨d2, st2, ρ2, v2, H2, A2, e2, r2, q2, g2⟩ => ?_)) hm
  have g3 : Got X.K X.w nm W ρ2 st2.length H2 σ ((chnM o o' d d2 (mc env) st2).bind truthM) (fun b st' ρ' H' => Q b H') := g2
  rw [chn_eqT] at g3
  refine thn (cmp_on hu A2 (e2.rv r1) r2 q1 q2 g3) fun c' s3 ⟨r', H3, er, ec, k, A3, g4⟩ => ?_
  subst ec
  refine wpAny_truthy_bool ?_
  cases r' with
  | false =>
    rw [if_neg (by simp)] at g4
    exact ite_ff ⟨H3, A3.I, Got.here (a := false) g4 A3.sr⟩
  | true =>
    rw [if_pos rfl] at g4
    refine ite_tt (test_last (thn (run1 (f := fun z s => (cmpM o' d2 z s).bind truthM) hc A3 g4) fun u4 s4 ⟨d4, st4, ρ4, v4, H4, A4, e4, r4, q4, g5⟩ => ?_))
    refine thn (cmp_on hu A4 (e4.rv ((Ext.more k).rv r2)) r4 q2 q4 g5) fun c5 s5 ⟨r5, H5, _, ec5, _, A5, g6⟩ => ?_
    subst ec5
    exact wpAny_truthy_bool ⟨H5, A5.I, Got.here (a := r5) g6 A5.sr⟩
end
end TH
end T_TJ2
section T_TJ3
set_option Elab.async false
set_option linter.all false
set_option maxRecDepth 100000
namespace TH
open PySem PySem.Spec PyProof.Rows L2
section
variable {X : Cx} {nm : Names} {W : WX} {pins : List (Addr × Obj)} {σ : L2.St} {env : TH.Env} {ρ : Nat → Addr} {st : Sto} {H : Hp} {s : Shared}
variable {β : Type} {κ : β → Sto → (Nat → Addr) → Hp → Prop}
/-! ### the forms of the text -/
def notStar : Expr → Bool
  | .Starred _ _ => false
  | _ => true
theorem star_cons {e : Expr} {es : List Expr} {en : PySem.Env} (h : notStar e = true) : starEach (e :: es) en = (false, eval e en) :: starEach es en := by
  cases e <;> first | rfl | cases h
def noStar (es : List Expr) : Bool := es.all notStar
theorem noStar_any {es : List Expr} {en : PySem.Env} {pos : Pos} (h : noStar es = true) : (backTo pos (starEach es en)).any (·.1) = false := by
  induction es with
  | nil => rfl
  | cons e es ih =>
    simp only [noStar, List.all_cons, Bool.and_eq_true] at h
    rw [star_cons h.1]
    have := ih h.2
    unfold backTo at this ⊢
    simpa using this
def notSuper : Expr → Bool
  | .Call (.Name id _) [] [] _ => id != "super"
  | _ => true
theorem attr_plain {o : Expr} {f : Str} {en : PySem.Env} {whole : Sem Value} (h : notSuper o = true) : attributeBase o f en whole = whole := by
  unfold attributeBase
  split
  · rename_i id _ _
    have hid : (id != "super") = true := h
    simp only [hid, Bool.true_or, if_true]
    first | done | rfl
  · rfl
def notSlice : Expr → Bool
  | .Slice _ _ _ _ => false
  | _ => true
theorem plain_ix {slice : Expr} {u v : Value} (h : notSlice slice = true) : subscripted slice false u v = operate [u, v] (getItem u v) := by
  cases slice <;> first | rfl | cases h
/-! ### argument lists -/
theorem At.ap {vs : List V} {us : List Value} {ds : List D} {Q : List V → Hp → Prop} (A : At X nm pins σ env ρ st H s) (g : PostL X.K X.w nm W ρ st.length H σ (.ok ds st) Q) (rv : RvL X.K X.w ρ st.length H vs ds) (ru : Vals vs us) : AP X pins σ Q us s := ⟨vs, H, A.I, ru, Got.here g A.sr vs rv⟩
theorem sl_nil : SL X nm W [] fun _ => M.pure [] := sl_mk fun pos pins s σ H Q ρ st env A g => Calls.spliced_nil (A.ap g .nil .nil)
theorem sl_cons {e : Expr} {es : List Expr} {m : TH.Env → M D} {ms : TH.Env → M (List D)} (he : SE X nm W e m) (hs : SL X nm W es ms) (hn : notStar e = true) :
    SL X nm W (e :: es) fun env s => (m env s).bind fun d s => (ms env s).bind fun ds => M.pure (d :: ds) := by
  refine sl_mk fun pos pins s σ H Q ρ st env A g => ?_
  rw [star_cons hn]
  refine Calls.spliced_cons (thn (run1 he A g) fun u s1 ⟨d, st1, ρ1, v, H1, A1, e1, r1, q1, g1⟩ => thn (runL pos hs A1 g1) fun us s2 ⟨ds, st2, ρ2, vs, H2, A2, e2, r2, q2, g2⟩ => ?_)
  exact A2.ap g2 (.cons (e2.rv r1) r2) (.cons q1 q2)
/-! ### displays -/
theorem tup_new {p : Addr} {vs : List V} {ds : List D} (S : StR X.K X.w nm ρ st H) (hp : H p = none) (r : RvL X.K X.w ρ st.length H vs ds) : Rv X.K X.w ρ st.length (upd H p (.tup vs)) (.ref p) (mkTup ds) := by
  have x := Ext.laid (o := .tup vs) S hp
  have nl : ¬ live ρ st.length p := S.not_live_new hp
  unfold mkTup
  cases hq : pall ds with
  | none => exact .tup (.inl upd_same) nl (x.rvL r)
  | some xs =>
    rw [pall_eq hq] at r
    exact .p (.tup (.inl upd_same) nl (x.rpL r.to_rp))
theorem se_tup {es : List Expr} {ms : TH.Env → M (List D)} {x1 : Nat} {pos : Pos} (hs : SL X nm W es ms) (hl : ∀ env s ds s', ms env s = .ok ds s' → ds.length ≤ sizeLine) : SE X nm W (.Tuple es x1 pos) fun env s => (ms env s).bind fun ds => M.pure (mkTup ds) := by
  refine ⟨fun pins s σ H Q I ⟨ρ, st, env, er, sr, g⟩ => (pe_tup (X := X) (x1 := x1) (pos := pos) hs).run pins s σ H Q I ⟨ρ, st, env, er, sr, ?_⟩⟩
  refine Got.bind g fun ds st1 ρ1 H1 hq e1 s1 g1 vs rv => ⟨by rw [rv.length]; exact hl _ _ _ _ hq, fun p hp => ?_⟩
  exact g1 ρ1 _ (Ext.laid s1 hp) (s1.laid hp) _ (tup_new s1 hp rv)
theorem lcEnd_ok {m : Bool} {vs : List V} {ds : List D} {p : Addr} {Q : VK} (S : StR X.K X.w nm ρ st H) (r : RvL X.K X.w ρ st.length H vs ds) (g : Post X.K X.w nm W ρ st.length H σ (lcEnd m ds st) Q) (hp : H p = none) : Q (.ref p) (upd H p (.lst vs)) := by
  cases m with
  | true =>
    have x := Ext.push (o := .lst vs) S hp
    have r2 : RvL X.K X.w (setρ ρ st.length p) (st.length + 1) (upd H p (.lst vs)) vs ds := x.rvL r
    have hpush := S.push (c := .lst ds) hp ⟨vs, upd_same, r2⟩
    refine g (setρ ρ st.length p) _ ?_ hpush (.ref p) ?_
    · rw [List.length_append]; exact x
    · rw [List.length_append]; exact Rv.newRef
  | false =>
    unfold lcEnd at g
    dsimp only at g
    cases hq : pall ds with
    | none => rw [hq] at g; exact False.elim g
    | some xs =>
      rw [hq] at g
      rw [pall_eq hq] at r
      exact Got.more g S (KeepN.upd hp) _ (.p (Rp.newL (fun a h => S.not_live_new h) hp r.to_rp))
theorem se_lst {m : Bool} {es : List Expr} {ms : TH.Env → M (List D)} {pos : Pos} (hs : SL X nm W es ms) (hl : ∀ env s ds s', ms env s = .ok ds s' → ds.length ≤ sizeLine) : SE X nm W (.List es pos) fun env s => (ms env s).bind fun ds => lcEnd m ds := by
  refine ⟨fun pins s σ H Q I ⟨ρ, st, env, er, sr, g⟩ => (pe_lst (X := X) (pos := pos) hs).run pins s σ H Q I ⟨ρ, st, env, er, sr, ?_⟩⟩
  refine Got.bind g fun ds st1 ρ1 H1 hq e1 s1 g1 vs rv => ⟨by rw [rv.length]; exact hl _ _ _ _ hq, fun p hp => lcEnd_ok s1 rv g1 hp⟩
/-- a list put together -/
def addlM (m : Bool) (x y : D) : M D := fun s => match view s x, view s y with
  | some p, some q => match binP .add p q with
    | some r => fin m r s
    | none => .bad
  | _, _ => .bad
theorem se_addl {m : Bool} {a b : Expr} {ma mb : TH.Env → M D} {pos : Pos} (ha : SE X nm W a ma) (hb : SE X nm W b mb) : SE X nm W (.BinOp a .Add b pos) fun env s => (ma env s).bind fun x s => (mb env s).bind fun y => addlM m x y := by
  refine se_mk fun pins s σ H Q ρ st env A g => wpAny_BinOp (thn (run1 ha A g) fun u s1 ⟨d, st1, ρ1, v, H1, A1, e1, r1, q1, g1⟩ => thn (run1 hb A1 g1) fun u2 s2 ⟨d2, st2, ρ2, v2, H2, A2, e2, r2, q2, g2⟩ => ?_)
  have g3 : Post X.K X.w nm W ρ2 st2.length H2 σ (addlM m d d2 st2) Q := g2
  cases m with
  | false =>
    refine view2_ok (nm := nm) (W := W) (opB .add) A2 (e2.rv r1) r2 q1 q2 ?_
    have : addlM false d d2 = view2 (binP .add) d d2 := by
      funext s
      unfold addlM view2
      cases TH.view s d with
      | none => rfl
      | some p =>
        cases TH.view s d2 with
        | none => rfl
        | some q => dsimp only; cases binP .add p q <;> rfl
    rw [← this]
    exact g3
  | true =>
    unfold addlM at g3
    cases hx : TH.view st2 d with
    | none => rw [hx] at g3; exact False.elim g3
    | some p =>
      cases hy : TH.view st2 d2 with
      | none => rw [hx, hy] at g3; exact False.elim g3
      | some q =>
        rw [hx, hy] at g3
        dsimp only at g3
        cases hr : binP .add p q with
        | none => rw [hr] at g3; exact False.elim g3
        | some r =>
          rw [hr] at g3
          dsimp only at g3
          cases r with
          | lst rs =>
            have vx := A2.sr.view (e2.rv r1) hx
            have vy := A2.sr.view r2 hy
            cases p with
            | lst pa => cases q with
              | lst pb =>
                obtain ⟨hl, er⟩ := of_ite hr
                cases er
                obtain ⟨aa, vs, rfl, h1, r1'⟩ := vx.list
                obtain ⟨bb, us, rfl, h2, r2'⟩ := vy.list
                refine op_cat pins s2 σ H2 _ _ _ _ Q A2.I q1 q2 ⟨aa, bb, vs, us, rfl, rfl, h1, h2, by rw [r1'.length, r2'.length, line_eq]; exact hl, fun p hp => ?_⟩
                have x := Ext.push (o := .lst (vs ++ us)) A2.sr hp
                have rr : RvL X.K X.w (setρ ρ2 st2.length p) (st2.length + 1) (upd H2 p (.lst (vs ++ us))) (vs ++ us) ((pa ++ pb).map D.p) := x.rvL (RvL.of_rp (r1'.append r2'))
                have hpush := A2.sr.push (c := .lst ((pa ++ pb).map D.p)) hp ⟨_, upd_same, rr⟩
                refine g3 (setρ ρ2 st2.length p) _ ?_ hpush (.ref p) ?_
                · rw [List.length_append]; exact x
                · rw [List.length_append]; exact Rv.newRef
              | _ => cases hr
            | int _ => cases q <;> cases hr
            | str _ => cases q <;> first | cases hr | (obtain ⟨_, er⟩ := of_ite hr; cases er)
            | tup _ => cases q <;> first | cases hr | (obtain ⟨_, er⟩ := of_ite hr; cases er)
            | _ => cases q <;> cases hr
          | _ => exact False.elim g3
/-! ### items, slices, fields -/
def idxM (x y : D) : M D := fun s => match idxD s x y with
  | some d => .ok d s
  | none => .bad
theorem se_idx {a b : Expr} {ma mb : TH.Env → M D} {pos : Pos} (ha : SE X nm W a ma) (hb : SE X nm W b mb) (hn : notSlice b = true) : SE X nm W (.Subscript a b pos) fun env s => (ma env s).bind fun x s => (mb env s).bind fun y => idxM x y := by
  refine se_mk fun pins s σ H Q ρ st env A g => Subscript_ (thn (run1 ha A g) fun u s1 ⟨d, st1, ρ1, v, H1, A1, e1, r1, q1, g1⟩ => thn (run1 hb A1 g1) fun u2 s2 ⟨d2, st2, ρ2, v2, H2, A2, e2, r2, q2, g2⟩ => ?_)
  have g3 : Post X.K X.w nm W ρ2 st2.length H2 σ (idxM d d2 st2) Q := g2
  unfold idxM at g3
  cases hi : idxD st2 d d2 with
  | none => rw [hi] at g3; exact False.elim g3
  | some z =>
    rw [hi] at g3
    exact idx_ok A2.I A2.sr (e2.rv r1) r2 q1 q2 hi (plain_ix hn) fun v' rv => Got.here g3 A2.sr v' rv
/-- a bound of a slice -/
def intM (d : D) : M (Option Int) := match d with
  | .p (.int i) => M.pure (some i)
  | _ => fun _ => .bad
def SO (X : Cx) (nm : Names) (W : WX) (e : Option Expr) (m : TH.Env → M (Option Int)) : Prop := ∀ (pins : List (Addr × Obj)) (s : Shared) (σ : L2.St) (H : Hp) (ρ : Nat → Addr) (st : Sto) (env : TH.Env) (β : Type) (f : Option Int → M β) (κ : β → Sto → (Nat → Addr) → Hp → Prop), At X nm pins σ env ρ st H s → Got X.K X.w nm W ρ st.length H σ ((m env st).bind f) κ →
  wpAny (model X.prog X.w) X.A (evalPart e X.env) (fun u s1 => ∃ o st1 ρ1 H1, IsPart u o ∧ At X nm pins σ env ρ1 st1 H1 s1 ∧ Ext ρ st.length H ρ1 st1.length H1 ∧ Got X.K X.w nm W ρ1 st1.length H1 σ (f o st1) κ) X.xe s
theorem so_none : SO X nm W none fun _ => M.pure none := fun pins s σ H ρ st env β f κ A g => by
  rw [evalPart_none]
  exact wpAny_pure ⟨none, st, ρ, H, .none, A, Ext.refl, g⟩
theorem so_some {e : Expr} {m : TH.Env → M D} (h : SE X nm W e m) : SO X nm W (some e) fun env s => (m env s).bind intM := fun pins s σ H ρ st env β f κ A g => by
  rw [evalPart_some]
  rw [R.bind_assoc] at g
  refine thn (run1 h A g) fun u s1 ⟨d, st1, ρ1, v, H1, A1, e1, r1, q1, g1⟩ => ?_
  cases r1 with
  | p r1 =>
    cases r1 with
    | int i =>
      obtain ⟨t, rfl⟩ := q1
      exact ⟨some i, st1, ρ1, H1, .int i t, A1, e1, g1⟩
    | _ => exact False.elim g1
  | _ => exact False.elim g1
def slcM (x : D) (l h : Option Int) : M D := fun s => match view s x with
  | some p => match slcP p l h with
    | some r => .ok (.p r) s
    | none => .bad
  | none => .bad
theorem se_slc {a : Expr} {lo hi : Option Expr} {ma : TH.Env → M D} {ml mh : TH.Env → M (Option Int)} {pos p2 : Pos} (ha : SE X nm W a ma) (hl : SO X nm W lo ml) (hh : SO X nm W hi mh) :
    SE X nm W (.Subscript a (.Slice lo hi none p2) pos) fun env s => (ma env s).bind fun x s => (ml env s).bind fun l s => (mh env s).bind fun h => slcM x l h := by
  refine se_mk fun pins s σ H Q ρ st env A g => Subscript_ (thn (run1 ha A g) fun u s1 ⟨d, st1, ρ1, v, H1, A1, e1, r1, q1, g1⟩ => ?_)
  refine wpAny_Slice (thn (hl pins s1 σ H1 ρ1 st1 env _ _ _ A1 g1) fun vl s2 ⟨l, st2, ρ2, H2, pl, A2, e2, g2⟩ => thn (hh pins s2 σ H2 ρ2 st2 env _ _ _ A2 g2) fun vu s3 ⟨h, st3, ρ3, H3, pu, A3, e3, g3⟩ => ?_)
  rw [evalPart_none]
  refine wpAny_pure ?_
  have g4 : Post X.K X.w nm W ρ3 st3.length H3 σ (slcM d l h st3) Q := g3
  unfold slcM at g4
  cases hv : TH.view st3 d with
  | none => rw [hv] at g4; exact False.elim g4
  | some p =>
    rw [hv] at g4
    dsimp only at g4
    cases hr : slcP p l h with
    | none => rw [hr] at g4; exact False.elim g4
    | some r =>
      rw [hr] at g4
      have I4 : Inv X pins σ H3 { s3 with heap := s3.heap.push { cls := .type "slice", data := .fields #[vl, vu, .none] } } := A3.I.kept (t' := s3.toks) fun b ob q => Heap.get?_push_of_some _ q
      have vx := A3.sr.view (e3.rv (e2.rv r1)) hv
      have hB : ∀ a, H3 a = none → ¬ live ρ3 st3.length a := fun a h => A3.sr.not_live_new h
      obtain ⟨T, id, hT, ht, hg⟩ := sl_ok (X := X) (live ρ3 st3.length) p r hB pins _ σ H3 v u vl vu l h s3.heap.objs.size Q I4 q1 (Heap.IsSliceOf.new ..) pl pu ⟨hB, vx, hr, fun v' H' k r' => A3.epN g4 k r'⟩
      show wpAny (model X.prog X.w) X.A (subscriptTail a (.Slice lo hi none p2) u (.ref s3.heap.objs.size)) (EP X pins σ Q) X.xe { s3 with heap := s3.heap.push { cls := .type "slice", data := .fields #[vl, vu, .none] } }
      exact tail_any (ops := [.ref s3.heap.objs.size, u]) ht hT hg (by with_unfolding_all rfl)
/-! ### fields -/
theorem fld_lookup {K : Frag} {w : World} {nm : Names} (inj : ∀ f g, nm.fld f = nm.fld g → f = g) {L : Nat} : ∀ {fs : List (Nat × D)} {vfs : List (Str × V)} {f : Nat} {d : D}, RvF K w ρ L H vfs nm.fld fs → fs.lookup f = some d → ∃ v, vfs.lookup (nm.fld f) = some v ∧ Rv K w ρ L H v d
  | [], _, _, _, _, h => by cases h
  | (g, x) :: fs, [], f, d, ⟨r1, r2⟩, h => by simp at r1
  | (g, x) :: fs, (a, v) :: vfs, f, d, ⟨r1, r2⟩, h => by
    simp only [List.map_cons, List.cons.injEq] at r1 r2
    cases r2 with
    | cons q1 q2 =>
      rw [List.lookup_cons] at h ⊢
      by_cases e : f = g
      · subst e
        rw [beq_self_eq_true] at h
        cases h
        rw [r1.1, beq_self_eq_true]
        exact ⟨v, rfl, q1⟩
      · rw [beq_eq_false_iff_ne.mpr e] at h
        have e2 : (nm.fld f == a) = false := by
          rw [r1.1]
          exact beq_eq_false_iff_ne.mpr fun z => e (inj _ _ z)
        rw [e2]
        exact fld_lookup inj ⟨r1.2, q2⟩ h
theorem no_lookup {vfs : List (Str × V)} {fs : List (Nat × D)} {m : Str} (h : vfs.map (·.1) = fs.map (fun q => nm.fld q.1)) (hm : ∀ f, nm.fld f ≠ m) : vfs.lookup m = none := by
  induction vfs generalizing fs with
  | nil => rfl
  | cons p vfs ih =>
    obtain ⟨a, v⟩ := p
    cases fs with
    | nil => simp at h
    | cons q fs =>
      simp only [List.map_cons, List.cons.injEq] at h
      rw [List.lookup_cons]
      have : (m == a) = false := by
        rw [h.1]
        exact beq_eq_false_iff_ne.mpr fun z => hm _ z.symm
      rw [this]
      exact ih h.2
def fldM (f : Nat) (x : D) : M D := fun s => match x with
  | .ref n => match s[n]? with
    | some (.ins _ fs) => match fs.lookup f with
      | some d => .ok d s
      | none => .bad
    | _ => .bad
  | _ => .bad
theorem se_fld {a : Expr} {ma : TH.Env → M D} {f : Nat} {x : Str} {pos : Pos} (inj : ∀ f g, nm.fld f = nm.fld g → f = g) (hc : ∀ c, Cls X.K (nm.cls c)) (hn : ∀ c, NoAttr X.K (nm.cls c) x) (hx : x = nm.fld f) (ha : SE X nm W a ma) (hs : notSuper a = true) :
    SE X nm W (.Attribute a x pos) fun env s => (ma env s).bind (fldM f) := by
  refine se_mk fun pins s σ H Q ρ st env A g => attr_of (attr_plain hs) (thn (run1 ha A g) fun u s1 ⟨d, st1, ρ1, v, H1, A1, e1, r1, q1, g1⟩ => ?_)
  have g2 : Post X.K X.w nm W ρ1 st1.length H1 σ (fldM f d st1) Q := g1
  unfold fldM at g2
  cases r1 with
  | p _ => exact False.elim g2
  | tup _ _ _ => exact False.elim g2
  | @ref n hn' =>
    dsimp only at g2
    cases hcell : st1[n]? with
    | none => rw [hcell] at g2; exact False.elim g2
    | some c =>
      rw [hcell] at g2
      cases c with
      | lst _ => exact False.elim g2
      | ins c fs =>
        dsimp only at g2
        cases hl : fs.lookup f with
        | none => rw [hl] at g2; exact False.elim g2
        | some z =>
          rw [hl] at g2
          obtain ⟨dx, vfs, h1, h2⟩ := A1.sr.cell n _ hcell
          obtain ⟨v', h3, h4⟩ := fld_lookup inj h2 hl
          cases q1
          subst hx
          exact getattr_ok A1.I h1 (hc c) (hn c) h3 fun u' s2 I2 ru => ⟨v', H1, I2, ru, Got.here g2 A1.sr v' h4⟩
end
end TH
end T_TJ3
section T_TJ4
set_option Elab.async false
set_option linter.all false
set_option maxRecDepth 100000
/-! Calls. -/
namespace TH
open PySem PySem.Spec PyProof.Rows L2
/-- what a def promises -/
def SpF (K : Frag) (w : World) (nm : Names) (cfm : List D → M D) (np : Nat) : Sp := fun vs H Q E => ∃ ρ st ds, StR K w nm ρ st H ∧ RvL K w ρ st.length H vs ds ∧ vs.length = np ∧
  Got K w nm (fun cls d _ H' => E cls d H') ρ st.length H [] (cfm ds st) fun d st' ρ' H' => ∀ v, Rv K w ρ' st'.length H' v d → Q v H'
structure FC (P : Program) (w : World) (K : Frag) (mg : Str → Option Value) (base : Heap) (nm : Names) (k : Nat) (f : Addr) (fd : FuncData) (ps : List Str) (cfm : List D → M D) : Prop where
  ok : FnOk P w K mg base (L2.CX P w) k f fd ps (SpF K w nm cfm ps.length)
  len : ∀ ds s, cfm ds s ≠ .bad → ds.length = ps.length
theorem FC.mono {P : Program} {w : World} {K : Frag} {mg : Str → Option Value} {base : Heap} {nm : Names} {j k : Nat} {f : Addr} {fd : FuncData} {ps : List Str} {cfm : List D → M D} (F : FC P w K mg base nm j f fd ps cfm) (h : j ≤ k) : FC P w K mg base nm k f fd ps cfm := ⟨F.ok.mono h, F.len⟩
section
variable {X : Cx} {nm : Names} {W : WX} {pins : List (Addr × Obj)} {σ : L2.St} {env : TH.Env} {ρ : Nat → Addr} {st : Sto} {H : Hp} {s : Shared}
variable {β : Type} {κ : β → Sto → (Nat → Addr) → Hp → Prop} {k : Nat} {f : Addr} {fd : FuncData} {ps : List Str} {cfm : List D → M D}
theorem Got.notBad {α : Type} {r : R α} {κ : α → Sto → (Nat → Addr) → Hp → Prop} {L : Nat} {K : Frag} {w : World} (g : Got K w nm W ρ L H σ r κ) : r ≠ .bad := fun e => by rw [e] at g; exact g
/-- the promise from what is wanted -/
theorem spF_of {vs : List V} {ds : List D} {Q : VK} (F : FC X.prog X.w X.K X.mg X.base nm k f fd ps cfm) (S : StR X.K X.w nm ρ st H) (r : RvL X.K X.w ρ st.length H vs ds) (g : Post X.K X.w nm W ρ st.length H σ (cfm ds st) Q) :
    SpF X.K X.w nm cfm ps.length vs H Q (fun cls d H' => W cls d σ H') := by
  refine ⟨ρ, st, ds, S, r, ?_, ?_⟩
  · rw [r.length]; exact F.len ds st (Got.notBad g)
  · have g' := g
    unfold Post at g'
    cases hq : cfm ds st with
    | bad => rw [hq] at g'; exact g'
    | exc x st2 => rw [hq] at g'; exact g'
    | ok d st2 => rw [hq] at g'; exact g'
theorem run_fnE {Q : VK} {us : List Value} {vs : List V} {sp : Sp} {E : XK} (tk : Takes X W) (F : FnOk X.prog X.w X.K X.mg X.base (L2.CX X.prog X.w) k f fd ps sp) (hr : Room k X.A) (hb : Binds X.K fd ps [])
    (I : Inv X pins σ H s) (r : Vals vs us) (h : sp vs H Q E) (hW : ∀ cls d H', E cls d H' → W cls d σ H') : wpAny (model X.prog X.w) X.A (call (.ref f) us) (EP X pins σ Q) X.xe s := by
  have hl : (us ++ []).length = ps.length := by rw [List.append_nil, ← r.length]; exact F.len _ _ _ _ h
  have hb' := hb s us I.kIn hl
  rw [List.append_nil] at hb'
  refine wpAny_call (codeAny_mono (F.run X.A X.stack s H ⟨us, []⟩ us vs Q E hr I.env0 hb' r h) fun r s' hq => ?_)
  cases r with
  | error e => exact tk e s' (XE.of_call I hW hq)
  | ok fl =>
    cases fl with
    | ret u => exact I.after hq
    | next => exact False.elim hq
    | brk => exact False.elim hq
    | cont => exact False.elim hq
/-- a call by values -/
theorem call_ok {Q : VK} {us : List Value} {vs : List V} {ds : List D} (tk : Takes X W) (F : FC X.prog X.w X.K X.mg X.base nm k f fd ps cfm) (hr : Room k X.A) (hb : Binds X.K fd ps []) (A : At X nm pins σ env ρ st H s)
    (rv : RvL X.K X.w ρ st.length H vs ds) (ru : Vals vs us) (g : Post X.K X.w nm W ρ st.length H σ (cfm ds st) Q) : wpAny (model X.prog X.w) X.A (call (.ref f) us) (EP X pins σ Q) X.xe s :=
  run_fnE tk F.ok hr hb A.I ru (spF_of F A.sr rv g) fun _ _ _ h => h
theorem callW {e : Expr} {es : List Expr} {en : PySem.Env} {pos : Pos} {fv : Value} {first : List Value} {K : Frag} {h₀ : Heap} {M : Model} {A : Around} {Q : Value → Shared → Prop} {E : Value → Shared → Prop} (_X : K.In h₀) (hk : PySem.W.keepIn K fv = true) (hn : noStar (e :: es) = true)
    (h : wpAny M A (spliced (backTo pos (starEach (e :: es) en))) (fun vs s₁ => K.In s₁.heap ∧ wpAny M A (call fv (first ++ vs)) Q E s₁) E s) :
    wpAny M A (callWith pos fv first (backTo pos (starEach (e :: es) en)) (backToKw pos (keywordEach [] en))) Q E s := by
  simp only [noStar, List.all_cons, Bool.and_eq_true] at hn
  exact PySem.W.callWith_K _X hk h (star_cons hn.1) (noStar_any hn.2)
abbrev nilM : TH.Env → M (List D) := fun _ => M.pure []
theorem se_call {x : Str} {e : Expr} {es : List Expr} {ms : TH.Env → M (List D)} {p pos : Pos} (tk : Takes X W) (F : FC X.prog X.w X.K X.mg X.base nm k f fd ps cfm) (hr : Room k X.A) (hb : Binds X.K fd ps []) (hg : Gl X x) (hm : X.mg x = some (.ref f))
    (hk : PySem.W.keepIn X.K (.ref f) = true) (hs : SL X nm W (e :: es) ms) (hn : noStar (e :: es) = true) (hdb : (x == ("__debug__" : Str)) = false) : SE X nm W (.Call (.Name x p) (e :: es) [] pos) fun env s => (ms env s).bind cfm := by
  refine se_mk fun pins s σ H Q ρ st env A g => wpAny_Call_Name_kw (ld_glob A.I hg hm ?_ hdb)
  refine callW (h₀ := X.base) A.I.ok.mod.kin hk hn (thn (runL pos hs A g) fun us s1 ⟨ds, st1, ρ1, vs, H1, A1, e1, r1, q1, g1⟩ => ⟨A1.I.kIn, ?_⟩)
  exact call_ok tk F hr hb A1 r1 q1 g1
theorem se_call0 {x : Str} {p pos : Pos} (tk : Takes X W) (F : FC X.prog X.w X.K X.mg X.base nm k f fd ps cfm) (hr : Room k X.A) (hb : Binds X.K fd ps []) (hg : Gl X x) (hm : X.mg x = some (.ref f))
    (hk : PySem.W.keepIn X.K (.ref f) = true) (hdb : (x == ("__debug__" : Str)) = false) : SE X nm W (.Call (.Name x p) [] [] pos) fun env s => (nilM env s).bind cfm := by
  refine se_mk fun pins s σ H Q ρ st env A g => wpAny_Call_Name_kw (ld_glob A.I hg hm ?_ hdb)
  exact PySem.W.callWith_K0 A.I.kIn hk (call_ok tk F hr hb A .nil .nil g)
/-! ### f(e, key = e2) -/
theorem run_fnkE {Q : VK} {us ws : List Value} {vs zs : List V} {ks : List Str} {sp : Sp} {E : XK} {gg : List Value → List Value → List Value} {gV : List V → List V → List V} (tk : Takes X W) (F : FnOk X.prog X.w X.K X.mg X.base (L2.CX X.prog X.w) k f fd ps sp) (hr : Room k X.A) {n : Nat} (hb : KBn X.K fd ps n ks gg gV) (hn : us.length = n) (hk : ws.length = ks.length)
    (I : Inv X pins σ H s) (r : Vals vs us) (rz : Vals zs ws) (h : sp (gV vs zs) H Q E) (hW : ∀ cls d H', E cls d H' → W cls d σ H') : wpAny (model X.prog X.w) X.A (call (.ref f) us (ks.zip ws)) (EP X pins σ Q) X.xe s := by
  have r2 := hb.rel r rz
  refine wpAny_call (codeAny_mono (F.run X.A X.stack s H ⟨us, ks.zip ws⟩ (gg us ws) (gV vs zs) Q E hr I.env0 (hb.to s us ws I.kIn hn hk) r2 h) fun r s' hq => ?_)
  cases r with
  | error e => exact tk e s' (XE.of_call I hW hq)
  | ok fl =>
    cases fl with
    | ret u => exact I.after hq
    | next => exact False.elim hq
    | brk => exact False.elim hq
    | cont => exact False.elim hq
theorem se_callK {x key : Str} {e e2 : Expr} {ma mb : TH.Env → M D} {p pos kpos : Pos} {gg : List Value → List Value → List Value} (tk : Takes X W) (F : FC X.prog X.w X.K X.mg X.base nm k f fd ps cfm) (hr : Room k X.A) (hb : KBn X.K fd ps 1 [key] gg (fun vs zs => vs ++ zs)) (hg : Gl X x) (hm : X.mg x = some (.ref f))
    (hk : PySem.W.keepIn X.K (.ref f) = true) (ha : SE X nm W e ma) (hbb : SE X nm W e2 mb) (hn : notStar e = true) (hdb : (x == ("__debug__" : Str)) = false) :
    SE X nm W (.Call (.Name x p) [e] [⟨some key, e2, kpos⟩] pos) fun env s => ((ma env s).bind fun d s => ((mb env s).bind fun d2 s => ((M.pure [] : M (List D)) s).bind fun ds => M.pure (d2 :: ds)).bind fun ds => M.pure (d :: ds)).bind cfm := by
  refine se_mk fun pins s σ H Q ρ st env A g => wpAny_Call_Name_kw (ld_glob A.I hg hm ?_ hdb)
  have g' : Got X.K X.w nm W ρ st.length H σ ((ma env st).bind fun d s => (mb env s).bind fun d2 => cfm [d, d2]) (fun d st' ρ' H' => ∀ v, Rv X.K X.w ρ' st'.length H' v d → Q v H') := by
    unfold Post at g
    rw [R.bind_assoc] at g
    have : (fun a s => (((mb env s).bind fun d2 s => ((M.pure [] : M (List D)) s).bind fun ds => M.pure (d2 :: ds)).bind fun ds => M.pure (a :: ds)).bind cfm) = fun d s => (mb env s).bind fun d2 => cfm [d, d2] := by
      funext d s
      cases mb env s <;> rfl
    rw [this] at g
    exact g
  have hst : starEach [e] X.env = (false, eval e X.env) :: starEach [] X.env := star_cons hn
  refine PySem.W.callWith_KW (h₀ := X.base) A.I.ok.mod.kin hk rfl ?_ ?_ hst
  · rw [hst]
    refine Calls.spliced_cons (thn (run1 ha A g') fun u s1 ⟨d, st1, ρ1, v, H1, A1, e1, r1, q1, g1⟩ => Calls.spliced_nil ?_)
    show wpAny _ _ (evalAll ((do let v ← eval e2 X.env; standAt pos; pure v) :: [])) _ _ s1
    refine wpAny_evalAll_cons (wpAny_bind (thn (run1 hbb A1 g1) fun u2 s2 ⟨d2, st2, ρ2, v2, H2, A2, e2', r2, q2, g2⟩ => wpAny_bind (wpAny_standAt (wpAny_pure (wpAny_evalAll_nil ⟨A2.I.kIn, ?_⟩)))))
    exact run_fnkE (vs := [v]) (zs := [v2]) tk F.ok hr hb rfl rfl A2.I (.cons q1 .nil) (.cons q2 .nil) (spF_of F A2.sr (.cons (e2'.rv r1) (.cons r2 .nil)) g2) fun _ _ _ h => h
  · rw [hst]; rfl
/-! ### a new instance -/
def newM (init : Option Nat) (cf : Nat → List D → M D) (c : Nat) (ds : List D) : M D := fun s => match init with
  | some f => (cf f (.ref s.length :: ds) (s ++ [.ins c []])).bind fun d s' => if d = .p .non then .ok (.ref s.length) s' else .bad
  | none => .bad
theorem new_ok {Q : VK} {us : List Value} {vs : List V} {ds : List D} {c : Nat} (tk : Takes X W) (Mk : L2.Mk X.K (nm.cls c) f) (F : FC X.prog X.w X.K X.mg X.base nm k f fd ps cfm) (hr : Room (k + 1) X.A) (hb : Binds X.K fd ps []) (A : At X nm pins σ env ρ st H s)
    (rv : RvL X.K X.w ρ st.length H vs ds) (ru : Vals vs us)
    (g : Post X.K X.w nm W ρ st.length H σ ((cfm (.ref st.length :: ds) (st ++ [.ins c []])).bind fun d s' => if d = .p .non then .ok (.ref st.length) s' else .bad) Q) :
    wpAny (model X.prog X.w) X.A (call (.ref (nm.cls c)) us) (EP X pins σ Q) X.xe s := by
  have I := A.I
  have n1 : H (s.heap.objs.size + 1) = none := I.hok.fresh (Nat.le_succ _)
  have n2 : H s.heap.objs.size = none := I.hok.fresh (Nat.le_refl _)
  have ne : s.heap.objs.size ≠ s.heap.objs.size + 1 := Nat.ne_of_lt (Nat.lt_succ_self _)
  have I2 := Inv.made (C := nm.cls c) I
  generalize hx : s.heap.objs.size + 1 = x at *
  generalize hdx : s.heap.objs.size = dx at *
  have x1 := Ext.laid (o := .own x) A.sr n2
  have s1 := A.sr.laid (o := .own x) n2
  have n3 : upd H dx (.own x) x = none := by rw [upd_ne (Ne.symm ne)]; exact n1
  have x2 := Ext.push (o := .ins (nm.cls c) dx []) s1 n3
  have s2 := s1.push (c := .ins c []) n3 ⟨dx, [], upd_same, rfl, .nil⟩
  have len1 : (st ++ [Cell.ins c []]).length = st.length + 1 := by simp
  have x3 := x1.trans x2
  have r0 : RvL X.K X.w (setρ ρ st.length x) (st ++ [Cell.ins c []]).length (upd (upd H dx (.own x)) x (.ins (nm.cls c) dx [])) (V.ref x :: vs) (.ref st.length :: ds) := by
    rw [len1]
    exact .cons Rv.newRef (x3.rvL rv)
  have hl : (V.ref x :: vs).length = ps.length := by
    rw [r0.length]
    refine F.len (.ref st.length :: ds) (st ++ [.ins c []]) fun e => ?_
    rw [e] at g
    exact g
  have hul : (Value.ref x :: us ++ []).length = ps.length := by rw [List.append_nil, ← hl]; exact (Vals.length (.cons (show RelV (V.ref x) (Value.ref x) from rfl) ru)).symm
  have sp : SpF X.K X.w nm cfm ps.length (V.ref x :: vs) (upd (upd H dx (.own x)) x (.ins (nm.cls c) dx [])) (fun v H2 => v = .non ∧ Q (.ref x) H2) (fun cls d H' => W cls d σ H') := by
    refine ⟨_, _, _, s2, r0, hl, ?_⟩
    rw [len1]
    cases hq : cfm (.ref st.length :: ds) (st ++ [.ins c []]) with
    | bad => rw [hq] at g; exact g
    | exc e st3 =>
      rw [hq] at g
      exact fun ρ3 H3 cls d e3 s3 er => g ρ3 H3 cls d (x3.trans e3) s3 er
    | ok d st3 =>
      rw [hq] at g
      have g2 : Post X.K X.w nm W ρ st.length H σ (if d = .p .non then .ok (.ref st.length) st3 else .bad) Q := g
      by_cases hd : d = .p .non
      · rw [if_pos hd] at g2
        subst hd
        intro ρ3 H3 e3 s3 v rv3
        cases rv3 with
        | p rv3 =>
          cases rv3
          refine ⟨rfl, g2 ρ3 H3 (x3.trans e3) s3 (.ref x) ?_⟩
          have hlt : st.length < st.length + 1 := Nat.lt_succ_self _
          have e4 : ρ3 st.length = x := by rw [e3.same st.length hlt, setρ_same]
          rw [← e4]
          exact .ref (Nat.lt_of_lt_of_le hlt e3.le)
      · rw [if_neg hd] at g2; exact False.elim g2
  have hb' := hb _ (Value.ref x :: us) I2.kIn hul
  rw [List.append_nil] at hb'
  subst hx hdx
  refine wpAny_call (make_map (f := f) I.kIn Mk.makes Mk.init (beq_iff_eq.mp Mk.fn) (codeAny_mono (F.ok.run _ X.stack _ _ ⟨Value.ref (s.heap.objs.size + 1) :: us, []⟩ (Value.ref (s.heap.objs.size + 1) :: us) _ _ _ (hr.make (nm.cls c) us [])
    (I2.env0.make (nm.cls c) us []) hb' (.cons (show RelV (V.ref (s.heap.objs.size + 1)) (Value.ref (s.heap.objs.size + 1)) from rfl) ru) sp) fun r s' hq' => ?_))
  cases r with
  | error e => exact tk e s' (XE.of_call I2 (fun _ _ _ h => h) hq')
  | ok fl =>
    cases fl with
    | ret u =>
      obtain ⟨v, H', I3, rv, ev, q3⟩ := I2.after hq'
      subst ev
      exact ⟨rv, ⟨V.ref (s.heap.objs.size + 1), H', I3, rfl, q3⟩⟩
    | next => exact False.elim hq'
    | brk => exact False.elim hq'
    | cont => exact False.elim hq'
theorem se_new {x : Str} {e : Expr} {es : List Expr} {ms : TH.Env → M (List D)} {p pos : Pos} {c i : Nat} {cf : Nat → List D → M D} (tk : Takes X W) (Mk : L2.Mk X.K (nm.cls c) f) (F : FC X.prog X.w X.K X.mg X.base nm k f fd ps (cf i)) (hr : Room (k + 1) X.A) (hb : Binds X.K fd ps []) (hg : Gl X x) (hm : X.mg x = some (.ref (nm.cls c)))
    (hs : SL X nm W (e :: es) ms) (hn : noStar (e :: es) = true) (hdb : (x == ("__debug__" : Str)) = false) : SE X nm W (.Call (.Name x p) (e :: es) [] pos) fun env s => (ms env s).bind (newM (some i) cf c) := by
  refine se_mk fun pins s σ H Q ρ st env A g => wpAny_Call_Name_kw (ld_glob A.I hg hm ?_ hdb)
  refine callW (h₀ := X.base) A.I.ok.mod.kin Mk.kp hn (thn (runL pos hs A g) fun us s1 ⟨ds, st1, ρ1, vs, H1, A1, e1, r1, q1, g1⟩ => ⟨A1.I.kIn, ?_⟩)
  exact new_ok tk Mk F hr hb A1 r1 q1 g1
theorem se_new0 {x : Str} {p pos : Pos} {c i : Nat} {cf : Nat → List D → M D} (tk : Takes X W) (Mk : L2.Mk X.K (nm.cls c) f) (F : FC X.prog X.w X.K X.mg X.base nm k f fd ps (cf i)) (hr : Room (k + 1) X.A) (hb : Binds X.K fd ps []) (hg : Gl X x) (hm : X.mg x = some (.ref (nm.cls c)))
    (hdb : (x == ("__debug__" : Str)) = false) : SE X nm W (.Call (.Name x p) [] [] pos) fun env s => (nilM env s).bind (newM (some i) cf c) := by
  refine se_mk fun pins s σ H Q ρ st env A g => wpAny_Call_Name_kw (ld_glob A.I hg hm ?_ hdb)
  exact PySem.W.callWith_K0 A.I.kIn Mk.kp (new_ok tk Mk F hr hb A .nil .nil g)
end
end TH
end T_TJ4
section T_TJ5
set_option Elab.async false
set_option linter.all false
set_option maxRecDepth 100000
/-! Methods, built-ins. -/
namespace TH
open PySem PySem.Spec PyProof.Rows L2
section
variable {X : Cx} {nm : Names} {W : WX} {pins : List (Addr × Obj)} {σ : L2.St} {env : TH.Env} {ρ : Nat → Addr} {st : Sto} {H : Hp} {s : Shared}
variable {β : Type} {κ : β → Sto → (Nat → Addr) → Hp → Prop}
theorem few_ok {es : List Expr} {en : PySem.Env} {pos : Pos} (hn : noStar es = true) (hl : es.length < 29) : ((backTo pos (starEach es en)).all (fun x => !x.1) && (backToKw pos (keywordEach [] en)).all (fun x => x.1.isSome)
      && decide (es.length + ([] : List Keyword).length + (if ([] : List Keyword).isEmpty then 0 else 1) < 30)) = true := by
  have h1 : (backTo pos (starEach es en)).all (fun x => !x.1) = true := by
    induction es with
    | nil => rfl
    | cons e es ih =>
      simp only [noStar, List.all_cons, Bool.and_eq_true] at hn
      rw [star_cons hn.1]
      have := ih hn.2 (by simp only [List.length_cons] at hl; omega)
      unfold backTo at this ⊢
      simpa using this
  rw [h1]
  simp only [Bool.true_and, Bool.and_eq_true, decide_eq_true_eq]
  refine ⟨rfl, ?_⟩
  show es.length + 0 + 0 < 30
  omega
theorem meth_tree {o : Expr} {m : Str} {apos pos : Pos} {es : List Expr} {en : PySem.Env} (hs : notSuper o = true) (hline : (apos.endLine == pos.line) = true) (hn : noStar es = true) (hl : es.length < 29) :
    eval (.Call (.Attribute o m apos) es [] pos) en = (do
      let ov ← eval o en
      standAt apos.atName
      let (f, first) ← holding [ov] (getMethod ov m (do return (← importBound o en).getD true))
      callWith pos f first (backTo pos (starEach es en)) (backToKw pos (keywordEach [] en))) := by
  rw [arm_eval_Call, attr_plain hs]
  have hform : methodCallForm (es.length + ([] : List Keyword).length) (backTo pos (starEach es en)) (backToKw pos (keywordEach [] en)) = true := few_ok hn hl
  have hpos : methodCallPos true o en apos pos = pure pos := by unfold methodCallPos; simp [hline]
  congr 1
  funext ov
  congr 1
  funext _
  unfold methodCall
  rw [hform, hpos]
  rfl
/-- a method of an own class -/
def metM (G : Prog) (cf : Nat → List D → M D) (m : Nat) (mes : M (List D)) (x : D) : M D := fun s => match x with
  | .ref n => match s[n]? with
    | some (.ins c _) => match G.meth c m with
      | some f => (mes s).bind fun ds => cf f (.ref n :: ds)
      | none => .bad
    | _ => .bad
  | _ => .bad
/-- what is known of the methods named so -/
structure MetOk (X : Cx) (nm : Names) (G : Prog) (cf : Nat → List D → M D) (k : Nat) (fa : Nat → Addr) (fd : Nat → FuncData) (ps : Nat → List Str) (m : Nat) (mx : Str) : Prop where
  cls : ∀ c, Cls X.K (nm.cls c)
  at_ : ∀ c f, G.meth c m = some f → Meth X.K (nm.cls c) mx (fa f)
  fc : ∀ c f, G.meth c m = some f → FC X.prog X.w X.K X.mg X.base nm k (fa f) (fd f) (ps f) (cf f)
  bi : ∀ c f, G.meth c m = some f → Binds X.K (fd f) (ps f) []
  fld : ∀ f, nm.fld f ≠ mx
theorem met_ok {G : Prog} {cf : Nat → List D → M D} {k : Nat} {fa : Nat → Addr} {fd : Nat → FuncData} {ps : Nat → List Str} {m : Nat} {mx : Str} {a : Expr} {es : List Expr} {ma : TH.Env → M D} {mes : TH.Env → M (List D)} {apos pos : Pos}
    (tk : Takes X W) (hr : Room k X.A) (MO : MetOk X nm G cf k fa fd ps m mx) (ha : SE X nm W a ma) (hs : notSuper a = true) (hline : (apos.endLine == pos.line) = true) (hn : noStar es = true) (hl : es.length < 29)
    (args : ∀ (pins : List (Addr × Obj)) (s : Shared) (σ : L2.St) (H : Hp) (Q : VK) (ρ : Nat → Addr) (st : Sto) (env : TH.Env) (f : Nat) (n c : Nat), n < st.length → G.meth c m = some f → At X nm pins σ env ρ st H s → Post X.K X.w nm W ρ st.length H σ ((mes env st).bind fun ds => cf f (.ref n :: ds)) Q →
      wpAny (model X.prog X.w) X.A (callWith pos (.ref (fa f)) [.ref (ρ n)] (backTo pos (starEach es X.env)) (backToKw pos (keywordEach [] X.env))) (EP X pins σ Q) X.xe s) :
    SE X nm W (.Call (.Attribute a mx apos) es [] pos) fun env s => (ma env s).bind (metM G cf m (mes env)) := by
  refine se_mk fun pins s σ H Q ρ st env A g => PySem.W.methodCall_KW (pl := _) (thn (run1 ha A g) fun u s1 ⟨d, st1, ρ1, v, H1, A1, e1, r1, q1, g1⟩ => ?_) (meth_tree hs hline hn hl)
  have g2 : Post X.K X.w nm W ρ1 st1.length H1 σ (metM G cf m (mes env) d st1) Q := g1
  unfold metM at g2
  cases r1 with
  | p _ => exact False.elim g2
  | tup _ _ _ => exact False.elim g2
  | @ref n hn' =>
    dsimp only at g2
    cases hcell : st1[n]? with
    | none => rw [hcell] at g2; exact False.elim g2
    | some c =>
      rw [hcell] at g2
      cases c with
      | lst _ => exact False.elim g2
      | ins c fs =>
        dsimp only at g2
        cases hm : G.meth c m with
        | none => rw [hm] at g2; exact False.elim g2
        | some f =>
          rw [hm] at g2
          obtain ⟨dx, vfs, h1, h2, h3⟩ := A1.sr.cell n _ hcell
          cases q1
          exact getmeth_ok A1.I h1 (MO.cls c) (MO.at_ c f hm) (no_lookup h2 MO.fld) (args pins s1 σ H1 Q ρ1 st1 env f n c hn' hm A1 g2)
theorem se_met {G : Prog} {cf : Nat → List D → M D} {k : Nat} {fa : Nat → Addr} {fd : Nat → FuncData} {ps : Nat → List Str} {m : Nat} {mx : Str} {a e : Expr} {es : List Expr} {ma : TH.Env → M D} {mes : TH.Env → M (List D)} {apos pos : Pos}
    (tk : Takes X W) (hr : Room k X.A) (MO : MetOk X nm G cf k fa fd ps m mx) (ha : SE X nm W a ma) (hes : SL X nm W (e :: es) mes) (hs : notSuper a = true) (hline : (apos.endLine == pos.line) = true) (hn : noStar (e :: es) = true) (hl : (e :: es).length < 29) :
    SE X nm W (.Call (.Attribute a mx apos) (e :: es) [] pos) fun env s => (ma env s).bind (metM G cf m (mes env)) := by
  refine met_ok tk hr MO ha hs hline hn hl fun pins s σ H Q ρ st env f n c hlt hm A g => ?_
  refine callW (h₀ := X.base) A.I.ok.mod.kin (MO.at_ c f hm).kp hn (thn (runL pos hes A g) fun us s2 ⟨ds, st2, ρ2, vs, H2, A2, e2, r2, q2, g2⟩ => ⟨A2.I.kIn, ?_⟩)
  refine call_ok tk (MO.fc c f hm) hr (MO.bi c f hm) A2 (vs := .ref (ρ n) :: vs) (.cons ?_ r2) (.cons (show RelV (V.ref (ρ n)) (Value.ref (ρ n)) from rfl) q2) g2
  rw [← e2.same n hlt]
  exact .ref (Nat.lt_of_lt_of_le hlt e2.le)
theorem se_met0 {G : Prog} {cf : Nat → List D → M D} {k : Nat} {fa : Nat → Addr} {fd : Nat → FuncData} {ps : Nat → List Str} {m : Nat} {mx : Str} {a : Expr} {ma : TH.Env → M D} {apos pos : Pos}
    (tk : Takes X W) (hr : Room k X.A) (MO : MetOk X nm G cf k fa fd ps m mx) (ha : SE X nm W a ma) (hs : notSuper a = true) (hline : (apos.endLine == pos.line) = true) :
    SE X nm W (.Call (.Attribute a mx apos) [] [] pos) fun env s => (ma env s).bind (metM G cf m (nilM env)) := by
  refine met_ok tk hr MO ha hs hline rfl (by decide) fun pins s σ H Q ρ st env f n c hlt hm A g => ?_
  exact PySem.W.callWith_K0 (first := [.ref (ρ n)]) A.I.kIn (MO.at_ c f hm).kp (call_ok tk (MO.fc c f hm) hr (MO.bi c f hm) A (.cons (.ref hlt) .nil) (.cons (show RelV (V.ref (ρ n)) (Value.ref (ρ n)) from rfl) .nil) g)
/-! ### built-ins -/
theorem At.bi {m : Bool} {b : Bi} {ds : List D} {vs : List V} {us : List Value} {Q : VK} (hc : X.calm = true) (hb : b.ok = true) (A : At X nm pins σ env ρ st H s) (rv : RvL X.K X.w ρ st.length H vs ds) (ru : Vals vs us)
    (g : Post X.K X.w nm W ρ st.length H σ (runBi m b ds st) Q) : wpAny (model X.prog X.w) X.A (call (bfn b) us) (EP X pins σ Q) X.xe s := by
  cases hq : runBi m b ds st with
  | bad => rw [hq] at g; exact False.elim g
  | exc x st2 =>
    exfalso
    unfold runBi at hq
    split at hq
    · split at hq
      · cases hq
      · unfold biD at hq
        split at hq <;> first | cases hq | skip
        all_goals (repeat' split at hq) <;> cases hq
    · split at hq
      · cases hq
      · split at hq
        · split at hq
          · unfold fin at hq
            split at hq <;> cases hq
          · cases hq
        · cases hq
  | ok d st2 =>
    rw [hq] at g
    exact bi_run hc b hb A.I A.sr rv ru hq fun ρ' v H' e s' r => g ρ' H' e s' v r
theorem se_biB {x : Str} {id : String} {m : Bool} {b : Bi} {e : Expr} {es : List Expr} {ms : TH.Env → M (List D)} {p pos : Pos} (hc : X.calm = true) (hb : b.ok = true) (hf : bfn b = .builtin id) (hg : Gl X x) (hm : X.mg x = none) (hv : bootBuiltins x = some (.builtin id))
    (hs : SL X nm W (e :: es) ms) (hn : noStar (e :: es) = true) (hnm : x ≠ "__name__") (hdb : (x == ("__debug__" : Str)) = false) : SE X nm W (.Call (.Name x p) (e :: es) [] pos) fun env s => (ms env s).bind (runBi m b) := by
  refine se_mk fun pins s σ H Q ρ st env A g => wpAny_Call_Name_kw (ld_blt A.I hg hm hv ?_ hnm hdb)
  simp only [noStar, List.all_cons, Bool.and_eq_true] at hn
  refine PyProof.Rows.callWith_builtin1 (thn (runL pos hs A g) fun us s1 ⟨ds, st1, ρ1, vs, H1, A1, e1, r1, q1, g1⟩ => ?_) (star_cons hn.1) (noStar_any hn.2)
  have := A1.bi (m := m) hc hb r1 q1 g1
  rw [hf] at this
  exact this
theorem se_biT {x : Str} {T : String} {m : Bool} {b : Bi} {e : Expr} {es : List Expr} {ms : TH.Env → M (List D)} {p pos : Pos} (hc : X.calm = true) (hb : b.ok = true) (hf : bfn b = .type T) (hg : Gl X x) (hm : X.mg x = none) (hv : bootBuiltins x = some (.type T))
    (hs : SL X nm W (e :: es) ms) (hn : noStar (e :: es) = true) (hnm : x ≠ "__name__") (hdb : (x == ("__debug__" : Str)) = false) : SE X nm W (.Call (.Name x p) (e :: es) [] pos) fun env s => (ms env s).bind (runBi m b) := by
  refine se_mk fun pins s σ H Q ρ st env A g => wpAny_Call_Name_kw (ld_blt A.I hg hm hv ?_ hnm hdb)
  simp only [noStar, List.all_cons, Bool.and_eq_true] at hn
  refine PyProof.Rows.callWith_type1 (thn (runL pos hs A g) fun us s1 ⟨ds, st1, ρ1, vs, H1, A1, e1, r1, q1, g1⟩ => ?_) (star_cons hn.1) (noStar_any hn.2)
  have := A1.bi (m := m) hc hb r1 q1 g1
  rw [hf] at this
  exact this
/-- isinstance(e, T) -/
theorem se_isi {x tx : Str} {t : Ty} {e : Expr} {ma : TH.Env → M D} {p p2 pos : Pos} (hg : Gl X x) (hm : X.mg x = none) (hv : bootBuiltins x = some (.builtin "isinstance")) (hgt : Gl X tx) (hmt : X.mg tx = none) (hvt : bootBuiltins tx = some (.type (tyN t)))
    (ha : SE X nm W e ma) (hn : notStar e = true) (hnm : x ≠ "__name__") (hdb : (x == ("__debug__" : Str)) = false) (hnt : tx ≠ "__name__") (hdt : (tx == ("__debug__" : Str)) = false) :
    SE X nm W (.Call (.Name x p) [e, .Name tx p2] [] pos) fun env s => ((ma env s).bind fun d s => ((M.pure [] : M (List D)) s).bind fun ds => M.pure (d :: ds)).bind (runBi false (.isinst t)) := by
  refine se_mk fun pins s σ H Q ρ st env A g => wpAny_Call_Name_kw (ld_blt A.I hg hm hv ?_ hnm hdb)
  have g' : Got X.K X.w nm W ρ st.length H σ ((ma env st).bind fun d => runBi false (.isinst t) [d]) (fun d st' ρ' H' => ∀ v, Rv X.K X.w ρ' st'.length H' v d → Q v H') := by
    unfold Post at g
    rw [R.bind_assoc] at g
    exact g
  refine PyProof.Rows.callWith_builtin1 ?_ (star_cons hn) rfl
  rw [star_cons hn, star_cons (e := .Name tx p2) rfl]
  refine Calls.spliced_cons (thn (run1 ha A g') fun u s1 ⟨d, st1, ρ1, v, H1, A1, e1, r1, q1, g1⟩ => Calls.spliced_cons (ld_blt A1.I hgt hmt hvt (Calls.spliced_nil ?_) hnt hdt))
  have g2 : Post X.K X.w nm W ρ1 st1.length H1 σ (runBi false (.isinst t) [d] st1) Q := g1
  unfold runBi at g2
  rw [if_neg (by simp [Bi.changes]), if_neg (by simp)] at g2
  unfold views at g2
  cases hx : TH.view st1 d with
  | none => rw [hx] at g2; exact False.elim g2
  | some x =>
    rw [hx] at g2
    unfold views at g2
    dsimp only at g2
    cases hb : isTy t x with
    | none =>
      have : biP (.isinst t) [x] = none := by show (isTy t x).map P.bl = none; rw [hb]; rfl
      rw [this] at g2
      exact False.elim g2
    | some b =>
      have : biP (.isinst t) [x] = some (.bl b) := by show (isTy t x).map P.bl = some (.bl b); rw [hb]; rfl
      rw [this] at g2
      exact bi_isi A1.I q1 (A1.sr.view r1 hx) hb (A1.epN g2 KeepN.refl (.bl b))
end
end TH
end T_TJ5
section T_TJ6
set_option Elab.async false
set_option linter.all false
set_option maxRecDepth 100000
/-! The built-in types' methods. -/
namespace TH
open PySem PySem.Spec PyProof.Rows L2
def bmT (b : Bi) : String := match b.recv with
  | 0 => "str" | 1 => "list" | _ => "dict"
def bmN : Bi → Str
  | .join => "join" | .partition => "partition" | .split => "split" | .startswith => "startswith" | .endswith => "endswith"
  | .append => "append" | .popAt => "pop" | .extend => "extend" | .dget => "get"
  | _ => ""
def Bi.meth : Bi → Bool
  | .join => true | .partition => true | .split => true | .startswith => true | .endswith => true
  | .append => true | .popAt => true | .extend => true | .dget => true
  | _ => false
theorem slot_of {b : Bi} (h : b.meth = true) : b.ok = true ∧ ∃ id, bfn b = .builtin id ∧ PlainAttrs (bmT b) ∧ Slot (bmT b) (bmN b) id ∧ typeOf (.builtin id) = pure (.type "method_descriptor") := by
  cases b <;> first | (exfalso; cases h; done) | refine ⟨rfl, _, rfl, ?_⟩
  · exact ⟨PySem.F.plainAttrs_str, PySem.F.slot_str_join, PySem.F.type_str_join⟩
  · exact ⟨PySem.F.plainAttrs_str, PySem.F.slot_str_partition, PySem.F.type_str_partition⟩
  · exact ⟨PySem.F.plainAttrs_str, PySem.F.slot_str_split, PySem.F.type_str_split⟩
  · exact ⟨PySem.F.plainAttrs_str, PySem.F.slot_str_startswith, PySem.F.type_str_startswith⟩
  · exact ⟨PySem.F.plainAttrs_str, PySem.F.slot_str_endswith, PySem.F.type_str_endswith⟩
  · exact ⟨PySem.F.plainAttrs_list, PySem.F.slot_list_append, PySem.F.type_list_append⟩
  · exact ⟨PySem.F.plainAttrs_list, PySem.F.slot_list_pop, PySem.F.type_list_pop⟩
  · exact ⟨PySem.F.plainAttrs_list, PySem.F.slot_list_extend, PySem.F.type_list_extend⟩
  · exact ⟨PySem.F.plainAttrs_dict, PySem.F.slot_dict_get, PySem.F.type_dict_get⟩
section
variable {X : Cx} {nm : Names} {W : WX} {pins : List (Addr × Obj)} {σ : L2.St} {env : TH.Env} {ρ : Nat → Addr} {st : Sto} {H : Hp} {s : Shared}
theorem recv_ok {b : Bi} {d : D} {v : V} {u : Value} (hb : b.meth = true) (A : At X nm pins σ env ρ st H s) (rv : Rv X.K X.w ρ st.length H v d) (ru : RelV v u) (h : recvOk b st d = true) :
    s.TypeIs u (bmT b) ∧ ∀ a, u = .ref a → ∃ ob, s.heap.get? a = some ob ∧ ob.dict = none := by
  have hr : b.recv = 0 ∨ b.recv = 1 ∨ b.recv = 2 := by cases b <;> first | (exfalso; cases hb; done) | simp [Bi.recv]
  unfold recvOk at h
  unfold bmT
  rcases hr with e | e | e
  · rw [e] at h ⊢
    try dsimp only at h ⊢
    cases hx : TH.view st d with
    | none => rw [hx] at h; cases h
    | some x =>
      rw [hx] at h
      cases x with
      | str z =>
        rw [(A.sr.view rv hx).str] at ru
        obtain ⟨t, rfl⟩ := ru
        exact ⟨typeIs_str _ _ _, fun _ e => nomatch e⟩
      | _ => cases h
  · rw [e] at h ⊢
    try dsimp only at h ⊢
    cases rv with
    | p _ => cases h
    | tup _ _ _ => cases h
    | @ref n hn =>
      dsimp only at h
      cases hc : st[n]? with
      | none => rw [hc] at h; cases h
      | some c =>
        rw [hc] at h
        cases c with
        | ins _ _ => cases h
        | lst xs =>
          obtain ⟨vs, h1, _⟩ := A.sr.cell n _ hc
          cases ru
          exact tyV_is (T := "list") (x := V.ref (ρ n)) A.I (show RelV (V.ref (ρ n)) (Value.ref (ρ n)) from rfl) (show tyV X.K "list" (V.ref (ρ n)) H from .inl ⟨rfl, vs, SqL.of h1⟩)
  · rw [e] at h ⊢
    try dsimp only at h ⊢
    cases hx : TH.view st d with
    | none => rw [hx] at h; cases h
    | some x =>
      rw [hx] at h
      cases x with
      | dct ks vs =>
        have vw := A.sr.view rv hx
        cases vw with
        | of r =>
          obtain ⟨a, find, rfl, D, _, _⟩ := r.dict A.I
          cases ru
          refine ⟨dict_type D, fun a' e => ?_⟩
          cases e
          obtain ⟨⟨Kt, _, knd, f, key, _, ⟨o, es, ep, h1, h2, _⟩, _⟩, _⟩ := D
          exact ⟨o, h1, h2.2.1⟩
      | _ => cases h
def bmM (m : Bool) (b : Bi) (mes : M (List D)) (x : D) : M D := fun s => if recvOk b s x then (mes s).bind fun ds => runBi m b (x :: ds) else .bad
theorem se_bm {m : Bool} {b : Bi} {a e : Expr} {es : List Expr} {ma : TH.Env → M D} {mes : TH.Env → M (List D)} {x : Str} {apos pos : Pos} (hc : X.calm = true) (hb : b.meth = true) (hx : x = bmN b) (ha : SE X nm W a ma) (hes : SL X nm W (e :: es) mes)
    (hs : notSuper a = true) (hline : (apos.endLine == pos.line) = true) (hn : noStar (e :: es) = true) (hl : (e :: es).length < 29) :
    SE X nm W (.Call (.Attribute a x apos) (e :: es) [] pos) fun env s => (ma env s).bind (bmM m b (mes env)) := by
  obtain ⟨hok, id, hf, pa, slot, hty⟩ := slot_of hb
  subst hx
  refine se_mk fun pins s σ H Q ρ st env A g => wpAny_Call_method_late (attr_plain hs) (few_ok hn hl) hline rfl (thn (run1 ha A g) fun u s1 ⟨d, st1, ρ1, v, H1, A1, e1, r1, q1, g1⟩ => ?_)
  have g2 : Post X.K X.w nm W ρ1 st1.length H1 σ (bmM m b (mes env) d st1) Q := g1
  unfold bmM at g2
  by_cases hr : recvOk b st1 d = true
  · rw [if_pos hr] at g2
    obtain ⟨h1, h2⟩ := recv_ok hb A1 r1 q1 hr
    refine ⟨bmT b, id, pa, slot, hty, h1, h2, ?_⟩
    simp only [noStar, List.all_cons, Bool.and_eq_true] at hn
    have hA := runL pos hes A1 g2
    rw [star_cons hn.1] at hA ⊢
    refine Calls.callWith_builtin (by show (false || (backTo pos (starEach es X.env)).any (·.1)) = false; rw [noStar_any hn.2] <;> rfl) (Calls.evalArgs_plain ?_)
    refine thn hA fun us s2 ⟨ds, st2, ρ2, vs, H2, A2, e2, r2, q2, g3⟩ => ?_
    have := A2.bi (m := m) hc hok (.cons (e2.rv r1) r2) (.cons q1 q2) g3
    rw [hf] at this
    exact this
  · rw [if_neg hr] at g2; exact False.elim g2
end
end TH
end T_TJ6
section T_TJ7
set_option Elab.async false
set_option linter.all false
set_option maxRecDepth 100000
/-! Targets. -/
namespace TH
open PySem PySem.Spec PyProof.Rows L2
theorem wipe_get (σ : L2.St) : ∀ (vs : List Nat) (j : Nat), (wipe σ vs)[j]? = if j ∈ vs ∧ j < σ.length then some none else σ[j]?
  | [], j => by simp [wipe]
  | v :: vs, j => by
    unfold wipe
    rw [List.getElem?_set, wipe_get σ vs j, wipe_length]
    by_cases h1 : v = j
    · subst h1
      by_cases h2 : v < σ.length
      · simp [h2]
      · have : σ[v]? = none := List.getElem?_eq_none (Nat.not_lt.mp h2)
        simp [h2, this]
    · have h1' : ¬ j = v := fun e => h1 e.symm
      simp [h1, h1', List.mem_cons]
theorem wipe_set {σ : L2.St} {vs : List Nat} {i : Nat} {x : Option V} (h : i ∈ vs) : wipe (σ.set i x) vs = wipe σ vs := by
  refine List.ext_getElem? fun j => ?_
  rw [wipe_get, wipe_get, List.length_set]
  by_cases hj : j ∈ vs ∧ j < σ.length
  · rw [if_pos hj, if_pos hj]
  · rw [if_neg hj, if_neg hj]
    by_cases e : i = j
    · subst e
      have : ¬ i < σ.length := fun z => hj ⟨h, z⟩
      rw [List.getElem?_eq_none (by simpa using this), List.getElem?_eq_none (by simpa using this)]
    · rw [List.getElem?_set_ne e]
section
variable {K : Frag} {w : World} {ρ : Nat → Addr} {L : Nat} {H : Hp} {σ : L2.St} {env : TH.Env}
theorem EnvR.set {i : Nat} {v : V} {d : D} (e : EnvR K w ρ L H σ env) (r : Rv K w ρ L H v d) : EnvR K w ρ L H (σ.set i (some v)) (env.set i (some d)) := by
  refine ⟨by rw [List.length_set, List.length_set]; exact e.len, fun j d' h => ?_⟩
  by_cases hij : i = j
  · subst hij
    have hlt : i < env.length := by
      have := (List.getElem?_eq_some_iff.mp h).1
      simpa using this
    rw [List.getElem?_set_self hlt] at h
    cases h
    exact ⟨v, List.getElem?_set_self (by rw [e.len]; exact hlt), r⟩
  · rw [List.getElem?_set_ne hij] at h
    obtain ⟨v', h1, h2⟩ := e.at_ j d' h
    exact ⟨v', by rw [List.getElem?_set_ne hij]; exact h1, h2⟩
theorem EnvR.wipe {own : List Nat} (e : EnvR K w ρ L H σ env) : EnvR K w ρ L H (L2.wipe σ own) (wipeE env own) := by
  induction own with
  | nil => exact e
  | cons v vs ih =>
    unfold L2.wipe wipeE
    refine ⟨by rw [List.length_set, List.length_set]; exact ih.len, fun j d' h => ?_⟩
    by_cases hij : v = j
    · subst hij
      have hlt : v < (wipeE env vs).length := by
        have := (List.getElem?_eq_some_iff.mp h).1
        simpa using this
      rw [List.getElem?_set_self hlt] at h
      cases h
    · rw [List.getElem?_set_ne hij] at h
      obtain ⟨v', h1, h2⟩ := ih.at_ j d' h
      exact ⟨v', by rw [List.getElem?_set_ne hij]; exact h1, h2⟩
end
def Tg.ix : Tg → List Nat
  | .name i => [i]
  | .tup is => is
/-- what a target's store is -/
def rdG (K : Frag) (w : World) (tg : Tg) : TG := fun v σ H Q => ∃ d env ρ L env', EnvR K w ρ L H σ env ∧ Rv K w ρ L H v d ∧ setTg env tg d = some env' ∧
  ∀ σ', EnvR K w ρ L H σ' env' → (∀ vs : List Nat, (∀ i ∈ tg.ix, i ∈ vs) → L2.wipe σ' vs = L2.wipe σ vs) → Q σ' H
/-- a name that may be stored -/
structure NmOk (X : Cx) (i : Nat) (x : Str) : Prop where
  ix : X.N[i]? = some x
  loc : Loc X.env.scope x
  fn : X.fn x = true ∨ X.env.scope.names.lookup x = some .local
section
variable {X : Cx}
theorem pgD_name {i : Nat} {x : Str} {pos : Pos} (hN : X.N.Nodup) (h : NmOk X i x) : PG X (.Name x pos) (rdG X.K X.w (.name i)) := by
  refine ⟨fun pins s σ H v u Q I r ⟨d, env, ρ, L, env', er, rv, hs, k⟩ => (pg_name hN h.ix h.loc h.fn).run pins s σ H v u Q I r ?_⟩
  cases hs
  exact k _ (er.set rv) fun vs hvs => wipe_set (hvs i (by simp [Tg.ix]))
def gNames : List Nat → TGs
  | [] => gNil
  | i :: r => gCons (gName i) (gNames r)
inductive NmsOk (X : Cx) : List Expr → List Nat → Prop
  | nil : NmsOk X [] []
  | cons {i : Nat} {x : Str} {pos : Pos} {es : List Expr} {is : List Nat} : NmOk X i x → NmsOk X es is → NmsOk X (.Name x pos :: es) (i :: is)
theorem pgs_names (hN : X.N.Nodup) : ∀ {es : List Expr} {is : List Nat}, NmsOk X es is → PGs X es (gNames is) ∧ (assignEach es X.env).length = is.length ∧ (assignEach es X.env).findIdx? (·.1) = none
  | _, _, .nil => ⟨pgs_nil, rfl, rfl⟩
  | _, _, .cons h t => by
    obtain ⟨h1, h2, h3⟩ := pgs_names hN t
    refine ⟨pgs_cons (pg_name hN h.ix h.loc h.fn) h1, ?_, ?_⟩
    · show (assignEach _ X.env).length + 1 = _
      rw [h2]; rfl
    · show List.findIdx? _ (_ :: assignEach _ X.env) = none
      rw [List.findIdx?_cons, h3]
      rfl
theorem gNames_ok {K : Frag} {w : World} {ρ : Nat → Addr} {L : Nat} {H : Hp} {vs' : List Nat} : ∀ {is : List Nat} {ds : List D} {xs : List V} {σ : L2.St} {env env' : TH.Env} {Q : L2.St → Hp → Prop}, EnvR K w ρ L H σ env → RvL K w ρ L H xs ds → setAll env is ds = some env' →
    (∀ σ', EnvR K w ρ L H σ' env' → (∀ vs : List Nat, (∀ i ∈ is, i ∈ vs) → L2.wipe σ' vs = L2.wipe σ vs) → Q σ' H) → gNames is xs σ H Q
  | [], [], _, σ, env, env', Q, er, .nil, h, k => by
    cases h
    exact ⟨rfl, k σ er fun _ _ => rfl⟩
  | i :: is, d :: ds, _, σ, env, env', Q, er, .cons r t, h, k => by
    refine ⟨_, _, rfl, ?_⟩
    show gNames is _ _ H Q
    exact gNames_ok (vs' := vs') (er.set r) t h fun σ' e' hw => k σ' e' fun vs hv => (hw vs fun j hj => hv j (List.mem_cons_of_mem _ hj)).trans (wipe_set (hv i List.mem_cons_self))
  | [], _ :: _, _, _, _, _, _, _, _, h, _ => by cases h
  | _ :: _, [], _, _, _, _, _, _, _, h, _ => by cases h
theorem pgD_tup {es : List Expr} {is : List Nat} {k : Nat} {pos : Pos} (hc : X.calm = true) (hN : X.N.Nodup) (h : NmsOk X es is) : PG X (.Tuple es k pos) (rdG X.K X.w (.tup is)) := by
  obtain ⟨h1, h2, h3⟩ := pgs_names hN h
  refine ⟨fun pins s σ H v u Q I r ⟨d, env, ρ, L, env', er, rv, hs, k⟩ => (pg_tup (n := is.length) hc h1 h2 h3).run pins s σ H v u Q I r ?_⟩
  obtain ⟨ds, e1, e2⟩ := Option.bind_eq_some_iff.mp (show (asTup d).bind (fun ds => if ds.length = is.length then setAll env is ds else none) = some env' from hs)
  obtain ⟨hl, e3⟩ := of_ite e2
  have hq : ∃ a xs, v = .ref a ∧ SqT X.K H a xs ∧ RvL X.K X.w ρ L H xs ds := by
    cases rv with
    | p rp =>
      rename_i x
      cases x with
      | tup xs =>
        cases e1
        obtain ⟨a, vs, rfl, q, rl⟩ := rp.tuple
        exact ⟨a, vs, rfl, q, RvL.of_rp rl⟩
      | _ => cases e1
    | ref _ => cases e1
    | tup h nl rl =>
      cases e1
      exact ⟨_, _, rfl, .inl h, rl⟩
  obtain ⟨a, xs, rfl, q, rl⟩ := hq
  exact ⟨a, xs, rfl, q, rl.length.trans hl, gNames_ok (vs' := []) er rl e3 k⟩
end
end TH
end T_TJ7
section T_TJ8
set_option Elab.async false
set_option linter.all false
set_option maxRecDepth 100000
/-! What is walked. -/
namespace TH
open PySem PySem.Spec PyProof.Rows L2
/-- an iterator yields these items -/
structure ItOk (K : Frag) (w : World) (nm : Names) (J : It) (xs : List D) (ρ0 : Nat → Addr) (L0 : Nat) (H0 : Hp) (ok : Sto → Bool) : Prop where
  go : ∀ (i : Nat) ρ st H, i < xs.length → Ext ρ0 L0 H0 ρ st.length H → StR K w nm ρ st H → ok st = true → J.go i H
  yld : ∀ (i : Nat) ρ st H x H' d, xs[i]? = some d → Ext ρ0 L0 H0 ρ st.length H → StR K w nm ρ st H → ok st = true → J.yld i H x H' → KeepN H H' ∧ Rv K w ρ st.length H' x d
  stop : ∀ (i : Nat) ρ st H, xs.length ≤ i → Ext ρ0 L0 H0 ρ st.length H → StR K w nm ρ st H → ok st = true → J.stop i H
def rdI (K : Frag) (w : World) (nm : Names) (W : WX) (ik : ItK) (m : TH.Env → M (List D)) : TI := fun σ H R => ∃ ρ st env, EnvR K w ρ st.length H σ env ∧ StR K w nm ρ st H ∧
  Got K w nm W ρ st.length H σ (m env st) fun ds st' ρ' H' => ∃ xs, items ik ds st' = some xs ∧ ∀ J, ItOk K w nm J xs ρ' st'.length H' (fun s' => stands ik ds st' s') → R J H'
section
variable {X : Cx} {nm : Names} {W : WX} {pins : List (Addr × Obj)} {σ : L2.St} {env : TH.Env} {ρ : Nat → Addr} {st : Sto} {H : Hp} {s : Shared}
theorem RvL.getP {vs : List V} {xs : List P} (r : RpL X.K X.w (live ρ st.length) H vs xs) {i : Nat} {v : V} {d : D} (h : vs[i]? = some v) (hd : (xs.map D.p)[i]? = some d) : Rv X.K X.w ρ st.length H v d := by
  obtain ⟨x, h1, h2⟩ := r.getV h
  rw [List.getElem?_map, h1] at hd
  cases hd
  exact .p h2
/-- a list that is data -/
theorem itok_lst {v : V} {xs : List P} {a : Addr} (rv : Rp X.K X.w (live ρ st.length) H v (.lst xs)) (ha : v = .ref a) {ok : Sto → Bool} : ItOk X.K X.w nm (Itl X.K a) (xs.map D.p) ρ st.length H ok := by
  subst ha
  have key : ∀ (ρ1 : Nat → Addr) (st1 : Sto) (H1 : Hp), Ext ρ st.length H ρ1 st1.length H1 → ∃ vs, H1 a = some (.lst vs) ∧ RpL X.K X.w (live ρ1 st1.length) H1 vs xs := fun ρ1 st1 H1 e => by
    obtain ⟨a', vs, ea, h1, h2⟩ := (Vw.of (e.rp rv)).list
    cases ea
    exact ⟨vs, h1, h2⟩
  refine ⟨fun i ρ1 st1 H1 hi e S _ => ?_, fun i ρ1 st1 H1 x H' d hd e S _ ⟨hH, hy⟩ => ?_, fun i ρ1 st1 H1 hi e S _ => ?_⟩
  · obtain ⟨vs, h1, h2⟩ := key ρ1 st1 H1 e
    have hl := h2.length
    rw [List.length_map] at hi
    exact ⟨vs, vs[i]'(by omega), SqL.of h1, List.getElem?_eq_getElem _⟩
  · subst hH
    obtain ⟨vs, h1, h2⟩ := key ρ1 st1 H' e
    exact ⟨KeepN.refl, RvL.getP h2 (hy vs (SqL.of h1)) hd⟩
  · obtain ⟨vs, h1, h2⟩ := key ρ1 st1 H1 e
    have hl := h2.length
    rw [List.length_map] at hi
    exact ⟨vs, SqL.of h1, by omega⟩
/-- a list of the store -/
theorem itok_ref {n : Nat} {xs : List D} (hn : n < st.length) (hc : st[n]? = some (.lst xs)) {ok : Sto → Bool} (hok : ∀ s', ok s' = true → s'[n]? = st[n]?) : ItOk X.K X.w nm (Itl X.K (ρ n)) xs ρ st.length H ok := by
  have key : ∀ (ρ1 : Nat → Addr) (st1 : Sto) (H1 : Hp), Ext ρ st.length H ρ1 st1.length H1 → StR X.K X.w nm ρ1 st1 H1 → ok st1 = true → ∃ vs, H1 (ρ n) = some (.lst vs) ∧ RvL X.K X.w ρ1 st1.length H1 vs xs := fun ρ1 st1 H1 e S k => by
    have h := hok st1 k
    rw [hc] at h
    have := S.cell n _ h
    rw [e.same n hn] at this
    exact this
  refine ⟨fun i ρ1 st1 H1 hi e S k => ?_, fun i ρ1 st1 H1 x H' d hd e S k ⟨hH, hy⟩ => ?_, fun i ρ1 st1 H1 hi e S k => ?_⟩
  · obtain ⟨vs, h1, h2⟩ := key ρ1 st1 H1 e S k
    have hl := h2.length
    exact ⟨vs, vs[i]'(by omega), SqL.of h1, List.getElem?_eq_getElem _⟩
  · subst hH
    obtain ⟨vs, h1, h2⟩ := key ρ1 st1 H' e S k
    obtain ⟨v', h3, h4⟩ := h2.get hd
    have := hy vs (SqL.of h1)
    rw [h3] at this
    cases this
    exact ⟨KeepN.refl, h4⟩
  · obtain ⟨vs, h1, h2⟩ := key ρ1 st1 H1 e S k
    have hl := h2.length
    exact ⟨vs, SqL.of h1, by omega⟩
theorem itok_tup {v : V} {xs : List P} {a : Addr} (rv : Rp X.K X.w (live ρ st.length) H v (.tup xs)) (ha : v = .ref a) {ok : Sto → Bool} : ItOk X.K X.w nm (Itt X.K a) (xs.map D.p) ρ st.length H ok := by
  subst ha
  have key : ∀ (ρ1 : Nat → Addr) (st1 : Sto) (H1 : Hp), Ext ρ st.length H ρ1 st1.length H1 → ∃ vs, SqT X.K H1 a vs ∧ RpL X.K X.w (live ρ1 st1.length) H1 vs xs := fun ρ1 st1 H1 e => by
    obtain ⟨a', vs, ea, h1, h2⟩ := (e.rp rv).tuple
    cases ea
    exact ⟨vs, h1, h2⟩
  refine ⟨fun i ρ1 st1 H1 hi e S _ => ?_, fun i ρ1 st1 H1 x H' d hd e S _ ⟨hH, hy⟩ => ?_, fun i ρ1 st1 H1 hi e S _ => ?_⟩
  · obtain ⟨vs, h1, h2⟩ := key ρ1 st1 H1 e
    have hl := h2.length
    rw [List.length_map] at hi
    exact ⟨vs, vs[i]'(by omega), h1, List.getElem?_eq_getElem _⟩
  · subst hH
    obtain ⟨vs, h1, h2⟩ := key ρ1 st1 H' e
    exact ⟨KeepN.refl, RvL.getP h2 (hy vs h1) hd⟩
  · obtain ⟨vs, h1, h2⟩ := key ρ1 st1 H1 e
    have hl := h2.length
    rw [List.length_map] at hi
    exact ⟨vs, h1, by omega⟩
theorem itok_str {z : List Nat} {ok : Sto → Bool} : ItOk X.K X.w nm (Its (sS z)) (z.map fun c => D.p (.str [c])) ρ st.length H ok := by
  have hz : (sS z).cps.size = z.length := by simp [sS]
  refine ⟨fun i ρ1 st1 H1 hi e S _ => ?_, fun i ρ1 st1 H1 x H' d hd e S _ ⟨hH, c, hc, hx⟩ => ?_, fun i ρ1 st1 H1 hi e S _ => ?_⟩
  · rw [List.length_map] at hi
    show i < (sS z).cps.size
    omega
  · subst hH hx
    have hc' : z[i]? = some c := by
      rw [← Array.getElem?_toList] at hc
      exact hc
    rw [List.getElem?_map, hc'] at hd
    cases hd
    exact ⟨KeepN.refl, .p (.str [c])⟩
  · rw [List.length_map] at hi
    show (sS z).cps.size ≤ i
    omega
theorem itok_rng {lo : Int} {n : Nat} {ok : Sto → Bool} : ItOk X.K X.w nm (Itr lo n) ((List.range n).map fun (k : Nat) => D.p (.int (lo + (k : Int)))) ρ st.length H ok := by
  refine ⟨fun i ρ1 st1 H1 hi e S _ => ?_, fun i ρ1 st1 H1 x H' d hd e S _ ⟨hH, hx⟩ => ?_, fun i ρ1 st1 H1 hi e S _ => ?_⟩
  · show i < n
    simpa using hi
  · subst hH hx
    rw [List.getElem?_map] at hd
    obtain ⟨k, hk, rfl⟩ := Option.map_eq_some_iff.mp hd
    have h1 := List.getElem?_eq_some_iff.mp hk
    obtain ⟨h2, h3⟩ := h1
    rw [List.getElem_range] at h3
    subst h3
    exact ⟨KeepN.refl, .p (.int _)⟩
  · show n ≤ i
    simpa using hi
theorem Rp.sq {v : V} {ns : List Int} {B : Addr → Prop} (r : Rp X.K X.w B H v (.scr ns)) : ∃ a, v = .ref a ∧ SqL X.K H a (ns.map V.int) := by
  cases r with
  | scr h nb => exact ⟨_, rfl, .inl h⟩
  | scrK h1 h2 h3 h4 h5 h6 => exact ⟨_, rfl, .inr ⟨_, _, _, h1, h2, h3, h4, h5, h6⟩⟩
theorem itok_scr {v : V} {ns : List Int} {a : Addr} (rv : Rp X.K X.w (live ρ st.length) H v (.scr ns)) (ha : v = .ref a) {ok : Sto → Bool} : ItOk X.K X.w nm (Itl X.K a) (ns.map fun i => D.p (.int i)) ρ st.length H ok := by
  subst ha
  have key : ∀ (ρ1 : Nat → Addr) (st1 : Sto) (H1 : Hp), Ext ρ st.length H ρ1 st1.length H1 → SqL X.K H1 a (ns.map V.int) := fun ρ1 st1 H1 e => by
    obtain ⟨a', ea, h⟩ := (e.rp rv).sq
    cases ea
    exact h
  refine ⟨fun i ρ1 st1 H1 hi e S _ => ?_, fun i ρ1 st1 H1 x H' d hd e S _ ⟨hH, hy⟩ => ?_, fun i ρ1 st1 H1 hi e S _ => ?_⟩
  · rw [List.length_map] at hi
    exact ⟨_, .int ns[i], key ρ1 st1 H1 e, by rw [List.getElem?_map, List.getElem?_eq_getElem hi]; rfl⟩
  · subst hH
    have h := hy _ (key ρ1 st1 H' e)
    rw [List.getElem?_map] at h hd
    cases hq : ns[i]? with
    | none => rw [hq] at h; cases h
    | some j =>
      rw [hq] at h hd
      cases h
      cases hd
      exact ⟨KeepN.refl, .p (.int j)⟩
  · rw [List.length_map] at hi
    exact ⟨_, key ρ1 st1 H1 e, by rw [List.length_map]; exact hi⟩
/-- a value that is walked -/
theorem pyIter_ok {tg : Expr} {d : D} {v : V} {u : Value} {xs : List D} {R : It → Hp → Prop} {E : Value → Shared → Prop} (A : At X nm pins σ env ρ st H s) (rv : Rv X.K X.w ρ st.length H v d) (ru : RelV v u) (hi : items .seq [d] st = some xs)
    (k : ∀ J, ItOk X.K X.w nm J xs ρ st.length H (fun s' => stands .seq [d] st s') → R J H) : wpAny (model X.prog X.w) X.A (pyIter u) (PIE X pins σ tg R) E s := by
  have I1 := A.I
  have lst : ∀ a vs, H a = some (.lst vs) → R (Itl X.K a) H → wpAny (model X.prog X.w) X.A (pyIter (.ref a)) (PIE X pins σ tg R) E s := fun a vs h q => by
    obtain ⟨its, rv, p, hz⟩ := I1.list (SqL.of h)
    exact wpAny_pyIter_list p.isList (pi_one (tk := s.toks) I1 _ (turn_list a _) ⟨_, Heap.get?_push_size _ rfl, rfl, rfl⟩ q)
  cases rv with
  | p r =>
    rename_i x
    cases x with
    | lst ys =>
      cases hi
      obtain ⟨a, vs, rfl, h, rl⟩ := (Vw.of r).list
      cases ru
      exact lst a vs h (k _ (itok_lst r rfl))
    | tup ys =>
      cases hi
      obtain ⟨a, vs, rfl, h, rl⟩ := r.tuple
      cases ru
      obtain ⟨its, rv, p, hz⟩ := I1.tuple h
      exact wpAny_pyIter_tuple (show s.heap.IsTuple a its.toArray from p) (pi_one (tk := s.toks) I1 _ (turn_tuple a _) ⟨_, Heap.get?_push_size _ rfl, rfl, rfl⟩ (k _ (itok_tup r rfl)))
    | str z =>
      obtain ⟨hl, e⟩ := of_ite (show (if z.length ≤ line then some (z.map fun c => D.p (.str [c])) else none) = some xs from hi)
      cases e
      cases r
      obtain ⟨t, rfl⟩ := ru
      have q := k _ (itok_str (X := X) (nm := nm) (ρ := ρ) (st := st) (H := H) (z := z))
      cases ha : (sS z).cps.all (· < 128)
      · exact wpAny_pyIter_wide ha (pi_one (tk := s.toks) I1 _ (turn_str _ (sS z) t "str_iterator" (.inr rfl)) ⟨_, Heap.get?_push_size _ rfl, rfl, rfl⟩ q)
      · exact wpAny_pyIter_ascii ha (pi_one (tk := s.toks) I1 _ (turn_str _ (sS z) t "str_ascii_iterator" (.inl rfl)) ⟨_, Heap.get?_push_size _ rfl, rfl, rfl⟩ q)
    | scr ns =>
      cases hi
      obtain ⟨a, rfl, hq⟩ := r.sq
      cases ru
      obtain ⟨its, rv, p, hz⟩ := I1.list hq
      exact wpAny_pyIter_list p.isList (pi_one (tk := s.toks) I1 _ (turn_list a _) ⟨_, Heap.get?_push_size _ rfl, rfl, rfl⟩ (k _ (itok_scr r rfl)))
    | _ => cases hi
  | @ref n hn =>
    have hi' : (match st[n]? with | some (Cell.lst xs) => some xs | _ => none) = some xs := hi
    cases hc : st[n]? with
    | none => rw [hc] at hi'; cases hi'
    | some c =>
      rw [hc] at hi'
      cases c with
      | ins _ _ => cases hi'
      | lst ys =>
        cases hi'
        cases ru
        obtain ⟨vs, h1, _⟩ := A.sr.cell n _ hc
        exact lst _ vs h1 (k _ (itok_ref hn hc fun s' hs => by
          have : decide (s'[n]? = st[n]?) = true := hs
          simpa using this))
  | tup _ _ _ => cases hi
abbrev oneM (ma : TH.Env → M D) : TH.Env → M (List D) := fun env s => (ma env s).bind fun d s => ((M.pure [] : M (List D)) s).bind fun ds => M.pure (d :: ds)
abbrev twoM (ma mb : TH.Env → M D) : TH.Env → M (List D) := fun env s => (ma env s).bind fun d s => (oneM mb env s).bind fun ds => M.pure (d :: ds)
theorem si_seq {tg e : Expr} {ma : TH.Env → M D} (ha : SE X nm W e ma) : PI X tg e (rdI X.K X.w nm W .seq (oneM ma)) := by
  refine ⟨fun pins s σ H R I ⟨ρ, st, env, er, sr, g⟩ => ?_⟩
  refine thn (run1 ha ⟨I, er, sr⟩ g) fun u s1 ⟨d, st1, ρ1, v, H1, A1, e1, r1, q1, g1⟩ => ?_
  obtain ⟨xs, h1, h2⟩ := Got.here (a := [d]) g1 A1.sr
  exact pyIter_ok A1 r1 q1 h1 h2
theorem si_rng1 {tg e : Expr} {ma : TH.Env → M D} {p pos : Pos} (hg : Gl X "range") (hm : X.mg "range" = none) (ha : SE X nm W e ma) (hn : notStar e = true) : PI X tg (.Call (.Name "range" p) [e] [] pos) (rdI X.K X.w nm W .range1 (oneM ma)) := by
  refine ⟨fun pins s σ H R I ⟨ρ, st, env, er, sr, g⟩ => ?_⟩
  have h1 := sl_cons ha sl_nil hn
  refine (pi_range1 (X := X) (tg := tg) (a := e) (p := p) (pos := pos) hg hm h1 (star_cons hn)).run pins s σ H R I ?_
  refine ⟨ρ, st, env, er, sr, Got.imp g fun ds st1 ρ1 H1 ⟨xs, hx, k⟩ vs rv => ?_⟩
  match ds, hx with
  | [.p (.int j)], hx =>
    obtain ⟨hl, e⟩ := of_ite (show (if j.natAbs < 1000000000 then some ((List.range j.toNat).map fun (i : Nat) => D.p (.int (i : Int))) else none) = some xs from hx)
    cases e
    cases rv with
    | cons r t =>
      cases t
      cases r with
      | p r =>
        cases r
        refine ⟨j, rfl, by omega, by omega, k _ ?_⟩
        have := itok_rng (X := X) (nm := nm) (ρ := ρ1) (st := st1) (H := H1) (lo := 0) (n := j.toNat) (ok := fun s' => stands .range1 [.p (.int j)] st1 s')
        simpa using this
theorem si_rng2 {tg e e2 : Expr} {ma mb : TH.Env → M D} {p pos : Pos} (hg : Gl X "range") (hm : X.mg "range" = none) (ha : SE X nm W e ma) (hb : SE X nm W e2 mb) (hn : notStar e = true) (hn2 : notStar e2 = true) : PI X tg (.Call (.Name "range" p) [e, e2] [] pos) (rdI X.K X.w nm W .range2 (twoM ma mb)) := by
  refine ⟨fun pins s σ H R I ⟨ρ, st, env, er, sr, g⟩ => ?_⟩
  have h1 := sl_cons ha (sl_cons hb sl_nil hn2) hn
  refine (pi_range2 (X := X) (tg := tg) (a := e) (b := e2) (p := p) (pos := pos) hg hm h1 (by rw [star_cons hn, star_cons hn2]; rfl) (star_cons hn2)).run pins s σ H R I ?_
  refine ⟨ρ, st, env, er, sr, Got.imp g fun ds st1 ρ1 H1 ⟨xs, hx, k⟩ vs rv => ?_⟩
  match ds, hx with
  | [.p (.int i), .p (.int j)], hx =>
    obtain ⟨hl, e⟩ := of_ite (show (if i.natAbs < 1000000000 ∧ j.natAbs < 1000000000 then some ((List.range (j - i).toNat).map fun (k : Nat) => D.p (.int (i + (k : Int)))) else none) = some xs from hx)
    cases e
    cases rv with
    | cons r t =>
      cases t with
      | cons r2 t =>
        cases t
        cases r with
        | p r =>
          cases r2 with
          | p r2 =>
            cases r
            cases r2
            exact ⟨i, j, rfl, ⟨by omega, by omega, by omega, by omega⟩, k _ itok_rng⟩
theorem pair_new {T : Addr} {x y : V} {a b : P} (S : StR X.K X.w nm ρ st H) (hT : H T = none) (r1 : Rp X.K X.w (live ρ st.length) H x a) (r2 : Rp X.K X.w (live ρ st.length) H y b) : KeepN H (upd H T (.tup [x, y])) ∧ Rv X.K X.w ρ st.length (upd H T (.tup [x, y])) (.ref T) (.p (.tup [a, b])) :=
  ⟨KeepN.upd hT, .p (Rp.newT (fun a h => S.not_live_new h) hT (.cons r1 (.cons r2 .nil)))⟩
theorem itok_zip {v v2 : V} {xs ys : List P} {a b : Addr} (rv : Rp X.K X.w (live ρ st.length) H v (.tup xs)) (rv2 : Rp X.K X.w (live ρ st.length) H v2 (.tup ys)) (ha : v = .ref a) (hb : v2 = .ref b) {ok : Sto → Bool} :
    ItOk X.K X.w nm (RZ.ItzT X.K a b) ((xs.zip ys).map fun q => D.p (.tup [q.1, q.2])) ρ st.length H ok := by
  subst ha hb
  have key : ∀ {a : Addr} {xs : List P}, Rp X.K X.w (live ρ st.length) H (.ref a) (.tup xs) → ∀ (ρ1 : Nat → Addr) (st1 : Sto) (H1 : Hp), Ext ρ st.length H ρ1 st1.length H1 → ∃ vs, SqT X.K H1 a vs ∧ RpL X.K X.w (live ρ1 st1.length) H1 vs xs := fun rv ρ1 st1 H1 e => by
    obtain ⟨a', vs, ea, h1, h2⟩ := (e.rp rv).tuple
    cases ea
    exact ⟨vs, h1, h2⟩
  refine ⟨fun i ρ1 st1 H1 hi e S _ => ?_, fun i ρ1 st1 H1 x H' d hd e S _ hy => ?_, fun i ρ1 st1 H1 hi e S _ => ?_⟩
  · obtain ⟨vs, h1, h2⟩ := key rv ρ1 st1 H1 e
    obtain ⟨us, h3, h4⟩ := key rv2 ρ1 st1 H1 e
    have l1 := h2.length
    have l2 := h4.length
    rw [List.length_map, List.length_zip] at hi
    exact ⟨vs, us, vs[i]'(by omega), us[i]'(by omega), h1, h3, List.getElem?_eq_getElem _, List.getElem?_eq_getElem _⟩
  · obtain ⟨T, x', y', rfl, hT, rfl, k1, k2⟩ := hy
    obtain ⟨vs, h1, h2⟩ := key rv ρ1 st1 H1 e
    obtain ⟨us, h3, h4⟩ := key rv2 ρ1 st1 H1 e
    obtain ⟨p, hp1, hp2⟩ := h2.getV (k1 vs h1)
    obtain ⟨q, hq1, hq2⟩ := h4.getV (k2 us h3)
    rw [List.getElem?_map, List.getElem?_zip_eq_some (z := (p, q)) |>.mpr ⟨hp1, hq1⟩] at hd
    cases hd
    exact pair_new S hT hp2 hq2
  · obtain ⟨vs, h1, h2⟩ := key rv ρ1 st1 H1 e
    obtain ⟨us, h3, h4⟩ := key rv2 ρ1 st1 H1 e
    have l1 := h2.length
    have l2 := h4.length
    rw [List.length_map, List.length_zip] at hi
    exact ⟨vs, us, h1, h3, by omega⟩
theorem si_zip {elts : List Expr} {kk : Nat} {tpos : Pos} {e e2 : Expr} {ma mb : TH.Env → M D} {p pos : Pos} (hg : Gl X "zip") (hm : X.mg "zip" = none) (ha : SE X nm W e ma) (hb : SE X nm W e2 mb) (hn : notStar e = true) (hn2 : notStar e2 = true) :
    PI X (.Tuple elts kk tpos) (.Call (.Name "zip" p) [e, e2] [] pos) (rdI X.K X.w nm W .zip (twoM ma mb)) := by
  refine ⟨fun pins s σ H R I ⟨ρ, st, env, er, sr, g⟩ => ?_⟩
  have h1 := sl_cons ha (sl_cons hb sl_nil hn2) hn
  refine (RZ.pi_zipA (X := X) (e := e) (e2 := e2) (p := p) (pos := pos) hg hm h1 (star_cons hn) (by rw [star_cons hn2]; rfl)).run pins s σ H R I ?_
  refine ⟨ρ, st, env, er, sr, Got.imp g fun ds st1 ρ1 H1 ⟨xs, hx, k⟩ vs rv => ?_⟩
  match ds, hx with
  | [.p (.tup ps), .p (.tup qs)], hx =>
    cases hx
    cases rv with
    | cons r t =>
      cases t with
      | cons r2 t =>
        cases t
        cases r with
        | p r =>
          cases r2 with
          | p r2 =>
            obtain ⟨a, vs, rfl, h1, _⟩ := r.tuple
            obtain ⟨b, us, rfl, h2, _⟩ := r2.tuple
            exact ⟨a, b, vs, us, rfl, .inr ⟨h1, h2, k _ (itok_zip r r2 rfl rfl)⟩⟩
theorem itok_enum {n : Nat} {d : D} {v : V} {a : Addr} {xs : List P} (S0 : StR X.K X.w nm ρ st H) (rv : Rv X.K X.w ρ st.length H v d) (ha : v = .ref a) (hv : TH.view st d = some (.lst xs)) :
    ItOk X.K X.w nm (Ite X.K a) ((List.range xs.length).zipWith (fun (i : Nat) x => D.p (.tup [.int (i : Int), x])) xs) ρ st.length H (fun s' => stands .enum [d] st s') := by
  subst ha
  have key : ∀ (ρ1 : Nat → Addr) (st1 : Sto) (H1 : Hp), Ext ρ st.length H ρ1 st1.length H1 → StR X.K X.w nm ρ1 st1 H1 → stands .enum [d] st st1 = true → ∃ vs, H1 a = some (.lst vs) ∧ RpL X.K X.w (live ρ1 st1.length) H1 vs xs := fun ρ1 st1 H1 e S k => by
    have hv1 : TH.view st1 d = some (.lst xs) := by
      cases d with
      | p x => exact hv
      | tup _ => cases hv
      | ref n =>
        have hk : st1[n]? = st[n]? := by
          have : decide (st1[n]? = st[n]?) = true := k
          simpa using this
        unfold TH.view at hv ⊢
        dsimp only at hv ⊢
        rw [hk]
        exact hv
    obtain ⟨a', vs, ea, h1, h2⟩ := (S.view (e.rv rv) hv1).list
    cases ea
    exact ⟨vs, h1, h2⟩
  have hlen : ((List.range xs.length).zipWith (fun (i : Nat) x => D.p (.tup [.int (i : Int), x])) xs).length = xs.length := by simp
  refine ⟨fun i ρ1 st1 H1 hi e S k => ?_, fun i ρ1 st1 H1 x H' d hd e S k hy => ?_, fun i ρ1 st1 H1 hi e S k => ?_⟩
  · obtain ⟨vs, h1, h2⟩ := key ρ1 st1 H1 e S k
    have l1 := h2.length
    rw [hlen] at hi
    exact ⟨vs, vs[i]'(by omega), SqL.of h1, List.getElem?_eq_getElem _⟩
  · obtain ⟨T, x', rfl, hT, rfl, k1⟩ := hy
    obtain ⟨vs, h1, h2⟩ := key ρ1 st1 H1 e S k
    obtain ⟨p, hp1, hp2⟩ := h2.getV (k1 vs (SqL.of h1))
    have hlt : i < xs.length := (List.getElem?_eq_some_iff.mp hp1).1
    rw [List.getElem?_zipWith, hp1, List.getElem?_range hlt] at hd
    cases hd
    exact pair_new S hT (.int _) hp2
  · obtain ⟨vs, h1, h2⟩ := key ρ1 st1 H1 e S k
    have l1 := h2.length
    rw [hlen] at hi
    exact ⟨vs, SqL.of h1, by omega⟩
theorem si_enum {elts : List Expr} {kk : Nat} {tpos : Pos} {e : Expr} {ma : TH.Env → M D} {p pos : Pos} (hg : Gl X "enumerate") (hm : X.mg "enumerate" = none) (ha : SE X nm W e ma) (hn : notStar e = true) :
    PI X (.Tuple elts kk tpos) (.Call (.Name "enumerate" p) [e] [] pos) (rdI X.K X.w nm W .enum (oneM ma)) := by
  refine ⟨fun pins s σ H R I ⟨ρ, st, env, er, sr, g⟩ => ?_⟩
  have h1 := sl_cons ha sl_nil hn
  refine (pi_enum (X := X) (e := e) (p := p) (pos := pos) hg hm h1 (star_cons hn)).run pins s σ H R I ?_
  refine ⟨ρ, st, env, er, sr, ?_⟩
  refine Got.bind (f := fun ds => M.pure ds) (κ := fun ds st' ρ' H' => ∃ xs, items .enum ds st' = some xs ∧ ∀ J, ItOk X.K X.w nm J xs ρ' st'.length H' (fun s' => stands .enum ds st' s') → R J H') ?_ fun ds st1 ρ1 H1 _ e1 S1 g1 vs rv => ?_
  · have : (oneM ma env st).bind (fun ds => M.pure ds) = oneM ma env st := by cases oneM ma env st <;> rfl
    rw [this]
    exact g
  obtain ⟨xs, hx, k⟩ := Got.here g1 S1
  match ds, hx, k with
  | [d], hx, k =>
    have hx' : (match TH.view st1 d with
      | some (.lst xs) => some ((List.range xs.length).zipWith (fun (i : Nat) x => D.p (.tup [.int (i : Int), x])) xs)
      | _ => none) = some xs := hx
    cases hv : TH.view st1 d with
    | none => rw [hv] at hx'; cases hx'
    | some y =>
      rw [hv] at hx'
      cases y with
      | lst ys =>
        cases hx'
        cases rv with
        | cons r t =>
          cases t
          obtain ⟨a, vs, rfl, h1, _⟩ := (S1.view r hv).list
          exact ⟨a, vs, rfl, SqL.of h1, k _ (itok_enum (n := 0) S1 r rfl hv)⟩
      | _ => cases hx'
end
end TH
end T_TJ8
section T_TJ9
set_option Elab.async false
set_option linter.all false
set_option maxRecDepth 100000
/-! Comprehensions. -/
namespace TH
open PySem PySem.Spec PyProof.Rows L2
/-- nothing is let out -/
abbrev WF : WX := fun _ _ _ _ => False
def lcM (m : Bool) (ik : ItK) (tg : Tg) (own : List Nat) (mits : TH.Env → M (List D)) (mc : TH.Env → M Bool) (me : TH.Env → M D) : TH.Env → M D := fun env s => (mits env s).bind fun ds s => match items ik ds s with
  | some xs => (lcL tg mc me (fun s' => stands ik ds s s') s.length (wipeE env own) xs (s ++ [.lst []])).bind fun _ => lcDone m s.length
  | none => .bad
section
variable {K : Frag} {w : World} {nm : Names} {ρ : Nat → Addr} {L L' : Nat} {H : Hp}
theorem live_low {a : Addr} (h : L ≤ L') (n : ¬ live ρ L' a) : ¬ live ρ L a := fun ⟨k, hk, e⟩ => n ⟨k, Nat.lt_of_lt_of_le hk h, e⟩
theorem Rp.low {x : P} {v : V} (h : L ≤ L') (r : Rp K w (live ρ L') H v x) : Rp K w (live ρ L) H v x := r.mono (fun _ _ e _ => e) fun _ _ _ n => live_low h n
theorem RpL.low {x : List P} {v : List V} (h : L ≤ L') (r : RpL K w (live ρ L') H v x) : RpL K w (live ρ L) H v x := r.mono (fun _ _ e _ => e) fun _ _ _ n => live_low h n
mutual
theorem Rv.low (h : L ≤ L') : ∀ {d : D} {v : V}, D.bnd L d = true → Rv K w ρ L' H v d → Rv K w ρ L H v d
  | .p _, _, _, .p r => .p (r.low h)
  | .ref n, _, b, .ref _ => .ref (by simpa [D.bnd] using b)
  | .tup _, _, b, .tup q nl r => .tup q (live_low h nl) (RvL.low h (by simpa [D.bnd] using b) r)
theorem RvL.low (h : L ≤ L') : ∀ {ds : List D} {vs : List V}, Ds.bnd L ds = true → RvL K w ρ L' H vs ds → RvL K w ρ L H vs ds
  | [], _, _, .nil => .nil
  | _ :: _, _, b, .cons r t => by
    have b' := Bool.and_eq_true_iff.mp (show (D.bnd L _ && Ds.bnd L _) = true from b)
    exact .cons (Rv.low h b'.1 r) (RvL.low h b'.2 t)
end
/-- what is younger is let go -/
theorem StR.low {st : Sto} (S : StR K w nm ρ st H) (h : L ≤ st.length) (hb : (st.take L).all (bndC L) = true) : StR K w nm ρ (st.take L) H := by
  have hl : (st.take L).length = L := by rw [List.length_take]; omega
  refine ⟨fun m n hm hn e => S.inj m n (by omega) (by omega) e, fun n c e => ?_⟩
  rw [hl]
  have hn : n < L := by
    have := (List.getElem?_eq_some_iff.mp e).1
    omega
  have e' : st[n]? = some c := by
    rw [List.getElem?_take_of_lt hn] at e
    exact e
  have hbc : bndC L c = true := List.all_eq_true.mp hb c (List.mem_of_getElem? e)
  have q := S.cell n c e'
  cases c with
  | lst ds =>
    obtain ⟨vs, h1, h2⟩ := q
    exact ⟨vs, h1, h2.low h hbc⟩
  | ins c fs =>
    obtain ⟨dx, vfs, h1, h2, h3⟩ := q
    exact ⟨dx, vfs, h1, h2, h3.low h hbc⟩
theorem Ext.low {ρ0 : Nat → Addr} {H0 : Hp} (e : Ext ρ0 L H0 ρ L' H) : Ext ρ0 L H0 ρ L H := ⟨Nat.le_refl _, e.same, fun n h1 h2 => absurd h2 (Nat.not_lt.mpr h1), e.keep, e.there⟩
/-- a list of the store handed on as data -/
theorem view_low {st : Sto} {n : Nat} {x : P} (S : StR K w nm ρ st H) (hL : L ≤ n) (hn : n < st.length) (hv : TH.view st (.ref n) = some x) : Rp K w (live ρ L) H (.ref (ρ n)) x := by
  have vw := S.view (Rv.ref (K := K) (w := w) (ρ := ρ) (L := st.length) (H := H) hn) hv
  have nl : ¬ live ρ L (ρ n) := fun ⟨k, hk, e⟩ => by
    have := S.inj k n (by omega) hn e
    omega
  generalize hz : V.ref (ρ n) = z at vw
  cases vw with
  | of r => exact r.low (by omega)
  | lst h r =>
    cases hz
    exact .lst h nl (r.low (by omega))
end
theorem wipe_wipe (σ : L2.St) (vs : List Nat) : L2.wipe (L2.wipe σ vs) vs = L2.wipe σ vs := by
  refine List.ext_getElem? fun j => ?_
  rw [wipe_get, wipe_get, wipe_length]
  by_cases hj : j ∈ vs ∧ j < σ.length
  · rw [if_pos hj, if_pos hj]
  · rw [if_neg hj, if_neg hj]
section
variable {X : Cx} {nm : Names} {W : WX}
theorem lc_read {m : Bool} {ik : ItK} {tg : Tg} {own : List (Str × Nat)} {mits : TH.Env → M (List D)} {mc : TH.Env → M Bool} {me : TH.Env → M D} {elt tgE iter : Expr} {ifs : List Expr} {scope : Scope} {pos : Pos} (hc : X.calm = true) (hN : X.N.Nodup)
    (hi : PI X tgE iter (rdI X.K X.w nm W ik mits)) (ok : BlkOk X.N X.env.scope scope own)
    (hg : ∀ (s : Shared) (H : Hp) (C : Addr) (cl : List (Str × Addr)) (fp : List Addr), PG (X.blk s H scope (compEnvC scope cl C X.env) fp) tgE (rdG X.K X.w tg))
    (ht : ∀ (s : Shared) (H : Hp) (C : Addr) (cl : List (Str × Addr)) (fp : List Addr), PTs (X.blk s H scope (compEnvC scope cl C X.env) fp) ifs (rdT X.K X.w nm WF mc))
    (he : ∀ (s : Shared) (H : Hp) (C : Addr) (cl : List (Str × Addr)) (fp : List Addr), PE (X.blk s H scope (compEnvC scope cl C X.env) fp) elt (rd X.K X.w nm WF me))
    (hs : ∀ x, foldedSetIterable iter X.env x = pure x) (hix : ∀ i ∈ tg.ix, i ∈ own.map (·.2)) :
    ∀ σ H Q, rd X.K X.w nm W (lcM m ik tg (own.map (·.2)) mits mc me) σ H Q → tLc (rdI X.K X.w nm W ik mits) (rdG X.K X.w tg) (rdT X.K X.w nm WF mc) (rd X.K X.w nm WF me) (own.map (·.2)) σ H Q := by
  rintro σ H Q ⟨ρ, st, env, er, sr, g⟩
  refine ⟨ρ, st, env, er, sr, Got.bind g fun ds st0 ρ0 H0 _ e0 S0 g0 => ?_⟩
  generalize hvs : own.map (·.2) = vs at *
  cases hxs : items ik ds st0 with
  | none => rw [hxs] at g0; exact False.elim g0
  | some xs =>
  rw [hxs] at g0
  dsimp only at g0
  refine ⟨xs, rfl, fun J IO D hD => ?_⟩
  have er0 := (e0.envR er).wipe (own := vs)
  generalize hok : (fun s' => stands ik ds st0 s') = okf at *
  let κ : TH.D → Sto → (Nat → Addr) → Hp → Prop := fun d st' ρ' H' => ∀ v, Rv X.K X.w ρ' st'.length H' v d → Q v H'
  let Iv : Nat → Hp → Prop := fun i H' => ∃ (ρ1 : Nat → Addr) (st1 : Sto), Ext ρ0 st0.length H0 ρ1 st1.length H' ∧ st0.length < st1.length ∧ ρ1 st0.length = D ∧ StR X.K X.w nm ρ1 st1 H' ∧ EnvR X.K X.w ρ1 st1.length H' (L2.wipe σ vs) (wipeE env vs) ∧
    Got X.K X.w nm W ρ0 st0.length H0 σ ((lcL tg mc me okf st0.length (wipeE env vs) (xs.drop i) st1).bind fun _ => lcDone m st0.length) κ
  have step : ∀ i (m : Nat) H', m = xs.length - i ∧ i ≤ xs.length ∧ Iv i H' → (J.stop i H' ∧ Q (.ref D) H') ∨ (J.go i H' ∧ ∃ Nx : Hp → Prop, (∀ H'', Nx H'' → ∃ m', m' < m ∧ (m' = xs.length - (i + 1) ∧ i + 1 ≤ xs.length ∧ Iv (i + 1) H'')) ∧
      ∀ x H'', J.yld i H' x H'' → rdG X.K X.w tg x (L2.wipe σ vs) H'' fun σ2 H2 => L2.wipe σ2 vs = L2.wipe σ vs ∧ rdT X.K X.w nm WF mc σ2 H2 fun b H3 =>
        if b = true then rd X.K X.w nm WF me σ2 H3 fun y H4 => ∃ acc, H4 D = some (.lst acc) ∧ acc.length < sizeLine ∧ Nx (upd H4 D (.lst (acc ++ [y]))) else Nx H3) := by
    rintro i m' H' ⟨rfl, hile, ρ1, st1, e1, hlt1, hD1, S1, er1, g1⟩
    by_cases hlt : i < xs.length
    · right
      have hx : xs[i]? = some xs[i] := List.getElem?_eq_getElem hlt
      rw [List.drop_eq_getElem_cons hlt] at g1
      unfold lcL at g1
      by_cases hok1 : okf st1 = true
      · rw [if_pos hok1] at g1
        refine ⟨IO.go i ρ1 st1 H' hlt e1 S1 hok1, Iv (i + 1), fun H'' q => ⟨xs.length - (i + 1), by omega, rfl, hlt, q⟩, fun x H'' hy => ?_⟩
        obtain ⟨kN, rx⟩ := IO.yld i ρ1 st1 H' x H'' xs[i] hx e1 S1 hok1 hy
        have eN := Ext.more (ρ := ρ1) (L := st1.length) kN
        have S2 := S1.more kN
        cases hset : setTg (wipeE env vs) tg xs[i] with
        | none => rw [hset] at g1; exact False.elim g1
        | some env' =>
        rw [hset] at g1
        dsimp only at g1
        refine ⟨xs[i], wipeE env vs, ρ1, st1.length, env', eN.envR er1, rx, hset, fun σ2 er2 hw => ⟨(hw vs hix).trans (wipe_wipe σ vs), ρ1, st1, env', er2, S2, ?_⟩⟩
        cases hmc : mc env' st1 with
        | bad => rw [hmc] at g1; exact False.elim g1
        | exc _ _ => rw [hmc] at g1; exact False.elim g1
        | ok b s1 =>
        rw [hmc] at g1
        simp only [R.calm_ok, R.bind_ok] at g1
        intro ρ2 H3 e2 S3
        have e12 : Ext ρ0 st0.length H0 ρ2 s1.length H3 := (e1.trans eN).trans e2
        have hlt2 : st0.length < s1.length := Nat.lt_of_lt_of_le hlt1 e2.le
        have hD2 : ρ2 st0.length = D := (e2.same _ hlt1).trans hD1
        dsimp only
        cases b with
        | false =>
          rw [if_neg Bool.false_ne_true] at g1 ⊢
          exact ⟨ρ2, s1, e12, hlt2, hD2, S3, e2.envR (eN.envR er1), g1⟩
        | true =>
          rw [if_pos rfl] at g1 ⊢
          refine ⟨ρ2, s1, env', e2.envR er2, S3, ?_⟩
          cases hme : me env' s1 with
          | bad => rw [hme] at g1; exact False.elim g1
          | exc _ _ => rw [hme] at g1; exact False.elim g1
          | ok y s2 =>
          rw [hme] at g1
          simp only [R.calm_ok, R.bind_ok] at g1
          intro ρ3 H4 e3 S4 v rv
          have hlt3 : st0.length < s2.length := Nat.lt_of_lt_of_le hlt2 e3.le
          have hD3 : ρ3 st0.length = D := (e3.same _ hlt2).trans hD2
          cases hcell : s2[st0.length]? with
          | none => rw [hcell] at g1; exact False.elim g1
          | some c =>
            rw [hcell] at g1
            cases c with
            | ins _ _ => exact False.elim g1
            | lst acc =>
              dsimp only at g1
              by_cases hal : acc.length < line
              · rw [if_pos hal] at g1
                obtain ⟨us, h1, h2⟩ := S4.cell _ _ hcell
                have xw := Ext.write (o := .lst (us ++ [v])) S4 hlt3
                have sw := S4.write (c := .lst (acc ++ [y])) (o := .lst (us ++ [v])) hlt3 ⟨_, upd_same, (xw.rvL h2).append (.cons (xw.rv rv) .nil)⟩
                rw [hD3] at h1 xw sw
                refine ⟨us, h1, by rw [h2.length, line_eq]; exact hal, ρ3, s2.set st0.length (.lst (acc ++ [y])), ?_, ?_, hD3, sw, ?_, g1⟩
                · rw [List.length_set]; exact ((e12.trans e3).trans xw)
                · rw [List.length_set]; exact hlt3
                · rw [List.length_set]
                  exact xw.envR (e3.envR (e2.envR (eN.envR er1)))
              · rw [if_neg hal] at g1; exact False.elim g1
      · rw [if_neg hok1] at g1; exact False.elim g1
    · left
      rw [List.drop_eq_nil_of_le (Nat.not_lt.mp hlt)] at g1
      unfold lcL at g1
      by_cases hok1 : okf st1 = true
      · rw [if_pos hok1] at g1
        refine ⟨IO.stop i ρ1 st1 H' (Nat.not_lt.mp hlt) e1 S1 hok1, ?_⟩
        simp only [R.bind_ok] at g1
        unfold lcDone at g1
        cases m with
        | true =>
          rw [if_pos rfl] at g1
          refine g1 ρ1 H' e1 S1 (.ref D) ?_
          rw [← hD1]
          exact .ref hlt1
        | false =>
          rw [if_neg Bool.false_ne_true] at g1
          by_cases hq : st1.length = st0.length + 1 ∧ (st1.take st0.length).all (bndC st0.length) = true
          · rw [if_pos hq] at g1
            cases hv : TH.view st1 (.ref st0.length) with
            | none => rw [hv] at g1; exact False.elim g1
            | some x =>
              rw [hv] at g1
              have hl : (st1.take st0.length).length = st0.length := by rw [List.length_take]; omega
              refine g1 ρ1 H' ?_ (S1.low (Nat.le_of_lt hlt1) hq.2) (.ref D) ?_
              · rw [hl]; exact e1.low
              · rw [hl, ← hD1]; exact .p (view_low S1 (Nat.le_refl _) hlt1 hv)
          · rw [if_neg hq] at g1; exact False.elim g1
      · rw [if_neg hok1] at g1; exact False.elim g1
  refine ⟨fun i m H' => m = xs.length - i ∧ i ≤ xs.length ∧ Iv i H', ⟨xs.length, rfl, Nat.zero_le _, ?_⟩, step⟩
  have x0 := Ext.push (o := .lst []) S0 hD
  have s0 := S0.push (c := .lst []) hD ⟨[], upd_same, .nil⟩
  refine ⟨setρ ρ0 st0.length D, st0 ++ [.lst []], ?_, ?_, setρ_same _ _ _, s0, ?_, ?_⟩
  · rw [List.length_append]; exact x0
  · rw [List.length_append]; exact Nat.lt_succ_self _
  · rw [List.length_append]; exact x0.envR er0
  · rw [List.drop_zero]; exact g0
theorem se_lc {m : Bool} {ik : ItK} {tg : Tg} {own : List (Str × Nat)} {mits : TH.Env → M (List D)} {mc : TH.Env → M Bool} {me : TH.Env → M D} {elt tgE iter : Expr} {ifs : List Expr} {scope : Scope} {pos : Pos} (hc : X.calm = true) (hN : X.N.Nodup)
    (hi : PI X tgE iter (rdI X.K X.w nm W ik mits)) (ok : BlkOk X.N X.env.scope scope own)
    (hg : ∀ (s : Shared) (H : Hp) (C : Addr) (cl : List (Str × Addr)) (fp : List Addr), PG (X.blk s H scope (compEnvC scope cl C X.env) fp) tgE (rdG X.K X.w tg))
    (ht : ∀ (s : Shared) (H : Hp) (C : Addr) (cl : List (Str × Addr)) (fp : List Addr), PTs (X.blk s H scope (compEnvC scope cl C X.env) fp) ifs (rdT X.K X.w nm WF mc))
    (he : ∀ (s : Shared) (H : Hp) (C : Addr) (cl : List (Str × Addr)) (fp : List Addr), PE (X.blk s H scope (compEnvC scope cl C X.env) fp) elt (rd X.K X.w nm WF me))
    (hs : ∀ x, foldedSetIterable iter X.env x = pure x) (hix : ∀ i ∈ tg.ix, i ∈ own.map (·.2)) :
    SE X nm W (.ListComp elt [⟨tgE, iter, ifs, 0⟩] scope pos) (lcM m ik tg (own.map (·.2)) mits mc me) :=
  ⟨fun pins s σ H Q I q => (pe_lc hc hN hi ok hg ht he hs).run pins s σ H Q I (lc_read (elt := elt) (tgE := tgE) (iter := iter) (ifs := ifs) (scope := scope) (pos := pos) hc hN hi ok hg ht he hs hix σ H Q q)⟩
end
end TH
end T_TJ9
section T_TJ10
set_option Elab.async false
set_option linter.all false
set_option maxRecDepth 100000
/-! What links a text's numbers and names; the check that an IR is the text's. -/
namespace TH
open PySem PySem.Spec PyProof.Rows L2
/-- the names -/
structure LkN where
  fname : List (Option Str)
  npar : List Nat
  kw : List (Nat × Str)
  gname : List Str
  cname : List (Option Str)
  mname : List Str
  fldn : List Str
/-- the addresses -/
structure Lk extends LkN where
  nm : Names
  fa : Nat → Addr
  fd : Nat → FuncData
  ps : Nat → List Str
def bltNames : List Str := ["len", "isinstance", "list", "tuple", "all", "any", "int", "str", "abs", "sorted", "max", "min", "range", "zip", "enumerate", "bool"]
structure LkOk (G : Prog) (l : Lk) (P : Program) (w : World) (K : Frag) (mg : Str → Option Value) (base : Heap) : Prop where
  cls : ∀ c, Cls K (l.nm.cls c)
  inj : ∀ f g, l.nm.fld f = l.nm.fld g → f = g
  fld : ∀ f x, l.fldn[f]? = some x → l.nm.fld f = x ∧ ∀ c, NoAttr K (l.nm.cls c) x
  meth : ∀ m x, l.mname[m]? = some x → (∀ f, l.nm.fld f ≠ x) ∧ ∀ c f, G.meth c m = some f → Meth K (l.nm.cls c) x (l.fa f)
  init : ∀ c f, G.init c = some f → L2.Mk K (l.nm.cls c) (l.fa f)
  fn : ∀ f x, l.fname[f]? = some (some x) → mg x = some (.ref (l.fa f)) ∧ PySem.W.keepIn K (.ref (l.fa f)) = true
  binds : ∀ f, (G.fn f).isSome = true → l.kw.lookup f = none → Binds K (l.fd f) (l.ps f) []
  kbinds : ∀ f x, l.kw.lookup f = some x → ∃ gg, KBn K (l.fd f) (l.ps f) 1 [x] gg (fun vs zs => vs ++ zs)
  glo : ∀ g x, l.gname[g]? = some x → ∃ u v, mg x = some u ∧ RelV v u ∧ ∀ B H, Rp K w B H v (G.gv g)
  initS : ∀ c x, l.cname[c]? = some (some x) → ∃ f, G.init c = some f
  cn : ∀ c x, l.cname[c]? = some (some x) → mg x = some (.ref (l.nm.cls c))
  blt : ∀ x, x ∈ bltNames → mg x = none
  methK : ∀ c m f, G.meth c m = some f → l.kw.lookup f = none ∧ (G.fn f).isSome = true
  initK : ∀ c f, G.init c = some f → l.kw.lookup f = none ∧ (G.fn f).isSome = true
  some_ : ∀ f x, l.fname[f]? = some (some x) → (G.fn f).isSome = true
/-- what a body's context is checked against -/
structure CI where
  N : List Str
  sc : Scope
  fnAll : Bool
structure CtxOk (G : Prog) (l : Lk) (cf ci : Nat → List D → M D) (X : Cx) (W : WX) (c : CI) : Prop where
  N : X.N = c.N
  nd : X.N.Nodup
  sc : X.env.scope = c.sc
  fn : c.fnAll = true → ∀ x, X.fn x = true
  calm : X.calm = true
  hu : X.A.units + 64 < cLine
  tk : Takes X W
  lk : LkOk G l X.prog X.w X.K X.mg X.base
  call : ∃ k, Room k X.A ∧ ∀ f, (G.fn f).isSome = true → FC X.prog X.w X.K X.mg X.base l.nm k (l.fa f) (l.fd f) (l.ps f) (cf f)
  make : ∃ k, Room (k + 1) X.A ∧ ∀ f, (G.fn f).isSome = true → FC X.prog X.w X.K X.mg X.base l.nm k (l.fa f) (l.fd f) (l.ps f) (ci f)
def visB (c : CI) (x : Str) : Bool := (c.sc.names.lookup x == some .local || c.sc.names.lookup x == some .cell || c.sc.names.lookup x == some .free) && !(x == ("__debug__" : Str)) && !(x == ("__classdict__" : Str))
def glB (c : CI) (x : Str) : Bool := c.sc.names.lookup x == some .globalImplicit && !(x == ("__debug__" : Str))
def bltB (c : CI) (x y : Str) : Bool := x == y && glB c x && bltNames.contains x && !(x == ("__name__" : Str))
def nmB (c : CI) (i : Nat) (x : Str) : Bool := c.N[i]? == some x && (c.sc.names.lookup x == some .local || (c.fnAll && c.sc.names.lookup x == some .cell))
def conB : P → Const → Bool
  | .non, .none => true
  | .bl b, .bool b' => b == b'
  | .int i, .int j => decide (i = j)
  | .str l, .str x => decide (x.cps.toList = l)
  | _, _ => false
def biN : Bi → Str
  | .len => "len" | .toList => "list" | .toTuple => "tuple" | .all => "all" | .any => "any" | .toInt => "int" | .toStr => "str" | .abs => "abs" | .sorted => "sorted" | .max2 => "max" | .min2 => "min"
  | _ => ""
def Bi.isB : Bi → Bool
  | .len => true | .toList => true | .toTuple => true | .all => true | .any => true | .toInt => true | .toStr => true | .abs => true | .sorted => true | .max2 => true | .min2 => true
  | _ => false
def blkB (N : List Str) (sc scope : Scope) (own : List (Str × Nat)) : Bool :=
  scope.kind == .function && scope.names.all (fun y => scope.names.lookup y.1 == some y.2) && own.all (fun p => N[p.2]? == some p.1) &&
    scope.names.all (fun y => !(y.2 == .free) || (sc.names.lookup y.1 == some .cell || sc.names.lookup y.1 == some .free)) &&
    scope.names.all (fun y => !(y.2 == .local || y.2 == .cell) || ((own.map (·.1)).contains y.1 || !(N.contains y.1)))
theorem blkB_ok {N : List Str} {sc scope : Scope} {own : List (Str × Nat)} (h : blkB N sc scope own = true) : BlkOk N sc scope own := by
  unfold blkB at h
  simp only [Bool.and_eq_true] at h
  obtain ⟨⟨⟨⟨h1, h2⟩, h3⟩, h4⟩, h5⟩ := h
  refine ⟨eq_of_beq h1, fun y hy => eq_of_beq (List.all_eq_true.mp h2 y hy), fun p hp => eq_of_beq (List.all_eq_true.mp h3 p hp), fun y hy e => ?_, fun y hy e => ?_⟩
  · have := List.all_eq_true.mp h4 y hy
    rw [e] at this
    simp only [beq_self_eq_true, Bool.not_true, Bool.false_or, Bool.or_eq_true, beq_iff_eq] at this
    exact this
  · have := List.all_eq_true.mp h5 y hy
    have hb : (y.2 == .local || y.2 == .cell) = true := by rcases e with e | e <;> simp [e]
    rw [hb] at this
    simp only [Bool.not_true, Bool.false_or, Bool.or_eq_true] at this
    rcases this with q | q
    · left; simpa using q
    · right; simpa using q
def ownP (N : List Str) (own : List Nat) : List (Str × Nat) := own.map fun i => ((N[i]?).getD Str.empty, i)
theorem ownP_snd (N : List Str) (own : List Nat) : (ownP N own).map (·.2) = own := by
  unfold ownP
  rw [List.map_map]
  exact List.map_id own
def tgB (c : CI) : Tg → Expr → Bool
  | .name i, .Name x _ => nmB c i x
  | .tup is, .Tuple es _ _ => is.length == es.length && (is.zip es).all fun p => match p.2 with
    | .Name x _ => nmB c p.1 x
    | _ => false
  | _, _ => false
section
variable {G : Prog} {l : Lk} {cf ci : Nat → List D → M D} {X : Cx} {W : WX} {c : CI}
theorem CtxOk.vis (C : CtxOk G l cf ci X W c) {x : Str} (h : visB c x = true) : Vis X.env.scope x ∧ (x == ("__debug__" : Str)) = false ∧ (x == ("__classdict__" : Str)) = false := by
  unfold visB at h
  simp only [Bool.and_eq_true, Bool.or_eq_true, beq_iff_eq, Bool.not_eq_true'] at h
  obtain ⟨⟨h1, h2⟩, h3⟩ := h
  refine ⟨?_, h2, h3⟩
  rw [C.sc]
  rcases h1 with (h | h) | h
  · exact .inl h
  · exact .inr (.inl h)
  · exact .inr (.inr h)
theorem CtxOk.gl (C : CtxOk G l cf ci X W c) {x : Str} (h : glB c x = true) : Gl X x ∧ (x == ("__debug__" : Str)) = false := by
  unfold glB at h
  simp only [Bool.and_eq_true, beq_iff_eq, Bool.not_eq_true'] at h
  refine ⟨?_, h.2⟩
  show X.env.scope.names.lookup x = _
  rw [C.sc]
  exact h.1
theorem CtxOk.blt (C : CtxOk G l cf ci X W c) {x y : Str} (h : bltB c x y = true) : x = y ∧ Gl X x ∧ (x == ("__debug__" : Str)) = false ∧ X.mg x = none ∧ x ≠ "__name__" := by
  unfold bltB at h
  simp only [Bool.and_eq_true, Bool.not_eq_true'] at h
  obtain ⟨⟨⟨h1, h2⟩, h3⟩, h4⟩ := h
  obtain ⟨g1, g2⟩ := C.gl h2
  exact ⟨eq_of_beq h1, g1, g2, C.lk.blt x (by simpa using h3), beq_eq_false_iff_ne.mp h4⟩
theorem CtxOk.nmOk (C : CtxOk G l cf ci X W c) {i : Nat} {x : Str} (h : nmB c i x = true) : NmOk X i x := by
  unfold nmB at h
  simp only [Bool.and_eq_true, Bool.or_eq_true, beq_iff_eq] at h
  obtain ⟨h1, h2⟩ := h
  refine ⟨by rw [C.N]; exact h1, ?_, ?_⟩
  · show X.env.scope.names.lookup x = _ ∨ X.env.scope.names.lookup x = _
    rw [C.sc]
    rcases h2 with h | h
    · exact .inl h
    · exact .inr h.2
  · rcases h2 with h | h
    · exact .inr (by rw [C.sc]; exact h)
    · exact .inl (C.fn h.1 x)
theorem CtxOk.tg (C : CtxOk G l cf ci X W c) : ∀ {t : Tg} {e : Expr}, tgB c t e = true → PG X e (rdG X.K X.w t)
  | .name i, e, h => by
    cases e <;> first | (exfalso; cases h; done) | skip
    exact pgD_name C.nd (C.nmOk h)
  | .tup is, e, h => by
    cases e <;> first | (exfalso; cases h; done) | skip
    rename_i es k pos
    refine pgD_tup C.calm C.nd ?_
    have h' : (is.length == es.length && (is.zip es).all fun p => match p.2 with
      | .Name x _ => nmB c p.1 x
      | _ => false) = true := h
    simp only [Bool.and_eq_true, beq_iff_eq] at h'
    obtain ⟨hl, ha⟩ := h'
    clear h
    induction is generalizing es with
    | nil =>
      cases es with
      | nil => exact .nil
      | cons _ _ => simp at hl
    | cons i is ih =>
      cases es with
      | nil => simp at hl
      | cons e es =>
        simp only [List.zip_cons_cons, List.all_cons, Bool.and_eq_true] at ha
        obtain ⟨a1, a2⟩ := ha
        cases e <;> first | (exfalso; cases a1; done) | skip
        exact .cons (C.nmOk a1) (ih _ (by simpa using hl) a2)
theorem boot_of {b : Bi} (h : b.isB = true) : b.ok = true ∧ ((∃ id, bfn b = .builtin id ∧ bootBuiltins (biN b) = some (.builtin id)) ∨ ∃ T, bfn b = .type T ∧ bootBuiltins (biN b) = some (.type T)) := by
  cases b <;> first | (exfalso; cases h; done) | refine ⟨rfl, ?_⟩
  all_goals first
    | exact .inl ⟨_, rfl, PyProof.Rows.boot_len⟩ | exact .inl ⟨_, rfl, PyProof.Rows.boot_all⟩ | exact .inl ⟨_, rfl, PyProof.Rows.boot_any⟩ | exact .inl ⟨_, rfl, PyProof.Rows.boot_abs⟩
    | exact .inl ⟨_, rfl, PyProof.Rows.boot_sorted⟩ | exact .inl ⟨_, rfl, PyProof.Rows.boot_max⟩ | exact .inl ⟨_, rfl, PyProof.Rows.boot_min⟩
    | exact .inr ⟨_, rfl, PyProof.Rows.boot_list⟩ | exact .inr ⟨_, rfl, PyProof.Rows.boot_tuple⟩ | exact .inr ⟨_, rfl, PyProof.Rows.boot_int⟩ | exact .inr ⟨_, rfl, PyProof.Rows.boot_str⟩
    | exact .inl ⟨_, rfl, by rfl⟩ | exact .inr ⟨_, rfl, by rfl⟩
/-- the block's context -/
theorem CtxOk.blk (C : CtxOk G l cf ci X W c) (s : Shared) (H : Hp) (sc : Scope) (Ca : Addr) (cl : List (Str × Addr)) (fp : List Addr) :
    CtxOk G l cf ci (X.blk s H sc (compEnvC sc cl Ca X.env) fp) WF ⟨c.N, relS sc c.sc, false⟩ := by
  refine ⟨C.N, C.nd, ?_, fun h => absurd h Bool.false_ne_true, C.calm, C.hu, ?_, C.lk, C.call, C.make⟩
  · show relS sc X.env.scope = relS sc c.sc
    rw [C.sc]
  · rintro u s' ⟨a, B, sI, pins, σ, H, cls, d, e, I, nb, up, sky, na, os, ag, w⟩
    exact w.elim
end
/-- a text's dict of two written pairs -/
theorem se_dic2 {X : Cx} {nm : Names} {W : WX} {a b x y : List Nat} {sa sb sx sy : Str} {ja jb jx jy : Nat} {pa pb px py pos : Pos} (ha : sa = sS a) (hb : sb = sS b) (hx : sx = sS x) (hy : sy = sS y) (hab : a ≠ b) :
    SE X nm W (.Dict [some (.Constant (.str sa) ja pa), some (.Constant (.str sb) jb pb)] [.Constant (.str sx) jx px, .Constant (.str sy) jy py] pos) fun _ => M.pure (.p (.dct [.str a, .str b] [.str x, .str y])) := by
  refine se_mk fun pins s σ H Q ρ st env A g => ?_
  refine (pe_disp (X := X) (pos := pos) (pps_cons pe_str pe_str (pps_cons pe_str pe_str pps_nil)) rfl rfl (by simp) (by simp)).run pins s σ H Q A.I ?_
  intro p hp
  subst ha hb hx hy
  refine ⟨upd_same, [(.inr (sS a), .str (sS x)), (.inr (sS b), .str (sS y))], rfl, by simp, ?_⟩
  have hm : mergeK [] [(Sum.inr (sS a), V.str (sS x)), (Sum.inr (sS b), V.str (sS y))] = [((.inr (sS a) : L2.Key), V.str (sS x)), (.inr (sS b), .str (sS y))] := by
    have hne : ¬ sS a = sS b := fun e => hab (sS_inj.mp e)
    simp [mergeK, putK, hne]
  rw [hm, L2.upd_upd]
  refine A.epN g (KeepN.upd hp) ?_
  have nl : ¬ live ρ st.length p := A.sr.not_live_new hp
  exact Rp.dctH (kvs := [(a, .str (sS x)), (b, .str (sS y))]) upd_same nl (.cons (.str x) (.cons (.str y) .nil))
end TH
end T_TJ10
section T_TJ11
set_option Elab.async false
set_option linter.all false
set_option maxRecDepth 100000
/-! The check of expressions, and what it gives. -/
namespace TH
open PySem PySem.Spec PyProof.Rows L2
def notSet : Expr → Bool
  | .Set _ _ _ => false
  | _ => true
theorem folded_ok {e : Expr} {en : PySem.Env} (h : notSet e = true) (x : Value) : foldedSetIterable e en x = pure x := by
  cases e <;> first | rfl | cases h
def isDirect : Expr → Bool
  | .Name _ _ => true
  | _ => false
mutual
def chkE (l : LkN) : CI → E → Expr → Bool
  | c, .var i, e => match e with
    | .Name x _ => c.N[i]? == some x && visB c x
    | _ => false
  | c, .con p, e => match e with
    | .Constant k _ _ => conB p k
    | _ => false
  | c, .glo g, e => match e with
    | .Name x _ => l.gname[g]? == some x && glB c x
    | _ => false
  | c, .bin o a b, e => match e with
    | .BinOp x op y _ => op == opOf o && chkE l c a x && chkE l c b y
    | _ => false
  | c, .neg a, e => match e with
    | .UnaryOp .USub x _ => chkE l c a x
    | _ => false
  | c, .not a, e => match e with
    | .UnaryOp .Not x _ => chkE l c a x
    | _ => false
  | c, .and a b, e => match e with
    | .BoolOp .And (x :: y :: rest) pos => chkE l c a x && (match rest with
      | [] => chkE l c b y
      | _ => chkE l c b (.BoolOp .And (y :: rest) pos))
    | _ => false
  | c, .or a b, e => match e with
    | .BoolOp .Or (x :: y :: rest) pos => chkE l c a x && (match rest with
      | [] => chkE l c b y
      | _ => chkE l c b (.BoolOp .Or (y :: rest) pos))
    | _ => false
  | c, .cmp o a b, e => match e with
    | .Compare x [op] [y] _ => op == cmpOf o && !(behindInMarks op y) && chkE l c a x && chkE l c b y
    | _ => false
  | c, .chn o o' a b d, e => match e with
    | .Compare x [op, op'] [y, z] _ => op == cmpOf o && op' == cmpOf o' && !(lastMarks [op, op'] [y, z]) && chkE l c a x && chkE l c b y && chkE l c d z
    | _ => false
  | c, .ite t a b, e => match e with
    | .IfExp z x y _ => chkE l c t z && chkE l c a x && chkE l c b y
    | _ => false
  | c, .tup es, e => match e with
    | .Tuple xs _ _ => decide (xs.length ≤ 100) && chkEs l c es xs
    | _ => false
  | c, .lst _ es, e => match e with
    | .List xs _ => decide (xs.length ≤ 100) && chkEs l c es xs
    | _ => false
  | c, .dic ks vs, e => match e with
    | .Dict [some (.Constant (.str sa) _ _), some (.Constant (.str sb) _ _)] [.Constant (.str sx) _ _, .Constant (.str sy) _ _] _ => match ks, vs with
      | [.con (.str a), .con (.str b)], [.con (.str x), .con (.str y)] => decide (sa.cps.toList = a) && decide (sb.cps.toList = b) && decide (sx.cps.toList = x) && decide (sy.cps.toList = y) && !decide (a = b)
      | _, _ => false
    | _ => false
  | c, .idx a b, e => match e with
    | .Subscript x y _ => notSlice y && chkE l c a x && chkE l c b y
    | _ => false
  | c, .slc a lo hi, e => match e with
    | .Subscript x (.Slice lx hx none _) _ => chkE l c a x && chkO l c lo lx && chkO l c hi hx
    | _ => false
  | c, .fld a f, e => match e with
    | .Attribute x n _ => l.fldn[f]? == some n && notSuper x && chkE l c a x
    | _ => false
  | c, .call f es, e => match e with
    | .Call (.Name x _) xs [] _ => l.fname[f]? == some (some x) && (l.kw.lookup f == none) && glB c x && chkEs l c es xs
    | .Call (.Name x _) [y] [⟨some key, z, _⟩] _ => l.fname[f]? == some (some x) && (l.kw.lookup f == some key) && glB c x && (match es with
      | [a, b] => chkE l c a y && chkE l c b z
      | _ => false)
    | _ => false
  | c, .new k es, e => match e with
    | .Call (.Name x _) xs [] _ => l.cname[k]? == some (some x) && glB c x && chkEs l c es xs
    | _ => false
  | c, .met m a es, e => match e with
    | .Call (.Attribute x n apos) xs [] pos => l.mname[m]? == some n && notSuper x && apos.endLine == pos.line && decide (xs.length < 29) && chkE l c a x && chkEs l c es xs
    | _ => false
  | c, .bi m b es, e => match e with
    | .Call (.Name x _) xs [] _ => (match b with
      | .isinst t => (match es, xs with
        | [a], [y, .Name tx _] => !m && bltB c x "isinstance" && bltB c tx (tyN t) && chkE l c a y
        | _, _ => false)
      | b => b.isB && bltB c x (biN b) && !(xs.isEmpty) && chkEs l c es xs)
    | _ => false
  | c, .bm _ b a es, e => match e with
    | .Call (.Attribute x n apos) xs [] pos => b.meth && n == bmN b && notSuper x && apos.endLine == pos.line && decide (xs.length < 29) && !(xs.isEmpty) && chkE l c a x && chkEs l c es xs
    | _ => false
  | c, .lc _ own tg ik its cs elt, e => match e with
    | .ListComp x [⟨tgE, iter, ifs, 0⟩] scope _ => blkB c.N c.sc scope (ownP c.N own) && tgB ⟨c.N, relS scope c.sc, false⟩ tg tgE && tg.ix.all (fun i => own.contains i) && notSet iter &&
        chkIt l c ik its tgE iter && chkC l ⟨c.N, relS scope c.sc, false⟩ cs ifs && chkE l ⟨c.N, relS scope c.sc, false⟩ elt x
    | _ => false
  | c, .addl _ a b, e => match e with
    | .BinOp x .Add y _ => chkE l c a x && chkE l c b y
    | _ => false
  | _, .never, _ => false
def chkEs (l : LkN) : CI → List E → List Expr → Bool
  | _, [], xs => xs.isEmpty
  | c, a :: r, xs => match xs with
    | x :: ys => chkE l c a x && chkEs l c r ys
    | [] => false
def chkC (l : LkN) : CI → List E → List Expr → Bool
  | _, [], xs => xs.isEmpty
  | c, a :: r, xs => match r, xs with
    | [], [x] => chkE l c a x
    | _, _ => false
def chkO (l : LkN) : CI → Option E → Option Expr → Bool
  | _, none, x => x.isNone
  | c, some a, x => match x with
    | some y => chkE l c a y
    | none => false
def chkIt (l : LkN) : CI → ItK → List E → Expr → Expr → Bool
  | c, ik, [], _, _ => false
  | c, ik, a :: r, tg, x => match ik with
    | .seq => r.isEmpty && chkE l c a x
    | .range1 => (match x with
      | .Call (.Name f _) [y] [] _ => r.isEmpty && bltB c f "range" && chkE l c a y
      | _ => false)
    | .enum => (match x with
      | .Call (.Name f _) [y] [] _ => r.isEmpty && bltB c f "enumerate" && (match tg with | .Tuple _ _ _ => true | _ => false) && chkE l c a y
      | _ => false)
    | .range2 => (match x with
      | .Call (.Name f _) [y, z] [] _ => bltB c f "range" && chkE l c a y && chkEs l c r [z]
      | _ => false)
    | .zip => (match x with
      | .Call (.Name f _) [y, z] [] _ => bltB c f "zip" && (match tg with | .Tuple _ _ _ => true | _ => false) && chkE l c a y && chkEs l c r [z]
      | _ => false)
end
end TH
end T_TJ11
section T_TJ12
set_option Elab.async false
set_option linter.all false
set_option maxRecDepth 100000
set_option maxHeartbeats 1000000
namespace TH
open PySem PySem.Spec PyProof.Rows L2
theorem chk_notStar {l : LkN} {c : CI} {i : E} {e : Expr} (h : chkE l c i e = true) : notStar e = true := by
  cases e <;> first | rfl | (exfalso; cases i <;> simp [chkE] at h)
def plainT : Expr → Bool
  | .UnaryOp .Not _ _ => false
  | .BoolOp _ _ _ => false
  | .IfExp _ _ _ _ => false
  | .Compare _ _ _ _ => false
  | _ => true
theorem plainT_ok {e : Expr} {en : PySem.Env} (h : plainT e = true) (whole : Sem Value) : PySem.isTrue e en whole = (do let v ← whole; standAt e.pos; holding [v] (truthy v)) := by
  cases e <;> first | rfl | (exfalso; cases h; done) | skip
  rename_i op _ _
  cases op <;> first | rfl | (exfalso; cases h; done)
theorem evEs_len {G : Prog} {cf ci : Nat → List D → M D} : ∀ (is : List E) (env : TH.Env) (s : Sto) (ds : List D) (s' : Sto), evEs G cf ci is env s = .ok ds s' → ds.length = is.length
  | [], env, s, ds, s', h => by cases h; rfl
  | i :: is, env, s, ds, s', h => by
    have h' : (evE G cf ci i env s).bind (fun d s => (evEs G cf ci is env s).bind fun ds => M.pure (d :: ds)) = .ok ds s' := h
    cases h1 : evE G cf ci i env s with
    | bad => rw [h1] at h'; cases h'
    | exc _ _ => rw [h1] at h'; cases h'
    | ok d s1 =>
      rw [h1, R.bind_ok] at h'
      cases h2 : evEs G cf ci is env s1 with
      | bad => rw [h2] at h'; cases h'
      | exc _ _ => rw [h2] at h'; cases h'
      | ok ds2 s2 =>
        rw [h2] at h'
        cases h'
        have ih := evEs_len is env s1 ds2 _ h2
        simp [ih]
theorem chkEs_len {l : LkN} {c : CI} : ∀ {is : List E} {xs : List Expr}, chkEs l c is xs = true → is.length = xs.length
  | [], xs, h => by
    have : xs = [] := by simpa [chkEs] using h
    subst this; rfl
  | i :: is, xs, h => by
    cases xs with
    | nil => simp [chkEs] at h
    | cons x xs =>
      simp only [chkEs, Bool.and_eq_true] at h
      simp [chkEs_len h.2]
theorem chkEs_star {l : LkN} {c : CI} : ∀ {is : List E} {xs : List Expr}, chkEs l c is xs = true → noStar xs = true
  | [], xs, h => by
    have : xs = [] := by simpa [chkEs] using h
    subst this; rfl
  | i :: is, xs, h => by
    cases xs with
    | nil => rfl
    | cons x xs =>
      simp only [chkEs, Bool.and_eq_true] at h
      simp only [noStar, List.all_cons, Bool.and_eq_true]
      exact ⟨chk_notStar h.1, chkEs_star h.2⟩
section
variable {G : Prog} {l : Lk} {cf ci : Nat → List D → M D}
theorem sp_val {X : Cx} {W : WX} {e : Expr} {m : TH.Env → M D} (h : SE X l.nm W e m) (hp : plainT e = true) : SE X l.nm W e m ∧ ST X l.nm W e (tM m) := ⟨h, st_val h (plainT_ok hp)⟩
theorem tests_one {X : Cx} {W : WX} {e : Expr} {m : TH.Env → M D} (h : ST X l.nm W e (tM m)) : PTs X [e] (rdT X.K X.w l.nm W (tM m)) := pts_one h
theorem tests_nil {X : Cx} {W : WX} : PTs X [] (rdT X.K X.w l.nm W fun _ => M.pure true) :=
  ⟨fun pins s σ H Q I ⟨ρ, st, env, er, sr, g⟩ => wpAny_tests_nil ⟨H, I, Got.here g sr⟩⟩
theorem list_small {is : List E} {xs : List Expr} {c : CI} (h : chkEs l.toLkN c is xs = true) (hl : xs.length ≤ 100) (env : TH.Env) (s : Sto) (ds : List D) (s' : Sto) (e : evEs G cf ci is env s = .ok ds s') : ds.length ≤ sizeLine := by
  have h1 := evEs_len is env s ds s' e
  have h2 := chkEs_len h
  have h3 : sizeLine = 16777216 := by decide
  omega
theorem conE_ok {X : Cx} {W : WX} {p : P} {k : Const} {j : Nat} {pos : Pos} (h : conB p k = true) : SE X l.nm W (.Constant k j pos) fun _ => M.pure (.p p) := by
  cases p <;> cases k <;> first | (exfalso; cases h; done) | skip
  · exact se_non
  · have := eq_of_beq (show (_ == _) = true from h); subst this; exact se_bl
  · have := of_decide_eq_true (show decide (_ = _) = true from h); subst this; exact se_int
  · have e := of_decide_eq_true (show decide (_ = _) = true from h); exact se_str (by rw [← e]; exact (sS_of _).symm)
mutual
theorem sE : ∀ (i : E) {X : Cx} {W : WX} {c : CI} {e : Expr}, CtxOk G l cf ci X W c → chkE l.toLkN c i e = true → SE X l.nm W e (evE G cf ci i) ∧ ST X l.nm W e (tM (evE G cf ci i))
  | .var i, X, W, c, e, C, h => by
    simp only [chkE] at h
    split at h
    · simp only [Bool.and_eq_true, beq_iff_eq] at h
      obtain ⟨h1, h2, h3⟩ := C.vis h.2
      exact sp_val (se_var (by rw [C.N]; exact h.1) h1 h2 h3) rfl
    · cases h
  | .con p, X, W, c, e, C, h => by
    simp only [chkE] at h
    split at h
    · exact sp_val (conE_ok h) rfl
    · cases h
  | .glo g, X, W, c, e, C, h => by
    simp only [chkE] at h
    split at h
    · simp only [Bool.and_eq_true, beq_iff_eq] at h
      obtain ⟨h1, h2⟩ := C.gl h.2
      obtain ⟨u, v, e1, e2, e3⟩ := C.lk.glo g _ h.1
      exact sp_val (se_glo h1 e1 e2 e3 h2) rfl
    · cases h
  | .bin o a b, X, W, c, e, C, h => by
    simp only [chkE] at h
    split at h
    · simp only [Bool.and_eq_true, beq_iff_eq] at h
      obtain ⟨⟨rfl, ha⟩, hb⟩ := h
      exact sp_val (se_bin (sE a C ha).1 (sE b C hb).1) rfl
    · cases h
  | .neg a, X, W, c, e, C, h => by
    simp only [chkE] at h
    split at h
    · exact sp_val (se_neg (sE a C h).1) rfl
    · cases h
  | .not a, X, W, c, e, C, h => by
    simp only [chkE] at h
    split at h
    · exact ⟨se_not (sE a C h).1, st_not (sE a C h).2⟩
    · cases h
  | .and a b, X, W, c, e, C, h => by
    simp only [chkE] at h
    split at h
    · rename_i x y rest pos
      simp only [Bool.and_eq_true] at h
      obtain ⟨ha, hb⟩ := h
      have hx := sE a C ha
      cases rest with
      | nil =>
        have hy := sE b C hb
        exact ⟨se_and hx.1 (se_one hy.1), st_and hx.2 (st_andN hy.2)⟩
      | cons z rest =>
        have hy := sE b C hb
        exact ⟨se_and hx.1 hy.1, st_and hx.2 hy.2⟩
    · cases h
  | .or a b, X, W, c, e, C, h => by
    simp only [chkE] at h
    split at h
    · rename_i x y rest pos
      simp only [Bool.and_eq_true] at h
      obtain ⟨ha, hb⟩ := h
      have hx := sE a C ha
      cases rest with
      | nil =>
        have hy := sE b C hb
        exact ⟨se_or hx.1 (se_one hy.1), st_or hx.2 (st_orN hy.2)⟩
      | cons z rest =>
        have hy := sE b C hb
        exact ⟨se_or hx.1 hy.1, st_or hx.2 hy.2⟩
    · cases h
  | .cmp o a b, X, W, c, e, C, h => by
    simp only [chkE] at h
    split at h
    · simp only [Bool.and_eq_true, beq_iff_eq, Bool.not_eq_true'] at h
      obtain ⟨⟨⟨rfl, h1⟩, ha⟩, hb⟩ := h
      exact ⟨se_cmp C.hu (sE a C ha).1 (sE b C hb).1 h1, st_cmp C.hu (sE a C ha).1 (sE b C hb).1 h1⟩
    · cases h
  | .chn o o' a b d, X, W, c, e, C, h => by
    simp only [chkE] at h
    split at h
    · simp only [Bool.and_eq_true, beq_iff_eq, Bool.not_eq_true'] at h
      obtain ⟨⟨⟨⟨⟨rfl, rfl⟩, h1⟩, ha⟩, hb⟩, hd⟩ := h
      exact ⟨se_chn C.hu (sE a C ha).1 (sE b C hb).1 (sE d C hd).1 h1, st_chn C.hu (sE a C ha).1 (sE b C hb).1 (sE d C hd).1 h1⟩
    · cases h
  | .ite t a b, X, W, c, e, C, h => by
    simp only [chkE] at h
    split at h
    · simp only [Bool.and_eq_true] at h
      obtain ⟨⟨ht, ha⟩, hb⟩ := h
      have h1 := sE t C ht
      have h2 := sE a C ha
      have h3 := sE b C hb
      have e1 : evE G cf ci (.ite t a b) = fun env s => (tM (evE G cf ci t) env s).bind fun t => if t then evE G cf ci a env else evE G cf ci b env := by
        funext env s
        show (evE G cf ci t env s).bind _ = ((evE G cf ci t env s).bind truthM).bind _
        rw [R.bind_assoc]
      rw [e1]
      exact ⟨se_ite h1.2 h2.1 h3.1, st_ite h1.2 h2.2 h3.2⟩
    · cases h
  | .tup es, X, W, c, e, C, h => by
    simp only [chkE] at h
    split at h
    · simp only [Bool.and_eq_true, decide_eq_true_eq] at h
      exact sp_val (se_tup (sEs es C h.2) (list_small h.2 h.1)) rfl
    · cases h
  | .lst m es, X, W, c, e, C, h => by
    simp only [chkE] at h
    split at h
    · simp only [Bool.and_eq_true, decide_eq_true_eq] at h
      exact sp_val (se_lst (m := m) (sEs es C h.2) (list_small h.2 h.1)) rfl
    · cases h
  | .dic ks vs, X, W, c, e, C, h => by
    simp only [chkE] at h
    split at h
    · split at h
      · simp only [Bool.and_eq_true, decide_eq_true_eq, Bool.not_eq_true', decide_eq_false_iff_not] at h
        obtain ⟨⟨⟨⟨h1, h2⟩, h3⟩, h4⟩, h5⟩ := h
        exact sp_val (se_dic2 (by rw [← h1]; exact (sS_of _).symm) (by rw [← h2]; exact (sS_of _).symm) (by rw [← h3]; exact (sS_of _).symm) (by rw [← h4]; exact (sS_of _).symm) h5) rfl
      · cases h
    · cases h
  | .idx a b, X, W, c, e, C, h => by
    simp only [chkE] at h
    split at h
    · simp only [Bool.and_eq_true] at h
      obtain ⟨⟨h1, ha⟩, hb⟩ := h
      exact sp_val (se_idx (sE a C ha).1 (sE b C hb).1 h1) rfl
    · cases h
  | .slc a lo hi, X, W, c, e, C, h => by
    simp only [chkE] at h
    split at h
    · simp only [Bool.and_eq_true] at h
      obtain ⟨⟨ha, hl⟩, hh⟩ := h
      exact sp_val (se_slc (sE a C ha).1 (sO lo C hl) (sO hi C hh)) rfl
    · cases h
  | .fld a f, X, W, c, e, C, h => by
    simp only [chkE] at h
    split at h
    · simp only [Bool.and_eq_true, beq_iff_eq] at h
      obtain ⟨⟨h1, h2⟩, ha⟩ := h
      obtain ⟨e1, e2⟩ := C.lk.fld f _ h1
      exact sp_val (se_fld C.lk.inj C.lk.cls e2 e1.symm (sE a C ha).1 h2) rfl
    · cases h
  | .call f es, X, W, c, e, C, h => by
    unfold chkE at h
    obtain ⟨k, hr, F⟩ := C.call
    split at h
    · rename_i x p xs pos
      simp only [Bool.and_eq_true, beq_iff_eq] at h
      obtain ⟨⟨⟨h1, h2⟩, h3⟩, h4⟩ := h
      obtain ⟨g1, g2⟩ := C.gl h3
      obtain ⟨e1, e2⟩ := C.lk.fn f x h1
      have hs := C.lk.some_ f x h1
      have ss := sEs es C h4
      cases xs with
      | nil =>
        have : es = [] := List.length_eq_zero_iff.mp (by rw [chkEs_len h4]; rfl)
        subst this
        exact sp_val (se_call0 C.tk (F f hs) hr (C.lk.binds f hs h2) g1 e1 e2 g2) rfl
      | cons y ys => exact sp_val (se_call C.tk (F f hs) hr (C.lk.binds f hs h2) g1 e1 e2 ss (chkEs_star h4) g2) rfl
    · rename_i x p y key z kp pos
      simp only [Bool.and_eq_true, beq_iff_eq] at h
      obtain ⟨⟨⟨h1, h2⟩, h3⟩, h4⟩ := h
      split at h4
      · rename_i a b
        simp only [Bool.and_eq_true] at h4
        obtain ⟨g1, g2⟩ := C.gl h3
        obtain ⟨e1, e2⟩ := C.lk.fn f x h1
        have hs := C.lk.some_ f x h1
        obtain ⟨gg, kb⟩ := C.lk.kbinds f key h2
        exact sp_val (se_callK C.tk (F f hs) hr kb g1 e1 e2 (sE a C h4.1).1 (sE b C h4.2).1 (chk_notStar h4.1) g2) rfl
      · cases h4
    · cases h
  | .new k es, X, W, c, e, C, h => by
    simp only [chkE] at h
    obtain ⟨j, hr, F⟩ := C.make
    split at h
    · rename_i x p xs pos
      simp only [Bool.and_eq_true, beq_iff_eq] at h
      obtain ⟨⟨h1, h3⟩, h4⟩ := h
      obtain ⟨g1, g2⟩ := C.gl h3
      have hm := C.lk.cn k x h1
      have ss := sEs es C h4
      have e1 : evE G cf ci (.new k es) = fun env s => (evEs G cf ci es env s).bind (newM (G.init k) ci k) := rfl
      rw [e1]
      obtain ⟨i, hq⟩ := C.lk.initS k x h1
      rw [hq]
      obtain ⟨k1, k2⟩ := C.lk.initK k i hq
      refine sp_val ?_ rfl
      cases xs with
      | nil =>
        have : es = [] := List.length_eq_zero_iff.mp (by rw [chkEs_len h4]; rfl)
        subst this
        exact se_new0 C.tk (C.lk.init k i hq) (F i k2) hr (C.lk.binds i k2 k1) g1 hm g2
      | cons y ys => exact se_new C.tk (C.lk.init k i hq) (F i k2) hr (C.lk.binds i k2 k1) g1 hm ss (chkEs_star h4) g2
    · cases h
  | .met m a es, X, W, c, e, C, h => by
    simp only [chkE] at h
    obtain ⟨k, hr, F⟩ := C.call
    split at h
    · rename_i x n apos xs pos
      simp only [Bool.and_eq_true, beq_iff_eq, decide_eq_true_eq] at h
      obtain ⟨⟨⟨⟨⟨h1, h2⟩, h3⟩, h4⟩, ha⟩, hs⟩ := h
      obtain ⟨f1, f2⟩ := C.lk.meth m n h1
      have MO : MetOk X l.nm G cf k l.fa l.fd l.ps m n := ⟨C.lk.cls, f2, fun c f q => F f (C.lk.methK c m f q).2, fun c f q => C.lk.binds f (C.lk.methK c m f q).2 (C.lk.methK c m f q).1, f1⟩
      have ss := sEs es C hs
      have h3' : (apos.endLine == pos.line) = true := by simpa using h3
      cases xs with
      | nil =>
        have : es = [] := List.length_eq_zero_iff.mp (by rw [chkEs_len hs]; rfl)
        subst this
        exact sp_val (se_met0 C.tk hr MO (sE a C ha).1 h2 h3') rfl
      | cons y ys => exact sp_val (se_met C.tk hr MO (sE a C ha).1 ss h2 h3' (chkEs_star hs) h4) rfl
    · cases h
  | .bi m b es, X, W, c, e, C, h => by
    unfold chkE at h
    split at h
    · rename_i x p xs pos
      split at h
      · rename_i t
        split at h
        · rename_i a y tx p2
          simp only [Bool.and_eq_true] at h
          obtain ⟨⟨⟨h0, h1⟩, h2⟩, ha⟩ := h
          obtain ⟨e1, g1, g2, g3, g4⟩ := C.blt h1
          obtain ⟨e2, k1, k2, k3, k4⟩ := C.blt h2
          have hm : m = false := by simpa using h0
          subst hm
          exact sp_val (se_isi (t := t) g1 g3 (by rw [e1]; exact PyProof.Rows.boot_isinstance) k1 k3 (by rw [e2]; cases t <;> first | exact PyProof.Rows.boot_str | exact PyProof.Rows.boot_int | exact PyProof.Rows.boot_bool | exact PyProof.Rows.boot_tuple | exact PyProof.Rows.boot_list) (sE a C ha).1 (chk_notStar ha) g4 g2 k4 k2) rfl
        · cases h
      · rename_i b' _
        simp only [Bool.and_eq_true, Bool.not_eq_true'] at h
        obtain ⟨⟨⟨h1, h2⟩, h3⟩, h4⟩ := h
        obtain ⟨e1, g1, g2, g3, g4⟩ := C.blt h2
        obtain ⟨hok, q⟩ := boot_of h1
        have ss := sEs es C h4
        cases xs with
        | nil => cases h3
        | cons y ys =>
          rcases q with ⟨id, q1, q2⟩ | ⟨T, q1, q2⟩
          · exact sp_val (se_biB (m := m) C.calm hok q1 g1 g3 (by rw [e1]; exact q2) ss (chkEs_star h4) g4 g2) rfl
          · exact sp_val (se_biT (m := m) C.calm hok q1 g1 g3 (by rw [e1]; exact q2) ss (chkEs_star h4) g4 g2) rfl
    · cases h
  | .bm m b a es, X, W, c, e, C, h => by
    simp only [chkE] at h
    split at h
    · rename_i x n apos xs pos
      simp only [Bool.and_eq_true, beq_iff_eq, decide_eq_true_eq, Bool.not_eq_true'] at h
      obtain ⟨⟨⟨⟨⟨⟨⟨h1, h2⟩, h3⟩, h4⟩, h5⟩, h6⟩, ha⟩, hs⟩ := h
      have ss := sEs es C hs
      have h4' : (apos.endLine == pos.line) = true := by simpa using h4
      cases xs with
      | nil => cases h6
      | cons y ys => exact sp_val (se_bm (m := m) C.calm h1 h2 (sE a C ha).1 ss h3 h4' (chkEs_star hs) h5) rfl
    · cases h
  | .lc m own tg ik its cs elt, X, W, c, e, C, h => by
    simp only [chkE] at h
    split at h
    · rename_i x tgE iter ifs scope pos
      simp only [Bool.and_eq_true] at h
      obtain ⟨⟨⟨⟨⟨⟨h1, h2⟩, h3⟩, h4⟩, h5⟩, h6⟩, h7⟩ := h
      have ok : BlkOk X.N X.env.scope scope (ownP c.N own) := by rw [C.N, C.sc]; exact blkB_ok h1
      have hix : ∀ i ∈ tg.ix, i ∈ (ownP c.N own).map (·.2) := by
        rw [ownP_snd]
        intro i hi
        simpa using List.all_eq_true.mp h3 i hi
      have q := se_lc (m := m) (nm := l.nm) (W := W) (ik := ik) (tg := tg) (pos := pos) C.calm C.nd (sIt ik its C h5) ok (fun s H Ca cl fp => (C.blk s H scope Ca cl fp).tg h2)
        (fun s H Ca cl fp => sC cs (C.blk s H scope Ca cl fp) h6) (fun s H Ca cl fp => (sE elt (C.blk s H scope Ca cl fp) h7).1) (folded_ok h4) hix
      rw [ownP_snd] at q
      exact sp_val q rfl
    · cases h
  | .addl m a b, X, W, c, e, C, h => by
    simp only [chkE] at h
    split at h
    · simp only [Bool.and_eq_true] at h
      exact sp_val (se_addl (m := m) (sE a C h.1).1 (sE b C h.2).1) rfl
    · cases h
  | .never, X, W, c, e, C, h => by simp [chkE] at h
theorem sEs : ∀ (is : List E) {X : Cx} {W : WX} {c : CI} {xs : List Expr}, CtxOk G l cf ci X W c → chkEs l.toLkN c is xs = true → SL X l.nm W xs (evEs G cf ci is)
  | [], X, W, c, xs, C, h => by
    have : xs = [] := by simpa [chkEs] using h
    subst this
    exact sl_nil
  | i :: is, X, W, c, xs, C, h => by
    cases xs with
    | nil => simp [chkEs] at h
    | cons x xs =>
      simp only [chkEs, Bool.and_eq_true] at h
      exact sl_cons (sE i C h.1).1 (sEs is C h.2) (chk_notStar h.1)
theorem sC : ∀ (cs : List E) {X : Cx} {W : WX} {c : CI} {xs : List Expr}, CtxOk G l cf ci X W c → chkC l.toLkN c cs xs = true → PTs X xs (rdT X.K X.w l.nm W (evC G cf ci cs))
  | [], X, W, c, xs, C, h => by
    have : xs = [] := by simpa [chkC] using h
    subst this
    exact tests_nil
  | i :: is, X, W, c, xs, C, h => by
    simp only [chkC] at h
    split at h
    · exact tests_one (sE i C h).2
    · cases h
theorem sO : ∀ (o : Option E) {X : Cx} {W : WX} {c : CI} {x : Option Expr}, CtxOk G l cf ci X W c → chkO l.toLkN c o x = true → SO X l.nm W x (evO G cf ci o)
  | none, X, W, c, x, C, h => by
    cases x with
    | none => exact so_none
    | some _ => simp [chkO] at h
  | some a, X, W, c, x, C, h => by
    cases x with
    | none => simp [chkO] at h
    | some y =>
      simp only [chkO] at h
      exact so_some (sE a C h).1
theorem sIt : ∀ (ik : ItK) (its : List E) {X : Cx} {W : WX} {c : CI} {tg x : Expr}, CtxOk G l cf ci X W c → chkIt l.toLkN c ik its tg x = true → PI X tg x (rdI X.K X.w l.nm W ik (evEs G cf ci its))
  | ik, [], X, W, c, tg, x, C, h => by simp [chkIt] at h
  | ik, a :: r, X, W, c, tg, x, C, h => by
    simp only [chkIt] at h
    cases ik with
    | seq =>
      simp only [Bool.and_eq_true, List.isEmpty_iff] at h
      obtain ⟨rfl, ha⟩ := h
      exact si_seq (sE a C ha).1
    | range1 =>
      dsimp only at h
      split at h
      · simp only [Bool.and_eq_true, List.isEmpty_iff] at h
        obtain ⟨⟨rfl, hb⟩, ha⟩ := h
        obtain ⟨e1, g1, g2, g3, g4⟩ := C.blt hb
        subst e1
        exact si_rng1 g1 g3 (sE a C ha).1 (chk_notStar ha)
      · cases h
    | enum =>
      dsimp only at h
      split at h
      · simp only [Bool.and_eq_true, List.isEmpty_iff] at h
        obtain ⟨⟨⟨rfl, hb⟩, ht⟩, ha⟩ := h
        obtain ⟨e1, g1, g2, g3, g4⟩ := C.blt hb
        subst e1
        split at ht
        · exact si_enum g1 g3 (sE a C ha).1 (chk_notStar ha)
        · cases ht
      · cases h
    | range2 =>
      dsimp only at h
      split at h
      · simp only [Bool.and_eq_true] at h
        obtain ⟨⟨hb, ha⟩, hr⟩ := h
        obtain ⟨e1, g1, g2, g3, g4⟩ := C.blt hb
        subst e1
        cases r with
        | nil => simp [chkEs] at hr
        | cons b r =>
          simp only [chkEs, Bool.and_eq_true] at hr
          have : r = [] := by
            cases r with
            | nil => rfl
            | cons _ _ => simp [chkEs] at hr
          subst this
          exact si_rng2 g1 g3 (sE a C ha).1 (sE b C hr.1).1 (chk_notStar ha) (chk_notStar hr.1)
      · cases h
    | zip =>
      dsimp only at h
      split at h
      · simp only [Bool.and_eq_true] at h
        obtain ⟨⟨⟨hb, ht⟩, ha⟩, hr⟩ := h
        obtain ⟨e1, g1, g2, g3, g4⟩ := C.blt hb
        subst e1
        split at ht
        · cases r with
          | nil => simp [chkEs] at hr
          | cons b r =>
            simp only [chkEs, Bool.and_eq_true] at hr
            have : r = [] := by
              cases r with
              | nil => rfl
              | cons _ _ => simp [chkEs] at hr
            subst this
            exact si_zip g1 g3 (sE a C ha).1 (sE b C hr.1).1 (chk_notStar ha) (chk_notStar hr.1)
        · cases ht
      · cases h
end
end
end TH
end T_TJ12
section T_TK1
set_option Elab.async false
set_option linter.all false
set_option maxRecDepth 100000
/-! Statements: one rule by form. -/
namespace TH
open PySem PySem.Spec PyProof.Rows L2
/-- what is wanted behind a statement -/
def PostX (K : Frag) (w : World) (nm : Names) (W : WX) (ρ : Nat → Addr) (L : Nat) (H : Hp) (x : TH.X) (D : Ends) : Prop := match x with
  | .nx env' st' => ∀ ρ' σ' H', Ext ρ L H ρ' st'.length H' → StR K w nm ρ' st' H' → EnvR K w ρ' st'.length H' σ' env' → D.nx σ' H'
  | .brk env' st' => ∀ ρ' σ' H', Ext ρ L H ρ' st'.length H' → StR K w nm ρ' st' H' → EnvR K w ρ' st'.length H' σ' env' → D.bk σ' H'
  | .ct env' st' => ∀ ρ' σ' H', Ext ρ L H ρ' st'.length H' → StR K w nm ρ' st' H' → EnvR K w ρ' st'.length H' σ' env' → D.ct σ' H'
  | .ret d st' => ∀ ρ' H', Ext ρ L H ρ' st'.length H' → StR K w nm ρ' st' H' → ∀ v, Rv K w ρ' st'.length H' v d → D.rt v H'
  | .exc x env' st' => ∀ ρ' σ' H' cls d, Ext ρ L H ρ' st'.length H' → StR K w nm ρ' st' H' → EnvR K w ρ' st'.length H' σ' env' → ExR K w nm (live ρ' st'.length) H' x cls d → W cls d σ' H'
  | .bad => False
def rdS (K : Frag) (w : World) (nm : Names) (W : WX) (m : TH.Env → Sto → TH.X) : TS := fun D σ H => ∃ ρ st env, EnvR K w ρ st.length H σ env ∧ StR K w nm ρ st H ∧ PostX K w nm W ρ st.length H (m env st) D
abbrev SS (X : Cx) (nm : Names) (W : WX) (st : Stmt) (m : TH.Env → Sto → TH.X) : Prop := PS X st (rdS X.K X.w nm W m)
abbrev SSs (X : Cx) (nm : Names) (W : WX) (st : List Stmt) (m : TH.Env → Sto → TH.X) : Prop := PSs X st (rdS X.K X.w nm W m)
section
variable {X : Cx} {nm : Names} {W : WX} {pins : List (Addr × Obj)} {σ : L2.St} {env : TH.Env} {ρ ρ1 : Nat → Addr} {st st1 : Sto} {H H1 : Hp} {s s1 : Shared} {K : Frag} {w : World} {L L1 : Nat} {Dn : Ends}
/-- from further on -/
theorem PostX.up {x : TH.X} (h : PostX K w nm W ρ L H x Dn) (e : Ext ρ L H ρ1 L1 H1) : PostX K w nm W ρ1 L1 H1 x Dn := by
  cases x with
  | nx env' st' => exact fun ρ' σ' H' e' => h ρ' σ' H' (e.trans e')
  | brk env' st' => exact fun ρ' σ' H' e' => h ρ' σ' H' (e.trans e')
  | ct env' st' => exact fun ρ' σ' H' e' => h ρ' σ' H' (e.trans e')
  | ret d st' => exact fun ρ' H' e' => h ρ' H' (e.trans e')
  | exc y env' st' => exact fun ρ' σ' H' cls d e' => h ρ' σ' H' cls d (e.trans e')
  | bad => exact h
theorem PostX.of {α : Type} {r : R α} {f : α → Sto → TH.X} (h : PostX K w nm W ρ L H (TH.X.of r env f) Dn) (er : EnvR K w ρ L H σ env) : Got K w nm W ρ L H σ r fun a st1 ρ1 H1 => PostX K w nm W ρ1 st1.length H1 (f a st1) Dn ∧ Ext ρ L H ρ1 st1.length H1 ∧ StR K w nm ρ1 st1 H1 := by
  cases r with
  | bad => exact h
  | exc x st' => exact fun ρ' H' cls d e s x => h ρ' σ H' cls d e s (e.envR er) x
  | ok a st' => exact fun ρ' H' e s => ⟨PostX.up h e, e, s⟩
theorem runS {a : Expr} {ma : TH.Env → M D} {f : D → Sto → TH.X} (ha : SE X nm W a ma) (A : At X nm pins σ env ρ st H s) (g : PostX X.K X.w nm W ρ st.length H (TH.X.of (ma env st) env f) Dn) :
    wpAny (model X.prog X.w) X.A (eval a X.env) (fun u s1 => ∃ d st1 ρ1 v H1, At X nm pins σ env ρ1 st1 H1 s1 ∧ Ext ρ st.length H ρ1 st1.length H1 ∧ Rv X.K X.w ρ1 st1.length H1 v d ∧ RelV v u ∧ PostX X.K X.w nm W ρ1 st1.length H1 (f d st1) Dn) X.xe s := by
  have g1 := PostX.of g A.er
  have g2 : Got X.K X.w nm W ρ st.length H σ ((ma env st).bind fun d => M.pure d) fun a st1 ρ1 H1 => PostX X.K X.w nm W ρ1 st1.length H1 (f a st1) Dn ∧ Ext ρ st.length H ρ1 st1.length H1 ∧ StR X.K X.w nm ρ1 st1 H1 := by
    have : (ma env st).bind (fun d => M.pure d) = ma env st := by cases ma env st <;> rfl
    rw [this]; exact g1
  exact thn (run1 ha A g2) fun u s1 ⟨d, st1, ρ1, v, H1, A1, e1, r1, q1, g3⟩ => ⟨d, st1, ρ1, v, H1, A1, e1, r1, q1, (Got.here g3 A1.sr).1⟩
theorem runST {a : Expr} {ma : TH.Env → M Bool} {f : Bool → Sto → TH.X} (ha : ST X nm W a ma) (A : At X nm pins σ env ρ st H s) (g : PostX X.K X.w nm W ρ st.length H (TH.X.of (ma env st) env f) Dn) :
    wpAny (model X.prog X.w) X.A (PySem.isTrue a X.env (eval a X.env)) (fun b s1 => ∃ st1 ρ1 H1, At X nm pins σ env ρ1 st1 H1 s1 ∧ Ext ρ st.length H ρ1 st1.length H1 ∧ PostX X.K X.w nm W ρ1 st1.length H1 (f b st1) Dn) X.xe s := by
  have g1 := PostX.of g A.er
  have g2 : Got X.K X.w nm W ρ st.length H σ ((ma env st).bind fun d => M.pure d) fun a st1 ρ1 H1 => PostX X.K X.w nm W ρ1 st1.length H1 (f a st1) Dn ∧ Ext ρ st.length H ρ1 st1.length H1 ∧ StR X.K X.w nm ρ1 st1 H1 := by
    have : (ma env st).bind (fun d => M.pure d) = ma env st := by cases ma env st <;> rfl
    rw [this]; exact g1
  exact thn (run1T ha A g2) fun u s1 ⟨st1, ρ1, H1, A1, e1, g3⟩ => ⟨st1, ρ1, H1, A1, e1, (Got.here g3 A1.sr).1⟩
theorem ss_mk {sm : Stmt} {m : TH.Env → Sto → TH.X} (h : ∀ pins s σ H Dn ρ st env, At X nm pins σ env ρ st H s → PostX X.K X.w nm W ρ st.length H (m env st) Dn → wpAny (model X.prog X.w) X.A (PySem.exec sm X.env) (SP X pins Dn) X.xe s) : SS X nm W sm m :=
  ⟨fun pins s σ H Dn I ⟨ρ, st, env, er, sr, q⟩ => h pins s σ H Dn ρ st env ⟨I, er, sr⟩ q⟩
/-- on to the next -/
theorem At.nx {env' : TH.Env} {σ' : L2.St} {H' : Hp} {s' : Shared} {ρ' : Nat → Addr} {st' : Sto} (g : PostX X.K X.w nm W ρ st.length H (.nx env' st') Dn) (e : Ext ρ st.length H ρ' st'.length H') (A : At X nm pins σ' env' ρ' st' H' s') : SP X pins Dn .next s' := ⟨σ', H', A.I, g ρ' σ' H' e A.sr A.er⟩
theorem At.nx0 {env' : TH.Env} {σ' : L2.St} {s' : Shared} (g : PostX X.K X.w nm W ρ st.length H (.nx env' st) Dn) (A : At X nm pins σ' env' ρ st H s') : SP X pins Dn .next s' := At.nx g Ext.refl A
/-! ### blocks -/
theorem sss_nil : SSs X nm W [] fun env s => .nx env s := ⟨fun pins s σ H Dn I ⟨ρ, st, env, er, sr, g⟩ => wpAny_execs_nil ⟨σ, H, I, g ρ σ H Ext.refl sr er⟩⟩
theorem PostX.seq {x : TH.X} {f : TH.Env → Sto → TH.X} (h : PostX K w nm W ρ L H (x.seq f) Dn) : PostX K w nm W ρ L H x { Dn with nx := fun σ H' => rdS K w nm W f Dn σ H' } := by
  cases x with
  | nx env' st' =>
    intro ρ' σ' H' e s er
    exact ⟨ρ', st', env', er, s, PostX.up h e⟩
  | brk env' st' => exact h
  | ct env' st' => exact h
  | ret d st' => exact h
  | exc y env' st' => exact h
  | bad => exact h
theorem sss_cons {sm : Stmt} {rest : List Stmt} {m ms : TH.Env → Sto → TH.X} (h1 : SS X nm W sm m) (h2 : SSs X nm W rest ms) : SSs X nm W (sm :: rest) fun env s => (m env s).seq ms :=
  ⟨fun pins s σ H Dn I ⟨ρ, st, env, er, sr, g⟩ => (pss_cons h1 h2).run pins s σ H Dn I ⟨ρ, st, env, er, sr, PostX.seq g⟩⟩
/-! ### small statements -/
theorem ss_set {i : Nat} {x : Str} {e : Expr} {me : TH.Env → M D} {pos pos' : Pos} (hN : X.N.Nodup) (hn : NmOk X i x) (he : SE X nm W e me) (hs : swapsWith e (some (.Name x pos')) pos.line X.env = pure false) :
    SS X nm W (.Assign [.Name x pos'] e pos) fun env s => TH.X.of (me env s) env fun d s1 => .nx (env.set i (some d)) s1 := by
  refine ss_mk fun pins s σ H Dn ρ st env A g => wpAny_Assign_Name (thn (runS he A g) fun u s1 ⟨d, st1, ρ1, v, H1, A1, e1, r1, q1, g1⟩ => ?_) hs
  exact store_ok A1.I hN hn.ix hn.loc q1 (fun s2 I2 => At.nx0 g1 ⟨I2, A1.er.set r1, A1.sr⟩) hn.fn
theorem ss_setLc {i : Nat} {x : Str} {m : Bool} {ik : ItK} {tg : Tg} {own : List (Str × Nat)} {mits : TH.Env → M (List D)} {mc : TH.Env → M Bool} {me : TH.Env → M D} {elt tgE iter : Expr} {ifs : List Expr} {scope : Scope} {pos spos py : Pos} (hc : X.calm = true) (hN : X.N.Nodup)
    (hy : X.N[i]? = some x) (hyl : X.env.scope.names.lookup x = some .local) (hsw : swapsWith (.ListComp elt [⟨tgE, iter, ifs, 0⟩] scope pos) (some (.Name x py)) spos.line X.env = pure true)
    (hi : PI X tgE iter (rdI X.K X.w nm W ik mits)) (ok : BlkOk X.N X.env.scope scope own)
    (hg : ∀ (s : Shared) (H : Hp) (C : Addr) (cl : List (Str × Addr)) (fp : List Addr), PG (X.blk s H scope (compEnvC scope cl C X.env) fp) tgE (rdG X.K X.w tg))
    (ht : ∀ (s : Shared) (H : Hp) (C : Addr) (cl : List (Str × Addr)) (fp : List Addr), PTs (X.blk s H scope (compEnvC scope cl C X.env) fp) ifs (rdT X.K X.w nm WF mc))
    (he : ∀ (s : Shared) (H : Hp) (C : Addr) (cl : List (Str × Addr)) (fp : List Addr), PE (X.blk s H scope (compEnvC scope cl C X.env) fp) elt (rd X.K X.w nm WF me))
    (hs : ∀ x, foldedSetIterable iter X.env x = pure x) (hix : ∀ i ∈ tg.ix, i ∈ own.map (·.2)) :
    SS X nm W (.Assign [.Name x py] (.ListComp elt [⟨tgE, iter, ifs, 0⟩] scope pos) spos) fun env s => TH.X.of (lcM m ik tg (own.map (·.2)) mits mc me env s) env fun d s1 => .nx (env.set i (some d)) s1 := by
  refine ⟨fun pins s σ H Dn I ⟨ρ, st, env, er, sr, g⟩ => (ps_setLc hc hN hy hyl hsw hi ok hg ht he hs).run pins s σ H Dn I ?_⟩
  show tLc _ _ _ _ _ σ H _
  refine lc_read (W := W) (m := m) (elt := elt) (tgE := tgE) (iter := iter) (ifs := ifs) (scope := scope) (pos := pos) hc hN hi ok hg ht he hs hix σ H _ ⟨ρ, st, env, er, sr, ?_⟩
  have g1 := PostX.of g er
  exact Got.imp g1 fun d st1 ρ1 H1 ⟨q, e1, s1⟩ v rv => q ρ1 _ H1 Ext.refl s1 ((e1.envR er).set rv)
theorem ss_expr {e : Expr} {me : TH.Env → M D} {pos : Pos} (he : SE X nm W e me) (hs : swapsWith e none pos.line X.env = pure false) : SS X nm W (.Expr e pos) fun env s => TH.X.of (me env s) env fun _ s1 => .nx env s1 := by
  refine ss_mk fun pins s σ H Dn ρ st env A g => wpAny_Expr_any (thn (runS he A g) fun u s1 ⟨d, st1, ρ1, v, H1, A1, e1, r1, q1, g1⟩ => At.nx0 g1 A1) A.I.quiet hs
theorem ss_ret {e : Expr} {me : TH.Env → M D} {pos : Pos} (he : SE X nm W e me) : SS X nm W (.Return (some e) pos) fun env s => TH.X.of (me env s) env fun d s1 => .ret d s1 := by
  refine ss_mk fun pins s σ H Dn ρ st env A g => wpAny_Return_some (thn (runS he A g) fun u s1 ⟨d, st1, ρ1, v, H1, A1, e1, r1, q1, g1⟩ => ⟨v, σ, H1, A1.I, q1, g1 ρ1 H1 Ext.refl A1.sr v r1⟩)
theorem ss_retN {pos : Pos} : SS X nm W (.Return none pos) fun env s => .ret (.p .non) s := by
  refine ss_mk fun pins s σ H Dn ρ st env A g => wpAny_Return_none ⟨.non, σ, H, A.I, rfl, g ρ H Ext.refl A.sr .non (.p .non)⟩
theorem ss_pass {pos : Pos} : SS X nm W (.Pass pos) fun env s => .nx env s := ss_mk fun pins s σ H Dn ρ st env A g => wpAny_Pass (At.nx0 g A)
theorem ss_brk {pos : Pos} : SS X nm W (.Break pos) fun env s => .brk env s := ss_mk fun pins s σ H Dn ρ st env A g => wpAny_Break ⟨σ, H, A.I, g ρ σ H Ext.refl A.sr A.er⟩
theorem ss_cont {pos : Pos} : SS X nm W (.Continue pos) fun env s => .ct env s := ss_mk fun pins s σ H Dn ρ st env A g => wpAny_Continue ⟨σ, H, A.I, g ρ σ H Ext.refl A.sr A.er⟩
theorem ss_never {sm : Stmt} : SS X nm W sm fun _ _ => .bad := ss_mk fun pins s σ H Dn ρ st env A g => False.elim g
theorem ss_if {c : Expr} {a b : List Stmt} {mc : TH.Env → M Bool} {ma mb : TH.Env → Sto → TH.X} {pos : Pos} (hc : ST X nm W c mc) (ha : SSs X nm W a ma) (hb : SSs X nm W b mb) :
    SS X nm W (.If c a b pos) fun env s => TH.X.of (mc env s) env fun t s2 => if t then ma env s2 else mb env s2 := by
  refine ss_mk fun pins s σ H Dn ρ st env A g => wpAny_If (thn (runST hc A g) fun t s1 ⟨st1, ρ1, H1, A1, e1, g1⟩ => ?_)
  cases t with
  | true => exact ha.run pins s1 σ H1 Dn A1.I ⟨ρ1, st1, env, A1.er, A1.sr, g1⟩
  | false => exact hb.run pins s1 σ H1 Dn A1.I ⟨ρ1, st1, env, A1.er, A1.sr, g1⟩
end
end TH
end T_TK1
section T_TK2
set_option Elab.async false
set_option linter.all false
set_option maxRecDepth 100000
/-! Stores, loops. -/
namespace TH
open PySem PySem.Spec PyProof.Rows L2
def notComp : Expr → Bool
  | .ListComp _ _ _ _ => false
  | .SetComp _ _ _ _ => false
  | .DictComp _ _ _ _ _ => false
  | _ => true
theorem swaps_nc {e : Expr} {t : Option Expr} {n : Nat} {en : PySem.Env} (h : notComp e = true) : swapsWith e t n en = pure false := by
  cases e <;> first | rfl | cases h
def notName : Expr → Bool
  | .Name _ _ => false
  | _ => true
theorem swaps_tg {e t : Expr} {n : Nat} {en : PySem.Env} (h : notName t = true) : swapsWith e (some t) n en = pure false := by
  cases e <;> first | rfl | skip
  all_goals (cases t <;> first | rfl | cases h)
def notTup : Expr → Bool
  | .Tuple _ _ _ => false
  | _ => true
theorem stores_ne {ts : List Expr} {k : Nat} {p : Pos} {e : Expr} {en : PySem.Env} (h : notTup e = true) : swappedStores [.Tuple ts k p] e en = pure none := by
  cases e <;> first | rfl | cases h
section
variable {X : Cx} {nm : Names} {W : WX} {pins : List (Addr × Obj)} {σ : L2.St} {env : TH.Env} {ρ ρ1 : Nat → Addr} {st st1 : Sto} {H H1 : Hp} {s s1 : Shared} {Dn : Ends}
theorem ss_unp {es : List Expr} {is : List Nat} {e : Expr} {me : TH.Env → M D} {k : Nat} {tp pos : Pos} (he : SE X nm W e me) (hg : PG X (.Tuple es k tp) (rdG X.K X.w (.tup is))) (h1 : notTup e = true) :
    SS X nm W (.Assign [.Tuple es k tp] e pos) fun env s => TH.X.of (me env s) env fun d s1 => match setTg env (.tup is) d with
      | some env' => .nx env' s1
      | none => .bad := by
  refine ss_mk fun pins s σ H Dn ρ st env A g => wpAny_Assign_stores (thn (runS he A g) fun u s1 ⟨d, st1, ρ1, v, H1, A1, e1, r1, q1, g1⟩ => ?_) (show swapsWith e (some (.Tuple es k tp)) pos.line X.env = pure false from swaps_tg rfl) (stores_ne h1)
  have h2 : (assignEach [.Tuple es k tp] X.env).map (·.2) = [assign (.Tuple es k tp) X.env] := rfl
  rw [h2]
  cases hs : setTg env (.tup is) d with
  | none => rw [hs] at g1; exact False.elim g1
  | some env' =>
    rw [hs] at g1
    exact thn (hg.run pins s1 σ H1 v u Dn.nx A1.I q1 ⟨d, env, ρ1, st1.length, env', A1.er, r1, hs, fun σ' er' _ => g1 ρ1 σ' H1 Ext.refl A1.sr er'⟩) fun _ s2 q => q
theorem putF_ok {K : Frag} {w : World} {nm : Names} (inj : ∀ f g, nm.fld f = nm.fld g → f = g) {L : Nat} {f : Nat} {d : D} {v : V} (rv : Rv K w ρ L H v d) : ∀ {fs : List (Nat × D)} {vfs : List (Str × V)}, RvF K w ρ L H vfs nm.fld fs → RvF K w ρ L H (putF (nm.fld f) v vfs) nm.fld (putFd f d fs)
  | [], [], _ => ⟨rfl, .cons rv .nil⟩
  | [], _ :: _, ⟨r1, _⟩ => by simp at r1
  | (g, x) :: fs, [], ⟨r1, _⟩ => by simp at r1
  | (g, x) :: fs, (a, y) :: vfs, ⟨r1, r2⟩ => by
    simp only [List.map_cons, List.cons.injEq] at r1
    cases r2 with
    | cons q1 q2 =>
      have ih := putF_ok (f := f) inj rv (fs := fs) (vfs := vfs) ⟨r1.2, q2⟩
      unfold putF putFd
      by_cases h : g = f
      · subst h
        rw [if_pos r1.1, if_pos rfl]
        exact ⟨by simp only [List.map_cons, r1.1, r1.2], .cons rv q2⟩
      · have h' : ¬ a = nm.fld f := by
          rw [r1.1]
          exact fun e => h (inj _ _ e)
        rw [if_neg h', if_neg h]
        exact ⟨by simp only [List.map_cons, r1.1, ih.1], .cons q1 ih.2⟩
/-- a field of an object of the store is written -/
theorem fld_put {c f n : Nat} {fs : List (Nat × D)} {x : Str} {d : D} {v : V} {u : Value} {Q : Unit → Shared → Prop} (inj : ∀ f g, nm.fld f = nm.fld g → f = g) (hc : ∀ c, Cls X.K (nm.cls c)) (hn : ∀ c, NoAttr X.K (nm.cls c) x) (hx : x = nm.fld f) (A : At X nm pins σ env ρ st H s)
    (hcell : st[n]? = some (.ins c fs)) (hl : fs.length < 100) (rv : Rv X.K X.w ρ st.length H v d) (ru : RelV v u) (h : ∀ H' s', At X nm pins σ env ρ (st.set n (.ins c (putFd f d fs))) H' s' → Ext ρ st.length H ρ (st.set n (.ins c (putFd f d fs))).length H' → Q () s') :
    wpAny (model X.prog X.w) X.A (setAttr (.ref (ρ n)) x u) Q X.xe s := by
  obtain ⟨dx, vfs, h1, h2⟩ := A.sr.cell n _ hcell
  have hlt := (List.getElem?_eq_some_iff.mp hcell).1
  have hlen : vfs.length = fs.length := by
    have := congrArg List.length h2.1
    simpa using this
  subst hx
  refine setattr_ok A.I h1 (hc c) (hn c) (by omega) ru fun s' I' => ?_
  have xw := Ext.write (o := .ins (nm.cls c) dx (putF (nm.fld f) v vfs)) A.sr hlt
  have h2' : RvF X.K X.w ρ st.length (upd H (ρ n) (.ins (nm.cls c) dx (putF (nm.fld f) v vfs))) vfs nm.fld fs := ⟨h2.1, xw.rvL h2.2⟩
  have sw := A.sr.write (c := .ins c (putFd f d fs)) (o := .ins (nm.cls c) dx (putF (nm.fld f) v vfs)) hlt ⟨dx, _, upd_same, putF_ok inj (xw.rv rv) h2'⟩
  have xw' : Ext ρ st.length H ρ (st.set n (.ins c (putFd f d fs))).length (upd H (ρ n) (.ins (nm.cls c) dx (putF (nm.fld f) v vfs))) := by
    rw [List.length_set]; exact xw
  exact h _ s' (A.go I' xw' sw) xw'
theorem ss_sfld {o e : Expr} {mo me : TH.Env → M D} {f : Nat} {x : Str} {p pos : Pos} (inj : ∀ f g, nm.fld f = nm.fld g → f = g) (hc : ∀ c, Cls X.K (nm.cls c)) (hn : ∀ c, NoAttr X.K (nm.cls c) x) (hx : x = nm.fld f) (ho : SE X nm W o mo) (he : SE X nm W e me) :
    SS X nm W (.Assign [.Attribute o x p] e pos) fun env s => TH.X.of (me env s) env fun d s1 => TH.X.of (mo env s1) env fun y s2 => match y with
      | .ref n => match s2[n]? with
        | some (.ins c fs) => if fs.length < 100 then .nx env (s2.set n (.ins c (putFd f d fs))) else .bad
        | _ => .bad
      | _ => .bad := by
  refine ss_mk fun pins s σ H Dn ρ st env A g => plainObj_wpAny_Assign_Attribute (thn (runS he A g) fun u s1 ⟨d, st1, ρ1, v, H1, A1, e1, r1, q1, g1⟩ => thn (runS ho A1 g1) fun u2 s2 ⟨d2, st2, ρ2, v2, H2, A2, e2, r2, q2, g2⟩ => ?_) (swaps_tg rfl)
  cases r2 with
  | p _ => exact False.elim g2
  | tup _ _ _ => exact False.elim g2
  | @ref n hlt =>
    dsimp only at g2
    cases hcell : st2[n]? with
    | none => rw [hcell] at g2; exact False.elim g2
    | some c =>
      rw [hcell] at g2
      cases c with
      | lst _ => exact False.elim g2
      | ins c fs =>
        dsimp only at g2
        by_cases hl : fs.length < 100
        · rw [if_pos hl] at g2
          cases q2
          exact fld_put inj hc hn hx A2 hcell hl (e2.rv r1) q1 fun H' s' A3 e3 => At.nx g2 e3 A3
        · rw [if_neg hl] at g2; exact False.elim g2
theorem ss_sidx {o i e : Expr} {mo mi me : TH.Env → M D} {p pos : Pos} (ho : SE X nm W o mo) (hi : SE X nm W i mi) (he : SE X nm W e me) (hn : notSlice i = true) :
    SS X nm W (.Assign [.Subscript o i p] e pos) fun env s => TH.X.of (me env s) env fun d s1 => TH.X.of (mo env s1) env fun x s2 => TH.X.of (mi env s2) env fun y s3 => match x, y with
      | .ref n, .p (.int j) => match s3[n]? with
        | some (.lst xs) => match place xs.length j with
          | some k => .nx env (s3.set n (.lst (xs.set k d)))
          | none => .bad
        | _ => .bad
      | _, _ => .bad := by
  refine ss_mk fun pins s σ H Dn ρ st env A g => wpAny_Assign_stores (thn (runS he A g) fun u s1 ⟨d, st1, ρ1, v, H1, A1, e1, r1, q1, g1⟩ => ?_) (show swapsWith e (some (.Subscript o i p)) pos.line X.env = pure false from swaps_tg rfl) (by cases e <;> rfl)
  have h2 : (assignEach [.Subscript o i p] X.env).map (·.2) = [assign (.Subscript o i p) X.env] := rfl
  rw [h2]
  show wpAny (model X.prog X.w) X.A (assign (.Subscript o i p) X.env u) _ X.xe s1
  have ha : assign (.Subscript o i p) X.env u = (do
      let ov ← holding [u] (eval o X.env)
      let iv ← holding [u, ov] (eval i X.env)
      standAt p
      holding [u, ov, iv] (setItem ov iv u)
      release [u, ov, iv] []) := by
    cases i <;> first | rfl | cases hn
  rw [ha]
  refine wpAny_bind (wpAny_holding (thn (runS ho A1 g1) fun ov s2 ⟨d2, st2, ρ2, v2, H2, A2, e2, r2, q2, g2⟩ => ?_))
  refine wpAny_bind (wpAny_holding (thn (runS hi A2 g2) fun iv s3 ⟨d3, st3, ρ3, v3, H3, A3, e3, r3, q3, g3⟩ => ?_))
  have r2' := e3.rv r2
  cases r2' with
  | p _ => exact False.elim g3
  | tup _ _ _ => exact False.elim g3
  | @ref n hlt =>
    cases r3 with
    | ref _ => exact False.elim g3
    | tup _ _ _ => exact False.elim g3
    | p r3 =>
      cases r3 with
      | int j =>
        dsimp only at g3
        cases hcell : st3[n]? with
        | none => rw [hcell] at g3; exact False.elim g3
        | some c =>
          rw [hcell] at g3
          cases c with
          | ins _ _ => exact False.elim g3
          | lst xs =>
            dsimp only at g3
            cases hp : place xs.length j with
            | none => rw [hp] at g3; exact False.elim g3
            | some k =>
              rw [hp] at g3
              obtain ⟨vs, h1, h2⟩ := A3.sr.cell n _ hcell
              have hl := h2.length
              have hk : ixN vs.length j = some k := by
                rw [hl]
                have hlt' : k < xs.length := by
                  unfold place at hp
                  split at hp
                  · cases hp; omega
                  · split at hp
                    · cases hp; omega
                    · cases hp
                obtain ⟨y, hy⟩ : ∃ y, (List.range xs.length)[k]? = some y := ⟨_, List.getElem?_eq_getElem (by simpa using hlt')⟩
                unfold place at hp
                unfold ixN
                by_cases h0 : 0 ≤ j
                · rw [if_pos h0]
                  by_cases h1 : j < xs.length
                  · rw [if_pos ⟨h0, h1⟩] at hp; rw [if_pos h1]; exact hp
                  · rw [if_neg (fun z => h1 z.2), if_neg (fun z => absurd z.1 (by omega))] at hp; cases hp
                · rw [if_neg h0]
                  rw [if_neg (fun z => h0 z.1)] at hp
                  by_cases h1 : -(xs.length : Int) ≤ j
                  · rw [if_pos ⟨by omega, h1⟩] at hp; rw [if_pos h1]; exact hp
                  · rw [if_neg (fun z => h1 z.2)] at hp; cases hp
              refine wpAny_bind (wpAny_standAt (wpAny_bind (wpAny_holding (thn (set_list pins s3 σ H3 (.ref (ρ3 n)) (.int j) v ov iv u (fun H' => H' = upd H3 (ρ3 n) (.lst (vs.set k v))) A3.I q2 q3 q1 ⟨ρ3 n, vs, j, k, rfl, rfl, h1, hk, rfl⟩) fun _ s4 ⟨H4, I4, e4⟩ => ?_))))
              subst e4
              have xw := Ext.write (o := .lst (vs.set k v)) A3.sr hlt
              have sw := A3.sr.write (c := .lst (xs.set k d)) (o := .lst (vs.set k v)) hlt ⟨_, upd_same, RvL.set k (xw.rv (e3.rv (e2.rv r1))) (xw.rvL h2)⟩
              have xw' : Ext ρ3 st3.length H3 ρ3 (st3.set n (.lst (xs.set k d))).length (upd H3 (ρ3 n) (.lst (vs.set k v))) := by
                rw [List.length_set]; exact xw
              exact wpAny_release (At.nx g3 xw' (A3.go I4 xw' sw))
      | _ => exact False.elim g3
/-- what may be put together in place -/
def augOk : Op2 → Bool
  | .add => true | .sub => true
  | _ => false
theorem inp_ok {o : Op2} {p q : Int} {r : P} {u v : Value} {Q : VK} (ho : augOk o = true) (I : Inv X pins σ H s) (ru : RelV (.int p) u) (rv : RelV (.int q) v) (e : binP o (.int p) (.int q) = some r) (k : ∀ x B, Rp X.K X.w B H x r → Q x H) :
    wpAny (model X.prog X.w) X.A (inplaceOp (opOf o) u v) (EP X pins σ Q) X.xe s := by
  cases o <;> first | (exfalso; cases ho; done) | skip
  · cases e
    exact ip_add pins s σ H _ _ u v Q I ru rv ⟨p, q, rfl, rfl, k _ (fun _ => False) (.int _)⟩
  · cases e
    exact ip_sub pins s σ H _ _ u v Q I ru rv ⟨p, q, rfl, rfl, k _ (fun _ => False) (.int _)⟩
theorem binP_int {o : Op2} {p q : Int} {r : P} (ho : augOk o = true) (e : binP o (.int p) (.int q) = some r) : ∃ i, r = .int i := by
  cases o <;> first | (exfalso; cases ho; done) | (cases e; exact ⟨_, rfl⟩)
theorem ss_augf {a e : Expr} {ma me : TH.Env → M D} {f : Nat} {o : Op2} {x : Str} {p pos : Pos} (inj : ∀ f g, nm.fld f = nm.fld g → f = g) (hc : ∀ c, Cls X.K (nm.cls c)) (hn : ∀ c, NoAttr X.K (nm.cls c) x) (hx : x = nm.fld f) (ho : augOk o = true) (ha : SE X nm W a ma) (he : SE X nm W e me) :
    SS X nm W (.AugAssign (.Attribute a x p) (opOf o) e pos) fun env s => TH.X.of (ma env s) env fun y s1 => match y with
      | .ref n => match s1[n]? with
        | some (.ins _ fs) => match fs.lookup f with
          | some (.p (.int p)) => TH.X.of (me env s1) env fun z s2 => match z with
            | .p (.int q) => match binP o (.int p) (.int q) with
              | some r => match s2[n]? with
                | some (.ins c fs') => if fs'.length < 100 then .nx env (s2.set n (.ins c (putFd f (.p r) fs'))) else .bad
                | _ => .bad
              | none => .bad
            | _ => .bad
          | _ => .bad
        | _ => .bad
      | _ => .bad := by
  refine ss_mk fun pins s σ H Dn ρ st env A g => wpAny_AugAssign_AttributeAny (thn (runS ha A g) fun u s1 ⟨d, st1, ρ1, v, H1, A1, e1, r1, q1, g1⟩ => ?_)
  cases r1 with
  | p _ => exact False.elim g1
  | tup _ _ _ => exact False.elim g1
  | @ref n hlt =>
    dsimp only at g1
    cases hcell : st1[n]? with
    | none => rw [hcell] at g1; exact False.elim g1
    | some c =>
      rw [hcell] at g1
      cases c with
      | lst _ => exact False.elim g1
      | ins c fs =>
        dsimp only at g1
        cases hl : fs.lookup f with
        | none => rw [hl] at g1; exact False.elim g1
        | some z =>
          rw [hl] at g1
          cases z with
          | ref _ => exact False.elim g1
          | tup _ => exact False.elim g1
          | p z => cases z with
            | int i =>
              dsimp only at g1
              obtain ⟨dx, vfs, h1, h2⟩ := A1.sr.cell n _ hcell
              obtain ⟨v', h3, h4⟩ := fld_lookup inj h2 hl
              cases q1
              have h3' : vfs.lookup x = some v' := by rw [hx]; exact h3
              refine getattr_ok A1.I h1 (hc c) (hn c) h3' fun u2 s2 I2 ru2 => ?_
              have A2 : At X nm pins σ env ρ1 st1 H1 s2 := ⟨I2, A1.er, A1.sr⟩
              refine thn (runS he A2 g1) fun u3 s3 ⟨d3, st3, ρ3, v3, H3, A3, e3, r3, q3, g3⟩ => ?_
              cases r3 with
              | ref _ => exact False.elim g3
              | tup _ _ _ => exact False.elim g3
              | p r3 => cases r3 with
                | int j =>
                  dsimp only at g3
                  cases hb : binP o (.int i) (.int j) with
                  | none => rw [hb] at g3; exact False.elim g3
                  | some r =>
                    rw [hb] at g3
                    dsimp only at g3
                    cases hc3 : st3[n]? with
                    | none => rw [hc3] at g3; exact False.elim g3
                    | some c3 =>
                      rw [hc3] at g3
                      cases c3 with
                      | lst _ => exact False.elim g3
                      | ins c3 fs3 =>
                        dsimp only at g3
                        by_cases hl3 : fs3.length < 100
                        · rw [if_pos hl3] at g3
                          cases h4 with
                          | p h4 =>
                            cases h4
                            refine thn (inp_ok (Q := fun z H' => H' = H3 ∧ Rp X.K X.w (live ρ3 st3.length) H3 z r) ho A3.I ru2 q3 hb fun z B rz => ⟨rfl, ?_⟩) fun u4 s4 ⟨z, H4, I4, rz, e4, rr⟩ => ?_
                            · obtain ⟨i', rfl⟩ := binP_int ho hb
                              cases rz
                              exact .int _
                            · subst e4
                              have A4 : At X nm pins σ env ρ3 st3 H4 s4 := ⟨I4, A3.er, A3.sr⟩
                              have e5 : ρ1 n = ρ3 n := (e3.same n hlt).symm
                              rw [e5]
                              exact fld_put inj hc hn hx A4 hc3 hl3 (.p rr) rz fun H' s' A5 e6 => At.nx g3 e6 A5
                        · rw [if_neg hl3] at g3; exact False.elim g3
                | _ => exact False.elim g3
            | _ => exact False.elim g1
/-! ### loops -/
theorem ss_for {ik : ItK} {tg : Tg} {mits : TH.Env → M (List D)} {mb : TH.Env → Sto → TH.X} {tgE iter : Expr} {body : List Stmt} {pos : Pos} (hp : PassesOwn (model X.prog X.w) X.A X.env X.xe) (hc : X.calm = true) (hi : PI X tgE iter (rdI X.K X.w nm W ik mits)) (hg : PG X tgE (rdG X.K X.w tg)) (hb : SSs X nm W body mb)
    (hs : ∀ x, foldedSetIterable iter X.env x = pure x) : SS X nm W (.For tgE iter body [] pos) fun env s => TH.X.of (mits env s) env fun ds s1 => match items ik ds s1 with
      | some xs => forL tg mb (fun s' => stands ik ds s1 s') xs env s1
      | none => .bad := by
  refine ⟨fun pins s σ H Dn I ⟨ρ, st, env, er, sr, g⟩ => (ps_for hp hc hi hg hb hs).run pins s σ H Dn I ?_⟩
  refine ⟨ρ, st, env, er, sr, Got.imp (PostX.of g er) fun ds st0 ρ0 H0 ⟨g0, e0, S0⟩ => ?_⟩
  cases hxs : items ik ds st0 with
  | none => rw [hxs] at g0; exact False.elim g0
  | some xs =>
  rw [hxs] at g0
  dsimp only at g0
  refine ⟨xs, rfl, fun J IO => ?_⟩
  generalize hok : (fun s' => stands ik ds st0 s') = okf at *
  let Iv : Nat → L2.St → Hp → Prop := fun i σ' H' => ∃ (ρ1 : Nat → Addr) (st1 : Sto) (env1 : TH.Env), Ext ρ0 st0.length H0 ρ1 st1.length H' ∧ StR X.K X.w nm ρ1 st1 H' ∧ EnvR X.K X.w ρ1 st1.length H' σ' env1 ∧ PostX X.K X.w nm W ρ1 st1.length H' (forL tg mb okf (xs.drop i) env1 st1) Dn
  refine ⟨fun i m σ' H' => m = xs.length - i ∧ i ≤ xs.length ∧ Iv i σ' H', ⟨xs.length, rfl, Nat.zero_le _, ρ0, st0, env, Ext.refl, S0, e0.envR er, by rw [List.drop_zero]; exact g0⟩, ?_⟩
  rintro i m' σ' H' ⟨rfl, hile, ρ1, st1, env1, e1, S1, er1, g1⟩
  by_cases hlt : i < xs.length
  · right
    have hx : xs[i]? = some xs[i] := List.getElem?_eq_getElem hlt
    rw [List.drop_eq_getElem_cons hlt] at g1
    unfold forL at g1
    by_cases hok1 : okf st1 = true
    · rw [if_pos hok1] at g1
      refine ⟨IO.go i ρ1 st1 H' hlt e1 S1 hok1, Iv (i + 1), fun σ'' H'' q => ⟨xs.length - (i + 1), by omega, rfl, hlt, q⟩, fun x H'' hy => ?_⟩
      obtain ⟨kN, rx⟩ := IO.yld i ρ1 st1 H' x H'' xs[i] hx e1 S1 hok1 hy
      have eN := Ext.more (ρ := ρ1) (L := st1.length) kN
      have S2 := S1.more kN
      cases hset : setTg env1 tg xs[i] with
      | none => rw [hset] at g1; exact False.elim g1
      | some env' =>
      rw [hset] at g1
      dsimp only at g1
      refine ⟨xs[i], env1, ρ1, st1.length, env', eN.envR er1, rx, hset, fun σ2 er2 _ => ⟨ρ1, st1, env', er2, S2, ?_⟩⟩
      have g2 := PostX.up g1 eN
      cases hb' : mb env' st1 with
      | bad => rw [hb'] at g2; exact g2
      | exc x e s' => rw [hb'] at g2; exact g2
      | ret d s' => rw [hb'] at g2; exact g2
      | brk e s' => rw [hb'] at g2; exact g2
      | nx e s' =>
        rw [hb'] at g2
        exact fun ρ3 σ3 H3 e3 S3 er3 => ⟨ρ3, s', e, (e1.trans eN).trans e3, S3, er3, PostX.up g2 e3⟩
      | ct e s' =>
        rw [hb'] at g2
        exact fun ρ3 σ3 H3 e3 S3 er3 => ⟨ρ3, s', e, (e1.trans eN).trans e3, S3, er3, PostX.up g2 e3⟩
    · rw [if_neg hok1] at g1; exact False.elim g1
  · left
    rw [List.drop_eq_nil_of_le (Nat.not_lt.mp hlt)] at g1
    unfold forL at g1
    by_cases hok1 : okf st1 = true
    · rw [if_pos hok1] at g1
      exact ⟨IO.stop i ρ1 st1 H' (Nat.not_lt.mp hlt) e1 S1 hok1, g1 ρ1 σ' H' Ext.refl S1 er1⟩
    · rw [if_neg hok1] at g1; exact False.elim g1
theorem ss_whl {n : Nat} {c : Expr} {body : List Stmt} {mc : TH.Env → M Bool} {mb : TH.Env → Sto → TH.X} {pos : Pos} (hp : PassesOwn (model X.prog X.w) X.A X.env X.xe) (hc : ST X nm W c mc) (hb : SSs X nm W body mb) :
    SS X nm W (.While c body [] pos) fun env s => whileL mc mb n env s := by
  refine ⟨fun pins s σ H Dn I ⟨ρ, st, env, er, sr, g⟩ => (ps_while hp hc hb).run pins s σ H Dn I ?_⟩
  refine ⟨fun n σ H => ∃ (ρ : Nat → Addr) (st : Sto) (env : TH.Env), StR X.K X.w nm ρ st H ∧ EnvR X.K X.w ρ st.length H σ env ∧ PostX X.K X.w nm W ρ st.length H (whileL mc mb n env st) Dn, ⟨n, ρ, st, env, sr, er, g⟩, ?_⟩
  rintro m σ1 H1 ⟨ρ1, st1, env1, S1, er1, g1⟩
  cases m with
  | zero => exact False.elim g1
  | succ m =>
    unfold whileL at g1
    refine ⟨ρ1, st1, env1, er1, S1, Got.imp (PostX.of g1 er1) fun b st2 ρ2 H2 ⟨g2, e2, S2⟩ => ?_⟩
    cases b with
    | false =>
      rw [if_neg Bool.false_ne_true] at g2 ⊢
      exact g2 ρ2 σ1 H2 Ext.refl S2 (e2.envR er1)
    | true =>
      rw [if_pos rfl] at g2 ⊢
      refine ⟨fun σ' H' => ∃ (ρ : Nat → Addr) (st : Sto) (env : TH.Env), StR X.K X.w nm ρ st H' ∧ EnvR X.K X.w ρ st.length H' σ' env ∧ PostX X.K X.w nm W ρ st.length H' (whileL mc mb m env st) Dn, fun σ' H' q => ⟨m, Nat.lt_succ_self _, q⟩, ρ2, st2, env1, e2.envR er1, S2, ?_⟩
      cases hb' : mb env1 st2 with
      | bad => rw [hb'] at g2; exact g2
      | exc x e s' => rw [hb'] at g2; exact g2
      | ret d s' => rw [hb'] at g2; exact g2
      | brk e s' => rw [hb'] at g2; exact g2
      | nx e s' =>
        rw [hb'] at g2
        exact fun ρ3 σ3 H3 e3 S3 er3 => ⟨ρ3, s', e, S3, er3, PostX.up g2 e3⟩
      | ct e s' =>
        rw [hb'] at g2
        exact fun ρ3 σ3 H3 e3 S3 er3 => ⟨ρ3, s', e, S3, er3, PostX.up g2 e3⟩
/-- a try whose body raises nothing -/
theorem ss_thru {body : List Stmt} {mb : TH.Env → Sto → TH.X} {h₀ : ExceptHandler} {hs : List ExceptHandler} {pos : Pos} (hb : SSs X.nox nm WF body mb) : SS X nm W (.Try body (h₀ :: hs) [] [] pos) fun env s => match mb env s with
    | .exc _ _ _ => .bad
    | r => r := by
  refine ⟨fun pins s σ H Dn I ⟨ρ, st, env, er, sr, g⟩ => (ps_try_thru0 hb).run pins s σ H Dn I ⟨ρ, st, env, er, sr, ?_⟩⟩
  dsimp only at g
  cases hq : mb env st with
  | exc _ _ _ => rw [hq] at g; exact False.elim g
  | bad => rw [hq] at g; exact g
  | nx _ _ => rw [hq] at g; exact g
  | ret _ _ => rw [hq] at g; exact g
  | brk _ _ => rw [hq] at g; exact g
  | ct _ _ => rw [hq] at g; exact g
end
end TH
end T_TK2
section T_TK3
set_option Elab.async false
set_option linter.all false
set_option maxRecDepth 100000
/-! word, *rest = a tuple -/
namespace TH
open PySem PySem.Spec PyProof.Rows L2
theorem walks_tup1 {prog : Program} {w : World} {A : Around} (hh : A.handled = none) (I ax : Addr) (hne : ax ≠ I) (items : Array Value) (hs : 1 ≤ items.size) :
    Walks prog w A I [I, ax] [I] (items.size - 1) (fun i v => items[i + 1]? = some v) (fun i h => h.IsTupleIter I ax (i + 1) ∧ h.IsTuple ax items) where
  sub := fun b hb => by simp at hb; simp [hb]
  frame := fun _ _ _ st hk => ⟨st.1.at fun o e => hk I (by simp) o e, st.2.at fun o e => hk ax (by simp) o e⟩
  item := fun i s Q E hi st hQ => by
    have hi' : i + 1 < items.size := by omega
    refine wpAny_pyNext_tuple_item st.1 st.2 (x := items[i + 1]) (by simp [hi']) fun h' hit' hs' => ?_
    exact hQ _ h' s.toks (by simp [hi']) ⟨hit', st.2.extBut hs'.extBut hne⟩ fun b o hb e => hs'.extBut b o (fun h => hb (by simp [h])) e
  done := fun s Q E st hQ => by
    have : items.size - 1 + 1 = items.size := by omega
    rw [this] at st
    exact wpAny_pyNext_tuple_end hh st.1 st.2 (by simp) fun h' he' => hQ h' s.toks fun b o hb e => he' b o (fun h => hb (by simp [h])) e
  self := fun _ _ _ _ st hQ => wpAny_pyIter_tupleiter st.1 hQ
theorem unpack_star1 {prog : Program} {w : World} {A : Around} {E : Value → Shared → Prop} {s : Shared} {t : Addr} {items : Array Value} {x : Value} {rest : List Value} {Q : List Value → Shared → Prop} (hh : A.handled = none) (ht : IsTup s.heap t items) (hi : items.toList = x :: rest) (hz : items.size ≤ sizeLine)
    (hQ : ∀ h' tk g d os, (∀ b o, s.heap.get? b = some o → h'.get? b = some o) → g = s.gens → d = s.drawn → os = s.os →
      wpAny (model prog w) A (newList rest) (fun v => Q [x, v]) E ⟨h', g, d, tk, os⟩) : wpAny (model prog w) A (unpackItems (.ref t) 2 (some 1)) Q E s := by
  have hlt : t ≠ s.heap.objs.size := by obtain ⟨o, ho, _⟩ := ht; exact Nat.ne_of_lt (Heap.lt_size ho)
  have hsz : items.size = rest.length + 1 := by
    have := congrArg List.length hi
    simpa using this
  unfold unpackItems
  refine wpAny_bind ?_
  unfold notIterableAtAll
  refine wpAny_bind (wpAny_specialOf ht.typeIs slot_tuple_iter.lookup ?_)
  refine wpAny_pure ?_
  simp only [Bool.false_eq_true, if_false]
  refine wpAny_bind (wpAny_holding (iter_tuple ht ?_))
  refine wpAny_bind (wpAny_holding (draw_tuple hlt 1 0 _ _ ⟨_, Heap.get?_push_size _ rfl, rfl, rfl⟩ (ht.push _) (by omega) fun h₁ hit₁ hs₁ => ?_))
  have hall : List.take 1 (List.drop 0 items.toList) = [x] := by rw [hi]; rfl
  rw [hall]
  rw [if_neg (by simp)]
  have ht₁ : IsTup h₁ t items := (ht.push _).extBut hs₁.extBut hlt
  have hk₁ : ∀ b o, s.heap.get? b = some o → h₁.get? b = some o := fun b o e => hs₁.extBut b o (Nat.ne_of_lt (Heap.lt_size e)) (Heap.get?_push_of_some _ e)
  have W := (walks_tup1 (prog := prog) (w := w) (A := A.in1) hh s.heap.objs.size t hlt items (by omega)).toS
  have hI : s.heap.objs.size < h₁.objs.size := by
    obtain ⟨o, ho, _⟩ := hit₁
    exact Heap.lt_size ho
  refine wpAny_bind (wpAny_holding (wpAny_collect_iter (T := "tuple_iterator") (.inr (.inr (.inr rfl))) W (fun i s st => ?_) ⟨hit₁, ht₁⟩ (fun b hb => ?_) (by simp) (fun s' acc hm hacc => ?_) (by omega)))
  · obtain ⟨⟨o, ho, hc, _⟩, _⟩ := st
    exact ⟨o, ho, hc⟩
  · have e : b = s.heap.objs.size ∨ b = t := by simpa using hb
    rcases e with e | e
    · rw [e]; exact hI
    · rw [e]; obtain ⟨o, ho, _⟩ := ht₁; exact Heap.lt_size ho
  · have e : acc.toList = rest := by
      obtain ⟨h1, h2⟩ := hacc
      refine List.ext_getElem? fun j => ?_
      rw [Array.getElem?_toList]
      have hr : rest[j]? = items[j + 1]? := by
        rw [← Array.getElem?_toList, hi]; rfl
      rw [hr]
      cases hj : acc[j]? with
      | some v => exact (h2 j v hj).symm
      | none =>
        have : acc.size ≤ j := Array.getElem?_eq_none_iff.mp hj
        exact (Array.getElem?_eq_none (by omega)).symm
    rw [e]
    simp only [Nat.sub_self, show (2 : Nat) - 1 - 1 = 0 from rfl]
    rw [if_neg (by omega)]
    have fin := hQ s'.heap s'.toks s'.gens s'.drawn s'.os (fun b o q => hm.heap b o (fun z => by
      have z' : b = s.heap.objs.size := by simpa using z
      exact absurd (Heap.lt_size q) (by rw [z']; exact Nat.lt_irrefl _)) (hk₁ b o q)) hm.gens hm.drawn hm.os
    simp only [Nat.sub_zero, List.take_length, List.drop_length]
    refine wpAny_bind (wpAny_mono fin (fun v s2 q => wpAny_pure ?_) fun _ _ z => z)
    simpa using q
section
variable {X : Cx} {nm : Names} {W : WX}
theorem ss_star {i j : Nat} {x y : Str} {e : Expr} {me : TH.Env → M D} {k : Nat} {p1 p2 p3 tp pos : Pos} (hc : X.calm = true) (hN : X.N.Nodup) (hx : NmOk X i x) (hy : NmOk X j y) (he : SE X nm W e me) (h1 : notTup e = true) :
    SS X nm W (.Assign [.Tuple [.Name x p1, .Starred (.Name y p2) p3] k tp] e pos) fun env s => TH.X.of (me env s) env fun d s1 => match d with
      | .p (.tup (a :: xs)) => .nx ((env.set i (some (.p a))).set j (some (.p (.lst xs)))) s1
      | _ => .bad := by
  refine ss_mk fun pins s σ H Dn ρ st env A g => wpAny_Assign_stores (thn (runS he A g) fun u s1 ⟨d, st1, ρ1, v, H1, A1, e1, r1, q1, g1⟩ => ?_) (show swapsWith e (some (.Tuple [.Name x p1, .Starred (.Name y p2) p3] k tp)) pos.line X.env = pure false from swaps_tg rfl) (stores_ne h1)
  have h2 : (assignEach [.Tuple [.Name x p1, .Starred (.Name y p2) p3] k tp] X.env).map (·.2) = [assign (.Tuple [.Name x p1, .Starred (.Name y p2) p3] k tp) X.env] := rfl
  rw [h2]
  show wpAny (model X.prog X.w) X.A (assign (.Tuple [.Name x p1, .Starred (.Name y p2) p3] k tp) X.env u) _ X.xe s1
  cases r1 with
  | ref _ => exact False.elim g1
  | tup _ _ _ => exact False.elim g1
  | p r1 =>
    rename_i z
    cases z with
    | tup zs =>
      cases zs with
      | nil => exact False.elim g1
      | cons a xs =>
        dsimp only at g1
        obtain ⟨t, vs, rfl, hq, rl⟩ := r1.tuple
        cases q1
        cases rl with
        | @cons va vs _ _ ra rl =>
          obtain ⟨its, rv, ht, hz⟩ := A1.I.tuple hq
          cases rv with
          | @cons _ ua _ us rua rus =>
            rw [assign_Tuple]
            refine wpAny_bind (wpAny_standAt ?_)
            unfold unpack
            refine wpAny_bind (wpAny_holding ?_)
            show wpAny (model X.prog X.w) X.A (unpackItems (.ref t) 2 (some 1)) _ X.xe s1
            have hl : vs.length = us.length := rus.length
            have hz' : vs.length + 1 ≤ sizeLine := hz
            refine unpack_star1 (x := ua) (rest := us) (A1.I.ok.hd hc) ht rfl (by rw [List.size_toArray]; show us.length + 1 ≤ sizeLine; omega) fun h' tk g' d' os' kk eg ed eo => ?_
            subst eg ed eo
            have I2 : Inv X pins σ H1 { s1 with heap := h', toks := tk } := A1.I.kept (t' := tk) kk
            refine wpAny_newObj_type ?_ (by show us.toArray.size ≤ sizeLine; rw [List.size_toArray]; omega)
            have hp : H1 h'.objs.size = none := I2.hok.fresh (Nat.le_refl _)
            have I3 : Inv X pins σ (upd H1 h'.objs.size (.lst vs)) { s1 with heap := h'.push { cls := .type "list", data := .seq us.toArray }, toks := tk } :=
              I2.laid (t' := tk) (fun b u e => Heap.get?_push_of_some _ e) (Nat.le_refl _) ⟨by omega, us, 0, rus, Heap.get?_push_size _ rfl⟩
            have xl := Ext.laid (o := .lst vs) A1.sr hp
            have sl := A1.sr.laid (o := .lst vs) hp
            have ra' : Rv X.K X.w ρ1 st1.length (upd H1 h'.objs.size (.lst vs)) va (.p a) := .p (xl.rp ra)
            have rl' : Rv X.K X.w ρ1 st1.length (upd H1 h'.objs.size (.lst vs)) (.ref h'.objs.size) (.p (.lst xs)) := .p (Rp.newL (fun a h => A1.sr.not_live_new h) hp rl)
            refine assignInOrder_cons ?_
            show wpAny (model X.prog X.w) X.A (assign (.Name x p1) X.env ua) _ X.xe _
            refine wpAny_assign_Name (store_ok I3 hN hx.ix hx.loc rua (fun s2 I4 => ?_) hx.fn)
            refine assignInOrder_cons ?_
            show wpAny (model X.prog X.w) X.A (assign (.Name y p2) X.env (.ref h'.objs.size)) _ X.xe _
            refine wpAny_assign_Name (store_ok (v := V.ref h'.objs.size) I4 hN hy.ix hy.loc rfl (fun s3 I5 => assignInOrder_nil ?_) hy.fn)
            exact ⟨_, _, I5, g1 ρ1 _ _ xl sl ((xl.envR A1.er |>.set ra').set rl')⟩
    | _ => exact False.elim g1
end
end TH
end T_TK3
section T_TK4
set_option Elab.async false
set_option linter.all false
set_option maxRecDepth 100000
/-! str.replace: with a token out. -/
namespace TH
open PySem PySem.Spec PyProof.Rows L2
section
variable {X : Cx} {nm : Names} {W : WX} {pins : List (Addr × Obj)} {σ : L2.St} {env : TH.Env} {ρ : Nat → Addr} {st : Sto} {H : Hp} {s : Shared} {Dn : Ends}
variable {β : Type} {κ : β → Sto → (Nat → Addr) → Hp → Prop}
abbrev SEP (X : Cx) (nm : Names) (W : WX) (e : Expr) (m : TH.Env → M D) : Prop := L2.PET X e (rd X.K X.w nm W m)
theorem SEP.of {e : Expr} {m : TH.Env → M D} (h : SE X nm W e m) : SEP X nm W e m := CwR.PET.of h
theorem run1P {a : Expr} {ma : TH.Env → M D} {f : D → M β} (ha : SEP X nm W a ma) (h0 : 1 ≤ s.toks) (A : At X nm pins σ env ρ st H s) (g : Got X.K X.w nm W ρ st.length H σ ((ma env st).bind f) κ) :
    wpAny (model X.prog X.w) X.A (eval a X.env) (Then X nm W pins σ env ρ st H f κ) X.xe s := by
  refine thn (ha pins s σ H (fun v H1 => ∃ d st1 ρ1, Ext ρ st.length H ρ1 st1.length H1 ∧ StR X.K X.w nm ρ1 st1 H1 ∧ Rv X.K X.w ρ1 st1.length H1 v d ∧ Got X.K X.w nm W ρ1 st1.length H1 σ (f d st1) κ) h0 A.I ⟨ρ, st, env, A.er, A.sr, ?_⟩) fun u s1 q => ?_
  · exact Got.bind g fun d st1 ρ1 H1 _ e s g1 v rv => ⟨d, st1, ρ1, e, s, rv, g1⟩
  · obtain ⟨v, H1, I1, rv, d, st1, ρ1, e, sr, r, g1⟩ := q
    exact ⟨d, st1, ρ1, v, H1, A.go I1 e sr, e, r, rv, g1⟩
theorem sep_repl {o : Expr} {mo : TH.Env → M D} {c : Nat} {t : List Nat} {x y z : Str} {j k : Nat} {c0 c1 apos pos : Pos} (hx : x = "replace") (ho : SEP X nm W o mo) (hy : y = sS [c]) (hz : z = sS t) (hs : notSuper o = true) (hline : (apos.endLine == pos.line) = true) (hne : t ≠ [c]) :
    SEP X nm W (.Call (.Attribute o x apos) [.Constant (.str y) j c0, .Constant (.str z) k c1] [] pos) fun env s => (mo env s).bind (bmM false .replace (fun s => ((M.pure (D.p (.str [c])) : M D) s).bind fun d s => (((M.pure (D.p (.str t)) : M D) s).bind fun d s => ((M.pure [] : M (List D)) s).bind fun ds => M.pure (d :: ds)).bind fun ds => M.pure (d :: ds))) := by
  subst hx hy hz
  intro pins s σ H Q h0 I ⟨ρ, st, env, er, sr, g⟩
  have hyz : (sS [c] == sS t) = false := beq_eq_false_iff_ne.mpr fun e => hne (sS_inj.mp e).symm
  refine CwR.pet_replT ho hyz rfl (attr_plain hs) hline pins s σ H Q h0 I ⟨ρ, st, env, er, sr, Got.bind g fun d st1 ρ1 H1 _ e1 s1 g1 v rv => ?_⟩
  unfold bmM at g1
  by_cases hr : recvOk .replace st1 d = true
  · rw [if_pos hr] at g1
    have g2 : Got X.K X.w nm W ρ1 st1.length H1 σ (runBi false .replace [d, .p (.str [c]), .p (.str t)] st1) (fun d st' ρ' H' => ∀ v, Rv X.K X.w ρ' st'.length H' v d → Q v H') := g1
    unfold runBi at g2
    rw [if_neg (by simp [Bi.changes]), if_neg (by simp)] at g2
    unfold recvOk at hr
    simp only [Bi.recv] at hr
    cases hv : TH.view st1 d with
    | none => rw [hv] at hr; cases hr
    | some p =>
      rw [hv] at hr
      cases p with
      | str q =>
        have hvs : views st1 [d, .p (.str [c]), .p (.str t)] = some [.str q, .str [c], .str t] := by simp [views, hv]
        rw [hvs] at g2
        dsimp only at g2
        cases hb : biP .replace [.str q, .str [c], .str t] with
        | none => rw [hb] at g2; exact False.elim g2
        | some r =>
          rw [hb] at g2
          obtain ⟨⟨h1, h2, h3, h4⟩, e⟩ := of_ite (show (if q.length ≤ 100000 ∧ t.length ≤ 100 ∧ c < 256 ∧ t ≠ [c] then some (P.str (replS c t q)) else none) = some r from hb)
          cases e
          have := (s1.view rv hv).str
          subst this
          refine ⟨sS q, rfl, ?_, ?_⟩
          · rw [sS_len, sS_len]
            have : (q.length + 1) * t.length ≤ 100001 * 100 := Nat.mul_le_mul (by omega) h2
            omega
          · rw [repl_eq _ _ _ h3]
            exact Got.here g2 s1 _ (.p (.str _))
      | _ => cases hr
  · rw [if_neg hr] at g1; exact False.elim g1
theorem sep_bm {m : Bool} {b : Bi} {a e : Expr} {es : List Expr} {ma : TH.Env → M D} {mes : TH.Env → M (List D)} {x : Str} {apos pos : Pos} (hc : X.calm = true) (hb : b.meth = true) (hx : x = bmN b) (ha : SEP X nm W a ma) (hes : SL X nm W (e :: es) mes)
    (hs : notSuper a = true) (hline : (apos.endLine == pos.line) = true) (hn : noStar (e :: es) = true) (hl : (e :: es).length < 29) :
    SEP X nm W (.Call (.Attribute a x apos) (e :: es) [] pos) fun env s => (ma env s).bind (bmM m b (mes env)) := by
  obtain ⟨hok, id, hf, pa, slot, hty⟩ := slot_of hb
  subst hx
  intro pins s σ H Q h0 I ⟨ρ, st, env, er, sr, g⟩
  have A : At X nm pins σ env ρ st H s := ⟨I, er, sr⟩
  refine wpAny_Call_method_late (attr_plain hs) (few_ok hn hl) hline rfl (thn (run1P ha h0 A g) fun u s1 ⟨d, st1, ρ1, v, H1, A1, e1, r1, q1, g1⟩ => ?_)
  have g2 : Post X.K X.w nm W ρ1 st1.length H1 σ (bmM m b (mes env) d st1) Q := g1
  unfold bmM at g2
  by_cases hr : recvOk b st1 d = true
  · rw [if_pos hr] at g2
    obtain ⟨h1, h2⟩ := recv_ok hb A1 r1 q1 hr
    refine ⟨bmT b, id, pa, slot, hty, h1, h2, ?_⟩
    simp only [noStar, List.all_cons, Bool.and_eq_true] at hn
    have hA := runL pos hes A1 g2
    rw [star_cons hn.1] at hA ⊢
    refine Calls.callWith_builtin (by show (false || (backTo pos (starEach es X.env)).any (·.1)) = false; rw [noStar_any hn.2] <;> rfl) (Calls.evalArgs_plain ?_)
    refine thn hA fun us s2 ⟨ds, st2, ρ2, vs, H2, A2, e2, r2, q2, g3⟩ => ?_
    have := A2.bi (m := m) hc hok (.cons (e2.rv r1) r2) (.cons q1 q2) g3
    rw [hf] at this
    exact this
  · rw [if_neg hr] at g2; exact False.elim g2
theorem runSP {a : Expr} {ma : TH.Env → M D} {f : D → Sto → TH.X} (ha : SEP X nm W a ma) (h0 : 1 ≤ s.toks) (A : At X nm pins σ env ρ st H s) (g : PostX X.K X.w nm W ρ st.length H (TH.X.of (ma env st) env f) Dn) :
    wpAny (model X.prog X.w) X.A (eval a X.env) (fun u s1 => ∃ d st1 ρ1 v H1, At X nm pins σ env ρ1 st1 H1 s1 ∧ Ext ρ st.length H ρ1 st1.length H1 ∧ Rv X.K X.w ρ1 st1.length H1 v d ∧ RelV v u ∧ PostX X.K X.w nm W ρ1 st1.length H1 (f d st1) Dn) X.xe s := by
  have g1 := PostX.of g A.er
  have g2 : Got X.K X.w nm W ρ st.length H σ ((ma env st).bind fun d => M.pure d) fun a st1 ρ1 H1 => PostX X.K X.w nm W ρ1 st1.length H1 (f a st1) Dn ∧ Ext ρ st.length H ρ1 st1.length H1 ∧ StR X.K X.w nm ρ1 st1 H1 := by
    have : (ma env st).bind (fun d => M.pure d) = ma env st := by cases ma env st <;> rfl
    rw [this]; exact g1
  exact thn (run1P ha h0 A g2) fun u s1 ⟨d, st1, ρ1, v, H1, A1, e1, r1, q1, g3⟩ => ⟨d, st1, ρ1, v, H1, A1, e1, r1, q1, (Got.here g3 A1.sr).1⟩
abbrev SSP (X : Cx) (nm : Names) (W : WX) (st : Stmt) (m : TH.Env → Sto → TH.X) : Prop := L2.PST X st (rdS X.K X.w nm W m)
abbrev SSsP (X : Cx) (nm : Names) (W : WX) (st : List Stmt) (m : TH.Env → Sto → TH.X) : Prop := L2.PSsT X st (rdS X.K X.w nm W m)
theorem ssp_sfld {o e : Expr} {mo me : TH.Env → M D} {f : Nat} {x : Str} {p pos : Pos} (inj : ∀ f g, nm.fld f = nm.fld g → f = g) (hc : ∀ c, Cls X.K (nm.cls c)) (hn : ∀ c, NoAttr X.K (nm.cls c) x) (hx : x = nm.fld f) (ho : SE X nm W o mo) (he : SEP X nm W e me) :
    SSP X nm W (.Assign [.Attribute o x p] e pos) fun env s => TH.X.of (me env s) env fun d s1 => TH.X.of (mo env s1) env fun y s2 => match y with
      | .ref n => match s2[n]? with
        | some (.ins c fs) => if fs.length < 100 then .nx env (s2.set n (.ins c (putFd f d fs))) else .bad
        | _ => .bad
      | _ => .bad := by
  intro pins s σ H Dn h0 I ⟨ρ, st, env, er, sr, g⟩
  have A : At X nm pins σ env ρ st H s := ⟨I, er, sr⟩
  refine plainObj_wpAny_Assign_Attribute (thn (runSP he h0 A g) fun u s1 ⟨d, st1, ρ1, v, H1, A1, e1, r1, q1, g1⟩ => thn (runS ho A1 g1) fun u2 s2 ⟨d2, st2, ρ2, v2, H2, A2, e2, r2, q2, g2⟩ => ?_) (swaps_tg rfl)
  cases r2 with
  | p _ => exact False.elim g2
  | tup _ _ _ => exact False.elim g2
  | @ref n hlt =>
    dsimp only at g2
    cases hcell : st2[n]? with
    | none => rw [hcell] at g2; exact False.elim g2
    | some c =>
      rw [hcell] at g2
      cases c with
      | lst _ => exact False.elim g2
      | ins c fs =>
        dsimp only at g2
        by_cases hl : fs.length < 100
        · rw [if_pos hl] at g2
          cases q2
          exact fld_put inj hc hn hx A2 hcell hl (e2.rv r1) q1 fun H' s' A3 e3 => At.nx g2 e3 A3
        · rw [if_neg hl] at g2; exact False.elim g2
theorem sssp_cons {sm : Stmt} {rest : List Stmt} {m ms : TH.Env → Sto → TH.X} (h1 : SSP X nm W sm m) (h2 : SSs X nm W rest ms) : SSsP X nm W (sm :: rest) fun env s => (m env s).seq ms :=
  fun pins s σ H Dn h0 I ⟨ρ, st, env, er, sr, g⟩ => (L2.psst_cons h1 (L2.PSsT.of h2)) pins s σ H Dn h0 I ⟨ρ, st, env, er, sr, PostX.seq g⟩
end
end TH
end T_TK4
section T_TK5
set_option Elab.async false
set_option linter.all false
set_option maxRecDepth 100000
set_option maxHeartbeats 1000000
/-! The check of statements, and what it gives. -/
namespace TH
open PySem PySem.Spec PyProof.Rows L2
def swB (c : CI) (scope : Scope) (x : Str) (py pos : Pos) : Bool := c.sc.kind == .function && c.sc.names.lookup x == some .local && py.line == pos.line && !(scope.names.any fun (n, k) => n == x && (k == .local || k == .cell))
mutual
def chkS (l : LkN) : CI → S → Stmt → Bool
  | c, .set i e, s => match s with
    | .Assign [.Name x py] v spos => nmB c i x && (match e, v with
      | .lc m own tg ik its cs elt, .ListComp y [⟨tgE, iter, ifs, 0⟩] scope pos => (swB c scope x py pos || !(c.sc.names.lookup x == some .local)) && chkE l c (.lc m own tg ik its cs elt) (.ListComp y [⟨tgE, iter, ifs, 0⟩] scope pos)
      | e, v => notComp v && chkE l c e v)
    | _ => false
  | c, .unp is e, s => match s with
    | .Assign [.Tuple es k tp] v _ => tgB c (.tup is) (.Tuple es k tp) && notTup v && chkE l c e v
    | _ => false
  | c, .star i j e, s => match s with
    | .Assign [.Tuple [.Name x _, .Starred (.Name y _) _] _ _] v _ => nmB c i x && nmB c j y && notTup v && chkE l c e v
    | _ => false
  | c, .sfld a f e, s => match s with
    | .Assign [.Attribute o x _] v _ => l.fldn[f]? == some x && chkE l c a o && chkE l c e v
    | _ => false
  | c, .sidx a i e, s => match s with
    | .Assign [.Subscript o ix _] v _ => notSlice ix && chkE l c a o && chkE l c i ix && chkE l c e v
    | _ => false
  | c, .augf a f o e, s => match s with
    | .AugAssign (.Attribute x n _) op v _ => l.fldn[f]? == some n && augOk o && op == opOf o && chkE l c a x && chkE l c e v
    | _ => false
  | c, .expr e, s => match s with
    | .Expr v _ => notComp v && chkE l c e v
    | _ => false
  | c, .ret e, s => match s with
    | .Return (some v) _ => chkE l c e v
    | _ => false
  | c, .retN, s => match s with
    | .Return none _ => true
    | _ => false
  | c, .ifs t a b, s => match s with
    | .If z x y _ => chkE l c t z && chkSs l c a x && chkSs l c b y
    | _ => false
  | c, .for_ tg ik its body, s => match s with
    | .For tgE iter b [] _ => tgB c tg tgE && notSet iter && chkIt l c ik its tgE iter && chkSs l c body b
    | _ => false
  | c, .whl t body, s => match s with
    | .While z b [] _ => chkE l c t z && chkSs l c body b
    | _ => false
  | c, .thru body, s => match s with
    | .Try b (_ :: _) [] [] _ => chkSs l c body b
    | _ => false
  | c, .pass, s => match s with
    | .Pass _ => true
    | _ => false
  | c, .brk, s => match s with
    | .Break _ => true
    | _ => false
  | c, .cont, s => match s with
    | .Continue _ => true
    | _ => false
  | _, .never, _ => true
  | _, _, _ => false
def chkSs (l : LkN) : CI → List S → List Stmt → Bool
  | _, [], ss => ss.isEmpty
  | c, a :: r, ss => match ss with
    | x :: ys => chkS l c a x && chkSs l c r ys
    | [] => false
end
theorem sw_false {elt : Expr} {gs : List Comprehension} {scope : Scope} {pos py : Pos} {y : Str} {n : Nat} {env : PySem.Env} (h : (env.scope.names.lookup y == some .local) = false) : swapsWith (.ListComp elt gs scope pos) (some (.Name y py)) n env = pure false := by
  have hk : (env.kindOf y == some .local) = false := h
  unfold swapsWith
  simp only [hk, Bool.and_false, Bool.false_and]
  first | done | rfl
theorem X_of_bind {α β : Type} (r : R α) (g : α → M β) (env : TH.Env) (f : β → Sto → TH.X) : TH.X.of (r.bind g) env f = TH.X.of r env fun a s => TH.X.of (g a s) env f := by cases r <;> rfl
section
variable {G : Prog} {l : Lk} {cf ci : Nat → List D → M D}
theorem CtxOk.nox {X : Cx} {W : WX} {c : CI} (C : CtxOk G l cf ci X W c) : CtxOk G l cf ci X.nox WF c :=
  ⟨C.N, C.nd, C.sc, C.fn, C.calm, C.hu, fun u s' ⟨_, _, _, _, _, _, _, _, _, _, _, _, _, _, _, _, w⟩ => w.elim, C.lk, C.call, C.make⟩
mutual
theorem okS : ∀ (i : S) {X : Cx} {W : WX} {c : CI} {s : Stmt}, CtxOk G l cf ci X W c → PassesOwn (model X.prog X.w) X.A X.env X.xe → chkS l.toLkN c i s = true → SS X l.nm W s (TH.exec G cf ci i)
  | .set i e, X, W, c, s, C, po, h => by
    unfold chkS at h
    split at h
    · rename_i x py v spos
      simp only [Bool.and_eq_true] at h
      obtain ⟨h1, h2⟩ := h
      have nk := C.nmOk h1
      split at h2
      · rename_i m own tg ik its cs elt y tgE iter ifs scope pos
        simp only [Bool.and_eq_true, Bool.or_eq_true, Bool.not_eq_true'] at h2
        obtain ⟨h2, h3⟩ := h2
        rcases h2 with h2 | h2
        · unfold swB at h2
          simp only [Bool.and_eq_true, beq_iff_eq, Bool.not_eq_true'] at h2
          obtain ⟨⟨⟨k1, k2⟩, k3⟩, k4⟩ := h2
          have hk : X.env.scope.kind = .function := by rw [C.sc]; exact k1
          have hloc : X.env.scope.names.lookup x = some .local := by rw [C.sc]; exact k2
          have hsw := sw_true (elt := y) (gs := [⟨tgE, iter, ifs, 0⟩]) (scope := scope) (pos := pos) (py := py) (y := x) (l := spos.line) (env := X.env) hk hloc (by simpa using k3) k4
          simp only [chkE, Bool.and_eq_true] at h3
          obtain ⟨⟨⟨⟨⟨⟨h1', h2'⟩, h3'⟩, h4⟩, h5⟩, h6⟩, h7⟩ := h3
          have ok : BlkOk X.N X.env.scope scope (ownP c.N own) := by rw [C.N, C.sc]; exact blkB_ok h1'
          have hix : ∀ i ∈ tg.ix, i ∈ (ownP c.N own).map (·.2) := by
            rw [ownP_snd]
            intro i hi
            simpa using List.all_eq_true.mp h3' i hi
          have q := ss_setLc (m := m) (nm := l.nm) (W := W) (ik := ik) (tg := tg) (pos := pos) (spos := spos) (py := py) C.calm C.nd nk.ix hloc hsw (sIt ik its C h5) ok (fun s H Ca cl fp => (C.blk s H scope Ca cl fp).tg h2')
            (fun s H Ca cl fp => sC cs (C.blk s H scope Ca cl fp) h6) (fun s H Ca cl fp => (sE elt (C.blk s H scope Ca cl fp) h7).1) (folded_ok h4) hix
          rw [ownP_snd] at q
          exact q
        · exact ss_set C.nd nk (sE _ C h3).1 (sw_false (by rw [C.sc]; exact h2))
      · simp only [Bool.and_eq_true] at h2
        exact ss_set C.nd nk (sE _ C h2.2).1 (swaps_nc h2.1)
    · cases h
  | .unp is e, X, W, c, s, C, po, h => by
    unfold chkS at h
    split at h
    · simp only [Bool.and_eq_true] at h
      obtain ⟨⟨h1, h2⟩, h3⟩ := h
      exact ss_unp (sE e C h3).1 (C.tg h1) h2
    · cases h
  | .star i j e, X, W, c, s, C, po, h => by
    unfold chkS at h
    split at h
    · simp only [Bool.and_eq_true] at h
      obtain ⟨⟨⟨h1, h2⟩, h3⟩, h4⟩ := h
      exact ss_star C.calm C.nd (C.nmOk h1) (C.nmOk h2) (sE e C h4).1 h3
    · cases h
  | .sfld a f e, X, W, c, s, C, po, h => by
    unfold chkS at h
    split at h
    · simp only [Bool.and_eq_true, beq_iff_eq] at h
      obtain ⟨⟨h1, h2⟩, h3⟩ := h
      obtain ⟨e1, e2⟩ := C.lk.fld f _ h1
      exact ss_sfld C.lk.inj C.lk.cls e2 e1.symm (sE a C h2).1 (sE e C h3).1
    · cases h
  | .sidx a i e, X, W, c, s, C, po, h => by
    unfold chkS at h
    split at h
    · simp only [Bool.and_eq_true] at h
      obtain ⟨⟨⟨h1, h2⟩, h3⟩, h4⟩ := h
      exact ss_sidx (sE a C h2).1 (sE i C h3).1 (sE e C h4).1 h1
    · cases h
  | .aug i o e, X, W, c, s, C, po, h => by simp [chkS] at h
  | .augf a f o e, X, W, c, s, C, po, h => by
    unfold chkS at h
    split at h
    · simp only [Bool.and_eq_true, beq_iff_eq] at h
      obtain ⟨⟨⟨⟨h1, h2⟩, rfl⟩, h4⟩, h5⟩ := h
      obtain ⟨e1, e2⟩ := C.lk.fld f _ h1
      exact ss_augf C.lk.inj C.lk.cls e2 e1.symm h2 (sE a C h4).1 (sE e C h5).1
    · cases h
  | .expr e, X, W, c, s, C, po, h => by
    unfold chkS at h
    split at h
    · simp only [Bool.and_eq_true] at h
      exact ss_expr (sE e C h.2).1 (swaps_nc h.1)
    · cases h
  | .ret e, X, W, c, s, C, po, h => by
    unfold chkS at h
    split at h
    · exact ss_ret (sE e C h).1
    · cases h
  | .retN, X, W, c, s, C, po, h => by
    unfold chkS at h
    split at h
    · exact ss_retN
    · cases h
  | .ifs t a b, X, W, c, s, C, po, h => by
    unfold chkS at h
    split at h
    · rename_i z x y pos
      simp only [Bool.and_eq_true] at h
      obtain ⟨⟨h1, h2⟩, h3⟩ := h
      have q := ss_if (pos := pos) (sE t C h1).2 (okSs a C po h2) (okSs b C po h3)
      have e : TH.exec G cf ci (.ifs t a b) = fun env s => TH.X.of (tM (evE G cf ci t) env s) env fun t s2 => if t then execs G cf ci a env s2 else execs G cf ci b env s2 := by
        funext env s
        rw [show tM (evE G cf ci t) env s = (evE G cf ci t env s).bind truthM from rfl, X_of_bind]
        rfl
      rw [e]
      exact q
    · cases h
  | .for_ tg ik its body, X, W, c, s, C, po, h => by
    unfold chkS at h
    split at h
    · simp only [Bool.and_eq_true] at h
      obtain ⟨⟨⟨h1, h2⟩, h3⟩, h4⟩ := h
      exact ss_for po C.calm (sIt ik its C h3) (C.tg h1) (okSs body C po h4) (folded_ok h2)
    · cases h
  | .whl t body, X, W, c, s, C, po, h => by
    unfold chkS at h
    split at h
    · simp only [Bool.and_eq_true] at h
      exact ss_whl (n := G.fuel) po (sE t C h.1).2 (okSs body C po h.2)
    · cases h
  | .raise k e, X, W, c, s, C, po, h => by simp [chkS] at h
  | .try_ a b d, X, W, c, s, C, po, h => by simp [chkS] at h
  | .thru body, X, W, c, s, C, po, h => by
    unfold chkS at h
    split at h
    · exact ss_thru (okSs body C.nox PassesOwn.never h)
    · cases h
  | .pass, X, W, c, s, C, po, h => by
    unfold chkS at h
    split at h
    · exact ss_pass
    · cases h
  | .brk, X, W, c, s, C, po, h => by
    unfold chkS at h
    split at h
    · exact ss_brk
    · cases h
  | .cont, X, W, c, s, C, po, h => by
    unfold chkS at h
    split at h
    · exact ss_cont
    · cases h
  | .never, X, W, c, s, C, po, h => ss_never
theorem okSs : ∀ (is : List S) {X : Cx} {W : WX} {c : CI} {ss : List Stmt}, CtxOk G l cf ci X W c → PassesOwn (model X.prog X.w) X.A X.env X.xe → chkSs l.toLkN c is ss = true → SSs X l.nm W ss (execs G cf ci is)
  | [], X, W, c, ss, C, po, h => by
    have : ss = [] := by simpa [chkSs] using h
    subst this
    exact sss_nil
  | i :: is, X, W, c, ss, C, po, h => by
    cases ss with
    | nil => simp [chkSs] at h
    | cons s ss =>
      simp only [chkSs, Bool.and_eq_true] at h
      exact sss_cons (okS i C po h.1) (okSs is C po h.2)
end
/-! ### with a token out -/
mutual
def chkEP (l : LkN) : CI → E → Expr → Bool
  | c, .bm m b a es, e => match e with
    | .Call (.Attribute x n apos) xs [] pos => (match b with
      | .replace => !m && (match es, xs with
        | [.con (.str [ch]), .con (.str t)], [.Constant (.str y) _ _, .Constant (.str z) _ _] => n == "replace" && notSuper x && apos.endLine == pos.line && decide (y.cps.toList = [ch]) && decide (z.cps.toList = t) && !decide (t = [ch]) && chkEP l c a x
        | _, _ => false)
      | b => b.meth && n == bmN b && notSuper x && apos.endLine == pos.line && decide (xs.length < 29) && !(xs.isEmpty) && chkEP l c a x && chkEs l c es xs)
    | _ => false
  | c, .var i, e => chkE l c (.var i) e
  | _, _, _ => false
end
theorem sEP : ∀ (i : E) {X : Cx} {W : WX} {c : CI} {e : Expr}, CtxOk G l cf ci X W c → chkEP l.toLkN c i e = true → SEP X l.nm W e (evE G cf ci i)
  | .var i, X, W, c, e, C, h => SEP.of (sE (.var i) C h).1
  | .bm m b a es, X, W, c, e, C, h => by
    unfold chkEP at h
    split at h
    · rename_i x n apos xs pos
      split at h
      · simp only [Bool.and_eq_true, Bool.not_eq_true'] at h
        obtain ⟨hm, h⟩ := h
        subst hm
        split at h
        · rename_i ch t y _ _ z _ _
          simp only [Bool.and_eq_true, beq_iff_eq, decide_eq_true_eq, Bool.not_eq_true', decide_eq_false_iff_not] at h
          obtain ⟨⟨⟨⟨⟨⟨h1, h2⟩, h3⟩, h4⟩, h5⟩, h6⟩, h7⟩ := h
          exact sep_repl h1 (sEP a C h7) (by rw [← h4]; exact (sS_of _).symm) (by rw [← h5]; exact (sS_of _).symm) h2 (by simpa using h3) h6
        · cases h
      · simp only [Bool.and_eq_true, beq_iff_eq, decide_eq_true_eq, Bool.not_eq_true'] at h
        obtain ⟨⟨⟨⟨⟨⟨⟨h1, h2⟩, h3⟩, h4⟩, h5⟩, h6⟩, ha⟩, hs⟩ := h
        cases xs with
        | nil => cases h6
        | cons y ys => exact sep_bm (m := m) C.calm h1 h2 (sEP a C ha) (sEs es C hs) h3 (by simpa using h4) (chkEs_star hs) h5
    · cases h
  | .con _, _, _, _, _, _, h => by simp [chkEP] at h
  | .glo _, _, _, _, _, _, h => by simp [chkEP] at h
  | .bin _ _ _, _, _, _, _, _, h => by simp [chkEP] at h
  | .neg _, _, _, _, _, _, h => by simp [chkEP] at h
  | .not _, _, _, _, _, _, h => by simp [chkEP] at h
  | .and _ _, _, _, _, _, _, h => by simp [chkEP] at h
  | .or _ _, _, _, _, _, _, h => by simp [chkEP] at h
  | .cmp _ _ _, _, _, _, _, _, h => by simp [chkEP] at h
  | .chn _ _ _ _ _, _, _, _, _, _, h => by simp [chkEP] at h
  | .ite _ _ _, _, _, _, _, _, h => by simp [chkEP] at h
  | .tup _, _, _, _, _, _, h => by simp [chkEP] at h
  | .lst _ _, _, _, _, _, _, h => by simp [chkEP] at h
  | .dic _ _, _, _, _, _, _, h => by simp [chkEP] at h
  | .idx _ _, _, _, _, _, _, h => by simp [chkEP] at h
  | .slc _ _ _, _, _, _, _, _, h => by simp [chkEP] at h
  | .fld _ _, _, _, _, _, _, h => by simp [chkEP] at h
  | .call _ _, _, _, _, _, _, h => by simp [chkEP] at h
  | .new _ _, _, _, _, _, _, h => by simp [chkEP] at h
  | .met _ _ _, _, _, _, _, _, h => by simp [chkEP] at h
  | .bi _ _ _, _, _, _, _, _, h => by simp [chkEP] at h
  | .lc _ _ _ _ _ _ _, _, _, _, _, _, h => by simp [chkEP] at h
  | .addl _ _ _, _, _, _, _, _, h => by simp [chkEP] at h
  | .never, _, _, _, _, _, h => by simp [chkEP] at h
/-- a body whose first statement wants a token -/
def chkSsP (l : LkN) (c : CI) : List S → List Stmt → Bool
  | .sfld a f e :: r, .Assign [.Attribute o x _] v _ :: ys => l.fldn[f]? == some x && chkE l c a o && chkEP l c e v && chkSs l c r ys
  | _, _ => false
theorem sSsP {is : List S} {X : Cx} {W : WX} {c : CI} {ss : List Stmt} (C : CtxOk G l cf ci X W c) (po : PassesOwn (model X.prog X.w) X.A X.env X.xe) (h : chkSsP l.toLkN c is ss = true) : SSsP X l.nm W ss (execs G cf ci is) := by
  unfold chkSsP at h
  split at h
  · simp only [Bool.and_eq_true, beq_iff_eq] at h
    obtain ⟨⟨⟨h1, h2⟩, h3⟩, h4⟩ := h
    obtain ⟨e1, e2⟩ := C.lk.fld _ _ h1
    exact sssp_cons (ssp_sfld C.lk.inj C.lk.cls e2 e1.symm (sE _ C h2).1 (sEP _ C h3)) (okSs _ C po h4)
  · cases h
end
end TH
end T_TK5
section T_TK6
set_option Elab.async false
set_option linter.all false
set_option maxRecDepth 100000
/-! A def keeps its promise. -/
namespace TH
open PySem PySem.Spec PyProof.Rows L2
section
variable {K : Frag} {w : World} {nm : Names} {ρ ρ2 : Nat → Addr} {L L1 L2' : Nat} {H : Hp}
mutual
theorem Rv.sub (hs : ∀ a, live ρ2 L2' a → live ρ L1 a) (hρ : ∀ n, n < L → ρ2 n = ρ n) (hL : L ≤ L2') : ∀ {d : D} {v : V}, D.bnd L d = true → Rv K w ρ L1 H v d → Rv K w ρ2 L2' H v d
  | .p _, _, _, .p r => .p (r.mono (fun _ _ e _ => e) fun _ _ _ n z => n (hs _ z))
  | .ref n, _, b, .ref _ => by
    have hn : n < L := by simpa [D.bnd] using b
    rw [← hρ n hn]
    exact .ref (Nat.lt_of_lt_of_le hn hL)
  | .tup _, _, b, .tup q nl r => .tup q (fun z => nl (hs _ z)) (RvL.sub hs hρ hL (by simpa [D.bnd] using b) r)
theorem RvL.sub (hs : ∀ a, live ρ2 L2' a → live ρ L1 a) (hρ : ∀ n, n < L → ρ2 n = ρ n) (hL : L ≤ L2') : ∀ {ds : List D} {vs : List V}, Ds.bnd L ds = true → RvL K w ρ L1 H vs ds → RvL K w ρ2 L2' H vs ds
  | [], _, _, .nil => .nil
  | _ :: _, _, b, .cons r t => by
    have b' := Bool.and_eq_true_iff.mp (show (D.bnd L _ && Ds.bnd L _) = true from b)
    exact .cons (Rv.sub hs hρ hL b'.1 r) (RvL.sub hs hρ hL b'.2 t)
end
theorem CellOk.sub {a : Addr} {c : Cell} (hs : ∀ a, live ρ2 L2' a → live ρ L1 a) (hρ : ∀ n, n < L → ρ2 n = ρ n) (hL : L ≤ L2') (hb : bndC L c = true) (h : CellOk K w nm ρ L1 H a c) : CellOk K w nm ρ2 L2' H a c := by
  cases c with
  | lst ds =>
    obtain ⟨vs, h1, h2⟩ := h
    exact ⟨vs, h1, h2.sub hs hρ hL hb⟩
  | ins c fs =>
    obtain ⟨dx, vfs, h1, h2, h3⟩ := h
    exact ⟨dx, vfs, h1, h2, h3.sub hs hρ hL hb⟩
end
section
variable {K : Frag} {w : World} {nm : Names} {ρ : Nat → Addr} {st : Sto} {H : Hp} {Q : VK} {E : XK} {σ0 : L2.St}
theorem bnd_map (L : Nat) : ∀ (xs : List P), Ds.bnd L (xs.map D.p) = true
  | [] => rfl
  | x :: xs => by
    show (D.bnd L (.p x) && Ds.bnd L (xs.map D.p)) = true
    rw [bnd_map L xs]
    rfl
/-- a new list handed back -/
theorem fin_new {ρ' : Nat → Addr} {s' : Sto} {H' : Hp} {n : Nat} {xs : List P} (e : Ext ρ st.length H ρ' s'.length H') (S : StR K w nm ρ' s' H') (hb : (s'.take st.length).all (bndC st.length) = true) (hn : st.length ≤ n) (hn2 : n < s'.length) (hv : TH.view s' (.ref n) = some (.lst xs)) :
    Ext ρ st.length H (setρ ρ' st.length (ρ' n)) (s'.take st.length ++ [Cell.lst (xs.map D.p)]).length H' ∧ StR K w nm (setρ ρ' st.length (ρ' n)) (s'.take st.length ++ [.lst (xs.map D.p)]) H' := by
  have hl : (s'.take st.length).length = st.length := by rw [List.length_take]; have := e.le; omega
  have hl2 : (s'.take st.length ++ [Cell.lst (xs.map D.p)]).length = st.length + 1 := by rw [List.length_append, hl]; rfl
  have hsub : ∀ a, live (setρ ρ' st.length (ρ' n)) (st.length + 1) a → live ρ' s'.length a := by
    rintro a ⟨m, hm, rfl⟩
    by_cases h : m = st.length
    · subst h; rw [setρ_same]; exact ⟨n, hn2, rfl⟩
    · have : m < st.length := by omega
      rw [setρ_old ρ' _ this]
      exact ⟨m, by omega, rfl⟩
  have hρ : ∀ m, m < st.length → setρ ρ' st.length (ρ' n) m = ρ' m := fun m hm => setρ_old ρ' _ hm
  rw [hl2]
  refine ⟨⟨Nat.le_succ _, fun m hm => (hρ m hm).trans (e.same m hm), fun m h1 h2 => ?_, e.keep, e.there⟩, fun a b ha hb' he => ?_, fun m c hc => ?_⟩
  · have : m = st.length := by omega
    subst this
    rw [setρ_same]
    exact e.new n hn hn2
  · rw [hl2] at ha hb'
    by_cases h1 : a = st.length
    · by_cases h2 : b = st.length
      · omega
      · exfalso
        have h3 : b < st.length := by omega
        rw [h1, setρ_same, hρ b h3] at he
        have := S.inj n b hn2 (by omega) he
        omega
    · have h1' : a < st.length := by omega
      by_cases h2 : b = st.length
      · exfalso
        rw [h2, setρ_same, hρ a h1'] at he
        have := S.inj a n (by omega) hn2 he
        omega
      · have h2' : b < st.length := by omega
        rw [hρ a h1', hρ b h2'] at he
        exact S.inj a b (by omega) (by omega) he
  · rw [hl2]
    by_cases h1 : m < st.length
    · rw [List.getElem?_append_left (by omega)] at hc
      rw [List.getElem?_take_of_lt h1] at hc
      rw [hρ m h1]
      have hbc : bndC st.length c = true := List.all_eq_true.mp hb c (List.mem_of_getElem? (by rw [List.getElem?_take_of_lt h1]; exact hc))
      exact (S.cell m c hc).sub hsub hρ (Nat.le_succ _) hbc
    · have h2 : m = st.length := by
        have := (List.getElem?_eq_some_iff.mp hc).1
        rw [hl2] at this
        omega
      subst h2
      rw [List.getElem?_append_right (by omega), hl, Nat.sub_self] at hc
      cases hc
      rw [setρ_same]
      have hv' : (match s'[n]? with | some (Cell.lst ys) => (pall ys).map P.lst | _ => none) = some (.lst xs) := hv
      cases hcell : s'[n]? with
      | none => rw [hcell] at hv'; cases hv'
      | some c =>
        rw [hcell] at hv'
        cases c with
        | ins _ _ => cases hv'
        | lst ys =>
          obtain ⟨zs, hz, ez⟩ := Option.map_eq_some_iff.mp (show (pall ys).map P.lst = some (.lst xs) from hv')
          cases ez
          obtain ⟨vs, k1, k2⟩ := S.cell n _ hcell
          rw [pall_eq hz] at k2
          refine ⟨vs, k1, k2.sub (L := st.length) hsub hρ (Nat.le_succ _) ?_⟩
          exact bnd_map _ xs
def endOf (x : TH.X) : R D := match x with
  | .nx _ s' => .ok (.p .non) s'
  | .ret d s' => .ok d s'
  | .exc x _ s' => .exc x s'
  | _ => .bad
def fin2 (mode : Nat) (s : Sto) (r : R D) : R D := match mode, r with
  | 1, r => r
  | _, .exc x s' => if (s'.take s.length).all (bndC s.length) then .exc x (s'.take s.length) else .bad
  | 0, .ok d s' => if (s'.take s.length).all (bndC s.length) then match d with
      | .p x => .ok (.p x) (s'.take s.length)
      | .ref n => if n < s.length then .ok (.ref n) (s'.take s.length) else match TH.view s' (.ref n) with
        | some x => .ok (.p x) (s'.take s.length)
        | none => .bad
      | .tup _ => .bad
    else .bad
  | 2, .ok d s' => if (s'.take s.length).all (bndC s.length) then match d with
      | .ref n => if n < s.length then .bad else match TH.view s' (.ref n) with
        | some (.lst xs) => .ok (.ref s.length) (s'.take s.length ++ [.lst (xs.map D.p)])
        | _ => .bad
      | _ => .bad
    else .bad
  | _, _ => .bad
theorem finish_eq (mode : Nat) (s : Sto) (x : TH.X) : finish mode s x = fin2 mode s (endOf x) := by
  unfold finish fin2 endOf
  rfl
theorem fin2_0 (s : Sto) (d : D) (s' : Sto) : fin2 0 s (.ok d s') = if (s'.take s.length).all (bndC s.length) then match d with
      | .p x => .ok (.p x) (s'.take s.length)
      | .ref n => if n < s.length then .ok (.ref n) (s'.take s.length) else match TH.view s' (.ref n) with
        | some x => .ok (.p x) (s'.take s.length)
        | none => .bad
      | .tup _ => .bad
    else .bad := rfl
theorem fin2_2 (s : Sto) (d : D) (s' : Sto) : fin2 2 s (.ok d s') = if (s'.take s.length).all (bndC s.length) then match d with
      | .ref n => if n < s.length then .bad else match TH.view s' (.ref n) with
        | some (.lst xs) => .ok (.ref s.length) (s'.take s.length ++ [.lst (xs.map D.p)])
        | _ => .bad
      | _ => .bad
    else .bad := rfl
abbrev κF (K : Frag) (w : World) (Q : VK) : D → Sto → (Nat → Addr) → Hp → Prop := fun d st' ρ' H' => ∀ v, Rv K w ρ' st'.length H' v d → Q v H'
theorem fin_ret {mode : Nat} {d : D} {s' : Sto} {ρ' : Nat → Addr} {H' : Hp} {v : V} {x : TH.X} (hx : x = .ret d s' ∨ (d = .p .non ∧ ∃ env, x = .nx env s')) (g : Got K w nm (fun cls d _ H' => E cls d H') ρ st.length H [] (finish mode st x) (κF K w Q)) (e : Ext ρ st.length H ρ' s'.length H') (S : StR K w nm ρ' s' H') (rv : Rv K w ρ' s'.length H' v d) : Q v H' := by
  have hl : (s'.take st.length).length = st.length := by rw [List.length_take]; have := e.le; omega
  have hr : endOf x = R.ok d s' := by rcases hx with rfl | ⟨rfl, env, rfl⟩ <;> rfl
  rw [finish_eq, hr] at g
  match mode, g with
  | 1, g => exact g ρ' H' e S v rv
  | 0, g =>
    rw [fin2_0] at g
    by_cases hb : (s'.take st.length).all (bndC st.length) = true
    · rw [if_pos hb] at g
      have S2 := S.low e.le hb
      have e2 : Ext ρ st.length H ρ' (s'.take st.length).length H' := by rw [hl]; exact e.low
      cases d with
      | p x =>
        refine g ρ' H' e2 S2 v ?_
        rw [hl]
        exact rv.low e.le rfl
      | tup _ => exact False.elim g
      | ref n =>
        dsimp only at g
        by_cases hn : n < st.length
        · rw [if_pos hn] at g
          refine g ρ' H' e2 S2 v ?_
          rw [hl]
          exact rv.low e.le (by simpa [D.bnd] using hn)
        · rw [if_neg hn] at g
          cases hv : TH.view s' (.ref n) with
          | none => rw [hv] at g; exact False.elim g
          | some y =>
            rw [hv] at g
            cases rv with
            | ref hlt =>
              refine g ρ' H' e2 S2 _ ?_
              rw [hl]
              exact .p (view_low S (Nat.not_lt.mp hn) hlt hv)
    · rw [if_neg hb] at g; exact False.elim g
  | 2, g =>
    rw [fin2_2] at g
    by_cases hb : (s'.take st.length).all (bndC st.length) = true
    · rw [if_pos hb] at g
      cases d with
      | p x => exact False.elim g
      | tup _ => exact False.elim g
      | ref n =>
        dsimp only at g
        by_cases hn : n < st.length
        · rw [if_pos hn] at g; exact False.elim g
        · rw [if_neg hn] at g
          cases hv : TH.view s' (.ref n) with
          | none => rw [hv] at g; exact False.elim g
          | some y =>
            rw [hv] at g
            cases y with
            | lst xs =>
              cases rv with
              | ref hlt =>
                obtain ⟨e3, S3⟩ := fin_new e S hb (Nat.not_lt.mp hn) hlt hv
                refine g _ H' e3 S3 _ ?_
                have hl2 : (s'.take st.length ++ [Cell.lst (xs.map D.p)]).length = st.length + 1 := by rw [List.length_append, hl]; rfl
                rw [hl2]
                exact Rv.newRef
            | _ => exact False.elim g
    · rw [if_neg hb] at g; exact False.elim g
  | n + 3, g => exact False.elim g
theorem fin_exc {mode : Nat} {y : Exn} {env : TH.Env} {s' : Sto} {ρ' : Nat → Addr} {H' : Hp} {cls : Value} {d : Option Addr} (g : Got K w nm (fun cls d _ H' => E cls d H') ρ st.length H [] (finish mode st (.exc y env s')) (κF K w Q)) (e : Ext ρ st.length H ρ' s'.length H') (S : StR K w nm ρ' s' H')
    (xr : ExR K w nm (live ρ' s'.length) H' y cls d) : E cls d H' := by
  have hl : (s'.take st.length).length = st.length := by rw [List.length_take]; have := e.le; omega
  have low : (if (s'.take st.length).all (bndC st.length) then R.exc y (s'.take st.length) else .bad : R D) = finish mode st (.exc y env s') → E cls d H' := fun he => by
    rw [← he] at g
    by_cases hb : (s'.take st.length).all (bndC st.length) = true
    · rw [if_pos hb] at g
      have S2 := S.low e.le hb
      have e2 : Ext ρ st.length H ρ' (s'.take st.length).length H' := by rw [hl]; exact e.low
      refine g ρ' H' cls d e2 S2 ?_
      rw [hl]
      obtain ⟨x1, x2⟩ := xr
      refine ⟨x1, ?_⟩
      cases hv : y.val with
      | none => trivial
      | some p =>
        rw [hv] at x2
        obtain ⟨dx, f, v, k1, k2, k3, k4⟩ := x2
        exact ⟨dx, f, v, k1, k2, live_low e.le k3, k4.low e.le⟩
    · rw [if_neg hb] at g; exact False.elim g
  match mode, g, low with
  | 1, g, _ => exact g ρ' H' cls d e S xr
  | 0, g, low => exact low rfl
  | n + 2, g, low => exact low (by rw [finish_eq]; cases n <;> rfl)
theorem fin2_bad (mode : Nat) : fin2 mode st (.bad : R D) = .bad := by
  match mode with
  | 0 => rfl
  | 1 => rfl
  | 2 => rfl
  | n + 3 => rfl
theorem fin_post {mode : Nat} {x : TH.X} (g : Got K w nm (fun cls d _ H' => E cls d H') ρ st.length H [] (finish mode st x) (κF K w Q)) : PostX K w nm (fun cls d _ H' => E cls d H') ρ st.length H x { nx := fun _ H' => Q .non H', rt := Q } := by
  cases x with
  | nx env s' => exact fun ρ' σ' H' e S er => fin_ret (.inr ⟨rfl, env, rfl⟩) g e S (.p .non)
  | ret d s' => exact fun ρ' H' e S v rv => fin_ret (.inl rfl) g e S rv
  | exc y env s' => exact fun ρ' σ' H' cls d e S er xr => fin_exc g e S xr
  | brk env s' => rw [finish_eq, show endOf (.brk env s') = .bad from rfl, fin2_bad] at g; exact False.elim g
  | ct env s' => rw [finish_eq, show endOf (.ct env s') = .bad from rfl, fin2_bad] at g; exact False.elim g
  | bad => rw [finish_eq, show endOf .bad = .bad from rfl, fin2_bad] at g; exact False.elim g
theorem start_ok {N : List Str} {vs : List V} {ds : List D} {nl : Nat} (rv : RvL K w ρ st.length H vs ds) (hn : N.length = nl) : EnvR K w ρ st.length H (L2.start N vs) (ds.map some ++ List.replicate (nl - ds.length) none) := by
  have hl := rv.length
  unfold L2.start
  refine ⟨by simp [hl, hn], fun i d h => ?_⟩
  by_cases hi : i < ds.length
  · rw [List.getElem?_append_left (by simpa using hi), List.getElem?_map] at h
    obtain ⟨d', h1, h2⟩ := Option.map_eq_some_iff.mp h
    cases h2
    obtain ⟨v, k1, k2⟩ := rv.get h1
    refine ⟨v, ?_, k2⟩
    rw [List.getElem?_append_left (by simpa [hl] using hi), List.getElem?_map, k1]
    rfl
  · rw [List.getElem?_append_right (by simpa using hi), List.getElem?_replicate] at h
    split at h <;> cases h
end
end TH
end T_TK6
section T_TK7
set_option Elab.async false
set_option linter.all false
set_option maxRecDepth 100000
/-! All defs keep their promises, level by level. -/
namespace TH
open PySem PySem.Spec PyProof.Rows L2
/-- what is known of each def -/
structure FnD (G : Prog) (l : Lk) (K : Frag) (f : Nat) (fd : FDef) where
  x : Str
  qual : Str
  st : Stmt
  N : List Str
  fn : L2.Fun K x qual st (l.fa f) (l.fd f)
  sc : FnScope N (l.ps f) (defScope st)
  np : (l.ps f).length = fd.npar
  nl : N.length = fd.nloc
  ok : chkSs l.toLkN ⟨N, defScope st, true⟩ fd.body (defBody st) = true ∨
    (chkSsP l.toLkN ⟨N, defScope st, true⟩ fd.body (defBody st) = true ∧ (∀ y ∈ (defScope st).names, y.2 ≠ .cell) ∧ 1 ≤ (l.ps f).length)
section
variable {G : Prog} {l : Lk} {P : Program} {w : World} {K : Frag} {mg : Str → Option Value} {base : Heap}
theorem FC.bad {k : Nat} {f : Addr} {fd : FuncData} {ps : List Str} {nm : Names} : FC P w K mg base nm k f fd ps (fun _ _ => .bad) :=
  ⟨⟨fun vs H Q E ⟨_, _, _, _, _, h, _⟩ => h, fun A outer s H args us vs Q E _ _ _ _ ⟨_, _, _, _, _, _, g⟩ => False.elim g⟩, fun ds s h => absurd rfl h⟩
theorem body_ctx {cf ci : Nat → List D → M D} {k : Nat} {N ps : List Str} {qual : Str} {sc : Scope} {f : Addr} {cdv : Value} {A : Around} {outer : List PySem.Env} {s : Shared} {H : Hp} {E : XK} (LK : LkOk G l P w K mg base) (S : FnScope N ps sc)
    (hr : Room (k + 2) (A.deeper (envOfC qual sc s.heap.objs.size f cdv)))
    (h1 : ∀ f, (G.fn f).isSome = true → FC P w K mg base l.nm (k + 2) (l.fa f) (l.fd f) (l.ps f) (cf f)) (h2 : ∃ j, j + 1 ≤ k + 2 ∧ ∀ f, (G.fn f).isSome = true → FC P w K mg base l.nm j (l.fa f) (l.fd f) (l.ps f) (ci f)) :
    CtxOk G l cf ci (cxOf (L2.CX P w) P w K mg base N qual sc f cdv A outer s H E) (fun cls d _ H' => E cls d H') ⟨N, sc, true⟩ ∧
      PassesOwn (model P w) (cxOf (L2.CX P w) P w K mg base N qual sc f cdv A outer s H E).A (cxOf (L2.CX P w) P w K mg base N qual sc f cdv A outer s H E).env (cxOf (L2.CX P w) P w K mg base N qual sc f cdv A outer s H E).xe := by
  obtain ⟨j, hj, h2⟩ := h2
  exact ⟨⟨rfl, S.nd, rfl, fun _ _ => rfl, rfl, hr.units, takes_of rfl rfl rfl rfl, LK, ⟨k + 2, hr, h1⟩, ⟨j, hr.mono hj, h2⟩⟩, passes_of rfl⟩
theorem callF_succ (G : Prog) (k f : Nat) (ds : List D) (s : Sto) (fd : FDef) (h : G.fn f = some fd) : callF G (k + 1) f ds s = if ds.length = fd.npar then finish fd.mode s (execs G (callF G k) (callF G (k - 1)) fd.body (ds.map some ++ List.replicate (fd.nloc - ds.length) none) s) else .bad := by
  rw [callF]
  simp only [h]
theorem callF_zero (G : Prog) (f : Nat) : callF G 0 f = fun _ _ => .bad := by
  funext ds s
  rw [callF]
theorem step_ok {k f : Nat} {fd : FDef} (LK : LkOk G l P w K mg base) (hf : G.fn f = some fd) (F : FnD G l K f fd)
    (h1 : ∀ f, (G.fn f).isSome = true → FC P w K mg base l.nm (k + 2) (l.fa f) (l.fd f) (l.ps f) (callF G k f)) (h2 : ∃ j, j + 1 ≤ k + 2 ∧ ∀ f, (G.fn f).isSome = true → FC P w K mg base l.nm j (l.fa f) (l.fd f) (l.ps f) (callF G (k - 1) f)) :
    FC P w K mg base l.nm (k + 1 + 2) (l.fa f) (l.fd f) (l.ps f) (callF G (k + 1) f) := by
  have hlen : ∀ ds s, callF G (k + 1) f ds s ≠ .bad → ds.length = (l.ps f).length := fun ds s h => by
    rw [callF_succ G k f ds s fd hf] at h
    by_cases hl : ds.length = fd.npar
    · rw [hl, F.np]
    · rw [if_neg hl] at h; exact absurd rfl h
  have hspl : ∀ vs H Q E, SpF K w l.nm (callF G (k + 1) f) (l.ps f).length vs H Q E → vs.length = (l.ps f).length := fun vs H Q E ⟨_, _, _, _, _, h, _⟩ => h
  have post : ∀ {vs : List V} {H : Hp} {Q : VK} {E : XK}, SpF K w l.nm (callF G (k + 1) f) (l.ps f).length vs H Q E →
      rdS K w l.nm (fun cls d _ H' => E cls d H') (execs G (callF G k) (callF G (k - 1)) fd.body) { nx := fun _ H' => Q .non H', rt := Q } (L2.start F.N vs) H := by
    rintro vs H Q E ⟨ρ, st, ds, S, rv, hl, g⟩
    have hd : ds.length = fd.npar := by rw [← rv.length, hl, F.np]
    rw [callF_succ G k f ds st fd hf, if_pos hd] at g
    exact ⟨ρ, st, _, start_ok rv F.nl, S, fin_post g⟩
  refine ⟨?_, hlen⟩
  rcases F.ok with hok | ⟨hok, hnc, hps⟩
  · refine L2.Fun.okX (k := k + 2) F.fn F.sc hspl fun cdv A outer s H vs Q E hr sp => ?_
    obtain ⟨C, po⟩ := body_ctx (outer := outer) (H := H) (E := E) LK F.sc hr h1 h2
    exact ⟨_, okSs fd.body C po hok, post sp⟩
  · obtain ⟨oc, od, kV, doc, pm, an, cdv, ct, osl, he, lk, hcd⟩ := F.fn.ex
    rw [he] at lk ⊢
    refine fn_ofT (k := k + 2) lk hcd F.sc hnc hps hspl fun A outer s H vs Q E hr sp => ?_
    obtain ⟨C, po⟩ := body_ctx (outer := outer) (H := H) (E := E) LK F.sc hr h1 h2
    exact ⟨_, sSsP C po hok, post sp⟩
/-- all defs -/
theorem all_ok (LK : LkOk G l P w K mg base) (T : ∀ f fd, G.fn f = some fd → Nonempty (FnD G l K f fd)) : ∀ k f, (G.fn f).isSome = true → FC P w K mg base l.nm (k + 2) (l.fa f) (l.fd f) (l.ps f) (callF G k f)
  | 0, f, h => by rw [callF_zero]; exact FC.bad
  | k + 1, f, h => by
    obtain ⟨fd, hf⟩ := Option.isSome_iff_exists.mp h
    obtain ⟨F⟩ := T f fd hf
    refine step_ok LK hf F (all_ok LK T k) ?_
    cases k with
    | zero => exact ⟨0, by omega, fun f _ => by rw [show (0 : Nat) - 1 = 0 from rfl, callF_zero]; exact FC.bad⟩
    | succ k => exact ⟨k + 2, by omega, fun f hf => all_ok LK T k f hf⟩
end
end TH
end T_TK7
section T_TL1
set_option Elab.async false
set_option linter.all false
set_option maxRecDepth 100000
/-! From what the top leaves to LkOk, FnD. -/
namespace TH
open PySem PySem.Spec PyProof.Rows L2
mutual
/-- the value u of the module is the data p (no dict within) -/
def pB (K : Frag) : P → Value → Bool
  | .non, u => match u with
    | .none => true
    | _ => false
  | .bl b, u => match u with
    | .bool c => b == c
    | _ => false
  | .int i, u => match u with
    | .int j _ => decide (i = j)
    | _ => false
  | .str l, u => match u with
    | .str x _ => decide (x.cps.toList = l)
    | _ => false
  | .tup xs, u => match u with
    | .ref a => match K.lookup a with
      | some ⟨.type c, _, .seq its _, _⟩ => decide (c = "tuple") && decide (its.size ≤ sizeLine) && psB K xs its.toList
      | _ => false
    | _ => false
  | _, _ => false
def psB (K : Frag) : List P → List Value → Bool
  | [], us => us.isEmpty
  | p :: ps, us => match us with
    | u :: us => pB K p u && psB K ps us
    | [] => false
end
section
variable {K : Frag} {w : World}
mutual
theorem pB_ok : ∀ (p : P) {u : Value}, pB K p u = true → ∃ v, RelV v u ∧ ∀ B H, Rp K w B H v p
  | .non, u, h => by
    simp only [pB] at h
    split at h
    · exact ⟨.non, rfl, fun _ _ => .non⟩
    · cases h
  | .bl b, u, h => by
    simp only [pB] at h
    split at h
    · have := eq_of_beq h; subst this; exact ⟨.bl b, rfl, fun _ _ => .bl b⟩
    · cases h
  | .int i, u, h => by
    simp only [pB] at h
    split at h
    · have := of_decide_eq_true h; subst this; exact ⟨.int i, ⟨_, rfl⟩, fun _ _ => .int i⟩
    · cases h
  | .str l, u, h => by
    simp only [pB] at h
    split at h
    · rename_i x t
      have := of_decide_eq_true h
      refine ⟨.str (sS l), ⟨t, ?_⟩, fun _ _ => .str l⟩
      rw [← this, sS_of]
    · cases h
  | .tup xs, u, h => by
    simp only [pB] at h
    split at h
    · rename_i a
      split at h
      · rename_i c od its n sl hl
        simp only [Bool.and_eq_true, decide_eq_true_eq] at h
        obtain ⟨⟨rfl, hz⟩, hs⟩ := h
        obtain ⟨vs, h1, h2⟩ := psB_ok xs hs
        exact ⟨.ref a, rfl, fun B H => .tupK ⟨_, its, n, hl, rfl, rfl, hz, h1⟩ (h2 B H)⟩
      · cases h
    · cases h
  | .lst _, u, h => by simp [pB] at h
  | .dct _ _, u, h => by simp [pB] at h
  | .scr _, u, h => by simp [pB] at h
theorem psB_ok : ∀ (ps : List P) {us : List Value}, psB K ps us = true → ∃ vs, Vals vs us ∧ ∀ B H, RpL K w B H vs ps
  | [], us, h => by
    have : us = [] := by simpa [psB] using h
    subst this
    exact ⟨[], .nil, fun _ _ => .nil⟩
  | p :: ps, us, h => by
    simp only [psB] at h
    split at h
    · simp only [Bool.and_eq_true] at h
      obtain ⟨v, h1, h2⟩ := pB_ok p h.1
      obtain ⟨vs, h3, h4⟩ := psB_ok ps h.2
      exact ⟨v :: vs, .cons h1 h3, fun B H => .cons (h2 B H) (h4 B H)⟩
    · cases h
end
/-- the entries of a table -/
def esB (K : Frag) : List P → List P → List DictEntry → Bool
  | [], [], [] => true
  | .str k :: ks, v :: vs, e :: es => (match e.key with
    | .str x _ => decide (x.cps.toList = k)
    | _ => false) && pB K v e.val && esB K ks vs es
  | _, _, _ => false
theorem esB_ok : ∀ {ks vs : List P} {es : List DictEntry}, esB K ks vs es = true → ∃ kvs : List (List Nat × V), ks = kvs.map (fun q => P.str q.1) ∧ (∀ B H, RpL K w B H (kvs.map (·.2)) vs) ∧ es.any (·.refKey) = false ∧
    ∀ x : List Nat, match kvs.lookup x with
      | some v => ∃ e, es.find? (·.key.isStr (sS x)) = some e ∧ RelV v e.val
      | none => es.find? (·.key.isStr (sS x)) = none
  | [], [], [], _ => ⟨[], rfl, fun _ _ => .nil, rfl, fun x => rfl⟩
  | .str k :: ks, v :: vs, e :: es, h => by
    simp only [esB, Bool.and_eq_true] at h
    obtain ⟨⟨h1, h2⟩, h3⟩ := h
    obtain ⟨kvs, rfl, e2, e3, e4⟩ := esB_ok h3
    obtain ⟨z, r1, r2⟩ := pB_ok (w := w) v h2
    split at h1
    · rename_i x t hk
      have hx : x = sS k := by
        have := of_decide_eq_true h1
        rw [← this, sS_of]
      refine ⟨(k, z) :: kvs, rfl, fun B H => .cons (r2 B H) (e2 B H), ?_, fun y => ?_⟩
      · rw [List.any_cons, e3]
        simp [DictEntry.refKey, hk]
      · rw [List.lookup_cons]
        by_cases hy : y = k
        · subst hy
          rw [beq_self_eq_true]
          refine ⟨e, ?_, r1⟩
          rw [List.find?_cons]
          have : e.key.isStr (sS y) = true := by rw [hk, hx]; simp [Value.isStr]
          rw [this]
        · rw [beq_eq_false_iff_ne.mpr hy]
          have : e.key.isStr (sS y) = false := by
            rw [hk, hx]
            simp only [Value.isStr]
            exact beq_eq_false_iff_ne.mpr fun q => hy (sS_inj.mp q).symm
          have hf : (e :: es).find? (·.key.isStr (sS y)) = es.find? (·.key.isStr (sS y)) := by rw [List.find?_cons, this]
          rw [hf]
          exact e4 y
    · cases h1
  | [], [], _ :: _, h => by simp [esB] at h
  | [], _ :: _, _, h => by simp [esB] at h
  | .str _ :: _, [], _, h => by simp [esB] at h
  | .str _ :: _, _ :: _, [], h => by simp [esB] at h
  | .non :: _, _, _, h => by simp [esB] at h
  | .bl _ :: _, _, _, h => by simp [esB] at h
  | .int _ :: _, _, _, h => by simp [esB] at h
  | .tup _ :: _, _, _, h => by simp [esB] at h
  | .lst _ :: _, _, _, h => by simp [esB] at h
  | .dct _ _ :: _, _, _, h => by simp [esB] at h
  | .scr _ :: _, _, _, h => by simp [esB] at h
/-- the module's name x stands for the data p -/
def gB (K : Frag) (x : Str) (p : P) : Bool := match PySem.W.nsIn K mainGlobals x with
  | some (some u) => match p, u with
    | .dct ks vs, .ref a => match K.lookup a with
      | some ⟨_, _, .dict es _, _⟩ => esB K ks vs es.toList
      | _ => false
    | p, u => pB K p u
  | _ => false
theorem gB_ok {h : Heap} {mg : Str → Option Value} {x : Str} {p : P} (X : K.In h) (Gn : h.Ns mainGlobals mg) (hb : gB K x p = true) (ht : ∀ ks vs, p = .dct ks vs → ∃ es n, KDict K w (He.ga K x) es n) : ∃ u v, mg x = some u ∧ RelV v u ∧ ∀ B H, Rp K w B H v p := by
  unfold gB at hb
  split at hb
  · rename_i u hu
    have hm := PySem.W.mg_of X Gn hu
    split at hb
    · rename_i ks vs a
      split at hb
      · rename_i oc od es n sl hl
        obtain ⟨es', n', D⟩ := ht ks vs rfl
        have hga : He.ga K x = a := by unfold He.ga; rw [hu]
        rw [hga] at D
        have he := D.at_
        rw [hl] at he
        cases he
        obtain ⟨kvs, rfl, e2, e3, e4⟩ := esB_ok (w := w) hb
        refine ⟨_, .ref a, hm, rfl, fun B H => .dctK ⟨es, n, D, fun y => ?_⟩ (e2 B H)⟩
        have hy := e4 y
        unfold PySem.W.nsIn
        rw [hl]
        dsimp only
        cases hv : kvs.lookup y with
        | some v =>
          rw [hv] at hy
          obtain ⟨e, k1, k2⟩ := hy
          rw [k1]
          exact ⟨e.val, rfl, k2⟩
        | none =>
          rw [hv] at hy
          have hy' : es.toList.find? (·.key.isStr (sS y)) = none := hy
          rw [hy']
          dsimp only
          rw [e3]
          rfl
      · cases hb
    · obtain ⟨v, h1, h2⟩ := pB_ok (w := w) p hb
      exact ⟨u, v, hm, h1, h2⟩
  · cases hb
end
end TH
end T_TL1
section T_TL2
set_option Elab.async false
set_option linter.all false
set_option maxRecDepth 100000
namespace TH
open PySem PySem.Spec PyProof.Rows L2
/-- one def of the text -/
structure FnR where
  st : Stmt
  at_ : Str × Option Str
  name : Str
  qual : Str
  N : List Str
  ps : List Str
  kwd : List (Str × He.Dv) := []
def FnR.d (r : FnR) : He.DefD := ⟨r.at_, r.name, r.qual, defArgs r.st, defBody r.st, defScope r.st, [], r.kwd⟩
structure FnRok (l : LkN) (fd : FDef) (r : FnR) : Prop where
  sc : FnScope r.N r.ps (defScope r.st)
  np : r.ps.length = fd.npar
  nl : r.N.length = fd.nloc
  bind : r.kwd = [] → ∀ (kV doc pm : Value) (an : Option Addr) (cdv ct : Value) (us : List Value), us.length = r.ps.length → bindArgs (PySem.W.fnOf r.name r.qual (defArgs r.st) (defBody r.st) (defScope r.st) .none kV doc pm an cdv ct) ⟨us, []⟩ = pure (r.ps.zip us)
  ok : chkSs l ⟨r.N, defScope r.st, true⟩ fd.body (defBody r.st) = true ∨
    (chkSsP l ⟨r.N, defScope r.st, true⟩ fd.body (defBody r.st) = true ∧ (∀ y ∈ (defScope r.st).names, y.2 ≠ .cell) ∧ 1 ≤ r.ps.length)
/-- a text -/
structure LD where
  rs : List FnR
  fs : List FDef
  meths : List ((Nat × Nat) × Nat)
  initM : Nat
  gvs : List P
  subs : List (Nat × Nat)
  clsN : List Str
  clsU : List Str
  mkb : List Bool
  mname : List Str
  fldn : List Str
  gname : List Str
  kw : List (Nat × Str)
  tabs : List (Str × List Str)
def LD.prog (d : LD) : Prog := {
  fn := fun i => d.fs[i]?
  meth := fun c m => d.meths.lookup (c, m)
  init := fun c => d.meths.lookup (c, d.initM)
  gv := fun i => d.gvs.getD i .non
  sub := fun a b => d.subs.contains (a, b) }
def LD.cn (d : LD) (c : Nat) : Str := (d.clsN[c]?).getD (d.clsU.headD "")
def LD.lkn (d : LD) : LkN := {
  fname := d.rs.map fun r => match r.at_.2 with
    | none => some r.at_.1
    | some _ => none
  npar := d.fs.map (·.npar)
  kw := d.kw
  gname := d.gname
  cname := (List.range d.clsN.length).map fun c => if (d.mkb[c]?).getD false then d.clsN[c]? else none
  mname := d.mname
  fldn := d.fldn }
def dumF : FuncData := PySem.W.fnOf "" "" ⟨[], [], none, [], [], none, []⟩ [] { kind := .function, names := [], isGenerator := false, isCoroutine := false } .none .none .none .none none .none .none
def fdOf (K : Frag) (a : Addr) : FuncData := match K.lookup a with
  | some ⟨_, _, .func fd, _⟩ => fd
  | _ => dumF
def LD.at_ (d : LD) (f : Nat) : Str × Option Str := ((d.rs[f]?).map (·.at_)).getD ("", none)
def LD.lk (d : LD) (K : Frag) : Lk := { d.lkn with
  nm := ⟨fun c => He.ga K (d.cn c), fun f => (d.fldn[f]?).getD ⟨#[2000000 + f]⟩⟩
  fa := fun f => He.fAd K (d.at_ f)
  fd := fun f => fdOf K (He.fAd K (d.at_ f))
  ps := fun f => ((d.rs[f]?).map (·.ps)).getD [] }
def LD.fa (d : LD) : List He.Fa :=
  d.clsU.map .cls ++ (d.clsU.map .glo ++ (d.clsU.flatMap (fun c => d.fldn.map (.noat c)) ++ (d.meths.map (fun q => He.Fa.meth (d.cn q.1.1) ((d.mname[q.1.2]?).getD "")) ++
    ((d.meths.filter (fun q => q.1.2 == d.initM)).map (fun q => He.Fa.mkr (d.cn q.1.1)) ++ ((d.rs.filter (fun r => r.at_.2.isNone)).map (fun r => He.Fa.glo r.at_.1) ++ bltNames.map .free)))))
def LD.fnD (d : LD) : List He.DefD := d.rs.map FnR.d
def LD.ts (d : LD) : List He.Tab := d.tabs.map fun q => (fun K => He.ga K q.1, q.2)
def LD.ex (d : LD) (K : Frag) : Bool := (d.gname.zip d.gvs).all fun q => gB K q.1 q.2
def lowN (x : Str) : Bool := x.cps.toList.all (· < 2000000)
/-- what the text's own numbers keep -/
structure LD.Ok (d : LD) : Prop where
  len : d.rs.length = d.fs.length
  fn : ∀ (i : Nat) (fd : FDef) (r : FnR), d.fs[i]? = some fd → d.rs[i]? = some r → FnRok d.lkn fd r
  clsU : ∀ (c : Nat), d.cn c ∈ d.clsU
  fldN : d.fldn.Nodup
  fldL : ∀ x ∈ d.fldn, lowN x = true
  mnL : ∀ x ∈ d.mname, lowN x = true ∧ x ∉ d.fldn
  meth : ∀ q ∈ d.meths, ∃ mn, d.mname[q.1.2]? = some mn ∧ d.at_ q.2 = (d.cn q.1.1, some mn) ∧ d.kw.lookup q.2 = none ∧ q.2 < d.fs.length
  init : d.mname[d.initM]? = some "__init__"
  mks : ∀ (c : Nat), (d.mkb[c]?).getD false = true → (d.meths.lookup (c, d.initM)).isSome = true
  gl : d.gname.length = d.gvs.length
  tab : ∀ (g : Nat) (x : Str) (ks vs : List P), d.gname[g]? = some x → d.gvs[g]? = some (.dct ks vs) → ∃ q ∈ d.tabs, q.1 = x
  kwd : ∀ (i : Nat) (r : FnR), d.rs[i]? = some r → d.kw.lookup i = none → r.kwd = []
theorem fun_of {K : Frag} {x qual : Str} {st : Stmt} {kws : List (Str × V)} {f : Addr} {fd : FuncData} (F : FunD K x qual (defArgs st) (defBody st) (defScope st) [] kws f fd) : L2.Fun K x qual st f fd := by
  obtain ⟨oc, od, dV, kV, doc, pm, an, cdv, ct, osl, rfl, lk, hcd, hD, hK⟩ := F.ex
  rcases hD with ⟨_, rfl⟩ | ⟨e, _⟩
  · exact ⟨⟨oc, od, kV, doc, pm, an, cdv, ct, osl, rfl, lk, hcd⟩, F.kp⟩
  · exact absurd rfl e
theorem fdOf_eq {K : Frag} {x qual : Str} {pa : Arguments} {bo : List Stmt} {sc : Scope} {dvs : List V} {kws : List (Str × V)} {f : Addr} {fd : FuncData} (F : FunD K x qual pa bo sc dvs kws f fd) : fdOf K f = fd := by
  obtain ⟨oc, od, dV, kV, doc, pm, an, cdv, ct, osl, rfl, lk, hcd, hD, hK⟩ := F.ex
  unfold fdOf
  rw [lk]
section
variable {d : LD} {K : Frag} {w : World} {h : Heap} {mg : Str → Option Value} {P' : Program} {base : Heap}
/-- each def's object -/
theorem LD.funD (c : He.SaysD d.fa d.fnD K) {f : Nat} {r : FnR} (hr : d.rs[f]? = some r) : FunD K r.name r.qual (defArgs r.st) (defBody r.st) (defScope r.st) [] (r.d.kws K) ((d.lk K).fa f) ((d.lk K).fd f) := by
  have hd : d.fnD[f]? = some r.d := by unfold LD.fnD; rw [List.getElem?_map, hr]; rfl
  obtain ⟨fd, F⟩ := c.def_ f hd
  have ea : (d.lk K).fa f = He.fAd K r.d.at_ := by
    show He.fAd K (d.at_ f) = _
    unfold LD.at_
    rw [hr]
    rfl
  have ef : (d.lk K).fd f = fd := by
    show fdOf K ((d.lk K).fa f) = fd
    rw [ea]
    exact fdOf_eq F
  rw [ea, ef]
  exact F
theorem LD.fnd (ok : d.Ok) (c : He.SaysD d.fa d.fnD K) : ∀ f fd, d.prog.fn f = some fd → Nonempty (FnD d.prog (d.lk K) K f fd) := by
  intro f fd hf
  have hf' : d.fs[f]? = some fd := hf
  have hlt : f < d.rs.length := by rw [ok.len]; exact (List.getElem?_eq_some_iff.mp hf').1
  have hr : d.rs[f]? = some d.rs[f] := List.getElem?_eq_getElem hlt
  generalize d.rs[f] = r at hr
  have R := ok.fn f fd r hf' hr
  have hps : (d.lk K).ps f = r.ps := by
    show ((d.rs[f]?).map (·.ps)).getD [] = r.ps
    rw [hr]; rfl
  refine ⟨⟨r.name, r.qual, r.st, r.N, fun_of (LD.funD c hr), ?_, ?_, R.nl, ?_⟩⟩
  · rw [hps]; exact R.sc
  · rw [hps]; exact R.np
  · rw [hps]; exact R.ok
theorem lookup_mem {α β : Type} [BEq α] [LawfulBEq α] : ∀ {l : List (α × β)} {a : α} {b : β}, l.lookup a = some b → (a, b) ∈ l
  | [], _, _, h => by cases h
  | (x, y) :: l, a, b, h => by
    rw [List.lookup_cons] at h
    cases e : a == x with
    | true =>
      rw [e] at h
      cases h
      rw [eq_of_beq e]
      exact List.mem_cons_self
    | false =>
      rw [e] at h
      exact List.mem_cons_of_mem _ (lookup_mem h)
theorem weird_ne {f : Nat} {x : Str} (h : lowN x = true) : (⟨#[2000000 + f]⟩ : Str) ≠ x := by
  rintro rfl
  simp [lowN] at h
  omega
theorem LD.fld_some {f : Nat} {x : Str} (h : d.fldn[f]? = some x) : (d.lk K).nm.fld f = x := by
  show (d.fldn[f]?).getD _ = x
  rw [h]; rfl
theorem LD.link (ok : d.Ok) (X : K.In h) (Gn : h.Ns mainGlobals mg) (c : He.SaysD d.fa d.fnD K) (ex : d.ex K = true) (ht : ∀ q ∈ d.tabs, ∃ es n, KDict K w (He.ga K q.1) es n)
    (kb : ∀ f x, d.kw.lookup f = some x → ∃ gg, KBn K ((d.lk K).fd f) ((d.lk K).ps f) 1 [x] gg (fun vs zs => vs ++ zs)) : LkOk d.prog (d.lk K) P' w K mg base := by
  have fac : ∀ f ∈ d.fa, f.ok K = true := fun f hf => c.facts hf
  have cU : ∀ k, He.Fa.cls (d.cn k) ∈ d.fa := fun k => List.mem_append_left _ (List.mem_map.mpr ⟨_, ok.clsU k, rfl⟩)
  have gU : ∀ k, He.Fa.glo (d.cn k) ∈ d.fa := fun k => List.mem_append_right _ (List.mem_append_left _ (List.mem_map.mpr ⟨_, ok.clsU k, rfl⟩))
  have nU : ∀ k x, x ∈ d.fldn → He.Fa.noat (d.cn k) x ∈ d.fa := fun k x hx => List.mem_append_right _ (List.mem_append_right _ (List.mem_append_left _ (List.mem_flatMap.mpr ⟨_, ok.clsU k, List.mem_map.mpr ⟨x, hx, rfl⟩⟩)))
  have methOk : ∀ k m f, d.meths.lookup (k, m) = some f → ∃ mn, d.mname[m]? = some mn ∧ d.at_ f = (d.cn k, some mn) ∧ d.kw.lookup f = none ∧ f < d.fs.length := fun k m f hq => ok.meth _ (lookup_mem hq)
  have mU : ∀ k m f mn, d.meths.lookup (k, m) = some f → d.mname[m]? = some mn → He.Fa.meth (d.cn k) mn ∈ d.fa := fun k m f mn hq hm =>
    List.mem_append_right _ (List.mem_append_right _ (List.mem_append_right _ (List.mem_append_left _ (List.mem_map.mpr ⟨_, lookup_mem hq, by show He.Fa.meth (d.cn k) ((d.mname[m]?).getD "") = _; rw [hm]; rfl⟩))))
  have kU : ∀ k f, d.meths.lookup (k, d.initM) = some f → He.Fa.mkr (d.cn k) ∈ d.fa := fun k f hq =>
    List.mem_append_right _ (List.mem_append_right _ (List.mem_append_right _ (List.mem_append_right _ (List.mem_append_left _ (List.mem_map.mpr ⟨_, List.mem_filter.mpr ⟨lookup_mem hq, by simp⟩, rfl⟩)))))
  have fU : ∀ r ∈ d.rs, r.at_.2 = none → He.Fa.glo r.at_.1 ∈ d.fa := fun r hr hn =>
    List.mem_append_right _ (List.mem_append_right _ (List.mem_append_right _ (List.mem_append_right _ (List.mem_append_right _ (List.mem_append_left _ (List.mem_map.mpr ⟨r, List.mem_filter.mpr ⟨hr, by simp [hn]⟩, rfl⟩))))))
  have bU : ∀ x ∈ bltNames, He.Fa.free x ∈ d.fa := fun x hx =>
    List.mem_append_right _ (List.mem_append_right _ (List.mem_append_right _ (List.mem_append_right _ (List.mem_append_right _ (List.mem_append_right _ (List.mem_map.mpr ⟨x, hx, rfl⟩))))))
  have rOf : ∀ f, f < d.fs.length → ∃ r, d.rs[f]? = some r := fun f hf => ⟨_, List.getElem?_eq_getElem (by rw [ok.len]; exact hf)⟩
  have isS : ∀ f, f < d.fs.length → (d.prog.fn f).isSome = true := fun f hf => by
    show (d.fs[f]?).isSome = true
    rw [List.getElem?_eq_getElem hf]; rfl
  have fnOf : ∀ (f : Nat) (x : Str), d.lkn.fname[f]? = some (some x) → ∃ r : FnR, d.rs[f]? = some r ∧ r.at_ = (x, none) := fun f x hx => by
    have hx' : (d.rs.map fun (r : FnR) => match r.at_.2 with
      | none => some r.at_.1
      | some _ => none)[f]? = some (some x) := hx
    rw [List.getElem?_map] at hx'
    obtain ⟨r, h1, h2⟩ := Option.map_eq_some_iff.mp hx'
    refine ⟨r, h1, ?_⟩
    cases hr : r.at_ with
    | mk a b =>
      rw [hr] at h2
      cases b with
      | none => cases h2; rfl
      | some _ => cases h2
  exact {
    cls := fun k => He.cls_ok (fac _ (cU k))
    inj := fun f g e => by
      have e' : (d.fldn[f]?).getD ⟨#[2000000 + f]⟩ = (d.fldn[g]?).getD ⟨#[2000000 + g]⟩ := e
      cases hf : d.fldn[f]? with
      | some x =>
        cases hg : d.fldn[g]? with
        | some y =>
          rw [hf, hg] at e'
          have e2 : x = y := e'
          subst e2
          exact nodup_ix ok.fldN hf hg
        | none =>
          rw [hf, hg] at e'
          exact absurd e'.symm (weird_ne (ok.fldL x (List.mem_of_getElem? hf)))
      | none =>
        cases hg : d.fldn[g]? with
        | some y =>
          rw [hf, hg] at e'
          exact absurd e' (weird_ne (ok.fldL y (List.mem_of_getElem? hg)))
        | none =>
          rw [hf, hg] at e'
          have e2 : (⟨#[2000000 + f]⟩ : Str) = ⟨#[2000000 + g]⟩ := e'
          simp at e2
          exact e2
    fld := fun f x hx => ⟨LD.fld_some hx, fun k => He.noat_ok (fac _ (nU k x (List.mem_of_getElem? hx)))⟩
    meth := fun m x hx => ⟨fun f e => by
      have hl := ok.mnL x (List.mem_of_getElem? hx)
      have e' : (d.fldn[f]?).getD ⟨#[2000000 + f]⟩ = x := e
      cases hf : d.fldn[f]? with
      | some y =>
        rw [hf] at e'
        have e2 : y = x := e'
        subst e2
        exact hl.2 (List.mem_of_getElem? hf)
      | none =>
        rw [hf] at e'
        exact weird_ne hl.1 e', fun k f hq => by
      obtain ⟨mn, h1, h2, h3, h4⟩ := methOk k m f hq
      have hx' : d.mname[m]? = some x := hx
      rw [hx'] at h1
      cases h1
      have := He.meth_ok (fac _ (mU k m f x hq hx'))
      show Meth K (He.ga K (d.cn k)) x (He.fAd K (d.at_ f))
      rw [h2]
      exact this⟩
    init := fun k f hq => by
      obtain ⟨mn, h1, h2, h3, h4⟩ := methOk k d.initM f hq
      rw [ok.init] at h1
      cases h1
      have := He.mkr_ok (fac _ (kU k f hq))
      show L2.Mk K (He.ga K (d.cn k)) (He.fAd K (d.at_ f))
      rw [h2]
      exact this
    fn := fun f x hx => by
      obtain ⟨r, h1, h2⟩ := fnOf f x hx
      have ha : d.at_ f = (x, none) := by unfold LD.at_; rw [h1]; exact h2
      have e1 := He.glo_ok X Gn (fac _ (fU r (List.mem_of_getElem? h1) (by rw [h2])))
      rw [h2] at e1
      have e2 : (d.lk K).fa f = He.ga K x := by show He.fAd K (d.at_ f) = _; rw [ha]; rfl
      refine ⟨by rw [e2]; exact e1, (LD.funD c h1).kp⟩
    binds := fun f hs hk => by
      obtain ⟨fd, hf⟩ := Option.isSome_iff_exists.mp hs
      have hf' : d.fs[f]? = some fd := hf
      obtain ⟨r, hr⟩ := rOf f (List.getElem?_eq_some_iff.mp hf').1
      have R := ok.fn f fd r hf' hr
      have F := LD.funD c hr
      have hkw := ok.kwd f r hr hk
      have hps : (d.lk K).ps f = r.ps := by
        show ((d.rs[f]?).map (·.ps)).getD [] = r.ps
        rw [hr]; rfl
      rw [hps]
      exact F.bindsN (R.bind hkw)
    kbinds := kb
    glo := fun g x hx => by
      have hx' : d.gname[g]? = some x := hx
      have hlt : g < d.gvs.length := by rw [← ok.gl]; exact (List.getElem?_eq_some_iff.mp hx').1
      have hg : d.gvs[g]? = some d.gvs[g] := List.getElem?_eq_getElem hlt
      have hv : d.prog.gv g = d.gvs[g] := by
        show d.gvs.getD g .non = _
        rw [List.getD_eq_getElem?_getD, hg]; rfl
      rw [hv]
      generalize d.gvs[g] = p at hg
      have hb : gB K x p = true := List.all_eq_true.mp ex (x, p) (List.mem_of_getElem? (List.getElem?_zip_eq_some (z := (x, p)) |>.mpr ⟨hx', hg⟩))
      refine gB_ok X Gn hb fun ks vs e => ?_
      subst e
      obtain ⟨q, hq, rfl⟩ := ok.tab g x ks vs hx' hg
      exact ht q hq
    initS := fun k x hx => by
      have hx' : ((List.range d.clsN.length).map fun c => if (d.mkb[c]?).getD false then d.clsN[c]? else none)[k]? = some (some x) := hx
      rw [List.getElem?_map] at hx'
      obtain ⟨j, h1, h2⟩ := Option.map_eq_some_iff.mp hx'
      have hj : j = k := by
        have := List.getElem?_eq_some_iff.mp h1
        obtain ⟨_, h3⟩ := this
        rw [List.getElem_range] at h3
        exact h3.symm
      subst hj
      split at h2
      · rename_i hm
        exact Option.isSome_iff_exists.mp (ok.mks j hm)
      · cases h2
    cn := fun k x hx => by
      have hx' : ((List.range d.clsN.length).map fun c => if (d.mkb[c]?).getD false then d.clsN[c]? else none)[k]? = some (some x) := hx
      rw [List.getElem?_map] at hx'
      obtain ⟨j, h1, h2⟩ := Option.map_eq_some_iff.mp hx'
      have hj : j = k := by
        have := List.getElem?_eq_some_iff.mp h1
        obtain ⟨_, h3⟩ := this
        rw [List.getElem_range] at h3
        exact h3.symm
      subst hj
      split at h2
      · have e : d.cn j = x := by unfold LD.cn; rw [h2]; rfl
        have := He.glo_ok X Gn (fac _ (gU j))
        rw [e] at this
        show mg x = some (.ref (He.ga K (d.cn j)))
        rw [e]
        exact this
      · cases h2
    blt := fun x hx => He.free_ok X Gn (fac _ (bU x hx))
    methK := fun k m f hq => by
      obtain ⟨mn, h1, h2, h3, h4⟩ := methOk k m f hq
      exact ⟨h3, isS f h4⟩
    initK := fun k f hq => by
      obtain ⟨mn, h1, h2, h3, h4⟩ := methOk k d.initM f hq
      exact ⟨h3, isS f h4⟩
    some_ := fun f x hx => by
      obtain ⟨r, h1, _⟩ := fnOf f x hx
      exact isS f (by rw [← ok.len]; exact (List.getElem?_eq_some_iff.mp h1).1) }
end
end TH
end T_TL2
section T_TL3
set_option Elab.async false
set_option linter.all false
set_option maxRecDepth 100000
namespace TH
open PySem PySem.Spec PyProof.Rows L2
/-- LD.Ok but the defs, as a Bool -/
def LD.okB (d : LD) : Bool :=
  d.rs.length == d.fs.length && !d.clsU.isEmpty && d.clsN.all (fun x => d.clsU.contains x) && decide d.fldn.Nodup && d.fldn.all lowN && d.mname.all (fun x => lowN x && !d.fldn.contains x) &&
    d.meths.all (fun q => match d.mname[q.1.2]? with
      | some mn => decide (d.at_ q.2 = (d.cn q.1.1, some mn)) && (d.kw.lookup q.2).isNone && decide (q.2 < d.fs.length)
      | none => false) &&
    decide (d.mname[d.initM]? = some "__init__") && (List.range d.mkb.length).all (fun c => !((d.mkb[c]?).getD false) || (d.meths.lookup (c, d.initM)).isSome) && d.gname.length == d.gvs.length &&
    (d.gname.zip d.gvs).all (fun q => match q.2 with
      | .dct _ _ => d.tabs.any fun t => t.1 == q.1
      | _ => true) &&
    (List.range d.rs.length).all (fun i => (match d.rs[i]? with
      | some r => r.kwd.isEmpty
      | none => true) || (d.kw.lookup i).isSome)
theorem LD.ok_of {d : LD} (h : d.okB = true) (hf : ∀ (i : Nat) (fd : FDef) (r : FnR), d.fs[i]? = some fd → d.rs[i]? = some r → FnRok d.lkn fd r) : d.Ok := by
  unfold LD.okB at h
  simp only [Bool.and_eq_true, beq_iff_eq, decide_eq_true_eq] at h
  obtain ⟨⟨⟨⟨⟨⟨⟨⟨⟨⟨⟨h1, h2⟩, h3⟩, h4⟩, h5⟩, h6⟩, h7⟩, h8⟩, h9⟩, h10⟩, h11⟩, h12⟩ := h
  refine ⟨h1, hf, fun c => ?_, h4, fun x hx => List.all_eq_true.mp h5 x hx, fun x hx => ?_, fun q hq => ?_, h8, fun c hc => ?_, h10, fun g x ks vs hx hg => ?_, fun i r hr hk => ?_⟩
  · unfold LD.cn
    cases hc : d.clsN[c]? with
    | some x => simpa using List.all_eq_true.mp h3 x (List.mem_of_getElem? hc)
    | none =>
      cases hu : d.clsU with
      | nil => rw [hu] at h2; cases h2
      | cons a r => exact List.mem_cons_self
  · have := List.all_eq_true.mp h6 x hx
    simp only [Bool.and_eq_true, Bool.not_eq_true'] at this
    refine ⟨this.1, fun hm => ?_⟩
    have h' := this.2
    rw [List.contains_iff_mem.mpr hm] at h'
    cases h'
  · have := List.all_eq_true.mp h7 q hq
    split at this
    · rename_i mn hm
      simp only [Bool.and_eq_true, decide_eq_true_eq, Option.isNone_iff_eq_none] at this
      exact ⟨mn, hm, this.1.1, this.1.2, this.2⟩
    · cases this
  · have hlt : c < d.mkb.length := by
      cases hq : d.mkb[c]? with
      | none => rw [hq] at hc; cases hc
      | some b => exact (List.getElem?_eq_some_iff.mp hq).1
    have := List.all_eq_true.mp h9 c (List.mem_range.mpr hlt)
    rw [hc] at this
    simpa using this
  · have := List.all_eq_true.mp h11 (x, P.dct ks vs) (List.mem_of_getElem? (List.getElem?_zip_eq_some (z := (x, P.dct ks vs)) |>.mpr ⟨hx, hg⟩))
    obtain ⟨t, ht, e⟩ := List.any_eq_true.mp this
    exact ⟨t, ht, eq_of_beq e⟩
  · have hlt : i < d.rs.length := (List.getElem?_eq_some_iff.mp hr).1
    have := List.all_eq_true.mp h12 i (List.mem_range.mpr hlt)
    rw [hr, hk] at this
    simpa using this
end TH
end T_TL3
section T_TL4
set_option Elab.async false
set_option linter.all false
set_option maxRecDepth 100000
namespace TH
open PySem PySem.Spec PyProof.Rows L2
/-- each def keeps its promise, one after the other -/
def AllR (l : LkN) : List FDef → List FnR → Prop
  | fd :: fs, r :: rs => FnRok l fd r ∧ AllR l fs rs
  | _, _ => True
theorem AllR.at {l : LkN} : ∀ {fs : List FDef} {rs : List FnR}, AllR l fs rs → ∀ (i : Nat) (fd : FDef) (r : FnR), fs[i]? = some fd → rs[i]? = some r → FnRok l fd r
  | [], _, _, i, _, _, h, _ => by cases h
  | _ :: _, [], _, i, _, _, _, h => by cases h
  | a :: fs, b :: rs, h, 0, fd, r, h1, h2 => by
    cases h1
    cases h2
    exact h.1
  | a :: fs, b :: rs, h, i + 1, fd, r, h1, h2 => AllR.at (fs := fs) (rs := rs) h.2 i fd r h1 h2
end TH
end T_TL4
section T_U1
set_option linter.all false
set_option Elab.async false
namespace TH
/-! ### flat stores: lists and instances of data alone -/
def isP : D → Bool
  | .p _ => true
  | _ => false
def flatC : Cell → Bool
  | .lst xs => xs.all isP
  | .ins _ fs => fs.all fun q => isP q.2
def Flat (s : Sto) : Prop := ∀ c ∈ s, flatC c = true
theorem bnd_of_isP {d : D} (L : Nat) (h : isP d = true) : D.bnd L d = true := by
  cases d <;> simp_all [isP, D.bnd]
theorem Dsbnd_of {L : Nat} : ∀ {xs : List D}, xs.all isP = true → Ds.bnd L xs = true
  | [], _ => by simp [Ds.bnd]
  | d :: r, h => by
    simp only [List.all_cons, Bool.and_eq_true] at h
    simp [Ds.bnd, bnd_of_isP L h.1, Dsbnd_of h.2]
theorem bndC_of {L : Nat} {c : Cell} (h : flatC c = true) : bndC L c = true := by
  cases c with
  | lst xs => exact Dsbnd_of h
  | ins k fs =>
    refine Dsbnd_of ?_
    rw [List.all_map]
    exact h
theorem Flat.nil : Flat [] := by intro c h; cases h
theorem Flat.app {s t : Sto} (h : Flat s) (k : Flat t) : Flat (s ++ t) := by
  intro c hc
  rcases List.mem_append.mp hc with q | q
  · exact h c q
  · exact k c q
theorem Flat.cons {c : Cell} {t : Sto} (h : flatC c = true) (k : Flat t) : Flat (c :: t) := by
  intro d hd
  rcases List.mem_cons.mp hd with rfl | q
  · exact h
  · exact k d q
theorem Flat.one {c : Cell} (h : flatC c = true) : Flat [c] := Flat.cons h .nil
theorem Flat.set {s : Sto} (h : Flat s) {c : Cell} (k : flatC c = true) (n : Nat) : Flat (s.set n c) := by
  intro d hd
  rcases List.mem_or_eq_of_mem_set hd with q | rfl
  · exact h d q
  · exact k
theorem Flat.take {s : Sto} (h : Flat s) (n : Nat) : Flat (s.take n) := fun c hc => h c (List.mem_of_mem_take hc)
theorem Flat.all {s : Sto} (h : Flat s) (n L : Nat) : (s.take n).all (bndC L) = true := List.all_eq_true.mpr fun c hc => bndC_of (h c (List.mem_of_mem_take hc))
@[simp] theorem flatC_lst (xs : List P) : flatC (.lst (xs.map D.p)) = true := by
  simp [flatC, isP]
@[simp] theorem flatC_lst' (f : α → P) (xs : List α) : flatC (.lst (xs.map fun x => D.p (f x))) = true := by
  simp [flatC, isP]
@[simp] theorem flatC_nil : flatC (.lst []) = true := rfl
/-- a def that leaves the store as it was, and tells data -/
theorem fin0 {s : Sto} {x : P} {t : Sto} (h : Flat s) (g : Sto) (e : t = s ++ g) : finish 0 s (.ret (.p x) t) = .ok (.p x) s := by
  subst e
  have := h.all s.length s.length
  simp only [List.take_length] at this
  simp [finish, this]
theorem fin0' {s : Sto} {x : P} (h : Flat s) : finish 0 s (.ret (.p x) s) = .ok (.p x) s := fin0 h [] (by simp)
theorem fin0n {s : Sto} {env : Env} {t : Sto} (h : Flat s) (g : Sto) (e : t = s ++ g) : finish 0 s (.nx env t) = .ok (.p .non) s := by
  subst e
  have := h.all s.length s.length
  simp only [List.take_length] at this
  simp [finish, this]
/-- with another store of the same length -/
theorem fin0t {s s' : Sto} {x : P} {t : Sto} (h : Flat s') (g : Sto) (e : t = s' ++ g) (hl : s'.length = s.length) : finish 0 s (.ret (.p x) t) = .ok (.p x) s' := by
  subst e
  have := h.all s.length s.length
  rw [← hl, List.take_length] at this
  simp [finish, ← hl, this]
end TH
end T_U1
section T_U2
set_option linter.all false
set_option Elab.async false
namespace TH
/-! ### evaluation, step by step -/
def chnK (r : Option Bool) (A B : R D) : R D := match r with
  | some true => A
  | some false => B
  | none => .bad
@[simp] theorem chnK_some (b : Bool) (A B : R D) : chnK (some b) A B = if b then A else B := by cases b <;> rfl
/-- of an answer that may be lacking -/
def optK {α β : Type} (r : Option α) (f : α → R β) : R β := match r with
  | some x => f x
  | none => .bad
@[simp] theorem optK_some {α β : Type} (x : α) (f : α → R β) : optK (some x) f = f x := rfl
@[simp] theorem optK_none {α β : Type} (f : α → R β) : optK none f = .bad := rfl
section
variable (G : Prog) (cf ci : Nat → List D → M D)
@[simp] theorem ev_var (i : Nat) (env : Env) (s : Sto) : evE G cf ci (.var i) env s = M.opt (getV env i) s := by simp only [evE]
@[simp] theorem ev_con (p : P) (env : Env) (s : Sto) : evE G cf ci (.con p) env s = .ok (.p p) s := by simp only [evE]
@[simp] theorem ev_glo (g : Nat) (env : Env) (s : Sto) : evE G cf ci (.glo g) env s = .ok (.p (G.gv g)) s := by simp only [evE]
@[simp] theorem ev_bin (o : Op2) (a b : E) (env : Env) (s : Sto) : evE G cf ci (.bin o a b) env s = (evE G cf ci a env s).bind fun x s => (evE G cf ci b env s).bind fun y s => match view s x, view s y with
    | some p, some q => match binP o p q with
      | some r => .ok (.p r) s
      | none => .bad
    | _, _ => .bad := by simp only [evE]; try rfl
@[simp] theorem ev_neg (a : E) (env : Env) (s : Sto) : evE G cf ci (.neg a) env s = (evE G cf ci a env s).bind fun x s => match x with
    | .p (.int i) => .ok (.p (.int (-i))) s
    | _ => .bad := by simp only [evE]; congr 1; funext x s; cases x with
    | p x => cases x <;> rfl
    | _ => rfl
@[simp] theorem ev_not (a : E) (env : Env) (s : Sto) : evE G cf ci (.not a) env s = (evE G cf ci a env s).bind fun x s => (truthM x s).bind fun b s => .ok (.p (.bl (!b))) s := by simp only [evE]; try rfl
@[simp] theorem ev_and (a b : E) (env : Env) (s : Sto) : evE G cf ci (.and a b) env s = (evE G cf ci a env s).bind fun x s => (truthM x s).bind fun t s => if t then evE G cf ci b env s else .ok x s := by
  simp only [evE]; congr 1; funext x s; congr 1; funext t s; cases t <;> rfl
@[simp] theorem ev_or (a b : E) (env : Env) (s : Sto) : evE G cf ci (.or a b) env s = (evE G cf ci a env s).bind fun x s => (truthM x s).bind fun t s => if t then .ok x s else evE G cf ci b env s := by
  simp only [evE]; congr 1; funext x s; congr 1; funext t s; cases t <;> rfl
@[simp] theorem ev_cmp (o : Cp) (a b : E) (env : Env) (s : Sto) : evE G cf ci (.cmp o a b) env s = (evE G cf ci a env s).bind fun x s => (evE G cf ci b env s).bind fun y s => match cmpD s o x y with
    | some r => .ok (.p (.bl r)) s
    | none => .bad := by simp only [evE]; try rfl
@[simp] theorem ev_chn (o o' : Cp) (a b c : E) (env : Env) (s : Sto) : evE G cf ci (.chn o o' a b c) env s = (evE G cf ci a env s).bind fun x s => (evE G cf ci b env s).bind fun y s => chnK (cmpD s o x y) ((evE G cf ci c env s).bind fun z s => match cmpD s o' y z with
      | some r => .ok (.p (.bl r)) s
      | none => .bad) (.ok (.p (.bl false)) s) := by
  simp only [evE]; rfl
@[simp] theorem ev_ite (c a b : E) (env : Env) (s : Sto) : evE G cf ci (.ite c a b) env s = (evE G cf ci c env s).bind fun x s => (truthM x s).bind fun t s => if t then evE G cf ci a env s else evE G cf ci b env s := by
  simp only [evE]; congr 1; funext x s; congr 1; funext t s; cases t <;> rfl
@[simp] theorem ev_tup (es : List E) (env : Env) (s : Sto) : evE G cf ci (.tup es) env s = (evEs G cf ci es env s).bind fun ds s => .ok (mkTup ds) s := by simp only [evE]; try rfl
@[simp] theorem ev_lst (m : Bool) (es : List E) (env : Env) (s : Sto) : evE G cf ci (.lst m es) env s = (evEs G cf ci es env s).bind fun ds s => lcEnd m ds s := by simp only [evE]; try rfl
@[simp] theorem ev_dic (ks vs : List E) (env : Env) (s : Sto) : evE G cf ci (.dic ks vs) env s = (evEs G cf ci ks env s).bind fun k s => (evEs G cf ci vs env s).bind fun v s => match pall k, pall v with
    | some k, some v => .ok (.p (.dct k v)) s
    | _, _ => .bad := by simp only [evE]; congr 1; funext x s; congr 1; funext t s; cases pall x <;> cases pall t <;> rfl
@[simp] theorem ev_idx (a b : E) (env : Env) (s : Sto) : evE G cf ci (.idx a b) env s = (evE G cf ci a env s).bind fun x s => (evE G cf ci b env s).bind fun y s => match idxD s x y with
    | some d => .ok d s
    | none => .bad := by simp only [evE]; try rfl
@[simp] theorem ev_slc (a : E) (lo hi : Option E) (env : Env) (s : Sto) : evE G cf ci (.slc a lo hi) env s = (evE G cf ci a env s).bind fun x s => (evO G cf ci lo env s).bind fun l s => (evO G cf ci hi env s).bind fun h s => match view s x with
    | some p => match slcP p l h with
      | some r => .ok (.p r) s
      | none => .bad
    | none => .bad := by simp only [evE]; try rfl
@[simp] theorem ev_fld (a : E) (f : Nat) (env : Env) (s : Sto) : evE G cf ci (.fld a f) env s = (evE G cf ci a env s).bind fun x s => match x with
    | .ref n => match s[n]? with
      | some (.ins _ fs) => match fs.lookup f with
        | some d => .ok d s
        | none => .bad
      | _ => .bad
    | _ => .bad := by simp only [evE]; try rfl
@[simp] theorem ev_call (f : Nat) (es : List E) (env : Env) (s : Sto) : evE G cf ci (.call f es) env s = (evEs G cf ci es env s).bind fun ds s => cf f ds s := by simp only [evE]; try rfl
@[simp] theorem ev_new (c : Nat) (es : List E) (env : Env) (s : Sto) : evE G cf ci (.new c es) env s = (evEs G cf ci es env s).bind fun ds s => match G.init c with
    | some f => (ci f (.ref s.length :: ds) (s ++ [.ins c []])).bind fun d s' => if d = .p .non then .ok (.ref s.length) s' else .bad
    | none => .bad := by simp only [evE]; try rfl
@[simp] theorem ev_met (m : Nat) (a : E) (es : List E) (env : Env) (s : Sto) : evE G cf ci (.met m a es) env s = (evE G cf ci a env s).bind fun x s => match x with
    | .ref n => match s[n]? with
      | some (.ins c _) => match G.meth c m with
        | some f => (evEs G cf ci es env s).bind fun ds s => cf f (.ref n :: ds) s
        | none => .bad
      | _ => .bad
    | _ => .bad := by simp only [evE]; try rfl
@[simp] theorem ev_bi (m : Bool) (b : Bi) (es : List E) (env : Env) (s : Sto) : evE G cf ci (.bi m b es) env s = (evEs G cf ci es env s).bind fun ds s => runBi m b ds s := by simp only [evE]; try rfl
@[simp] theorem ev_bm (m : Bool) (b : Bi) (a : E) (es : List E) (env : Env) (s : Sto) : evE G cf ci (.bm m b a es) env s = (evE G cf ci a env s).bind fun x s => if recvOk b s x then (evEs G cf ci es env s).bind fun ds s => runBi m b (x :: ds) s else .bad := by simp only [evE]; try rfl
@[simp] theorem ev_addl (m : Bool) (a b : E) (env : Env) (s : Sto) : evE G cf ci (.addl m a b) env s = (evE G cf ci a env s).bind fun x s => (evE G cf ci b env s).bind fun y s => match view s x, view s y with
    | some p, some q => match binP .add p q with
      | some r => fin m r s
      | none => .bad
    | _, _ => .bad := by simp only [evE]; try rfl
@[simp] theorem ev_nil (env : Env) (s : Sto) : evEs G cf ci [] env s = .ok [] s := by simp only [evEs]
@[simp] theorem ev_cons (e : E) (es : List E) (env : Env) (s : Sto) : evEs G cf ci (e :: es) env s = (evE G cf ci e env s).bind fun d s => (evEs G cf ci es env s).bind fun ds s => .ok (d :: ds) s := by simp only [evEs]; try rfl
@[simp] theorem evC_nil (env : Env) (s : Sto) : evC G cf ci [] env s = .ok true s := by simp only [evC]
@[simp] theorem evC_cons (e : E) (es : List E) (env : Env) (s : Sto) : evC G cf ci (e :: es) env s = (evE G cf ci e env s).bind fun d s => truthM d s := by simp only [evC]; try rfl
@[simp] theorem evO_none (env : Env) (s : Sto) : evO G cf ci none env s = .ok none s := by simp only [evO]
@[simp] theorem evO_some (e : E) (env : Env) (s : Sto) : evO G cf ci (some e) env s = (evE G cf ci e env s).bind fun d s => match d with
    | .p (.int i) => .ok (some i) s
    | _ => .bad := by simp only [evO]; congr 1; funext x s; cases x with
    | p x => cases x <;> rfl
    | _ => rfl
end
@[simp] theorem opt_some {α : Type} (a : α) (s : Sto) : M.opt (some a) s = .ok a s := rfl
@[simp] theorem opt_none {α : Type} (s : Sto) : (M.opt none s : R α) = .bad := rfl
@[simp] theorem getV_z (d : D) (r : Env) : getV (some d :: r) 0 = some d := rfl
@[simp] theorem getV_s (x : Option D) (r : Env) (i : Nat) : getV (x :: r) (i + 1) = getV r i := rfl
@[simp] theorem truthM_b (b : Bool) (s : Sto) : truthM (.p (.bl b)) s = .ok b s := rfl
@[simp] theorem truthM_int (i : Int) (s : Sto) : truthM (.p (.int i)) s = .ok (decide (i ≠ 0)) s := rfl
@[simp] theorem view_tup (s : Sto) (xs : List D) : view s (.tup xs) = none := rfl
@[simp] theorem mkTup_p (ds : List D) (xs : List P) (h : pall ds = some xs) : mkTup ds = .p (.tup xs) := by simp [mkTup, h]
theorem cmpD_p (s : Sto) (o : Cp) (x y : P) : cmpD s o (.p x) (.p y) = cmpP o x y := by
  cases o <;> simp [cmpD]
@[simp] theorem cmpD_pp (s : Sto) (o : Cp) (x y : P) : cmpD s o (.p x) (.p y) = cmpP o x y := cmpD_p s o x y
@[simp] theorem idxD_pp (s : Sto) (x y : P) : idxD s (.p x) (.p y) = (idxP x y).map .p := rfl
@[simp] theorem views_nil (s : Sto) : views s [] = some [] := rfl
@[simp] theorem views_p (s : Sto) (x : P) (r : List D) : views s (.p x :: r) = (views s r).map (x :: ·) := by
  simp only [views, view_p]
  cases views s r <;> rfl
theorem runBi_pure (m : Bool) (b : Bi) (ds : List D) (xs : List P) (s : Sto) (h1 : b.changes = false) (h2 : (m && !b.fresh) = false) (h3 : views s ds = some xs) : runBi m b ds s = match biP b xs with
      | some x => fin m x s
      | none => .bad := by
  simp only [runBi, h1, h2, h3]; rfl
@[simp] theorem fin_false (x : P) (s : Sto) : fin false x s = .ok (.p x) s := rfl
@[simp] theorem fin_true (xs : List P) (s : Sto) : fin true (.lst xs) s = .ok (.ref s.length) (s ++ [.lst (xs.map D.p)]) := rfl
@[simp] theorem lcEnd_true (ys : List D) (s : Sto) : lcEnd true ys s = .ok (.ref s.length) (s ++ [.lst ys]) := rfl
@[simp] theorem lcEnd_false (ys : List D) (xs : List P) (s : Sto) (h : pall ys = some xs) : lcEnd false ys s = .ok (.p (.lst xs)) s := by simp [lcEnd, h]
section
variable (G : Prog) (cf ci : Nat → List D → M D) (env : Env) (s : Sto)
@[simp] theorem ex_set (i : Nat) (e : E) : exec G cf ci (.set i e) env s = X.of (evE G cf ci e env s) env fun d s1 => .nx (env.set i (some d)) s1 := by simp only [exec]; try rfl
@[simp] theorem ex_unp (is : List Nat) (e : E) : exec G cf ci (.unp is e) env s = X.of (evE G cf ci e env s) env fun d s1 => match (asTup d).bind fun ds => if ds.length = is.length then setAll env is ds else none with
    | some env' => .nx env' s1
    | none => .bad := by simp only [exec]; try rfl
@[simp] theorem ex_star (i j : Nat) (e : E) : exec G cf ci (.star i j e) env s = X.of (evE G cf ci e env s) env fun d s1 => match d with
    | .p (.tup (x :: xs)) => .nx ((env.set i (some (.p x))).set j (some (.p (.lst xs)))) s1
    | _ => .bad := by simp only [exec]; try rfl
@[simp] theorem ex_sfld (a : E) (f : Nat) (e : E) : exec G cf ci (.sfld a f e) env s = X.of (evE G cf ci e env s) env fun d s1 => X.of (evE G cf ci a env s1) env fun x s2 => match x with
    | .ref n => match s2[n]? with
      | some (.ins c fs) => if fs.length < 100 then .nx env (s2.set n (.ins c (putFd f d fs))) else .bad
      | _ => .bad
    | _ => .bad := by simp only [exec]; try rfl
@[simp] theorem ex_sidx (a i e : E) : exec G cf ci (.sidx a i e) env s = X.of (evE G cf ci e env s) env fun d s1 => X.of (evE G cf ci a env s1) env fun x s2 => X.of (evE G cf ci i env s2) env fun y s3 => match x, y with
    | .ref n, .p (.int j) => match s3[n]? with
      | some (.lst xs) => match place xs.length j with
        | some k => .nx env (s3.set n (.lst (xs.set k d)))
        | none => .bad
      | _ => .bad
    | _, _ => .bad := by simp only [exec]; try rfl
@[simp] theorem ex_aug (i : Nat) (o : Op2) (e : E) : exec G cf ci (.aug i o e) env s = match getV env i with
    | some x => X.of (evE G cf ci e env s) env fun y s1 => match view s1 x, view s1 y with
      | some (.int p), some (.int q) => match binP o (.int p) (.int q) with
        | some r => .nx (env.set i (some (.p r))) s1
        | none => .bad
      | _, _ => .bad
    | none => .bad := by simp only [exec]; try rfl
@[simp] theorem ex_augf (a : E) (f : Nat) (o : Op2) (e : E) : exec G cf ci (.augf a f o e) env s = X.of (evE G cf ci a env s) env fun x s1 => match x with
    | .ref n => match s1[n]? with
      | some (.ins _ fs) => match fs.lookup f with
        | some (.p (.int p)) => X.of (evE G cf ci e env s1) env fun y s2 => match y with
          | .p (.int q) => match binP o (.int p) (.int q) with
            | some r => match s2[n]? with
              | some (.ins c fs') => if fs'.length < 100 then .nx env (s2.set n (.ins c (putFd f (.p r) fs'))) else .bad
              | _ => .bad
            | none => .bad
          | _ => .bad
        | _ => .bad
      | _ => .bad
    | _ => .bad := by simp only [exec]; try rfl
@[simp] theorem ex_expr (e : E) : exec G cf ci (.expr e) env s = X.of (evE G cf ci e env s) env fun _ s1 => .nx env s1 := by simp only [exec]; try rfl
@[simp] theorem ex_ret (e : E) : exec G cf ci (.ret e) env s = X.of (evE G cf ci e env s) env fun d s1 => .ret d s1 := by simp only [exec]; try rfl
@[simp] theorem ex_retN : exec G cf ci .retN env s = .ret (.p .non) s := by simp only [exec]; try rfl
@[simp] theorem ex_ifs (c : E) (a b : List S) : exec G cf ci (.ifs c a b) env s = X.of (evE G cf ci c env s) env fun d s1 => X.of (truthM d s1) env fun t s2 => if t then execs G cf ci a env s2 else execs G cf ci b env s2 := by simp only [exec]; try rfl
theorem ex_for (tg : Tg) (ik : ItK) (its : List E) (body : List S) : exec G cf ci (.for_ tg ik its body) env s = X.of (evEs G cf ci its env s) env fun ds s1 => match items ik ds s1 with
    | some xs => forL tg (fun env' s' => execs G cf ci body env' s') (fun s' => stands ik ds s1 s') xs env s1
    | none => .bad := by simp only [exec]; try rfl
theorem ex_whl (c : E) (body : List S) : exec G cf ci (.whl c body) env s = whileL (fun env' s' => (evE G cf ci c env' s').bind fun d s => truthM d s) (fun env' s' => execs G cf ci body env' s') G.fuel env s := by simp only [exec]; try rfl
@[simp] theorem ex_raise (c : Nat) (e : E) : exec G cf ci (.raise c e) env s = X.of (evE G cf ci e env s) env fun d s1 => match d with
    | .p x => .exc ⟨c, some x⟩ env s1
    | _ => .bad := by simp only [exec]; try rfl
@[simp] theorem ex_try (body : List S) (c : Nat) (suite : List S) : exec G cf ci (.try_ body c suite) env s = match execs G cf ci body env s with
    | .exc x env' s' => if G.sub x.cls c then execs G cf ci suite env' s' else .exc x env' s'
    | r => r := by simp only [exec]; try rfl
@[simp] theorem ex_thru (body : List S) : exec G cf ci (.thru body) env s = match execs G cf ci body env s with
    | .exc _ _ _ => .bad
    | r => r := by simp only [exec]; try rfl
@[simp] theorem ex_pass : exec G cf ci .pass env s = .nx env s := by simp only [exec]; try rfl
@[simp] theorem ex_brk : exec G cf ci .brk env s = .brk env s := by simp only [exec]; try rfl
@[simp] theorem ex_cont : exec G cf ci .cont env s = .ct env s := by simp only [exec]; try rfl
@[simp] theorem exs_nil : execs G cf ci [] env s = .nx env s := by simp only [execs]
@[simp] theorem exs_cons (st : S) (r : List S) : execs G cf ci (st :: r) env s = (exec G cf ci st env s).seq fun env' s' => execs G cf ci r env' s' := by simp only [execs]
end
/-! ### comprehensions over data, that leave the store alone -/
theorem lcL_pure {tg : Tg} {cond : Env → M Bool} {elt : Env → M D} {ok : Sto → Bool} {env : Env} (c : D → Bool) (f : D → P) : ∀ (xs : List D) (b : Sto) (acc : List P), acc.length + xs.length < line →
    (∀ s', ok (b ++ [s']) = true) →
    (∀ d ∈ xs, ∃ env', setTg env tg d = some env' ∧ ∀ acc, flatC acc = true → cond env' (b ++ [acc]) = .ok (c d) (b ++ [acc]) ∧ (c d = true → elt env' (b ++ [acc]) = .ok (.p (f d)) (b ++ [acc]))) →
    lcL tg cond elt ok b.length env xs (b ++ [.lst (acc.map D.p)]) = .ok () (b ++ [.lst ((acc ++ (xs.filter c).map f).map D.p)])
  | [], b, acc, _, hok, _ => by simp [lcL, hok]
  | d :: xs, b, acc, hl, hok, h => by
    obtain ⟨env', h1, h2⟩ := h d List.mem_cons_self
    obtain ⟨h3, h4⟩ := h2 _ (flatC_lst acc)
    simp only [List.length_cons] at hl
    simp only [lcL, hok, h1, if_true, h3, R.calm_ok, R.bind_ok]
    cases hc : c d with
    | true =>
      simp only [if_true, h4 hc, R.calm_ok, R.bind_ok]
      have e : (b ++ [Cell.lst (acc.map D.p)])[b.length]? = some (.lst (acc.map D.p)) := by simp
      rw [e]
      have hl' : (acc.map D.p).length < line := by simp; omega
      simp only [if_pos hl']
      have := lcL_pure c f xs b (acc ++ [f d]) (by simp; omega) hok (fun d hd => h d (List.mem_cons_of_mem _ hd))
      simp only [List.map_append, List.map_cons, List.map_nil] at this
      rw [show (b ++ [Cell.lst (acc.map D.p)]).set b.length (.lst (acc.map D.p ++ [D.p (f d)])) = b ++ [.lst (acc.map D.p ++ [D.p (f d)])] by simp]
      rw [this]
      simp [List.filter_cons, hc]
    | false =>
      simp only [Bool.false_eq_true, if_false]
      have := lcL_pure c f xs b acc (by omega) hok (fun d hd => h d (List.mem_cons_of_mem _ hd))
      rw [this]
      simp [List.filter_cons, hc]
theorem lc_pure {G : Prog} {cf ci : Nat → List D → M D} {own : List Nat} {tg : Tg} {ik : ItK} {its cs : List E} {elt : E} {env : Env} {s : Sto} (c : D → Bool) (f : D → P) (hs : Flat s) {ds xs : List D} (h1 : evEs G cf ci its env s = .ok ds s) (h2 : items ik ds s = some xs) (hl : xs.length < line)
    (hok : ∀ s', stands ik ds s (s ++ [s']) = true)
    (h : ∀ d ∈ xs, ∃ env', setTg (wipeE env own) tg d = some env' ∧ ∀ s', Flat s' → evC G cf ci cs env' s' = .ok (c d) s' ∧ (c d = true → evE G cf ci elt env' s' = .ok (.p (f d)) s')) :
    evE G cf ci (.lc false own tg ik its cs elt) env s = .ok (.p (.lst ((xs.filter c).map f))) s := by
  simp only [evE]
  show (evEs G cf ci its env s).bind _ = _
  rw [h1]
  simp only [R.bind_ok, h2]
  have := lcL_pure (tg := tg) (cond := fun env' => evC G cf ci cs env') (elt := fun env' => evE G cf ci elt env') (ok := fun s' => stands ik ds s s') (env := wipeE env own) c f xs s [] (by simpa using hl) hok (fun d hd => by
    obtain ⟨env', k1, k2⟩ := h d hd
    exact ⟨env', k1, fun acc ha => k2 (s ++ [acc]) (hs.app (.one ha))⟩)
  simp only [List.map_nil, List.nil_append] at this
  rw [this]
  simp only [R.bind_ok, lcDone, Bool.false_eq_true, if_false]
  have ha := hs.all s.length s.length
  simp only [List.take_length] at ha
  have hp : pall (((xs.filter c).map f).map D.p) = some ((xs.filter c).map f) := pall_map _
  simp only [List.length_append, List.length_cons, List.length_nil, Nat.zero_add, List.take_left, ha, and_self, if_true, view]
  rw [List.getElem?_append_right (Nat.le_refl _)]
  simp only [Nat.sub_self, List.getElem?_cons_zero, hp, Option.map_some]
/-- the same, kept as an object -/
theorem lc_keep {G : Prog} {cf ci : Nat → List D → M D} {own : List Nat} {tg : Tg} {ik : ItK} {its cs : List E} {elt : E} {env : Env} {s : Sto} (c : D → Bool) (f : D → P) (hs : Flat s) {ds xs : List D} (h1 : evEs G cf ci its env s = .ok ds s) (h2 : items ik ds s = some xs) (hl : xs.length < line)
    (hok : ∀ s', stands ik ds s (s ++ [s']) = true)
    (h : ∀ d ∈ xs, ∃ env', setTg (wipeE env own) tg d = some env' ∧ ∀ s', Flat s' → evC G cf ci cs env' s' = .ok (c d) s' ∧ (c d = true → evE G cf ci elt env' s' = .ok (.p (f d)) s')) :
    evE G cf ci (.lc true own tg ik its cs elt) env s = .ok (.ref s.length) (s ++ [.lst (((xs.filter c).map f).map D.p)]) := by
  simp only [evE]
  show (evEs G cf ci its env s).bind _ = _
  rw [h1]
  simp only [R.bind_ok, h2]
  have := lcL_pure (tg := tg) (cond := fun env' => evC G cf ci cs env') (elt := fun env' => evE G cf ci elt env') (ok := fun s' => stands ik ds s s') (env := wipeE env own) c f xs s [] (by simpa using hl) hok (fun d hd => by
    obtain ⟨env', k1, k2⟩ := h d hd
    exact ⟨env', k1, fun acc ha => k2 (s ++ [acc]) (hs.app (.one ha))⟩)
  simp only [List.map_nil, List.nil_append] at this
  rw [this]
  simp only [R.bind_ok, lcDone, if_true]
/-- the same over what the items are made of -/
theorem lcL_gen {α : Type} {tg : Tg} {cond : Env → M Bool} {elt : Env → M D} {ok : Sto → Bool} {env : Env} (mk : α → D) (c : α → Bool) (f : α → P) : ∀ (xs : List α) (b : Sto) (acc : List P), acc.length + xs.length < line →
    (∀ s', ok (b ++ [s']) = true) →
    (∀ d ∈ xs, ∃ env', setTg env tg (mk d) = some env' ∧ ∀ acc, flatC acc = true → cond env' (b ++ [acc]) = .ok (c d) (b ++ [acc]) ∧ (c d = true → elt env' (b ++ [acc]) = .ok (.p (f d)) (b ++ [acc]))) →
    lcL tg cond elt ok b.length env (xs.map mk) (b ++ [.lst (acc.map D.p)]) = .ok () (b ++ [.lst ((acc ++ (xs.filter c).map f).map D.p)])
  | [], b, acc, _, hok, _ => by simp [lcL, hok]
  | d :: xs, b, acc, hl, hok, h => by
    obtain ⟨env', h1, h2⟩ := h d List.mem_cons_self
    obtain ⟨h3, h4⟩ := h2 _ (flatC_lst acc)
    simp only [List.length_cons] at hl
    simp only [List.map_cons, lcL, hok, h1, if_true, h3, R.calm_ok, R.bind_ok]
    cases hc : c d with
    | true =>
      simp only [if_true, h4 hc, R.calm_ok, R.bind_ok]
      have e : (b ++ [Cell.lst (acc.map D.p)])[b.length]? = some (.lst (acc.map D.p)) := by simp
      rw [e]
      have hl' : (acc.map D.p).length < line := by simp; omega
      simp only [if_pos hl']
      have := lcL_gen mk c f xs b (acc ++ [f d]) (by simp; omega) hok (fun d hd => h d (List.mem_cons_of_mem _ hd))
      simp only [List.map_append, List.map_cons, List.map_nil] at this
      rw [show (b ++ [Cell.lst (acc.map D.p)]).set b.length (.lst (acc.map D.p ++ [D.p (f d)])) = b ++ [.lst (acc.map D.p ++ [D.p (f d)])] by simp]
      rw [this]
      simp [List.filter_cons, hc]
    | false =>
      simp only [Bool.false_eq_true, if_false]
      have := lcL_gen mk c f xs b acc (by omega) hok (fun d hd => h d (List.mem_cons_of_mem _ hd))
      rw [this]
      simp [List.filter_cons, hc]
theorem lc_gen {α : Type} {G : Prog} {cf ci : Nat → List D → M D} {own : List Nat} {tg : Tg} {ik : ItK} {its cs : List E} {elt : E} {env : Env} {s : Sto} (as : List α) (mk : α → D) (c : α → Bool) (f : α → P) (hs : Flat s) {ds : List D} (h1 : evEs G cf ci its env s = .ok ds s) (h2 : items ik ds s = some (as.map mk)) (hl : as.length < line)
    (hok : ∀ s', stands ik ds s (s ++ [s']) = true)
    (h : ∀ d ∈ as, ∃ env', setTg (wipeE env own) tg (mk d) = some env' ∧ ∀ s', Flat s' → evC G cf ci cs env' s' = .ok (c d) s' ∧ (c d = true → evE G cf ci elt env' s' = .ok (.p (f d)) s')) :
    evE G cf ci (.lc false own tg ik its cs elt) env s = .ok (.p (.lst ((as.filter c).map f))) s := by
  simp only [evE]
  show (evEs G cf ci its env s).bind _ = _
  rw [h1]
  simp only [R.bind_ok, h2]
  have := lcL_gen (tg := tg) (cond := fun env' => evC G cf ci cs env') (elt := fun env' => evE G cf ci elt env') (ok := fun s' => stands ik ds s s') (env := wipeE env own) mk c f as s [] (by simpa using hl) hok (fun d hd => by
    obtain ⟨env', k1, k2⟩ := h d hd
    exact ⟨env', k1, fun acc ha => k2 (s ++ [acc]) (hs.app (.one ha))⟩)
  simp only [List.map_nil, List.nil_append] at this
  rw [this]
  simp only [R.bind_ok, lcDone, Bool.false_eq_true, if_false]
  have ha := hs.all s.length s.length
  simp only [List.take_length] at ha
  have hp : pall (((as.filter c).map f).map D.p) = some ((as.filter c).map f) := pall_map _
  simp only [List.length_append, List.length_cons, List.length_nil, Nat.zero_add, List.take_left, ha, and_self, if_true, view]
  rw [List.getElem?_append_right (Nat.le_refl _)]
  simp only [Nat.sub_self, List.getElem?_cons_zero, hp, Option.map_some]
theorem lcK_gen {α : Type} {G : Prog} {cf ci : Nat → List D → M D} {own : List Nat} {tg : Tg} {ik : ItK} {its cs : List E} {elt : E} {env : Env} {s : Sto} (as : List α) (mk : α → D) (c : α → Bool) (f : α → P) (hs : Flat s) {ds : List D} (h1 : evEs G cf ci its env s = .ok ds s) (h2 : items ik ds s = some (as.map mk)) (hl : as.length < line)
    (hok : ∀ s', stands ik ds s (s ++ [s']) = true)
    (h : ∀ d ∈ as, ∃ env', setTg (wipeE env own) tg (mk d) = some env' ∧ ∀ s', Flat s' → evC G cf ci cs env' s' = .ok (c d) s' ∧ (c d = true → evE G cf ci elt env' s' = .ok (.p (f d)) s')) :
    evE G cf ci (.lc true own tg ik its cs elt) env s = .ok (.ref s.length) (s ++ [.lst (((as.filter c).map f).map D.p)]) := by
  simp only [evE]
  show (evEs G cf ci its env s).bind _ = _
  rw [h1]
  simp only [R.bind_ok, h2]
  have := lcL_gen (tg := tg) (cond := fun env' => evC G cf ci cs env') (elt := fun env' => evE G cf ci elt env') (ok := fun s' => stands ik ds s s') (env := wipeE env own) mk c f as s [] (by simpa using hl) hok (fun d hd => by
    obtain ⟨env', k1, k2⟩ := h d hd
    exact ⟨env', k1, fun acc ha => k2 (s ++ [acc]) (hs.app (.one ha))⟩)
  simp only [List.map_nil, List.nil_append] at this
  rw [this]
  simp only [R.bind_ok, lcDone, if_true]
/-- without a test -/
theorem lc_map {α : Type} {G : Prog} {cf ci : Nat → List D → M D} {own : List Nat} {tg : Tg} {ik : ItK} {its : List E} {elt : E} {env : Env} {s : Sto} (as : List α) (mk : α → D) (f : α → P) (hs : Flat s) {ds : List D} (h1 : evEs G cf ci its env s = .ok ds s) (h2 : items ik ds s = some (as.map mk)) (hl : as.length < line)
    (hok : ∀ s', stands ik ds s (s ++ [s']) = true)
    (h : ∀ d ∈ as, ∃ env', setTg (wipeE env own) tg (mk d) = some env' ∧ ∀ s', Flat s' → evE G cf ci elt env' s' = .ok (.p (f d)) s') :
    evE G cf ci (.lc false own tg ik its [] elt) env s = .ok (.p (.lst (as.map f))) s := by
  have := lc_gen (cs := []) (elt := elt) as mk (fun _ => true) f hs h1 h2 hl hok (fun d hd => by
    obtain ⟨env', k1, k2⟩ := h d hd
    exact ⟨env', k1, fun s' hs' => ⟨by simp, fun _ => k2 s' hs'⟩⟩)
  rwa [List.filter_eq_self.mpr (fun _ _ => rfl)] at this
@[simp] theorem items_tup (xs : List P) (s : Sto) : items .seq [.p (.tup xs)] s = some (xs.map D.p) := rfl
@[simp] theorem items_lst (xs : List P) (s : Sto) : items .seq [.p (.lst xs)] s = some (xs.map D.p) := rfl
@[simp] theorem items_zip (xs ys : List P) (s : Sto) : items .zip [.p (.tup xs), .p (.tup ys)] s = some ((xs.zip ys).map fun q => .p (.tup [q.1, q.2])) := rfl
@[simp] theorem stands_p (k : ItK) (x : P) (s t : Sto) : stands k [.p x] s t = true := by cases k <;> rfl
@[simp] theorem stands_2 (k : ItK) (x y : D) (s t : Sto) : stands k [x, y] s t = true := by cases k <;> simp [stands]
theorem ev_lc {G : Prog} {cf ci : Nat → List D → M D} {m : Bool} {own : List Nat} {tg : Tg} {ik : ItK} {its cs : List E} {elt : E} {env : Env} {s : Sto} : evE G cf ci (.lc m own tg ik its cs elt) env s = (evEs G cf ci its env s).bind fun ds s => match items ik ds s with
    | some xs => (lcL tg (fun env' => evC G cf ci cs env') (fun env' => evE G cf ci elt env') (fun s' => stands ik ds s s') s.length (wipeE env own) xs (s ++ [.lst []])).bind fun _ s' => lcDone m s.length s'
    | none => .bad := by
  conv => lhs; simp only [evE]
  try rfl
end TH
end T_U2
section T_U3
set_option linter.all false
set_option Elab.async false
namespace TH
theorem call_eq {G : Prog} {k f : Nat} {ds : List D} {s : Sto} {fd : FDef} (h : G.fn f = some fd) (hl : ds.length = fd.npar) : callF G (k + 1) f ds s = finish fd.mode s (execs G (callF G k) (callF G (k - 1)) fd.body (ds.map some ++ List.replicate (fd.nloc - ds.length) none) s) := by
  simp only [callF, h, if_pos hl]
/-! ### built-ins on data -/
section
variable (m : Bool) (s : Sto)
theorem runBi_ff {b : Bi} (h : b.changes = false) (ds : List D) : runBi false b ds s = match views s ds with
    | some xs => match biP b xs with
      | some x => .ok (.p x) s
      | none => .bad
    | none => .bad := by
  simp only [runBi, h, Bool.false_and, Bool.false_eq_true, if_false]
  rfl
@[simp] theorem runBi_isinst (t : Ty) (ds : List D) : runBi false (.isinst t) ds s = match views s ds with
    | some xs => match biP (.isinst t) xs with
      | some x => .ok (.p x) s
      | none => .bad
    | none => .bad := runBi_ff s rfl ds
@[simp] theorem runBi_len (ds : List D) : runBi false .len ds s = match views s ds with
    | some xs => match biP .len xs with
      | some x => .ok (.p x) s
      | none => .bad
    | none => .bad := runBi_ff s rfl ds
@[simp] theorem runBi_toList (ds : List D) : runBi false .toList ds s = match views s ds with
    | some xs => match biP .toList xs with
      | some x => .ok (.p x) s
      | none => .bad
    | none => .bad := runBi_ff s rfl ds
@[simp] theorem runBi_toTuple (ds : List D) : runBi false .toTuple ds s = match views s ds with
    | some xs => match biP .toTuple xs with
      | some x => .ok (.p x) s
      | none => .bad
    | none => .bad := runBi_ff s rfl ds
@[simp] theorem runBi_all (ds : List D) : runBi false .all ds s = match views s ds with
    | some xs => match biP .all xs with
      | some x => .ok (.p x) s
      | none => .bad
    | none => .bad := runBi_ff s rfl ds
@[simp] theorem runBi_toInt (ds : List D) : runBi false .toInt ds s = match views s ds with
    | some xs => match biP .toInt xs with
      | some x => .ok (.p x) s
      | none => .bad
    | none => .bad := runBi_ff s rfl ds
@[simp] theorem runBi_toStr (ds : List D) : runBi false .toStr ds s = match views s ds with
    | some xs => match biP .toStr xs with
      | some x => .ok (.p x) s
      | none => .bad
    | none => .bad := runBi_ff s rfl ds
@[simp] theorem runBi_abs (ds : List D) : runBi false .abs ds s = match views s ds with
    | some xs => match biP .abs xs with
      | some x => .ok (.p x) s
      | none => .bad
    | none => .bad := runBi_ff s rfl ds
@[simp] theorem runBi_join (ds : List D) : runBi false .join ds s = match views s ds with
    | some xs => match biP .join xs with
      | some x => .ok (.p x) s
      | none => .bad
    | none => .bad := runBi_ff s rfl ds
@[simp] theorem runBi_partition (ds : List D) : runBi false .partition ds s = match views s ds with
    | some xs => match biP .partition xs with
      | some x => .ok (.p x) s
      | none => .bad
    | none => .bad := runBi_ff s rfl ds
@[simp] theorem runBi_split (ds : List D) : runBi false .split ds s = match views s ds with
    | some xs => match biP .split xs with
      | some x => .ok (.p x) s
      | none => .bad
    | none => .bad := runBi_ff s rfl ds
@[simp] theorem runBi_replace (ds : List D) : runBi false .replace ds s = match views s ds with
    | some xs => match biP .replace xs with
      | some x => .ok (.p x) s
      | none => .bad
    | none => .bad := runBi_ff s rfl ds
@[simp] theorem runBi_startswith (ds : List D) : runBi false .startswith ds s = match views s ds with
    | some xs => match biP .startswith xs with
      | some x => .ok (.p x) s
      | none => .bad
    | none => .bad := runBi_ff s rfl ds
@[simp] theorem runBi_endswith (ds : List D) : runBi false .endswith ds s = match views s ds with
    | some xs => match biP .endswith xs with
      | some x => .ok (.p x) s
      | none => .bad
    | none => .bad := runBi_ff s rfl ds
@[simp] theorem runBi_dget (ds : List D) : runBi false .dget ds s = match views s ds with
    | some xs => match biP .dget xs with
      | some x => .ok (.p x) s
      | none => .bad
    | none => .bad := runBi_ff s rfl ds
@[simp] theorem recv_join (x : List Nat) : recvOk .join s (.p (.str x)) = true := rfl
@[simp] theorem recv_partition (x : List Nat) : recvOk .partition s (.p (.str x)) = true := rfl
@[simp] theorem recv_split (x : List Nat) : recvOk .split s (.p (.str x)) = true := rfl
@[simp] theorem recv_replace (x : List Nat) : recvOk .replace s (.p (.str x)) = true := rfl
@[simp] theorem recv_startswith (x : List Nat) : recvOk .startswith s (.p (.str x)) = true := rfl
@[simp] theorem recv_endswith (x : List Nat) : recvOk .endswith s (.p (.str x)) = true := rfl
@[simp] theorem recv_dget (k v : List P) : recvOk .dget s (.p (.dct k v)) = true := rfl
end
@[simp] theorem biP_len_str (x : List Nat) : biP .len [.str x] = if x.length ≤ line then some (.int x.length) else none := rfl
@[simp] theorem biP_len_tup (x : List P) : biP .len [.tup x] = some (.int x.length) := rfl
@[simp] theorem biP_len_lst (x : List P) : biP .len [.lst x] = some (.int x.length) := rfl
@[simp] theorem biP_isinst (t : Ty) (x : P) : biP (.isinst t) [x] = (isTy t x).map .bl := rfl
@[simp] theorem isTy_str (t : Ty) (x : List Nat) : isTy t (.str x) = some (decide (t = .str)) := rfl
@[simp] theorem isTy_int (t : Ty) (x : Int) : isTy t (.int x) = some (decide (t = .int)) := rfl
@[simp] theorem isTy_bl (t : Ty) (x : Bool) : isTy t (.bl x) = some (decide (t = .bool) || decide (t = .int)) := rfl
@[simp] theorem isTy_tup (t : Ty) (x : List P) : isTy t (.tup x) = some (decide (t = .tuple)) := rfl
@[simp] theorem isTy_lst (t : Ty) (x : List P) : isTy t (.lst x) = some (decide (t = .list)) := rfl
@[simp] theorem isTy_non (t : Ty) : isTy t .non = some false := by cases t <;> rfl
@[simp] theorem biP_toList_l (x : List P) : biP .toList [.lst x] = some (.lst x) := rfl
@[simp] theorem biP_toList_t (x : List P) : biP .toList [.tup x] = some (.lst x) := rfl
@[simp] theorem biP_toTuple_l (x : List P) : biP .toTuple [.lst x] = some (.tup x) := rfl
@[simp] theorem biP_toTuple_t (x : List P) : biP .toTuple [.tup x] = some (.tup x) := rfl
theorem all_map {α : Type} (xs : List α) (f : α → Bool) : biP .all [.lst (xs.map fun a => .bl (f a))] = some (.bl (xs.all f)) := by
  have : boolsOf (xs.map fun a => P.bl (f a)) = some (xs.map f) := by
    have := boolsOf_map (xs.map f)
    rwa [List.map_map] at this
  simp only [biP, this, Option.map_some]
  congr 2
  rw [List.all_map]; rfl
theorem biP_all_l (x : List P) : biP .all [.lst x] = (boolsOf x).map fun bs => .bl (bs.all id) := rfl
@[simp] theorem boolsOf_map' {α : Type} (f : α → Bool) (x : List α) : boolsOf (x.map fun a => P.bl (f a)) = some (x.map f) := by
  have := boolsOf_map (x.map f)
  rwa [List.map_map] at this
@[simp] theorem biP_toInt_i (i : Int) : biP .toInt [.int i] = some (.int i) := rfl
@[simp] theorem biP_toInt_b (b : Bool) : biP .toInt [.bl b] = some (.int (if b then 1 else 0)) := rfl
@[simp] theorem biP_toInt_s (x : List Nat) : biP .toInt [.str x] = if x.length ≤ 640 then (intOf x).map .int else none := rfl
@[simp] theorem biP_toStr_i (i : Int) : biP .toStr [.int i] = if i.natAbs < 1000000000000000000 then some (.str (intS i)) else none := rfl
@[simp] theorem biP_toStr_s (x : List Nat) : biP .toStr [.str x] = some (.str x) := rfl
@[simp] theorem biP_join (x : List Nat) (ys : List P) : biP .join [.str x, .lst ys] = (strsOf ys).bind fun zs => if (zs.map (·.length)).sum + zs.length * x.length ≤ line then some (.str (joinS x zs)) else none := rfl
@[simp] theorem strsOf_map' {α : Type} (f : α → List Nat) (x : List α) : strsOf (x.map fun a => P.str (f a)) = some (x.map f) := by
  have := strsOf_map (x.map f)
  rwa [List.map_map] at this
@[simp] theorem strsOf_nil : strsOf [] = some [] := rfl
@[simp] theorem strsOf_cons (x : List Nat) (r : List P) : strsOf (.str x :: r) = (strsOf r).map (x :: ·) := rfl
/-! ### comparison -/
@[simp] theorem cmpP_eq (x y : P) : cmpP .eq x y = pyEq eqN x y := rfl
@[simp] theorem cmpP_ne (x y : P) : cmpP .ne x y = (pyEq eqN x y).map (!·) := rfl
@[simp] theorem cmpP_lt (x y : Int) : cmpP .lt (.int x) (.int y) = some (decide (x < y)) := rfl
@[simp] theorem cmpP_le (x y : Int) : cmpP .le (.int x) (.int y) = some (decide (x ≤ y)) := rfl
@[simp] theorem cmpP_gt (x y : Int) : cmpP .gt (.int x) (.int y) = some (decide (y < x)) := rfl
@[simp] theorem cmpP_ge (x y : Int) : cmpP .ge (.int x) (.int y) = some (decide (y ≤ x)) := rfl
@[simp] theorem cmpP_ges (x y : List Nat) : cmpP .ge (.str x) (.str y) = some (!strLt x y) := rfl
@[simp] theorem cmpP_in (x y : P) : cmpP .inn x y = isIn x y := rfl
@[simp] theorem cmpP_nin (x y : P) : cmpP .notIn x y = (isIn x y).map (!·) := rfl
@[simp] theorem isIn_ss (c : Nat) (s : List Nat) : isIn (.str [c]) (.str s) = some (decide (c ∈ s)) := rfl
@[simp] theorem isIn_dct (x : List Nat) (k v : List P) : isIn (.str x) (.dct k v) = some (decide (P.str x ∈ k)) := rfl
theorem isIn_strs (x : List Nat) (ys : List (List Nat)) : isIn (.str x) (.tup (ys.map P.str)) = some (decide (x ∈ ys)) := by
  have h1 : (scalP (.str x) (.str x) && (ys.map P.str).all fun y => scalP (.str x) y) = true := by simp [scalP]
  simp only [isIn, h1, if_true]
  simp
theorem isIn_2 (x a b : List Nat) : isIn (.str x) (.tup [.str a, .str b]) = some (decide (x = a) || decide (x = b)) := by
  have := isIn_strs x [a, b]
  simpa using this
theorem isIn_3 (x a b c : List Nat) : isIn (.str x) (.tup [.str a, .str b, .str c]) = some (decide (x = a) || (decide (x = b) || decide (x = c))) := by
  have := isIn_strs x [a, b, c]
  simpa using this
@[simp] theorem eq_str (n : Nat) (x y : List Nat) : pyEq n (.str x) (.str y) = some (decide (x = y)) := by
  cases n <;> simp [pyEq, scalP]
@[simp] theorem eq_int (n : Nat) (x y : Int) : pyEq n (.int x) (.int y) = some (decide (x = y)) := by
  cases n <;> simp [pyEq, scalP]
@[simp] theorem eq_bl (n : Nat) (x y : Bool) : pyEq n (.bl x) (.bl y) = some (decide (x = y)) := by
  cases n <;> simp [pyEq, scalP]
@[simp] theorem eq_lnil (x : List P) : pyEq eqN (.lst x) (.lst []) = some x.isEmpty := by
  cases x <;> simp [pyEq, allO]
@[simp] theorem eq_tnil (x : List P) : pyEq eqN (.tup x) (.tup []) = some x.isEmpty := by
  cases x <;> simp [pyEq, allO]
/-! ### indices -/
@[simp] theorem idx_0 (x : P) (r : List P) : idxP (.tup (x :: r)) (.int 0) = some x := by
  have : (0 : Int) < ↑(x :: r).length := by simp
  simp only [idxP, place]
  rw [if_pos ⟨by decide, this⟩]
  rfl
theorem idx_nat (xs : List P) (n : Nat) (h : n < xs.length) : idxP (.tup xs) (.int n) = some xs[n] := by
  simp only [idxP, place]
  rw [if_pos ⟨by omega, by omega⟩]
  simp [h]
theorem idx_natl (xs : List P) (n : Nat) (h : n < xs.length) : idxP (.lst xs) (.int n) = some xs[n] := by
  simp only [idxP, place]
  rw [if_pos ⟨by omega, by omega⟩]
  simp [h]
@[simp] theorem idx_1 (x y : P) (r : List P) : idxP (.tup (x :: y :: r)) (.int 1) = some y := idx_nat (x :: y :: r) 1 (by simp)
@[simp] theorem idx_2 (x y z : P) (r : List P) : idxP (.tup (x :: y :: z :: r)) (.int 2) = some z := idx_nat (x :: y :: z :: r) 2 (by simp)
@[simp] theorem idx_3 (x y z u : P) (r : List P) : idxP (.tup (x :: y :: z :: u :: r)) (.int 3) = some u := idx_nat (x :: y :: z :: u :: r) 3 (by simp)
@[simp] theorem idxl_0 (x : P) (r : List P) : idxP (.lst (x :: r)) (.int 0) = some x := idx_natl (x :: r) 0 (by simp)
@[simp] theorem idxl_1 (x y : P) (r : List P) : idxP (.lst (x :: y :: r)) (.int 1) = some y := idx_natl (x :: y :: r) 1 (by simp)
@[simp] theorem idxl_2 (x y z : P) (r : List P) : idxP (.lst (x :: y :: z :: r)) (.int 2) = some z := idx_natl (x :: y :: z :: r) 2 (by simp)
@[simp] theorem bin_addi (i j : Int) : binP .add (.int i) (.int j) = some (.int (i + j)) := rfl
@[simp] theorem bin_subi (i j : Int) : binP .sub (.int i) (.int j) = some (.int (i - j)) := rfl
@[simp] theorem bin_adds (a b : List Nat) : binP .add (.str a) (.str b) = if a.length + b.length ≤ line then some (.str (a ++ b)) else none := rfl
@[simp] theorem bin_addt (a b : List P) : binP .add (.tup a) (.tup b) = if a.length + b.length ≤ line then some (.tup (a ++ b)) else none := rfl
/-! ### loops -/
theorem forL_inv {tg : Tg} {body : Env → Sto → X} {ok : Sto → Bool} (I : List D → Env → Sto → Prop)
    (hs : ∀ d r env s, I (d :: r) env s → ok s = true ∧ ∃ env', setTg env tg d = some env' ∧ ∃ e s', (body env' s = .nx e s' ∨ body env' s = .ct e s') ∧ I r e s')
    (h0 : ∀ env s, I [] env s → ok s = true) : ∀ (xs : List D) (env : Env) (s : Sto), I xs env s → ∃ e s', forL tg body ok xs env s = .nx e s' ∧ I [] e s'
  | [], env, s, h => ⟨env, s, by simp [forL, h0 env s h], h⟩
  | d :: r, env, s, h => by
    obtain ⟨h1, env', h2, e, s', h3, h4⟩ := hs d r env s h
    obtain ⟨e2, s2, h5, h6⟩ := forL_inv I hs h0 r e s' h4
    refine ⟨e2, s2, ?_, h6⟩
    simp only [forL, h1, if_true, h2]
    rcases h3 with h3 | h3 <;> rw [h3] <;> exact h5
/-- a loop that hands something back at the first that fails -/
theorem forL_test {tg : Tg} {body : Env → Sto → X} {ok : Sto → Bool} {s : Sto} (I : Env → Prop) (p : D → Bool) (rt : D) (hok : ok s = true) : ∀ (xs : List D) (env : Env), I env →
    (∀ d ∈ xs, ∀ env, I env → ∃ env', setTg env tg d = some env' ∧ (p d = true → ∃ e, body env' s = .nx e s ∧ I e) ∧ (p d = false → body env' s = .ret rt s)) →
    (xs.all p = true ∧ ∃ e, I e ∧ forL tg body ok xs env s = .nx e s) ∨ (xs.all p = false ∧ forL tg body ok xs env s = .ret rt s)
  | [], env, hI, _ => .inl ⟨rfl, env, hI, by simp [forL, hok]⟩
  | d :: r, env, hI, h => by
    obtain ⟨env', h1, h2, h3⟩ := h d List.mem_cons_self env hI
    cases hp : p d with
    | true =>
      obtain ⟨e, h4, h5⟩ := h2 hp
      rcases forL_test (tg := tg) (body := body) (ok := ok) I p rt hok r e h5 (fun d hd => h d (List.mem_cons_of_mem _ hd)) with ⟨k1, e2, k2, k3⟩ | ⟨k1, k2⟩
      · refine .inl ⟨by simp [hp, k1], e2, k2, ?_⟩
        simp only [forL, hok, if_true, h1, h4, k3]
      · refine .inr ⟨by simp [hp, k1], ?_⟩
        simp only [forL, hok, if_true, h1, h4, k2]
    | false =>
      refine .inr ⟨by simp [hp], ?_⟩
      simp only [forL, hok, if_true, h1, h3 hp]
section
variable {G : Prog} {cf ci : Nat → List D → M D} {tg : Tg} {ik : ItK} {its : List E} {body : List S}
theorem for_test {α : Type} {env : Env} {s : Sto} (as : List α) (mk : α → D) {ds : List D} (I : Env → Prop) (p : α → Bool) (rt : D)
    (h1 : evEs G cf ci its env s = .ok ds s) (h2 : items ik ds s = some (as.map mk)) (hok : stands ik ds s s = true) (hI : I env)
    (h : ∀ a ∈ as, ∀ env, I env → ∃ env', setTg env tg (mk a) = some env' ∧ (p a = true → ∃ e, execs G cf ci body env' s = .nx e s ∧ I e) ∧ (p a = false → execs G cf ci body env' s = .ret rt s)) :
    (as.all p = true ∧ ∃ e, I e ∧ exec G cf ci (.for_ tg ik its body) env s = .nx e s) ∨ (as.all p = false ∧ exec G cf ci (.for_ tg ik its body) env s = .ret rt s) := by
  rw [ex_for, h1]
  simp only [X.of_ok, h2]
  clear h1 h2
  induction as generalizing env with
  | nil => exact .inl ⟨rfl, env, hI, by simp [forL, hok]⟩
  | cons a as ih =>
    obtain ⟨env', k1, k2, k3⟩ := h a List.mem_cons_self env hI
    cases hp : p a with
    | true =>
      obtain ⟨e, k4, k5⟩ := k2 hp
      rcases ih k5 (fun a ha => h a (List.mem_cons_of_mem _ ha)) with ⟨j1, e2, j2, j3⟩ | ⟨j1, j2⟩
      · refine .inl ⟨by simp [hp, j1], e2, j2, ?_⟩
        simp only [List.map_cons, forL, hok, if_true, k1, k4, j3]
      · refine .inr ⟨by simp [hp, j1], ?_⟩
        simp only [List.map_cons, forL, hok, if_true, k1, k4, j2]
    | false =>
      refine .inr ⟨by simp [hp], ?_⟩
      simp only [List.map_cons, forL, hok, if_true, k1, k3 hp]
theorem for_inv {α : Type} {env : Env} {s : Sto} (as : List α) (mk : α → D) {ds : List D} (I : List α → Env → Sto → Prop) {s1 : Sto}
    (h1 : evEs G cf ci its env s = .ok ds s1) (h2 : items ik ds s1 = some (as.map mk)) (hI : I as env s1)
    (h : ∀ a r env s, I (a :: r) env s → stands ik ds s1 s = true ∧ ∃ env', setTg env tg (mk a) = some env' ∧ ∃ e s', execs G cf ci body env' s = .nx e s' ∧ I r e s')
    (h0 : ∀ env s, I [] env s → stands ik ds s1 s = true) :
    ∃ e s', exec G cf ci (.for_ tg ik its body) env s = .nx e s' ∧ I [] e s' := by
  rw [ex_for, h1]
  simp only [X.of_ok, h2]
  clear h1 h2
  suffices hh : ∀ (as : List α) (env : Env) (s : Sto), I as env s → ∃ e s', forL tg (fun env' s' => execs G cf ci body env' s') (fun s' => stands ik ds s1 s') (as.map mk) env s = .nx e s' ∧ I [] e s' from hh as env s1 hI
  intro as
  induction as with
  | nil => exact fun env s hI => ⟨env, s, by simp [forL, h0 env s hI], hI⟩
  | cons a as ih =>
    intro env s hI
    obtain ⟨k0, env', k1, e, s', k2, k3⟩ := h a as env s hI
    obtain ⟨e2, s2, k4, k5⟩ := ih e s' k3
    refine ⟨e2, s2, ?_, k5⟩
    simp only [List.map_cons, forL, k0, if_true, k1, k2, k4]
end
@[simp] theorem notL_int (i : Int) : notL (.int i) = true := rfl
@[simp] theorem notL_tup (i : List P) : notL (.tup i) = true := rfl
@[simp] theorem dget_s (x : List Nat) (d : P) (ks vs : List P) : biP .dget [.dct ks vs, .str x, d] = if notL d then some ((lookP ks vs (.str x)).getD d) else none := rfl
@[simp] theorem idx_dct (x : List Nat) (ks vs : List P) : idxP (.dct ks vs) (.str x) = lookP ks vs (.str x) := rfl
@[simp] theorem look_hit (x : List Nat) (ks vs : List P) (v : P) : lookP (.str x :: ks) (v :: vs) (.str x) = some v := by simp [lookP]
@[simp] theorem look_miss (x y : List Nat) (ks vs : List P) (v : P) (h : ¬ y = x) : lookP (.str y :: ks) (v :: vs) (.str x) = lookP ks vs (.str x) := by simp [lookP, h]
theorem acc_get {b g : Sto} {c : Cell} {m : Nat} (h : b.length = m) : (b ++ c :: g)[m]? = some c := by
  subst h; simp
theorem acc_set {b g : Sto} {c c' : Cell} {m : Nat} (h : b.length = m) : (b ++ c :: g).set m c' = b ++ c' :: g := by
  subst h; simp
theorem low_get {b g : Sto} {n : Nat} (h : n < b.length) : (b ++ g)[n]? = b[n]? := List.getElem?_append_left h
theorem low_set {b g : Sto} {c' : Cell} {n : Nat} (h : n < b.length) : (b ++ g).set n c' = b.set n c' ++ g := List.set_append_left n c' h
theorem set_get {b : Sto} {c : Cell} {n : Nat} (h : n < b.length) : (b.set n c)[n]? = some c := by simp [h]
theorem set_same {b : Sto} {c : Cell} {n : Nat} (h : b[n]? = some c) : b.set n c = b := by
  have hn : n < b.length := (List.getElem?_eq_some_iff.mp h).1
  refine List.ext_getElem? fun i => ?_
  rw [List.getElem?_set]
  split
  · rename_i e; subst e; simp only [hn, if_true, h]
  · rfl
@[simp] theorem fin1r (s : Sto) (d : D) (t : Sto) : finish 1 s (.ret d t) = .ok d t := rfl
@[simp] theorem fin1n (s : Sto) (e : Env) (t : Sto) : finish 1 s (.nx e t) = .ok (.p .non) t := rfl
theorem recv_append {s : Sto} {n : Nat} {xs : List D} (h : s[n]? = some (.lst xs)) : recvOk .append s (.ref n) = true := by simp [recvOk, Bi.recv, h]
theorem recv_extend {s : Sto} {n : Nat} {xs : List D} (h : s[n]? = some (.lst xs)) : recvOk .extend s (.ref n) = true := by simp [recvOk, Bi.recv, h]
theorem recv_pop {s : Sto} {n : Nat} {xs : List D} (h : s[n]? = some (.lst xs)) : recvOk .popAt s (.ref n) = true := by simp [recvOk, Bi.recv, h]
theorem run_append {s : Sto} {n : Nat} {xs : List D} {d : D} (h : s[n]? = some (.lst xs)) (hl : xs.length < line) : runBi false .append [.ref n, d] s = .ok (.p .non) (s.set n (.lst (xs ++ [d]))) := by
  simp [runBi, Bi.changes, biD, h, hl]
theorem run_extend {s : Sto} {n : Nat} {xs : List D} {ys : List P} (h : s[n]? = some (.lst xs)) (hl : xs.length + ys.length ≤ line) : runBi false .extend [.ref n, .p (.lst ys)] s = .ok (.p .non) (s.set n (.lst (xs ++ ys.map D.p))) := by
  simp [runBi, Bi.changes, biD, h, hl]
theorem view_ref {s : Sto} {n : Nat} {xs : List P} (h : s[n]? = some (.lst (xs.map D.p))) : view s (.ref n) = some (.lst xs) := by
  simp [view, h]
theorem views_ref {s : Sto} {n : Nat} {xs : List P} (h : s[n]? = some (.lst (xs.map D.p))) (r : List D) : views s (.ref n :: r) = (views s r).map (P.lst xs :: ·) := by
  simp only [views, view_ref h]
  cases views s r <;> rfl
theorem top_get (s : Sto) (c : Cell) : (s ++ [c])[s.length]? = some c := by simp
theorem top_set (s : Sto) (c c' : Cell) : (s ++ [c]).set s.length c' = s ++ [c'] := by simp
@[simp] theorem mkTup_0 : mkTup [] = .p (.tup []) := rfl
@[simp] theorem mkTup_1 (a : P) : mkTup [.p a] = .p (.tup [a]) := rfl
@[simp] theorem mkTup_2 (a b : P) : mkTup [.p a, .p b] = .p (.tup [a, b]) := rfl
@[simp] theorem mkTup_3 (a b c : P) : mkTup [.p a, .p b, .p c] = .p (.tup [a, b, c]) := rfl
@[simp] theorem mkTup_4 (a b c d : P) : mkTup [.p a, .p b, .p c, .p d] = .p (.tup [a, b, c, d]) := rfl
@[simp] theorem mkTup_5 (a b c d e : P) : mkTup [.p a, .p b, .p c, .p d, .p e] = .p (.tup [a, b, c, d, e]) := rfl
@[simp] theorem mkTup_6 (a b c d e f : P) : mkTup [.p a, .p b, .p c, .p d, .p e, .p f] = .p (.tup [a, b, c, d, e, f]) := rfl
@[simp] theorem mkTup_7 (a b c d e f g : P) : mkTup [.p a, .p b, .p c, .p d, .p e, .p f, .p g] = .p (.tup [a, b, c, d, e, f, g]) := rfl
/-- a comprehension without a test, the store known -/
theorem lc_at {α : Type} {G : Prog} {cf ci : Nat → List D → M D} {own : List Nat} {tg : Tg} {ik : ItK} {its : List E} {elt : E} {env : Env} {s : Sto} (as : List α) (mk : α → D) (f : α → P) (hs : Flat s) {ds : List D} (h1 : evEs G cf ci its env s = .ok ds s) (h2 : items ik ds s = some (as.map mk)) (hl : as.length < line)
    (hok : ∀ s', stands ik ds s (s ++ [s']) = true)
    (h : ∀ d ∈ as, ∃ env', setTg (wipeE env own) tg (mk d) = some env' ∧ ∀ c, flatC c = true → evE G cf ci elt env' (s ++ [c]) = .ok (.p (f d)) (s ++ [c])) :
    evE G cf ci (.lc false own tg ik its [] elt) env s = .ok (.p (.lst (as.map f))) s := by
  rw [ev_lc, h1]
  simp only [R.bind_ok, h2]
  have := lcL_gen (tg := tg) (cond := fun env' => evC G cf ci [] env') (elt := fun env' => evE G cf ci elt env') (ok := fun s' => stands ik ds s s') (env := wipeE env own) mk (fun _ => true) f as s [] (by simpa using hl) hok (fun d hd => by
    obtain ⟨env', k1, k2⟩ := h d hd
    exact ⟨env', k1, fun acc ha => ⟨by simp, fun _ => k2 acc ha⟩⟩)
  rw [List.filter_eq_self.mpr (fun _ _ => rfl)] at this
  simp only [List.map_nil, List.nil_append] at this
  rw [this]
  simp only [R.bind_ok, lcDone, Bool.false_eq_true, if_false]
  have ha := hs.all s.length s.length
  simp only [List.take_length] at ha
  have hp : pall ((as.map f).map D.p) = some (as.map f) := pall_map _
  simp only [List.length_append, List.length_cons, List.length_nil, Nat.zero_add, List.take_left, ha, and_self, if_true, view]
  rw [List.getElem?_append_right (Nat.le_refl _)]
  simp only [Nat.sub_self, List.getElem?_cons_zero, hp, Option.map_some]
/-- values of texts, numbers, tuples and lists of such -/
inductive Al : Nat → P → Prop where
  | str (n : Nat) (x : List Nat) : Al n (.str x)
  | int (n : Nat) (i : Int) : Al n (.int i)
  | tup {n : Nat} {xs : List P} (h : ∀ x ∈ xs, Al n x) (hl : xs.length < 1000) : Al (n + 1) (.tup xs)
  | lst {n : Nat} {xs : List P} (h : ∀ x ∈ xs, Al n x) (hl : xs.length < 1000) : Al (n + 1) (.lst xs)
theorem Al.mono {n m : Nat} {x : P} (h : Al n x) (hm : n ≤ m) : Al m x := by
  induction h generalizing m with
  | str n x => exact .str m x
  | int n x => exact .int m x
  | tup h hl ih =>
    obtain ⟨m, rfl⟩ := Nat.exists_eq_add_of_le' (by omega : 1 ≤ m)
    exact .tup (fun x hx => ih x hx (by omega)) hl
  | lst h hl ih =>
    obtain ⟨m, rfl⟩ := Nat.exists_eq_add_of_le' (by omega : 1 ≤ m)
    exact .lst (fun x hx => ih x hx (by omega)) hl
end TH
end T_U3
section T_U4
set_option linter.all false
set_option Elab.async false
namespace TH
/-! ### names, pickers, questions, deeds, as plain data -/
abbrev LET : List Nat := [97, 98, 99, 100, 101, 102, 103, 104, 105, 106, 107, 108, 109, 110, 111, 112, 113, 114, 115, 116, 117, 118, 119, 120, 121, 122]
abbrev SIG : List Nat := [97, 98, 99, 100, 101, 102, 103, 104, 105, 106, 107, 108, 109, 110, 111, 112, 113, 114, 115, 116, 117, 118, 119, 120, 121, 122, 48, 49, 50, 51, 52, 53, 54, 55, 56, 57]
def isRun (x sg : List Nat) (n : Int) : Bool := decide ((1 : Int) ≤ x.length) && decide ((x.length : Int) ≤ n) && x.all (fun c => decide (c ∈ sg))
abbrev Txt := List Nat
def isWord (w : Txt) : Bool := isRun w LET 8
def isKey (w : Txt) : Bool := isRun w LET 6
def isVal (w : Txt) : Bool := isRun w SIG 6
def rising : List Txt → Bool
  | a :: b :: r => strLt a b && rising (b :: r)
  | _ => true
def strsP (xs : List Txt) : List P := xs.map P.str
@[simp] theorem strsP_len (xs : List Txt) : (strsP xs).length = xs.length := by simp [strsP]
/-- a pair -/
abbrev Tag := Txt × Txt
def Tag.P (t : Tag) : P := .tup [.str t.1, .str t.2]
def tagsP (ts : List Tag) : P := .tup (ts.map Tag.P)
def isTags (ts : List Tag) : Bool := decide ((ts.length : Int) ≤ 4) && (ts.all (fun q => isKey q.1 && isVal q.2) && rising (ts.map (·.1)))
structure Cd where
  key : Txt
  how : Txt
  vals : List Txt
def IN : Txt := [105, 110]
def OUT : Txt := [111, 117, 116]
def Cd.P (c : Cd) : P := .tup [.str c.key, .str c.how, .tup (strsP c.vals)]
def Cd.ok (c : Cd) : Bool := isKey c.key && ((decide (c.how = [105, 110]) || decide (c.how = [111, 117, 116])) && (decide ((1 : Int) ≤ c.vals.length) && decide ((c.vals.length : Int) ≤ 4) && (c.vals.all isVal && rising c.vals)))
structure Nm where
  w : Txt
  ts : List Tag
def Nm.P (n : Nm) : P := .tup [.str n.w, tagsP n.ts]
def Nm.ok (n : Nm) : Bool := isWord n.w && isTags n.ts
structure Pk where
  w : Txt
  cs : List Cd
def Pk.P (p : Pk) : P := .tup [.str p.w, .tup (p.cs.map Cd.P)]
def Pk.ok (p : Pk) : Bool := (decide (p.w = []) || isWord p.w) && (decide ((p.cs.length : Int) ≤ 4) && p.cs.all Cd.ok)
def Pk.okw (p : Pk) : Bool := p.ok && !decide (p.w = [])
inductive Q where
  | num (n : Int)
  | at (p : Pk) (n : Int)
  | over (h : Txt) (p : Pk) (n : Int)
  | join (h : Txt) (a b : Q)
  | by (h : Txt) (ks : List Txt) (q : Q)
  | whr (h : Txt) (n : Int) (q : Q)
  | rank (n : Int) (q : Q)
def NUM : Txt := [110, 117, 109]
def AT : Txt := [97, 116]
def OVER : Txt := [111, 118, 101, 114]
def JOIN : Txt := [106, 111, 105, 110]
def BY : Txt := [98, 121]
def WHERE : Txt := [119, 104, 101, 114, 101]
def RANK : Txt := [114, 97, 110, 107]
def Q.P : Q → P
  | .num n => .tup [.str [110, 117, 109], .int n]
  | .at p n => .tup [.str [97, 116], p.P, .int n]
  | .over h p n => .tup [.str [111, 118, 101, 114], .str h, p.P, .int n]
  | .join h a b => .tup [.str [106, 111, 105, 110], .str h, a.P, b.P]
  | .by h ks q => .tup [.str [98, 121], .str h, .tup (strsP ks), q.P]
  | .whr h n q => .tup [.str [119, 104, 101, 114, 101], .str h, .int n, q.P]
  | .rank n q => .tup [.str [114, 97, 110, 107], .int n, q.P]
def FOLDS : List Txt := [[99, 111, 117, 110, 116], [115, 117, 109], [108, 101, 97, 115, 116], [109, 111, 115, 116], [102, 105, 114, 115, 116], [108, 97, 115, 116], [114, 105, 115, 101]]
def JOINS : List Txt := [[112, 108, 117, 115], [109, 105, 110, 117, 115], [116, 105, 109, 101, 115], [108, 101, 97, 115, 116], [109, 111, 115, 116]]
def GROUPS : List Txt := [[99, 111, 117, 110, 116], [115, 117, 109], [108, 101, 97, 115, 116], [109, 111, 115, 116]]
def SIDES : List Txt := [[98, 101, 108, 111, 119], [97, 98, 111, 118, 101], [105, 115]]
def HOWS : List Txt := [[98, 101, 108, 111, 119], [97, 98, 111, 118, 101]]
def inR (i lo hi : Int) : Bool := decide (lo ≤ i) && decide (i ≤ hi)
def areKeys (ks : List Txt) : Bool := decide ((ks.length : Int) ≤ 4) && ks.all isKey && rising ks
def Q.form : Q → Bool
  | .num n => inR n (-1000000) 1000000
  | .at p n => p.okw && inR n 1 200
  | .over h p n => decide (h ∈ FOLDS) && (p.okw && inR n 1 200)
  | .join h _ _ => decide (h ∈ JOINS)
  | .by h ks _ => decide (h ∈ GROUPS) && areKeys ks
  | .whr h n _ => decide (h ∈ SIDES) && inR n (-1000000) 1000000
  | .rank n _ => inR n 1 99
def Q.size : Q → Nat
  | .join _ a b => 1 + a.size + b.size
  | .by _ _ q => 1 + q.size
  | .whr _ _ q => 1 + q.size
  | .rank _ q => 1 + q.size
  | _ => 1
def Q.depth : Q → Nat
  | .join _ a b => 1 + max a.depth b.depth
  | .by _ _ q => 1 + q.depth
  | .whr _ _ q => 1 + q.depth
  | .rank _ q => 1 + q.depth
  | _ => 0
def Q.inners : Q → List Q
  | .join _ a b => [a, b]
  | .by _ _ q => [q]
  | .whr _ _ q => [q]
  | .rank _ q => [q]
  | _ => []
def Q.rows : Q → Bool
  | .num _ => false
  | .join _ a b => a.rows || b.rows
  | _ => true
def Q.inner : Q → Bool
  | .join _ a b => a.inner && a.form && (b.inner && b.form)
  | .by _ _ q => q.inner && q.form && q.rows
  | .whr _ _ q => q.inner && q.form && q.rows
  | .rank _ q => q.inner && q.form && q.rows
  | _ => true
/-- a good question of rows -/
def Q.ok (q : Q) : Prop := q.form = true ∧ q.inner = true ∧ q.rows = true ∧ q.size ≤ 60 ∧ q.depth ≤ 7
inductive Dd where
  | tell (n : Nm) (t w : Int)
  | strike (n : Int)
  | turn (t : Int)
  | write (w : Txt) (q : Q) (st : Int)
  | wake (w : Txt) (q : Q) (h : Txt) (b hd : Int)
  | rest (w : Txt)
  | silence (p : Pk) (a b : Int)
  | lift (n : Int)
def Dd.P : Dd → P
  | .tell n t w => .tup [.str [116, 101, 108, 108], n.P, .int t, .int w]
  | .strike n => .tup [.str [115, 116, 114, 105, 107, 101], .int n]
  | .turn t => .tup [.str [116, 117, 114, 110], .int t]
  | .write w q st => .tup [.str [119, 114, 105, 116, 101], .str w, q.P, .int st]
  | .wake w q h b hd => .tup [.str [119, 97, 107, 101], .str w, q.P, .str h, .int b, .int hd]
  | .rest w => .tup [.str [114, 101, 115, 116], .str w]
  | .silence p a b => .tup [.str [115, 105, 108, 101, 110, 99, 101], p.P, .int a, .int b]
  | .lift n => .tup [.str [108, 105, 102, 116], .int n]
def Dd.ok : Dd → Prop
  | .tell n t w => n.ok = true ∧ inR t 0 9999 = true ∧ inR w (-1000000) 1000000 = true
  | .strike n => inR n 0 99999 = true
  | .turn t => inR t 0 9999 = true
  | .write w q st => isWord w = true ∧ q.ok ∧ inR st 1 60 = true
  | .wake w q h b hd => isWord w = true ∧ q.ok ∧ h ∈ HOWS ∧ inR b (-1000000) 1000000 = true ∧ inR hd 1 60 = true
  | .rest w => isWord w = true
  | .silence p a b => p.ok = true ∧ inR a 0 9999 = true ∧ inR b 0 9999 = true ∧ a ≤ b
  | .lift n => inR n 0 99999 = true
/-! ### small facts -/
theorem isRun_len {x sg : Txt} {n : Int} (h : isRun x sg n = true) : (1 : Int) ≤ x.length ∧ (x.length : Int) ≤ n := by
  simp only [isRun, Bool.and_eq_true, decide_eq_true_eq] at h
  exact h.1
theorem isRun_mem {x sg : Txt} {n : Int} (h : isRun x sg n = true) : ∀ c ∈ x, c ∈ sg := by
  simp only [isRun, Bool.and_eq_true, List.all_eq_true, decide_eq_true_eq] at h
  exact h.2
theorem word_len {w : Txt} (h : isWord w = true) : 1 ≤ w.length ∧ w.length ≤ 8 := by have := isRun_len h; omega
theorem key_len {w : Txt} (h : isKey w = true) : 1 ≤ w.length ∧ w.length ≤ 6 := by have := isRun_len h; omega
theorem val_len {w : Txt} (h : isVal w = true) : 1 ≤ w.length ∧ w.length ≤ 6 := by have := isRun_len h; omega
theorem lineEq : line = 16777216 := rfl
/-- rising, by places -/
theorem rising_iff : ∀ {xs : List Txt}, rising xs = true ↔ ∀ k, (h : k + 1 < xs.length) → strLt xs[k] xs[k + 1] = true
  | [] => by simp [rising]
  | [a] => by simp [rising]
  | a :: b :: r => by
    simp only [rising, Bool.and_eq_true, rising_iff (xs := b :: r)]
    constructor
    · rintro ⟨h1, h2⟩ k hk
      cases k with
      | zero => exact h1
      | succ k => exact h2 k (by simpa using hk)
    · intro h
      exact ⟨h 0 (by simp), fun k hk => h (k + 1) (by simpa using hk)⟩
/-- nothing in it is long -/
def Nm.sm (n : Nm) : Prop := n.w.length < line ∧ n.ts.length < 1000000 ∧ ∀ x ∈ n.ts, x.1.length < line ∧ x.2.length < line
def Cd.sm (c : Cd) : Prop := c.key.length < line ∧ c.vals.length < 1000000 ∧ ∀ x ∈ c.vals, x.length < line
def Pk.sm (p : Pk) : Prop := p.w.length < line ∧ p.cs.length < 1000000 ∧ ∀ c ∈ p.cs, c.sm
def keysSm (ks : List Txt) : Prop := ks.length < 1000000 ∧ ∀ x ∈ ks, x.length < line
def Q.sm : Q → Prop
  | .at p _ => p.sm
  | .over h p _ => h.length < line ∧ p.sm
  | .by h ks _ => h.length < line ∧ keysSm ks
  | _ => True
theorem Nm.sm_of {n : Nm} (h : n.ok = true) : n.sm := by
  simp only [Nm.ok, isTags, Bool.and_eq_true, decide_eq_true_eq, List.all_eq_true] at h
  obtain ⟨h1, h2, h3, _⟩ := h
  refine ⟨by have := word_len h1; simp only [line]; omega, by omega, fun x hx => ?_⟩
  have h4 := key_len (h3 x hx).1
  have h5 := val_len (h3 x hx).2
  simp only [line]; omega
theorem Cd.sm_of {c : Cd} (h : c.ok = true) : c.sm := by
  simp only [Cd.ok, Bool.and_eq_true, decide_eq_true_eq, List.all_eq_true] at h
  obtain ⟨h1, h2, ⟨h3, h4⟩, h5, h6⟩ := h
  refine ⟨by have := key_len h1; simp only [line]; omega, by omega, fun x hx => ?_⟩
  have := val_len (h5 x hx)
  simp only [line]; omega
theorem Pk.sm_of {p : Pk} (h : p.ok = true) : p.sm := by
  simp only [Pk.ok, Bool.and_eq_true, Bool.or_eq_true, decide_eq_true_eq, List.all_eq_true] at h
  obtain ⟨h1, h2, h3⟩ := h
  refine ⟨?_, by omega, fun x hx => Cd.sm_of (h3 x hx)⟩
  rcases h1 with h1 | h1
  · rw [h1]; simp [line]
  · have := word_len h1; simp only [line]; omega
theorem keysSm_of {ks : List Txt} (h : areKeys ks = true) : keysSm ks := by
  simp only [areKeys, Bool.and_eq_true, decide_eq_true_eq, List.all_eq_true] at h
  obtain ⟨⟨h1, h2⟩, _⟩ := h
  refine ⟨by omega, fun x hx => ?_⟩
  have := key_len (h2 x hx)
  simp only [line]; omega
theorem mem_len {x : Txt} {ws : List Txt} (h : decide (x ∈ ws) = true) (hw : ∀ y ∈ ws, y.length < line) : x.length < line := hw x (by simpa using h)
theorem Q.sm_of {q : Q} (h : q.form = true) : q.sm := by
  cases q with
  | num n => exact trivial
  | «at» p n =>
    simp only [Q.form, Pk.okw, Bool.and_eq_true] at h
    exact Pk.sm_of h.1.1
  | over w p n =>
    simp only [Q.form, Pk.okw, Bool.and_eq_true] at h
    exact ⟨mem_len h.1 (by decide), Pk.sm_of h.2.1.1⟩
  | join w a b => exact trivial
  | «by» w ks q =>
    simp only [Q.form, Bool.and_eq_true] at h
    exact ⟨mem_len h.1 (by decide), keysSm_of h.2⟩
  | whr w n q => exact trivial
  | rank n q => exact trivial
end TH
end T_U4
section T_U5
set_option linter.all false
set_option Elab.async false
namespace TH
/-! ### numbers as figures -/
def dg (n : Nat) : Txt := (Nat.toDigits 10 n).map Char.toNat
theorem digChar {d : Nat} (h : d < 10) : (Nat.digitChar d).toNat = 48 + d := by
  have : d = 0 ∨ d = 1 ∨ d = 2 ∨ d = 3 ∨ d = 4 ∨ d = 5 ∨ d = 6 ∨ d = 7 ∨ d = 8 ∨ d = 9 := by omega
  rcases this with rfl | rfl | rfl | rfl | rfl | rfl | rfl | rfl | rfl | rfl <;> rfl
theorem dg_eq (n : Nat) : dg n = if n < 10 then [48 + n] else dg (n / 10) ++ [48 + n % 10] := by
  unfold dg
  rw [Nat.toDigits_eq_if (by decide)]
  split
  · rename_i h; simp [digChar h]
  · simp [digChar (Nat.mod_lt n (by decide : 0 < 10))]
theorem dg_ne (n : Nat) : dg n ≠ [] := by
  simp [dg, Nat.toDigits_ne_nil]
theorem dg_mem {n c : Nat} (h : c ∈ dg n) : 48 ≤ c ∧ c ≤ 57 := by
  induction n using Nat.strongRecOn with
  | _ n ih =>
    rw [dg_eq] at h
    split at h
    · simp at h; omega
    · rcases List.mem_append.mp h with h | h
      · exact ih (n / 10) (by omega) h
      · simp at h; omega
theorem dg_len {n k : Nat} (hk : 0 < k) (h : n < 10 ^ k) : (dg n).length ≤ k := by
  simpa [dg] using (Nat.length_toDigits_le_iff (by decide) hk).mpr h
theorem dg_pos (n : Nat) : 1 ≤ (dg n).length := by
  have := dg_ne n
  cases h : dg n with
  | nil => exact absurd h this
  | cons a r => simp
/-- one figure more -/
def digStep (a : Option Nat) (c : Nat) : Option Nat := match a with
  | some n => if 48 ≤ c ∧ c ≤ 57 then some (n * 10 + (c - 48)) else none
  | none => none
theorem digValF (l : Txt) : digVal l = l.foldl digStep (some 0) := by
  cases l <;> rfl
theorem digVal_dg (n : Nat) : digVal (dg n) = some n := by
  rw [digValF]
  induction n using Nat.strongRecOn with
  | _ n ih =>
    rw [dg_eq]
    split
    · rename_i h
      simp only [List.foldl_cons, List.foldl_nil, digStep]
      rw [if_pos ⟨by omega, by omega⟩]
      congr 1; omega
    · rename_i h
      rw [List.foldl_append, ih (n / 10) (by omega)]
      simp only [List.foldl_cons, List.foldl_nil, digStep]
      rw [if_pos ⟨by omega, by omega⟩]
      congr 1; omega
theorem intS_eq (i : Int) : intS i = if 0 ≤ i then dg i.toNat else 45 :: dg (-i).toNat := by
  have h : intS i = (Int.repr i).toList.map Char.toNat := rfl
  rw [h, Int.repr_eq_if]
  split
  · simp [dg, Nat.repr_eq_ofList_toDigits]
  · simp [dg, Nat.repr_eq_ofList_toDigits]
theorem intS_len {i : Int} {k : Nat} (hk : 0 < k) (h : i.natAbs < 10 ^ k) : (intS i).length ≤ k + 1 := by
  rw [intS_eq]
  split
  · have := dg_len hk (n := i.toNat) (by omega); omega
  · have := dg_len hk (n := (-i).toNat) (by omega)
    simp only [List.length_cons]; omega
theorem intS_ne (i : Int) : intS i ≠ [] := by
  rw [intS_eq]; split
  · exact dg_ne _
  · simp
theorem intOf_intS (i : Int) : intOf (intS i) = some i := by
  rw [intS_eq]
  split
  · rename_i h
    have hm := digVal_dg i.toNat
    cases hd : dg i.toNat with
    | nil => exact absurd hd (dg_ne _)
    | cons a r =>
      have ha : a ≠ 45 := by have := dg_mem (n := i.toNat) (c := a) (by rw [hd]; exact List.mem_cons_self); omega
      rw [hd] at hm
      unfold intOf
      split
      · rename_i e; cases e
      · rename_i e; cases e; exact absurd rfl ha
      · rename_i e; rw [hm]; simp; omega
  · rename_i h
    have hm := digVal_dg (-i).toNat
    simp only [intOf, dg_ne, if_false, hm, Option.map_some, Option.some.injEq]
    simp
    omega
theorem intS_mem {i : Int} {c : Nat} (h : c ∈ intS i) : c = 45 ∨ (48 ≤ c ∧ c ≤ 57) := by
  rw [intS_eq] at h
  split at h
  · exact .inr (dg_mem h)
  · rcases List.mem_cons.mp h with h | h
    · exact .inl h
    · exact .inr (dg_mem h)
/-! ### texts of names, pickers, questions, deeds -/
def br (x : Txt) : Txt := if x = [] then [] else 123 :: (x ++ [125])
def Tag.txt (t : Tag) : Txt := t.1 ++ 61 :: t.2
def Nm.txt (n : Nm) : Txt := n.w ++ br (joinS [44] (n.ts.map Tag.txt))
def Cd.sgn (c : Cd) : Txt := if c.how = [111, 117, 116] then [33, 61] else [61]
def Cd.txt (c : Cd) : Txt := c.key ++ (c.sgn ++ joinS [124] c.vals)
def Pk.txt (p : Pk) : Txt := (if p.w = [] then [42] else p.w) ++ br (joinS [44] (p.cs.map Cd.txt))
def keysTxt (ks : List Txt) : Txt := if ks = [] then [45] else joinS [44] ks
def Q.txt : Q → Txt
  | .num n => 40 :: (joinS [32] [NUM, intS n] ++ [41])
  | .at p n => 40 :: (joinS [32] [AT, p.txt, intS n] ++ [41])
  | .over h p n => 40 :: (joinS [32] [OVER, h, p.txt, intS n] ++ [41])
  | .join h a b => 40 :: (joinS [32] [JOIN, h, a.txt, b.txt] ++ [41])
  | .by h ks q => 40 :: (joinS [32] [BY, h, keysTxt ks, q.txt] ++ [41])
  | .whr h n q => 40 :: (joinS [32] [WHERE, h, intS n, q.txt] ++ [41])
  | .rank n q => 40 :: (joinS [32] [RANK, intS n, q.txt] ++ [41])
def TELL : Txt := [116, 101, 108, 108]
def STRIKE : Txt := [115, 116, 114, 105, 107, 101]
def TURN : Txt := [116, 117, 114, 110]
def WRITE : Txt := [119, 114, 105, 116, 101]
def WAKE : Txt := [119, 97, 107, 101]
def REST : Txt := [114, 101, 115, 116]
def SILENCE : Txt := [115, 105, 108, 101, 110, 99, 101]
def LIFT : Txt := [108, 105, 102, 116]
/-- the words of a deed's row -/
def Dd.ws : Dd → List Txt
  | .tell n t w => [TELL, n.txt, intS t, intS w]
  | .strike n => [STRIKE, intS n]
  | .turn t => [TURN, intS t]
  | .write w q st => [WRITE, w, q.txt, intS st]
  | .wake w q h b hd => [WAKE, w, q.txt, h, intS b, intS hd]
  | .rest w => [REST, w]
  | .silence p a b => [SILENCE, p.txt, intS a, intS b]
  | .lift n => [LIFT, intS n]
def Dd.txt (d : Dd) : Txt := joinS [32] d.ws
/-! ### how long they are -/
theorem sum_len {l : List Txt} {B : Nat} (h : ∀ x ∈ l, x.length ≤ B) : (l.map (·.length)).sum ≤ l.length * B := by
  induction l with
  | nil => simp
  | cons a l ih =>
    have h1 := h a List.mem_cons_self
    have h2 := ih fun x hx => h x (List.mem_cons_of_mem _ hx)
    simp only [List.map_cons, List.sum_cons, List.length_cons, Nat.succ_mul]
    omega
theorem joinS_len (sep : Txt) : ∀ l : List Txt, (joinS sep l).length ≤ (l.map (·.length)).sum + l.length * sep.length
  | [] => by simp [joinS]
  | [a] => by simp [joinS]
  | a :: b :: r => by
    have := joinS_len sep (b :: r)
    simp only [joinS, List.length_append, List.map_cons, List.sum_cons, List.length_cons, Nat.succ_mul] at this ⊢
    omega
theorem br_len (x : Txt) : (br x).length ≤ x.length + 2 := by
  unfold br; split <;> simp
theorem inR_abs {i lo hi : Int} (h : inR i lo hi = true) : lo ≤ i ∧ i ≤ hi := by simpa [inR] using h
theorem Nm.tag_len {n : Nm} (h : n.ok = true) : n.w.length ≤ 8 ∧ n.ts.length ≤ 4 ∧ ∀ t ∈ n.ts, t.1.length ≤ 6 ∧ t.2.length ≤ 6 := by
  simp only [Nm.ok, isTags, Bool.and_eq_true, decide_eq_true_eq, List.all_eq_true] at h
  obtain ⟨h1, h2, h3, _⟩ := h
  exact ⟨(word_len h1).2, by omega, fun t ht => ⟨(key_len (h3 t ht).1).2, (val_len (h3 t ht).2).2⟩⟩
theorem Nm.pairs_len {n : Nm} (h : n.ok = true) : ((n.ts.map Tag.txt).map (·.length)).sum ≤ 52 := by
  obtain ⟨h1, h2, h3⟩ := Nm.tag_len h
  have := sum_len (l := n.ts.map Tag.txt) (B := 13) (fun x hx => by
    obtain ⟨t, ht, rfl⟩ := List.mem_map.mp hx
    have := h3 t ht
    simp only [Tag.txt, List.length_append, List.length_cons]; omega)
  simp only [List.length_map] at this
  have h4 : n.ts.length * 13 ≤ 4 * 13 := Nat.mul_le_mul_right 13 h2
  omega
theorem Nm.join_len {n : Nm} (h : n.ok = true) : (joinS [44] (n.ts.map Tag.txt)).length ≤ 56 := by
  have h1 := joinS_len [44] (n.ts.map Tag.txt)
  have h2 := Nm.pairs_len h
  have h3 := (Nm.tag_len h).2.1
  simp only [List.length_map, List.length_cons, List.length_nil] at h1
  omega
theorem Nm.txt_len {n : Nm} (h : n.ok = true) : n.txt.length ≤ 100 := by
  have h1 := br_len (joinS [44] (n.ts.map Tag.txt))
  have h2 := Nm.join_len h
  have h3 := (Nm.tag_len h).1
  simp only [Nm.txt, List.length_append]; omega
theorem Cd.parts {c : Cd} (h : c.ok = true) : c.key.length ≤ 6 ∧ c.vals.length ≤ 4 ∧ (∀ v ∈ c.vals, v.length ≤ 6) ∧ (c.how = [105, 110] ∨ c.how = [111, 117, 116]) := by
  simp only [Cd.ok, Bool.and_eq_true, Bool.or_eq_true, decide_eq_true_eq, List.all_eq_true] at h
  obtain ⟨h1, h2, ⟨h3, h4⟩, h5, h6⟩ := h
  exact ⟨(key_len h1).2, by omega, fun v hv => (val_len (h5 v hv)).2, h2⟩
theorem Cd.vals_len {c : Cd} (h : c.ok = true) : (c.vals.map (·.length)).sum ≤ 24 := by
  obtain ⟨h1, h2, h3, _⟩ := Cd.parts h
  have := sum_len (l := c.vals) (B := 6) h3
  have h4 : c.vals.length * 6 ≤ 4 * 6 := Nat.mul_le_mul_right 6 h2
  omega
theorem Cd.join_len {c : Cd} (h : c.ok = true) : (joinS [124] c.vals).length ≤ 28 := by
  have h1 := joinS_len [124] c.vals
  have h2 := Cd.vals_len h
  have h3 := (Cd.parts h).2.1
  simp only [List.length_cons, List.length_nil] at h1
  omega
theorem Cd.txt_len {c : Cd} (h : c.ok = true) : c.txt.length ≤ 40 := by
  have h1 := Cd.join_len h
  have h2 := (Cd.parts h).1
  have h3 : c.sgn.length ≤ 2 := by unfold Cd.sgn; split <;> simp
  simp only [Cd.txt, List.length_append]; omega
theorem Pk.parts {p : Pk} (h : p.ok = true) : p.w.length ≤ 8 ∧ p.cs.length ≤ 4 ∧ ∀ c ∈ p.cs, c.ok = true := by
  simp only [Pk.ok, Bool.and_eq_true, Bool.or_eq_true, decide_eq_true_eq, List.all_eq_true] at h
  obtain ⟨h1, h2, h3⟩ := h
  refine ⟨?_, by omega, h3⟩
  rcases h1 with h1 | h1
  · rw [h1]; simp
  · exact (word_len h1).2
theorem Pk.cs_len {p : Pk} (h : p.ok = true) : ((p.cs.map Cd.txt).map (·.length)).sum ≤ 160 := by
  obtain ⟨h1, h2, h3⟩ := Pk.parts h
  have := sum_len (l := p.cs.map Cd.txt) (B := 40) (fun x hx => by
    obtain ⟨t, ht, rfl⟩ := List.mem_map.mp hx
    exact Cd.txt_len (h3 t ht))
  simp only [List.length_map] at this
  have h4 : p.cs.length * 40 ≤ 4 * 40 := Nat.mul_le_mul_right 40 h2
  omega
theorem Pk.join_len {p : Pk} (h : p.ok = true) : (joinS [44] (p.cs.map Cd.txt)).length ≤ 164 := by
  have h1 := joinS_len [44] (p.cs.map Cd.txt)
  have h2 := Pk.cs_len h
  have h3 := (Pk.parts h).2.1
  simp only [List.length_map, List.length_cons, List.length_nil] at h1
  omega
theorem Pk.txt_len {p : Pk} (h : p.ok = true) : p.txt.length ≤ 180 := by
  have h1 := br_len (joinS [44] (p.cs.map Cd.txt))
  have h2 := Pk.join_len h
  have h3 := (Pk.parts h).1
  simp only [Pk.txt, List.length_append]
  split
  · simp only [List.length_cons, List.length_nil]; omega
  · omega
theorem keys_parts {ks : List Txt} (h : areKeys ks = true) : ks.length ≤ 4 ∧ ∀ x ∈ ks, x.length ≤ 6 := by
  simp only [areKeys, Bool.and_eq_true, decide_eq_true_eq, List.all_eq_true] at h
  exact ⟨by omega, fun x hx => (key_len (h.1.2 x hx)).2⟩
theorem keys_sum {ks : List Txt} (h : areKeys ks = true) : (ks.map (·.length)).sum ≤ 24 := by
  obtain ⟨h2, h3⟩ := keys_parts h
  have := sum_len (l := ks) (B := 6) h3
  have h4 : ks.length * 6 ≤ 4 * 6 := Nat.mul_le_mul_right 6 h2
  omega
theorem keysTxt_len {ks : List Txt} (h : areKeys ks = true) : (keysTxt ks).length ≤ 28 := by
  have h1 := joinS_len [44] ks
  have h2 := keys_sum h
  have h3 := (keys_parts h).1
  simp only [List.length_cons, List.length_nil] at h1
  unfold keysTxt; split
  · simp
  · omega
theorem folds_len {h : Txt} (x : decide (h ∈ FOLDS) = true) : h.length ≤ 5 := by
  have hd : ∀ y ∈ FOLDS, y.length ≤ 5 := by decide
  exact hd h (by simpa using x)
theorem joins_len {h : Txt} (x : decide (h ∈ JOINS) = true) : h.length ≤ 5 := by
  have hd : ∀ y ∈ JOINS, y.length ≤ 5 := by decide
  exact hd h (by simpa using x)
theorem groups_len {h : Txt} (x : decide (h ∈ GROUPS) = true) : h.length ≤ 5 := by
  have hd : ∀ y ∈ GROUPS, y.length ≤ 5 := by decide
  exact hd h (by simpa using x)
theorem sides_len {h : Txt} (x : decide (h ∈ SIDES) = true) : h.length ≤ 5 := by
  have hd : ∀ y ∈ SIDES, y.length ≤ 5 := by decide
  exact hd h (by simpa using x)
theorem intS_len7 {i : Int} {lo hi : Int} (h : inR i lo hi = true) (h1 : -1000000 ≤ lo) (h2 : hi ≤ 1000000) : (intS i).length ≤ 8 := by
  have := inR_abs h
  exact intS_len (k := 7) (by decide) (by omega)
theorem Q.txt_len : ∀ {q : Q}, q.form = true → q.inner = true → q.txt.length ≤ 250 * q.size
  | .num n, h, _ => by
    simp only [Q.form] at h
    have := intS_len7 h (by decide) (by decide)
    simp only [Q.txt, Q.size, joinS, NUM, List.length_append, List.length_cons, List.length_nil]; omega
  | .at p n, h, _ => by
    simp only [Q.form, Pk.okw, Bool.and_eq_true] at h
    have h1 := intS_len7 h.2 (by decide) (by decide)
    have h2 := Pk.txt_len h.1.1
    simp only [Q.txt, Q.size, joinS, AT, List.length_append, List.length_cons, List.length_nil]; omega
  | .over w p n, h, _ => by
    simp only [Q.form, Pk.okw, Bool.and_eq_true] at h
    have h0 := folds_len h.1
    have h1 := intS_len7 h.2.2 (by decide) (by decide)
    have h2 := Pk.txt_len h.2.1.1
    simp only [Q.txt, Q.size, joinS, OVER, List.length_append, List.length_cons, List.length_nil]; omega
  | .join w a b, h, hi => by
    simp only [Q.form] at h
    simp only [Q.inner, Bool.and_eq_true] at hi
    have h0 := joins_len h
    have h1 := Q.txt_len hi.1.2 hi.1.1
    have h2 := Q.txt_len hi.2.2 hi.2.1
    simp only [Q.txt, Q.size, joinS, JOIN, List.length_append, List.length_cons, List.length_nil]; omega
  | .by w ks q, h, hi => by
    simp only [Q.form, Bool.and_eq_true] at h
    simp only [Q.inner, Bool.and_eq_true] at hi
    have h0 := groups_len h.1
    have h1 := keysTxt_len h.2
    have h2 := Q.txt_len hi.1.2 hi.1.1
    simp only [Q.txt, Q.size, joinS, BY, List.length_append, List.length_cons, List.length_nil]; omega
  | .whr w n q, h, hi => by
    simp only [Q.form, Bool.and_eq_true] at h
    simp only [Q.inner, Bool.and_eq_true] at hi
    have h0 := sides_len h.1
    have h1 := intS_len7 h.2 (by decide) (by decide)
    have h2 := Q.txt_len hi.1.2 hi.1.1
    simp only [Q.txt, Q.size, joinS, WHERE, List.length_append, List.length_cons, List.length_nil]; omega
  | .rank n q, h, hi => by
    simp only [Q.form] at h
    simp only [Q.inner, Bool.and_eq_true] at hi
    have h1 := intS_len7 h (by decide) (by decide)
    have h2 := Q.txt_len hi.1.2 hi.1.1
    simp only [Q.txt, Q.size, joinS, RANK, List.length_append, List.length_cons, List.length_nil]; omega
theorem Q.txt_len' {q : Q} (h : q.ok) : q.txt.length ≤ 15000 := by
  have := Q.txt_len h.1 h.2.1
  have := h.2.2.2.1
  omega
theorem hows_len {h : Txt} (x : h ∈ HOWS) : h.length ≤ 5 := by
  have hd : ∀ y ∈ HOWS, y.length ≤ 5 := by decide
  exact hd h x
theorem Dd.ws_len {d : Dd} (h : d.ok) : (d.ws.map (·.length)).sum ≤ 15100 ∧ d.ws.length ≤ 6 := by
  cases d with
  | tell n t w =>
    have h1 := Nm.txt_len h.1
    have h2 := intS_len7 h.2.1 (by decide) (by decide)
    have h3 := intS_len7 h.2.2 (by decide) (by decide)
    simp [Dd.ws, TELL]; omega
  | strike n => have h2 := intS_len7 h (by decide) (by decide); simp [Dd.ws, STRIKE]; omega
  | turn t => have h2 := intS_len7 h (by decide) (by decide); simp [Dd.ws, TURN]; omega
  | write w q st =>
    have h1 := (word_len h.1).2
    have h2 := Q.txt_len' h.2.1
    have h3 := intS_len7 h.2.2 (by decide) (by decide)
    simp [Dd.ws, WRITE]; omega
  | wake w q ho b hd =>
    have h1 := (word_len h.1).2
    have h2 := Q.txt_len' h.2.1
    have h3 := hows_len h.2.2.1
    have h4 := intS_len7 h.2.2.2.1 (by decide) (by decide)
    have h5 := intS_len7 h.2.2.2.2 (by decide) (by decide)
    simp [Dd.ws, WAKE]; omega
  | rest w => have h2 := (word_len h).2; simp [Dd.ws, REST]; omega
  | silence p a b =>
    have h1 := Pk.txt_len h.1
    have h2 := intS_len7 h.2.1 (by decide) (by decide)
    have h3 := intS_len7 h.2.2.1 (by decide) (by decide)
    simp [Dd.ws, SILENCE]; omega
  | lift n => have h2 := intS_len7 h (by decide) (by decide); simp [Dd.ws, LIFT]; omega
theorem Dd.txt_len {d : Dd} (h : d.ok) : d.txt.length ≤ 15106 := by
  have h1 := joinS_len [32] d.ws
  have h2 := Dd.ws_len h
  simp only [List.length_cons, List.length_nil] at h1
  simp only [Dd.txt]; omega
theorem sum_le_joinS (sep : Txt) : ∀ l : List Txt, (l.map (·.length)).sum ≤ (joinS sep l).length
  | [] => by simp [joinS]
  | [a] => by simp [joinS]
  | a :: b :: r => by
    have := sum_le_joinS sep (b :: r)
    simp only [joinS, List.length_append, List.map_cons, List.sum_cons] at this ⊢
    omega
end TH
end T_U5
section T_U6
set_option linter.all false
set_option Elab.async false
namespace TH
/-! ### texts taken apart -/
theorem partAt_miss {c : Nat} : ∀ {x : Txt}, c ∉ x → partAt c x = (x, false, [])
  | [], _ => rfl
  | a :: x, h => by
    have h1 : a ≠ c := fun e => h (by rw [e]; exact List.mem_cons_self)
    have h2 : c ∉ x := fun e => h (List.mem_cons_of_mem _ e)
    simp [partAt, h1, partAt_miss h2]
theorem partAt_hit {c : Nat} : ∀ {x y : Txt}, c ∉ x → partAt c (x ++ c :: y) = (x, true, y)
  | [], y, _ => by simp [partAt]
  | a :: x, y, h => by
    have h1 : a ≠ c := fun e => h (by rw [e]; exact List.mem_cons_self)
    have h2 : c ∉ x := fun e => h (List.mem_cons_of_mem _ e)
    simp [partAt, h1, partAt_hit h2]
theorem splitAt_nn (c : Nat) (x : Txt) : splitAt c x ≠ [] := by
  cases x with
  | nil => simp [splitAt]
  | cons a r =>
    simp only [splitAt]
    split
    · simp
    · split <;> simp
theorem splitAt_miss {c : Nat} : ∀ {x : Txt}, c ∉ x → splitAt c x = [x]
  | [], _ => rfl
  | a :: x, h => by
    have h1 : a ≠ c := fun e => h (by rw [e]; exact List.mem_cons_self)
    have h2 : c ∉ x := fun e => h (List.mem_cons_of_mem _ e)
    simp [splitAt, h1, splitAt_miss h2]
theorem splitAt_hit {c : Nat} : ∀ (x y : Txt), splitAt c (x ++ c :: y) = splitAt c x ++ splitAt c y
  | [], y => by simp [splitAt]
  | a :: x, y => by
    have ih := splitAt_hit (c := c) x y
    simp only [List.cons_append, splitAt, ih]
    split
    · rfl
    · have := splitAt_nn c x
      cases hx : splitAt c x with
      | nil => exact absurd hx this
      | cons b r => rfl
theorem splitAt_join {c : Nat} : ∀ {l : List Txt}, l ≠ [] → (∀ x ∈ l, c ∉ x) → splitAt c (joinS [c] l) = l
  | [], h, _ => absurd rfl h
  | [a], _, h => by simpa [joinS] using splitAt_miss (h a List.mem_cons_self)
  | a :: b :: r, _, h => by
    have ih := splitAt_join (c := c) (l := b :: r) (by simp) (fun x hx => h x (List.mem_cons_of_mem _ hx))
    rw [joinS, List.append_assoc, List.cons_append, List.nil_append, splitAt_hit, ih, splitAt_miss (h a List.mem_cons_self)]
    rfl
theorem mem_join {c : Nat} {sep : Txt} : ∀ {l : List Txt}, c ∈ joinS sep l → c ∈ sep ∨ ∃ x ∈ l, c ∈ x
  | [], h => by simp [joinS] at h
  | [a], h => .inr ⟨a, List.mem_cons_self, by simpa [joinS] using h⟩
  | a :: b :: r, h => by
    rw [joinS] at h
    rcases List.mem_append.mp h with h | h
    · rcases List.mem_append.mp h with h | h
      · exact .inr ⟨a, List.mem_cons_self, h⟩
      · exact .inl h
    · rcases mem_join h with h | ⟨x, hx, h⟩
      · exact .inl h
      · exact .inr ⟨x, List.mem_cons_of_mem _ hx, h⟩
theorem join_ne {sep : Txt} {l : List Txt} (h : l ≠ []) (h2 : ∀ x ∈ l, x ≠ []) : joinS sep l ≠ [] := by
  cases l with
  | nil => exact absurd rfl h
  | cons a r =>
    have := h2 a List.mem_cons_self
    cases r with
    | nil => simpa [joinS] using this
    | cons b r =>
      rw [joinS]
      intro e
      simp at e
      exact this e.1
theorem slc_last (x : Txt) (c : Nat) : cutL (x ++ [c]) none (some (-1)) = x := by
  simp only [cutL, cutAt, List.drop_zero, List.length_append, List.length_cons, List.length_nil]
  rw [if_pos (by decide)]
  have : (-1 + ((x.length + (0 + 1) : Nat) : Int)).toNat = x.length := by omega
  rw [this]
  simp
/-! ### tokens -/
def Rr (x : Txt) : Txt := replS 41 [32, 41, 32] (replS 40 [32, 40, 32] x)
def Ff (x : Txt) : List Txt := (splitAt 32 x).filter fun w => !decide (w = [])
def Tk (x : Txt) : List Txt := Ff (Rr x)
theorem replS_app (c : Nat) (t a b : Txt) : replS c t (a ++ b) = replS c t a ++ replS c t b := by
  induction a with
  | nil => rfl
  | cons x a ih => simp [replS, ih]
theorem Rr_app (a b : Txt) : Rr (a ++ b) = Rr a ++ Rr b := by simp [Rr, replS_app]
theorem Ff_hit (a b : Txt) : Ff (a ++ 32 :: b) = Ff a ++ Ff b := by simp [Ff, splitAt_hit]
theorem Ff_nil : Ff [] = [] := rfl
theorem Tk_nil : Tk [] = [] := rfl
theorem Tk_blank (a b : Txt) : Tk (a ++ 32 :: b) = Tk a ++ Tk b := by
  have : Rr (a ++ 32 :: b) = Rr a ++ 32 :: Rr b := by
    rw [show a ++ 32 :: b = a ++ ([32] ++ b) from rfl, Rr_app, Rr_app]
    rfl
  rw [Tk, this, Ff_hit]; rfl
theorem Tk_open (b : Txt) : Tk (40 :: b) = [40] :: Tk b := by
  have : Rr (40 :: b) = [] ++ 32 :: ([40] ++ 32 :: Rr b) := by
    rw [show 40 :: b = [40] ++ b from rfl, Rr_app]
    rfl
  rw [Tk, this, Ff_hit, Ff_hit]; rfl
theorem Tk_close (a : Txt) : Tk (a ++ [41]) = Tk a ++ [[41]] := by
  have : Rr (a ++ [41]) = Rr a ++ 32 :: ([41] ++ 32 :: []) := by
    rw [Rr_app]
    rfl
  rw [Tk, this, Ff_hit, Ff_hit]; rfl
theorem replS_miss {c : Nat} {t : Txt} : ∀ {x : Txt}, c ∉ x → replS c t x = x
  | [], _ => rfl
  | a :: x, h => by
    have h1 : a ≠ c := fun e => h (by rw [e]; exact List.mem_cons_self)
    have h2 : c ∉ x := fun e => h (List.mem_cons_of_mem _ e)
    simp [replS, h1, replS_miss h2]
/-- a sign of a word -/
def pc (c : Nat) : Prop := c ≠ 10 ∧ c ≠ 32 ∧ c ≠ 40 ∧ c ≠ 41
theorem Tk_word {x : Txt} (h : x ≠ []) (hp : ∀ c ∈ x, pc c) : Tk x = [x] := by
  have h1 : (40 : Nat) ∉ x := fun e => (hp _ e).2.2.1 rfl
  have h2 : (41 : Nat) ∉ x := fun e => (hp _ e).2.2.2 rfl
  have h3 : (32 : Nat) ∉ x := fun e => (hp _ e).2.1 rfl
  rw [Tk, Rr, replS_miss h1, replS_miss h2, Ff, splitAt_miss h3]
  simp [h]
theorem Tk_join : ∀ l : List Txt, Tk (joinS [32] l) = (l.map Tk).flatten
  | [] => rfl
  | [a] => by simp [joinS]
  | a :: b :: r => by
    rw [joinS, List.append_assoc, List.cons_append, List.nil_append, Tk_blank, Tk_join (b :: r)]
    simp
/-! ### of what signs words are -/
theorem let_pc {c : Nat} (h : c ∈ LET) : 97 ≤ c ∧ c ≤ 122 := by
  have : ∀ c ∈ LET, 97 ≤ c ∧ c ≤ 122 := by decide
  exact this c h
theorem sig_pc {c : Nat} (h : c ∈ SIG) : (97 ≤ c ∧ c ≤ 122) ∨ (48 ≤ c ∧ c ≤ 57) := by
  have : ∀ c ∈ SIG, (97 ≤ c ∧ c ≤ 122) ∨ (48 ≤ c ∧ c ≤ 57) := by decide
  exact this c h
theorem word_ch {w : Txt} (h : isWord w = true) {c : Nat} (hc : c ∈ w) : 97 ≤ c ∧ c ≤ 122 := let_pc (isRun_mem h c hc)
theorem key_ch {w : Txt} (h : isKey w = true) {c : Nat} (hc : c ∈ w) : 97 ≤ c ∧ c ≤ 122 := let_pc (isRun_mem h c hc)
theorem val_ch {w : Txt} (h : isVal w = true) {c : Nat} (hc : c ∈ w) : (97 ≤ c ∧ c ≤ 122) ∨ (48 ≤ c ∧ c ≤ 57) := sig_pc (isRun_mem h c hc)
theorem word_ne {w : Txt} (h : isWord w = true) : w ≠ [] := by intro e; have := word_len h; simp [e] at this
theorem key_ne {w : Txt} (h : isKey w = true) : w ≠ [] := by intro e; have := key_len h; simp [e] at this
theorem val_ne {w : Txt} (h : isVal w = true) : w ≠ [] := by intro e; have := val_len h; simp [e] at this
theorem pc_az {c : Nat} (h : 97 ≤ c ∧ c ≤ 122) : pc c := by unfold pc; omega
theorem word_pc {w : Txt} (h : isWord w = true) : ∀ c ∈ w, pc c := fun c hc => pc_az (word_ch h hc)
theorem int_pc (i : Int) : ∀ c ∈ intS i, pc c := fun c hc => by have := intS_mem hc; unfold pc; omega
theorem Tk_int (i : Int) : Tk (intS i) = [intS i] := Tk_word (intS_ne i) (int_pc i)
theorem Nm.ok_parts {n : Nm} (h : n.ok = true) : isWord n.w = true ∧ ∀ t ∈ n.ts, isKey t.1 = true ∧ isVal t.2 = true := by
  simp only [Nm.ok, isTags, Bool.and_eq_true, decide_eq_true_eq, List.all_eq_true] at h
  exact ⟨h.1, fun t ht => h.2.2.1 t ht⟩
theorem Cd.ok_parts {c : Cd} (h : c.ok = true) : isKey c.key = true ∧ c.vals ≠ [] ∧ ∀ v ∈ c.vals, isVal v = true := by
  simp only [Cd.ok, Bool.and_eq_true, Bool.or_eq_true, decide_eq_true_eq, List.all_eq_true] at h
  obtain ⟨h1, h2, ⟨h3, h4⟩, h5, h6⟩ := h
  refine ⟨h1, ?_, h5⟩
  intro e; rw [e] at h3; simp at h3
theorem Pk.ok_parts {p : Pk} (h : p.ok = true) : (p.w = [] ∨ isWord p.w = true) ∧ ∀ c ∈ p.cs, c.ok = true := by
  simp only [Pk.ok, Bool.and_eq_true, Bool.or_eq_true, decide_eq_true_eq, List.all_eq_true] at h
  exact ⟨h.1, h.2.2⟩
/-- the signs of a tag -/
theorem tag_ch {t : Tag} (h : isKey t.1 = true ∧ isVal t.2 = true) {c : Nat} (hc : c ∈ t.txt) : c = 61 ∨ (97 ≤ c ∧ c ≤ 122) ∨ (48 ≤ c ∧ c ≤ 57) := by
  simp only [Tag.txt, List.mem_append, List.mem_cons] at hc
  rcases hc with hc | rfl | hc
  · exact .inr (.inl (key_ch h.1 hc))
  · exact .inl rfl
  · exact .inr (val_ch h.2 hc)
theorem cd_ch {c : Cd} (h : c.ok = true) {x : Nat} (hc : x ∈ c.txt) : x = 33 ∨ x = 61 ∨ x = 124 ∨ (97 ≤ x ∧ x ≤ 122) ∨ (48 ≤ x ∧ x ≤ 57) := by
  obtain ⟨h1, _, h3⟩ := Cd.ok_parts h
  simp only [Cd.txt, List.mem_append] at hc
  rcases hc with hc | hc | hc
  · exact .inr (.inr (.inr (.inl (key_ch h1 hc))))
  · unfold Cd.sgn at hc
    split at hc
    · simp at hc; omega
    · simp at hc; omega
  · rcases mem_join hc with hc | ⟨v, hv, hc⟩
    · simp at hc; omega
    · exact .inr (.inr (.inr (val_ch (h3 v hv) hc)))
theorem br_ch {x : Txt} {c : Nat} (h : c ∈ br x) : c = 123 ∨ c = 125 ∨ c ∈ x := by
  unfold br at h
  split at h
  · simp at h
  · simp at h
    rcases h with rfl | h | rfl
    · exact .inl rfl
    · exact .inr (.inr h)
    · exact .inr (.inl rfl)
theorem nm_pc {n : Nm} (h : n.ok = true) : ∀ c ∈ n.txt, pc c := by
  intro c hc
  obtain ⟨h1, h2⟩ := Nm.ok_parts h
  simp only [Nm.txt, List.mem_append] at hc
  rcases hc with hc | hc
  · exact word_pc h1 c hc
  · rcases br_ch hc with rfl | rfl | hc
    · unfold pc; omega
    · unfold pc; omega
    · rcases mem_join hc with hc | ⟨x, hx, hc⟩
      · simp at hc; subst hc; unfold pc; omega
      · obtain ⟨t, ht, rfl⟩ := List.mem_map.mp hx
        have := tag_ch (h2 t ht) hc
        unfold pc; omega
theorem pk_pc {p : Pk} (h : p.ok = true) : ∀ c ∈ p.txt, pc c := by
  intro c hc
  obtain ⟨h1, h2⟩ := Pk.ok_parts h
  simp only [Pk.txt, List.mem_append] at hc
  rcases hc with hc | hc
  · split at hc
    · simp at hc; subst hc; unfold pc; omega
    · rcases h1 with h1 | h1
      · contradiction
      · exact word_pc h1 c hc
  · rcases br_ch hc with rfl | rfl | hc
    · unfold pc; omega
    · unfold pc; omega
    · rcases mem_join hc with hc | ⟨x, hx, hc⟩
      · simp at hc; subst hc; unfold pc; omega
      · obtain ⟨t, ht, rfl⟩ := List.mem_map.mp hx
        have := cd_ch (h2 t ht) hc
        unfold pc; omega
theorem keys_pc {ks : List Txt} (h : areKeys ks = true) : ∀ c ∈ keysTxt ks, pc c := by
  intro c hc
  simp only [areKeys, Bool.and_eq_true, decide_eq_true_eq, List.all_eq_true] at h
  unfold keysTxt at hc
  split at hc
  · simp at hc; subst hc; unfold pc; omega
  · rcases mem_join hc with hc | ⟨x, hx, hc⟩
    · simp at hc; subst hc; unfold pc; omega
    · exact pc_az (key_ch (h.1.2 x hx) hc)
theorem nm_ne {n : Nm} (h : n.ok = true) : n.txt ≠ [] := by
  have := word_ne (Nm.ok_parts h).1
  simp [Nm.txt, this]
theorem pk_ne {p : Pk} (h : p.ok = true) : p.txt ≠ [] := by
  simp only [Pk.txt]
  split
  · simp
  · rename_i e; simp [e]
theorem keys_ne {ks : List Txt} (h : areKeys ks = true) : keysTxt ks ≠ [] := by
  simp only [areKeys, Bool.and_eq_true, decide_eq_true_eq, List.all_eq_true] at h
  unfold keysTxt
  split
  · simp
  · rename_i e
    exact join_ne e fun x hx => key_ne (h.1.2 x hx)
theorem mem_pc {ws : List Txt} (hw : ∀ w ∈ ws, w ≠ [] ∧ ∀ c ∈ w, 97 ≤ c ∧ c ≤ 122) {h : Txt} (hm : decide (h ∈ ws) = true) : h ≠ [] ∧ ∀ c ∈ h, pc c := by
  have := hw h (by simpa using hm)
  exact ⟨this.1, fun c hc => pc_az (this.2 c hc)⟩
theorem folds_pc {h : Txt} (hm : decide (h ∈ FOLDS) = true) : h ≠ [] ∧ ∀ c ∈ h, pc c := mem_pc (by decide) hm
theorem joins_pc {h : Txt} (hm : decide (h ∈ JOINS) = true) : h ≠ [] ∧ ∀ c ∈ h, pc c := mem_pc (by decide) hm
theorem groups_pc {h : Txt} (hm : decide (h ∈ GROUPS) = true) : h ≠ [] ∧ ∀ c ∈ h, pc c := mem_pc (by decide) hm
theorem sides_pc {h : Txt} (hm : decide (h ∈ SIDES) = true) : h ≠ [] ∧ ∀ c ∈ h, pc c := mem_pc (by decide) hm
theorem hows_pc {h : Txt} (hm : h ∈ HOWS) : h ≠ [] ∧ ∀ c ∈ h, pc c := mem_pc (ws := HOWS) (by decide) (by simpa using hm)
/-! ### no line ends in a row -/
theorem join_no {sep : Txt} {l : List Txt} {c : Nat} (h1 : c ∉ sep) (h2 : ∀ x ∈ l, c ∉ x) : c ∉ joinS sep l := by
  intro h
  rcases mem_join h with h | ⟨x, hx, h⟩
  · exact h1 h
  · exact h2 x hx h
theorem pc_no {x : Txt} (h : ∀ c ∈ x, pc c) : (10 : Nat) ∉ x := fun e => (h 10 e).1 rfl
theorem brak_no {x : Txt} (h : (10 : Nat) ∉ x) : (10 : Nat) ∉ 40 :: (x ++ [41]) := by simp [h]
theorem Q.txt_no : ∀ {q : Q}, q.form = true → q.inner = true → (10 : Nat) ∉ q.txt
  | .num n, h, _ => by
    refine brak_no (join_no (by decide) fun x hx => ?_)
    simp only [List.mem_cons, List.not_mem_nil, or_false] at hx
    rcases hx with rfl | rfl
    · decide
    · exact pc_no (int_pc _)
  | .at p n, h, _ => by
    simp only [Q.form, Pk.okw, Bool.and_eq_true] at h
    refine brak_no (join_no (by decide) fun x hx => ?_)
    simp only [List.mem_cons, List.not_mem_nil, or_false] at hx
    rcases hx with rfl | rfl | rfl
    · decide
    · exact pc_no (pk_pc h.1.1)
    · exact pc_no (int_pc _)
  | .over w p n, h, _ => by
    simp only [Q.form, Pk.okw, Bool.and_eq_true] at h
    refine brak_no (join_no (by decide) fun x hx => ?_)
    simp only [List.mem_cons, List.not_mem_nil, or_false] at hx
    rcases hx with rfl | rfl | rfl | rfl
    · decide
    · exact pc_no (folds_pc h.1).2
    · exact pc_no (pk_pc h.2.1.1)
    · exact pc_no (int_pc _)
  | .join w a b, h, hi => by
    simp only [Q.form] at h
    simp only [Q.inner, Bool.and_eq_true] at hi
    refine brak_no (join_no (by decide) fun x hx => ?_)
    simp only [List.mem_cons, List.not_mem_nil, or_false] at hx
    rcases hx with rfl | rfl | rfl | rfl
    · decide
    · exact pc_no (joins_pc h).2
    · exact Q.txt_no hi.1.2 hi.1.1
    · exact Q.txt_no hi.2.2 hi.2.1
  | .by w ks q, h, hi => by
    simp only [Q.form, Bool.and_eq_true] at h
    simp only [Q.inner, Bool.and_eq_true] at hi
    refine brak_no (join_no (by decide) fun x hx => ?_)
    simp only [List.mem_cons, List.not_mem_nil, or_false] at hx
    rcases hx with rfl | rfl | rfl | rfl
    · decide
    · exact pc_no (groups_pc h.1).2
    · exact pc_no (keys_pc h.2)
    · exact Q.txt_no hi.1.2 hi.1.1
  | .whr w n q, h, hi => by
    simp only [Q.form, Bool.and_eq_true] at h
    simp only [Q.inner, Bool.and_eq_true] at hi
    refine brak_no (join_no (by decide) fun x hx => ?_)
    simp only [List.mem_cons, List.not_mem_nil, or_false] at hx
    rcases hx with rfl | rfl | rfl | rfl
    · decide
    · exact pc_no (sides_pc h.1).2
    · exact pc_no (int_pc _)
    · exact Q.txt_no hi.1.2 hi.1.1
  | .rank n q, h, hi => by
    simp only [Q.inner, Bool.and_eq_true] at hi
    refine brak_no (join_no (by decide) fun x hx => ?_)
    simp only [List.mem_cons, List.not_mem_nil, or_false] at hx
    rcases hx with rfl | rfl | rfl
    · decide
    · exact pc_no (int_pc _)
    · exact Q.txt_no hi.1.2 hi.1.1
theorem Dd.txt_no {d : Dd} (h : d.ok) : (10 : Nat) ∉ d.txt := by
  refine join_no (by decide) fun x hx => ?_
  cases d <;> simp only [Dd.ws, List.mem_cons, List.not_mem_nil, or_false] at hx <;> simp only [Dd.ok] at h
  · rcases hx with rfl | rfl | rfl | rfl
    · decide
    · exact pc_no (nm_pc h.1)
    · exact pc_no (int_pc _)
    · exact pc_no (int_pc _)
  · rcases hx with rfl | rfl
    · decide
    · exact pc_no (int_pc _)
  · rcases hx with rfl | rfl
    · decide
    · exact pc_no (int_pc _)
  · rcases hx with rfl | rfl | rfl | rfl
    · decide
    · exact pc_no (word_pc h.1)
    · exact Q.txt_no h.2.1.1 h.2.1.2.1
    · exact pc_no (int_pc _)
  · rcases hx with rfl | rfl | rfl | rfl | rfl | rfl
    · decide
    · exact pc_no (word_pc h.1)
    · exact Q.txt_no h.2.1.1 h.2.1.2.1
    · exact pc_no (hows_pc h.2.2.1).2
    · exact pc_no (int_pc _)
    · exact pc_no (int_pc _)
  · rcases hx with rfl | rfl
    · decide
    · exact pc_no (word_pc h)
  · rcases hx with rfl | rfl | rfl | rfl
    · decide
    · exact pc_no (pk_pc h.1)
    · exact pc_no (int_pc _)
    · exact pc_no (int_pc _)
  · rcases hx with rfl | rfl
    · decide
    · exact pc_no (int_pc _)
theorem Dd.txt_ne (d : Dd) : d.txt ≠ [] := by
  cases d <;> simp [Dd.txt, Dd.ws, joinS, TELL, STRIKE, TURN, WRITE, WAKE, REST, SILENCE, LIFT]
end TH
end T_U6
section T_K73ir
/-! printed by mkir.py: the IR of the text -/
namespace K73
open TH
set_option linter.all false
/-- 0: BadQuestion.__init__; self place -/
def f_BadQuestion___init__ : FDef := ⟨2, 2, 1, [.never,
  .sfld (.var 0) 0 (.var 1)]⟩
/-- 1: BadDeed.__init__; self number -/
def f_BadDeed___init__ : FDef := ⟨2, 2, 1, [.never,
  .sfld (.var 0) 1 (.var 1)]⟩
/-- 2: BadText.__init__; self row -/
def f_BadText___init__ : FDef := ⟨2, 2, 1, [.never,
  .sfld (.var 0) 2 (.var 1)]⟩
/-- 3: is_run; thing signs upto sign -/
def f_is_run : FDef := ⟨3, 4, 0, [.ret (.and (.bi false (.isinst .str) [(.var 0)]) (.and (.chn .le .le (.con (.int 1)) (.bi false .len [(.var 0)]) (.var 2)) (.cmp .eq (.lc false [3] (.name 3) .seq [(.var 0)] [(.cmp .notIn (.var 3) (.var 1))] (.var 3)) (.lst false []))))]⟩
/-- 4: is_word; thing -/
def f_is_word : FDef := ⟨1, 1, 0, [.ret (.call 3 [(.var 0), (.glo 0), (.glo 2)])]⟩
/-- 5: is_key; thing -/
def f_is_key : FDef := ⟨1, 1, 0, [.ret (.call 3 [(.var 0), (.glo 0), (.glo 3)])]⟩
/-- 6: is_value; thing -/
def f_is_value : FDef := ⟨1, 1, 0, [.ret (.call 3 [(.var 0), (.glo 1), (.glo 3)])]⟩
/-- 7: are_rising; some k -/
def f_are_rising : FDef := ⟨1, 2, 0, [.ret (.cmp .eq (.lc false [1] (.name 1) .range2 [(.con (.int 1)), (.bi false .len [(.var 0)])] [(.cmp .ge (.idx (.var 0) (.bin .sub (.var 1) (.con (.int 1)))) (.idx (.var 0) (.var 1)))] (.var 1)) (.lst false []))]⟩
/-- 8: are_keys; thing one -/
def f_are_keys : FDef := ⟨1, 2, 0, [.ifs (.or (.not (.bi false (.isinst .tuple) [(.var 0)])) (.or (.cmp .gt (.bi false .len [(.var 0)]) (.glo 4)) (.not (.bi false .all [(.lc false [1] (.name 1) .seq [(.var 0)] [] (.call 5 [(.var 1)]))])))) [.ret (.con (.bl false))] [],
  .ret (.call 7 [(.var 0)])]⟩
/-- 9: are_tags; thing pair key value -/
def f_are_tags : FDef := ⟨1, 4, 0, [.ifs (.or (.not (.bi false (.isinst .tuple) [(.var 0)])) (.cmp .gt (.bi false .len [(.var 0)]) (.glo 4))) [.ret (.con (.bl false))] [],
  .for_ (.name 1) .seq [(.var 0)] [.ifs (.or (.not (.bi false (.isinst .tuple) [(.var 1)])) (.or (.cmp .ne (.bi false .len [(.var 1)]) (.con (.int 2))) (.or (.not (.call 5 [(.idx (.var 1) (.con (.int 0)))])) (.not (.call 6 [(.idx (.var 1) (.con (.int 1)))]))))) [.ret (.con (.bl false))] []],
  .ret (.call 7 [(.lc false [2, 3] (.tup [2, 3]) .seq [(.var 0)] [] (.var 2))])]⟩
/-- 10: is_name; thing -/
def f_is_name : FDef := ⟨1, 1, 0, [.ret (.and (.bi false (.isinst .tuple) [(.var 0)]) (.and (.cmp .eq (.bi false .len [(.var 0)]) (.con (.int 2))) (.and (.call 4 [(.idx (.var 0) (.con (.int 0)))]) (.call 9 [(.idx (.var 0) (.con (.int 1)))]))))]⟩
/-- 11: is_condition; thing value -/
def f_is_condition : FDef := ⟨1, 2, 0, [.ifs (.or (.not (.bi false (.isinst .tuple) [(.var 0)])) (.or (.cmp .ne (.bi false .len [(.var 0)]) (.con (.int 3))) (.not (.call 5 [(.idx (.var 0) (.con (.int 0)))])))) [.ret (.con (.bl false))] [],
  .ifs (.or (.not (.bi false (.isinst .str) [(.idx (.var 0) (.con (.int 1)))])) (.cmp .notIn (.idx (.var 0) (.con (.int 1))) (.tup [(.con (.str [105, 110])), (.con (.str [111, 117, 116]))]))) [.ret (.con (.bl false))] [],
  .ifs (.or (.not (.bi false (.isinst .tuple) [(.idx (.var 0) (.con (.int 2)))])) (.not (.chn .le .le (.con (.int 1)) (.bi false .len [(.idx (.var 0) (.con (.int 2)))]) (.glo 4)))) [.ret (.con (.bl false))] [],
  .ret (.and (.bi false .all [(.lc false [1] (.name 1) .seq [(.idx (.var 0) (.con (.int 2)))] [] (.call 6 [(.var 1)]))]) (.call 7 [(.idx (.var 0) (.con (.int 2)))]))]⟩
/-- 12: is_picker; thing one -/
def f_is_picker : FDef := ⟨1, 2, 0, [.ifs (.or (.not (.bi false (.isinst .tuple) [(.var 0)])) (.or (.cmp .ne (.bi false .len [(.var 0)]) (.con (.int 2))) (.and (.cmp .ne (.idx (.var 0) (.con (.int 0))) (.con (.str []))) (.not (.call 4 [(.idx (.var 0) (.con (.int 0)))]))))) [.ret (.con (.bl false))] [],
  .ifs (.or (.not (.bi false (.isinst .tuple) [(.idx (.var 0) (.con (.int 1)))])) (.cmp .gt (.bi false .len [(.idx (.var 0) (.con (.int 1)))]) (.glo 4))) [.ret (.con (.bl false))] [],
  .ret (.bi false .all [(.lc false [1] (.name 1) .seq [(.idx (.var 0) (.con (.int 1)))] [] (.call 11 [(.var 1)]))])]⟩
/-- 13: is_number; part low high -/
def f_is_number : FDef := ⟨3, 3, 0, [.ret (.and (.bi false (.isinst .int) [(.var 0)]) (.and (.not (.bi false (.isinst .bool) [(.var 0)])) (.chn .le .le (.var 1) (.var 0) (.var 2))))]⟩
/-- 14: is_one_of; part words -/
def f_is_one_of : FDef := ⟨2, 2, 0, [.ret (.and (.bi false (.isinst .str) [(.var 0)]) (.cmp .inn (.var 0) (.var 1)))]⟩
/-- 15: is_worded; picker -/
def f_is_worded : FDef := ⟨1, 1, 0, [.ret (.and (.call 12 [(.var 0)]) (.cmp .ne (.idx (.var 0) (.con (.int 0))) (.con (.str []))))]⟩
/-- 16: is_form; question word rest -/
def f_is_form : FDef := ⟨1, 3, 0, [.ifs (.or (.not (.bi false (.isinst .tuple) [(.var 0)])) (.or (.cmp .eq (.var 0) (.tup [])) (.not (.bi false (.isinst .str) [(.idx (.var 0) (.con (.int 0)))])))) [.ret (.con (.bl false))] [],
  .star 1 2 (.var 0),
  .ifs (.cmp .ne (.bm false .dget (.glo 14) [(.var 1), (.con (.int 0))]) (.bi false .len [(.var 0)])) [.ret (.con (.bl false))] [],
  .ifs (.cmp .eq (.var 1) (.con (.str [110, 117, 109]))) [.ret (.call 13 [(.idx (.var 2) (.con (.int 0))), (.bin .sub (.con (.int 0)) (.glo 8)), (.glo 8)])] [],
  .ifs (.cmp .eq (.var 1) (.con (.str [97, 116]))) [.ret (.and (.call 15 [(.idx (.var 2) (.con (.int 0)))]) (.call 13 [(.idx (.var 2) (.con (.int 1))), (.con (.int 1)), (.glo 7)]))] [],
  .ifs (.cmp .eq (.var 1) (.con (.str [111, 118, 101, 114]))) [.ret (.and (.call 14 [(.idx (.var 2) (.con (.int 0))), (.glo 10)]) (.and (.call 15 [(.idx (.var 2) (.con (.int 1)))]) (.call 13 [(.idx (.var 2) (.con (.int 2))), (.con (.int 1)), (.glo 7)])))] [],
  .ifs (.cmp .eq (.var 1) (.con (.str [106, 111, 105, 110]))) [.ret (.call 14 [(.idx (.var 2) (.con (.int 0))), (.glo 11)])] [],
  .ifs (.cmp .eq (.var 1) (.con (.str [98, 121]))) [.ret (.and (.call 14 [(.idx (.var 2) (.con (.int 0))), (.glo 12)]) (.call 8 [(.idx (.var 2) (.con (.int 1)))]))] [],
  .ifs (.cmp .eq (.var 1) (.con (.str [119, 104, 101, 114, 101]))) [.ret (.and (.call 14 [(.idx (.var 2) (.con (.int 0))), (.glo 13)]) (.call 13 [(.idx (.var 2) (.con (.int 1))), (.bin .sub (.con (.int 0)) (.glo 8)), (.glo 8)]))] [],
  .ret (.call 13 [(.idx (.var 2) (.con (.int 0))), (.con (.int 1)), (.glo 9)])]⟩
/-- 17: within; question word -/
def f_within : FDef := ⟨1, 2, 0, [.set 1 (.idx (.var 0) (.con (.int 0))),
  .ifs (.cmp .inn (.var 1) (.tup [(.con (.str [106, 111, 105, 110])), (.con (.str [114, 97, 110, 107]))])) [.ret (.bi false .toList [(.slc (.var 0) (some (.con (.int 2))) none)])] [],
  .ret (.ite (.cmp .inn (.var 1) (.tup [(.con (.str [98, 121])), (.con (.str [119, 104, 101, 114, 101]))])) (.lst false [(.idx (.var 0) (.con (.int 3)))]) (.lst false []))]⟩
/-- 18: Looker.__init__; self -/
def f_Looker___init__ : FDef := ⟨1, 1, 1, [.sfld (.var 0) 3 (.con (.int 0))]⟩
/-- 19: Looker.look; self question deep place some inner -/
def f_Looker_look : FDef := ⟨3, 6, 1, [.set 3 (.fld (.var 0) 3),
  .ifs (.or (.cmp .eq (.var 3) (.glo 5)) (.or (.cmp .gt (.var 2) (.glo 6)) (.not (.call 16 [(.var 1)])))) [.never] [],
  .augf (.var 0) 3 .add (.con (.int 1)),
  .set 4 (.lc true [5] (.name 5) .seq [(.call 17 [(.var 1)])] [] (.met 1 (.var 0) [(.var 5), (.bin .add (.var 2) (.con (.int 1)))])),
  .ifs (.and (.cmp .inn (.idx (.var 1) (.con (.int 0))) (.tup [(.con (.str [98, 121])), (.con (.str [119, 104, 101, 114, 101])), (.con (.str [114, 97, 110, 107]))])) (.not (.idx (.var 4) (.con (.int 0))))) [.never] [],
  .ret (.and (.cmp .ne (.idx (.var 1) (.con (.int 0))) (.con (.str [110, 117, 109]))) (.or (.cmp .ne (.idx (.var 1) (.con (.int 0))) (.con (.str [106, 111, 105, 110]))) (.or (.idx (.var 4) (.con (.int 0))) (.idx (.var 4) (.con (.int 1))))))]⟩
/-- 20: need_question; question rows -/
def f_need_question : FDef := ⟨2, 2, 0, [.ifs (.and (.not (.met 1 (.new 4 []) [(.var 0), (.con (.int 0))])) (.var 1)) [.never] []]⟩
/-- 21: is_rows_question; thing -/
def f_is_rows_question : FDef := ⟨1, 1, 0, [.thru [.expr (.call 20 [(.var 0), (.con (.bl true))])],
  .ret (.con (.bl true))]⟩
/-- 22: can_be; kind thing -/
def f_can_be : FDef := ⟨2, 2, 0, [.ifs (.cmp .eq (.var 0) (.con (.str [110, 97, 109, 101]))) [.ret (.call 10 [(.var 1)])] [],
  .ifs (.cmp .eq (.var 0) (.con (.str [119, 111, 114, 100]))) [.ret (.call 4 [(.var 1)])] [],
  .ifs (.cmp .eq (.var 0) (.con (.str [112, 105, 99, 107, 101, 114]))) [.ret (.call 12 [(.var 1)])] [],
  .ifs (.cmp .eq (.var 0) (.con (.str [113, 117, 101, 115, 116, 105, 111, 110]))) [.ret (.call 21 [(.var 1)])] [],
  .ifs (.cmp .eq (.var 0) (.con (.str [104, 111, 119]))) [.ret (.and (.bi false (.isinst .str) [(.var 1)]) (.cmp .inn (.var 1) (.glo 16)))] [],
  .ifs (.cmp .eq (.var 0) (.con (.str [119, 111, 114, 116, 104]))) [.ret (.call 13 [(.var 1), (.bin .sub (.con (.int 0)) (.glo 8)), (.glo 8)])] [],
  .ifs (.cmp .inn (.var 0) (.tup [(.con (.str [115, 116, 101, 112])), (.con (.str [104, 101, 108, 100]))])) [.ret (.call 13 [(.var 1), (.con (.int 1)), (.ite (.cmp .eq (.var 0) (.con (.str [115, 116, 101, 112]))) (.glo 19) (.glo 15))])] [],
  .ret (.call 13 [(.var 1), (.con (.int 0)), (.ite (.cmp .eq (.var 0) (.con (.str [116, 105, 99, 107]))) (.glo 17) (.glo 18))])]⟩
/-- 23: is_called; deed -/
def f_is_called : FDef := ⟨1, 1, 0, [.ifs (.or (.not (.bi false (.isinst .tuple) [(.var 0)])) (.or (.cmp .eq (.var 0) (.tup [])) (.or (.not (.bi false (.isinst .str) [(.idx (.var 0) (.con (.int 0)))])) (.cmp .notIn (.idx (.var 0) (.con (.int 0))) (.glo 24))))) [.ret (.con (.bl false))] [],
  .ret (.cmp .eq (.bi false .len [(.var 0)]) (.bin .add (.bi false .len [(.idx (.glo 24) (.idx (.var 0) (.con (.int 0))))]) (.con (.int 1))))]⟩
/-- 24: is_deed; deed kind thing -/
def f_is_deed : FDef := ⟨1, 3, 0, [.ifs (.not (.call 23 [(.var 0)])) [.ret (.con (.bl false))] [],
  .ifs (.not (.bi false .all [(.lc false [1, 2] (.tup [1, 2]) .zip [(.idx (.glo 24) (.idx (.var 0) (.con (.int 0)))), (.slc (.var 0) (some (.con (.int 1))) none)] [] (.call 22 [(.var 1), (.var 2)]))])) [.ret (.con (.bl false))] [],
  .ret (.or (.cmp .ne (.idx (.var 0) (.con (.int 0))) (.con (.str [115, 105, 108, 101, 110, 99, 101]))) (.cmp .le (.idx (.var 0) (.con (.int 2))) (.idx (.var 0) (.con (.int 3)))))]⟩
/-- 25: name_text; name pairs key value -/
def f_name_text : FDef := ⟨1, 4, 0, [.set 1 (.bm false .join (.con (.str [44])) [(.lc false [2, 3] (.tup [2, 3]) .seq [(.idx (.var 0) (.con (.int 1)))] [] (.bin .add (.bin .add (.var 2) (.con (.str [61]))) (.var 3)))]),
  .ret (.bin .add (.idx (.var 0) (.con (.int 0))) (.ite (.cmp .ne (.var 1) (.con (.str []))) (.bin .add (.bin .add (.con (.str [123])) (.var 1)) (.con (.str [125]))) (.con (.str []))))]⟩
/-- 26: picker_text; picker signs some key how values -/
def f_picker_text : FDef := ⟨1, 6, 0, [.set 1 (.dic [(.con (.str [105, 110])), (.con (.str [111, 117, 116]))] [(.con (.str [61])), (.con (.str [33, 61]))]),
  .set 2 (.bm false .join (.con (.str [44])) [(.lc false [3, 4, 5] (.tup [3, 4, 5]) .seq [(.idx (.var 0) (.con (.int 1)))] [] (.bin .add (.bin .add (.var 3) (.idx (.var 1) (.var 4))) (.bm false .join (.con (.str [124])) [(.bi false .toList [(.var 5)])])))]),
  .ret (.bin .add (.ite (.cmp .ne (.idx (.var 0) (.con (.int 0))) (.con (.str []))) (.idx (.var 0) (.con (.int 0))) (.glo 22)) (.ite (.cmp .ne (.var 2) (.con (.str []))) (.bin .add (.bin .add (.con (.str [123])) (.var 2)) (.con (.str [125]))) (.con (.str []))))]⟩
/-- 27: question_text; question words kind thing -/
def f_question_text : FDef := ⟨1, 4, 0, [.set 1 (.lst true [(.idx (.var 0) (.con (.int 0)))]),
  .for_ (.tup [2, 3]) .zip [(.idx (.glo 25) (.idx (.var 0) (.con (.int 0)))), (.slc (.var 0) (some (.con (.int 1))) none)] [.expr (.bm false .append (.var 1) [(.call 28 [(.var 2), (.var 3)])])],
  .ret (.bin .add (.bin .add (.con (.str [40])) (.bm false .join (.con (.str [32])) [(.var 1)])) (.con (.str [41])))]⟩
/-- 28: thing_text; kind thing -/
def f_thing_text : FDef := ⟨2, 2, 0, [.ifs (.cmp .eq (.var 0) (.con (.str [110, 97, 109, 101]))) [.ret (.call 25 [(.var 1)])] [],
  .ifs (.cmp .eq (.var 0) (.con (.str [112, 105, 99, 107, 101, 114]))) [.ret (.call 26 [(.var 1)])] [],
  .ifs (.cmp .eq (.var 0) (.con (.str [113, 117, 101, 115, 116, 105, 111, 110]))) [.ret (.call 27 [(.var 1)])] [],
  .ifs (.cmp .eq (.var 0) (.con (.str [107, 101, 121, 115]))) [.ret (.ite (.cmp .ne (.var 1) (.tup [])) (.bm false .join (.con (.str [44])) [(.bi false .toList [(.var 1)])]) (.glo 23))] [],
  .ret (.bi false .toStr [(.var 1)])]⟩
/-- 29: deed_text; deed words kind thing -/
def f_deed_text : FDef := ⟨1, 4, 0, [.set 1 (.lst true [(.idx (.var 0) (.con (.int 0)))]),
  .expr (.bm false .extend (.var 1) [(.lc false [2, 3] (.tup [2, 3]) .zip [(.idx (.glo 24) (.idx (.var 0) (.con (.int 0)))), (.slc (.var 0) (some (.con (.int 1))) none)] [] (.call 28 [(.var 2), (.var 3)]))]),
  .ret (.bm false .join (.con (.str [32])) [(.var 1)])]⟩
/-- 30: written; deeds number deed -/
def f_written : FDef := ⟨1, 3, 0, [.for_ (.tup [1, 2]) .enum [(.var 0)] [.ifs (.not (.call 24 [(.var 2)])) [.never] []],
  .ret (.bm false .join (.con (.str [10])) [(.lc false [2] (.name 2) .seq [(.var 0)] [] (.call 29 [(.var 2)]))])]⟩
/-- 31: tags_of; text head bracket rest -/
def f_tags_of : FDef := ⟨1, 4, 0, [.unp [1, 2, 3] (.bm false .partition (.var 0) [(.con (.str [123]))]),
  .ret (.tup [(.var 1), (.ite (.cmp .ne (.var 2) (.con (.str []))) (.bm false .split (.slc (.var 3) none (some (.neg (.con (.int 1))))) [(.con (.str [44]))]) (.lst false []))])]⟩
/-- 32: name_of; text word some one -/
def f_name_of : FDef := ⟨1, 4, 0, [.unp [1, 2] (.call 31 [(.var 0)]),
  .ret (.tup [(.var 1), (.bi false .toTuple [(.lc false [3] (.name 3) .seq [(.var 2)] [] (.tup [(.idx (.bm false .partition (.var 3) [(.con (.str [61]))]) (.con (.int 0))), (.idx (.bm false .partition (.var 3) [(.con (.str [61]))]) (.con (.int 2)))]))])])]⟩
/-- 33: condition_of; text key sign values -/
def f_condition_of : FDef := ⟨1, 4, 0, [.unp [1, 2, 3] (.bm false .partition (.var 0) [(.con (.str [61]))]),
  .ifs (.bm false .endswith (.var 1) [(.con (.str [33]))]) [.ret (.tup [(.slc (.var 1) none (some (.neg (.con (.int 1))))), (.con (.str [111, 117, 116])), (.bi false .toTuple [(.bm false .split (.var 3) [(.con (.str [124]))])])])] [],
  .ret (.tup [(.var 1), (.con (.str [105, 110])), (.bi false .toTuple [(.bm false .split (.var 3) [(.con (.str [124]))])])])]⟩
/-- 34: picker_of; text word some one -/
def f_picker_of : FDef := ⟨1, 4, 0, [.unp [1, 2] (.call 31 [(.var 0)]),
  .ret (.tup [(.ite (.cmp .eq (.var 1) (.glo 22)) (.con (.str [])) (.var 1)), (.bi false .toTuple [(.lc false [3] (.name 3) .seq [(.var 2)] [] (.call 33 [(.var 3)]))])])]⟩
/-- 35: number_of; text figures sign -/
def f_number_of : FDef := ⟨1, 3, 0, [.set 1 (.ite (.bm false .startswith (.var 0) [(.con (.str [45]))]) (.slc (.var 0) (some (.con (.int 1))) none) (.var 0)),
  .ifs (.or (.not (.chn .le .le (.con (.int 1)) (.bi false .len [(.var 1)]) (.glo 20))) (.not (.bi false .all [(.lc false [2] (.name 2) .seq [(.var 1)] [] (.cmp .inn (.var 2) (.glo 21)))]))) [.ret (.con (.non))] [],
  .ret (.bi false .toInt [(.var 0)])]⟩
/-- 36: Reader.__init__; self row word -/
def f_Reader___init__ : FDef := ⟨2, 3, 1, [.sfld (.var 0) 4 (.bm false .split (.bm false .replace (.bm false .replace (.var 1) [(.con (.str [40])), (.con (.str [32, 40, 32]))]) [(.con (.str [41])), (.con (.str [32, 41, 32]))]) [(.con (.str [32]))]),
  .sfld (.var 0) 4 (.lc false [2] (.name 2) .seq [(.fld (.var 0) 4)] [(.cmp .ne (.var 2) (.con (.str [])))] (.var 2)),
  .sfld (.var 0) 5 (.con (.int 0))]⟩
/-- 37: Reader.take; self -/
def f_Reader_take : FDef := ⟨1, 1, 1, [.augf (.var 0) 5 .add (.con (.int 1)),
  .ret (.ite (.cmp .le (.fld (.var 0) 5) (.bi false .len [(.fld (.var 0) 4)])) (.idx (.fld (.var 0) 4) (.bin .sub (.fld (.var 0) 5) (.con (.int 1)))) (.con (.str [])))]⟩
/-- 38: Reader.thing; self kind deep word -/
def f_Reader_thing : FDef := ⟨3, 4, 1, [.ifs (.cmp .eq (.var 1) (.con (.str [113, 117, 101, 115, 116, 105, 111, 110]))) [.ret (.met 4 (.var 0) [(.var 2)])] [],
  .set 3 (.met 2 (.var 0) []),
  .ifs (.cmp .eq (.var 1) (.con (.str [110, 97, 109, 101]))) [.ret (.call 32 [(.var 3)])] [],
  .ifs (.cmp .eq (.var 1) (.con (.str [112, 105, 99, 107, 101, 114]))) [.ret (.call 34 [(.var 3)])] [],
  .ifs (.cmp .eq (.var 1) (.con (.str [107, 101, 121, 115]))) [.ret (.ite (.cmp .ne (.var 3) (.glo 23)) (.bi false .toTuple [(.bm false .split (.var 3) [(.con (.str [44]))])]) (.tup []))] [],
  .ret (.ite (.cmp .inn (.var 1) (.tup [(.con (.str [119, 111, 114, 100])), (.con (.str [104, 111, 119]))])) (.var 3) (.call 35 [(.var 3)]))]⟩
/-- 39: Reader.read_question; self deep word found kind -/
def f_Reader_read_question : FDef := ⟨2, 5, 1, [.ifs (.or (.cmp .gt (.var 1) (.glo 6)) (.cmp .ne (.met 2 (.var 0) []) (.con (.str [40])))) [.ret (.con (.non))] [],
  .set 2 (.met 2 (.var 0) []),
  .set 3 (.tup [(.var 2)]),
  .for_ (.name 4) .seq [(.bm false .dget (.glo 25) [(.var 2), (.tup [])])] [.set 3 (.bin .add (.var 3) (.tup [(.met 3 (.var 0) [(.var 4), (.bin .add (.var 1) (.con (.int 1)))])]))],
  .ret (.ite (.cmp .eq (.met 2 (.var 0) []) (.con (.str [41]))) (.var 3) (.con (.non)))]⟩
/-- 40: Reader.deed; self word found kind -/
def f_Reader_deed : FDef := ⟨1, 4, 1, [.set 1 (.met 2 (.var 0) []),
  .set 2 (.tup [(.var 1)]),
  .for_ (.name 3) .seq [(.bm false .dget (.glo 24) [(.var 1), (.tup [])])] [.set 2 (.bin .add (.var 2) (.tup [(.met 3 (.var 0) [(.var 3), (.con (.int 0))])]))],
  .ret (.var 2)]⟩
/-- 41: read; text found row line deed -/
def f_read : FDef := ⟨1, 5, 2, [.set 1 (.lst true []),
  .for_ (.tup [2, 3]) .enum [(.ite (.cmp .ne (.var 0) (.con (.str []))) (.bm false .split (.var 0) [(.con (.str [10]))]) (.lst false []))] [.set 4 (.met 5 (.new 5 [(.var 3)]) []),
  .ifs (.or (.not (.call 24 [(.var 4)])) (.cmp .ne (.call 29 [(.var 4)]) (.var 3))) [.never] [],
  .expr (.bm false .append (.var 1) [(.var 4)])],
  .ret (.var 1)]⟩
/-- 42: _law_dice; _law_script _law_k _law_found _law_cell -/
def f__law_dice : FDef := ⟨2, 4, 2, [.set 2 (.var 1),
  .for_ (.name 3) .seq [(.var 0)] [.set 2 (.bin .mod (.bin .add (.bin .mul (.var 2) (.con (.int 31))) (.bi false .abs [(.var 3)])) (.con (.int 2147483647)))],
  .ret (.addl true (.lst false [(.var 2), (.con (.int 0))]) (.lc false [3] (.name 3) .seq [(.var 0)] [(.cmp .ge (.var 3) (.bin .pow (.con (.int 10)) (.con (.int 18))))] (.var 3)))]⟩
/-- 43: _law_off; _law_d _law_upto _law_found -/
def f__law_off : FDef := ⟨2, 3, 1, [.ifs (.and (.cmp .eq (.idx (.var 0) (.con (.int 1))) (.con (.int 0))) (.cmp .gt (.bi false .len [(.var 0)]) (.con (.int 2)))) [.sidx (.var 0) (.con (.int 1)) (.bm false .popAt (.var 0) [(.con (.int 2))])] [],
  .ifs (.cmp .gt (.idx (.var 0) (.con (.int 1))) (.con (.int 0))) [.set 2 (.bin .mod (.idx (.var 0) (.con (.int 1))) (.var 1)),
  .sidx (.var 0) (.con (.int 1)) (.bin .fdiv (.idx (.var 0) (.con (.int 1))) (.var 1)),
  .ret (.var 2)] [],
  .sidx (.var 0) (.con (.int 0)) (.bin .mod (.bin .add (.bin .mul (.idx (.var 0) (.con (.int 0))) (.con (.int 48271))) (.con (.int 11))) (.con (.int 2147483647))),
  .ret (.bin .mod (.bin .fdiv (.idx (.var 0) (.con (.int 0))) (.con (.int 64))) (.var 1))]⟩
/-- 44: _law_alike; _law_found _law_due _law_k -/
def f__law_alike : FDef := ⟨2, 3, 0, [.ifs (.cmp .isN (.var 1) (.con (.non))) [.ret (.cmp .isN (.var 0) (.con (.non)))] [],
  .ifs (.bi false (.isinst .bool) [(.var 1)]) [.ret (.and (.bi false (.isinst .bool) [(.var 0)]) (.cmp .eq (.var 0) (.var 1)))] [],
  .ifs (.bi false (.isinst .int) [(.var 1)]) [.ret (.and (.bi false (.isinst .int) [(.var 0)]) (.and (.not (.bi false (.isinst .bool) [(.var 0)])) (.cmp .eq (.var 0) (.var 1))))] [],
  .ifs (.bi false (.isinst .str) [(.var 1)]) [.ret (.and (.bi false (.isinst .str) [(.var 0)]) (.cmp .eq (.var 0) (.var 1)))] [],
  .ifs (.or (.cmp .ne (.bi false (.isinst .tuple) [(.var 1)]) (.bi false (.isinst .tuple) [(.var 0)])) (.cmp .ne (.bi false (.isinst .list) [(.var 1)]) (.bi false (.isinst .list) [(.var 0)]))) [.ret (.con (.bl false))] [],
  .ifs (.cmp .ne (.bi false .len [(.var 0)]) (.bi false .len [(.var 1)])) [.ret (.con (.bl false))] [],
  .ret (.bi false .all [(.lc false [2] (.name 2) .range1 [(.bi false .len [(.var 1)])] [] (.call 44 [(.idx (.var 0) (.var 2)), (.idx (.var 1) (.var 2))]))])]⟩
/-- 45: _law_mixed; _law_d _law_row _law_left _law_found -/
def f__law_mixed : FDef := ⟨2, 4, 0, [.set 2 (.bi true .toList [(.var 1)]),
  .set 3 (.lst true []),
  .whl (.cmp .ne (.var 2) (.lst false [])) [.expr (.bm false .append (.var 3) [(.bm false .popAt (.var 2) [(.call 43 [(.var 0), (.bi false .len [(.var 2)])])])])],
  .ret (.var 3)]⟩
/-- 46: _law_tags; _law_d _law_found _law_key -/
def f__law_tags : FDef := ⟨1, 3, 0, [.set 1 (.lst true []),
  .for_ (.name 2) .seq [(.lst false [(.con (.str [97])), (.con (.str [98])), (.con (.str [114, 111, 111, 109]))])] [.ifs (.cmp .eq (.call 43 [(.var 0), (.con (.int 3))]) (.con (.int 0))) [.expr (.bm false .append (.var 1) [(.tup [(.var 2), (.idx (.lst false [(.con (.str [120])), (.con (.str [121])), (.con (.str [49]))]) (.call 43 [(.var 0), (.con (.int 3))]))])])] []],
  .ret (.bi false .toTuple [(.var 1)])]⟩
/-- 47: _law_name; _law_d _law_words -/
def f__law_name : FDef := ⟨2, 2, 0, [.ret (.tup [(.idx (.var 1) (.call 43 [(.var 0), (.bi false .len [(.var 1)])])), (.call 46 [(.var 0)])])]⟩
/-- 48: _law_picker; _law_d _law_words _law_found _law_turn _law_key _law_values -/
def f__law_picker : FDef := ⟨2, 6, 0, [.set 2 (.lst true []),
  .for_ (.name 3) .range1 [(.call 43 [(.var 0), (.con (.int 3))])] [.set 4 (.idx (.lst false [(.con (.str [97])), (.con (.str [98])), (.con (.str [114, 111, 111, 109]))]) (.call 43 [(.var 0), (.con (.int 3))])),
  .set 5 (.bi true .sorted [(.slc (.call 45 [(.var 0), (.lst false [(.con (.str [120])), (.con (.str [121])), (.con (.str [49]))])]) none (some (.bin .add (.con (.int 1)) (.call 43 [(.var 0), (.con (.int 2))]))))]),
  .expr (.bm false .append (.var 2) [(.tup [(.var 4), (.idx (.lst false [(.con (.str [105, 110])), (.con (.str [111, 117, 116]))]) (.call 43 [(.var 0), (.con (.int 2))])), (.bi false .toTuple [(.var 5)])])])],
  .ret (.tup [(.idx (.var 1) (.call 43 [(.var 0), (.bi false .len [(.var 1)])])), (.bi false .toTuple [(.var 2)])])]⟩
/-- 49: _law_question; _law_d _law_words _law_far _law_deep _law_kind _law_span _law_how _law_one _law_number_here _law_other _law_keys _law_key -/
def f__law_question : FDef := ⟨4, 12, 0, [.set 4 (.call 43 [(.var 0), (.con (.int 7))]),
  .set 5 (.bin .add (.con (.int 1)) (.call 43 [(.var 0), (.bin .add (.var 2) (.con (.int 1)))])),
  .ifs (.or (.cmp .lt (.var 3) (.con (.int 1))) (.cmp .lt (.var 4) (.con (.int 2)))) [.ifs (.cmp .eq (.call 43 [(.var 0), (.con (.int 2))]) (.con (.int 0))) [.ret (.tup [(.con (.str [97, 116])), (.call 48 [(.var 0), (.var 1)]), (.var 5)])] [],
  .set 6 (.idx (.lst false [(.con (.str [99, 111, 117, 110, 116])), (.con (.str [115, 117, 109])), (.con (.str [108, 101, 97, 115, 116])), (.con (.str [109, 111, 115, 116])), (.con (.str [102, 105, 114, 115, 116])), (.con (.str [108, 97, 115, 116])), (.con (.str [114, 105, 115, 101]))]) (.call 43 [(.var 0), (.con (.int 7))])),
  .ret (.tup [(.con (.str [111, 118, 101, 114])), (.var 6), (.call 48 [(.var 0), (.var 1)]), (.var 5)])] [],
  .set 7 (.call 49 [(.var 0), (.var 1), (.var 2), (.bin .sub (.var 3) (.con (.int 1)))]),
  .set 8 (.bin .sub (.call 43 [(.var 0), (.con (.int 41))]) (.con (.int 20))),
  .ifs (.cmp .lt (.var 4) (.con (.int 4))) [.set 6 (.idx (.lst false [(.con (.str [112, 108, 117, 115])), (.con (.str [109, 105, 110, 117, 115])), (.con (.str [116, 105, 109, 101, 115])), (.con (.str [108, 101, 97, 115, 116])), (.con (.str [109, 111, 115, 116]))]) (.call 43 [(.var 0), (.con (.int 5))])),
  .set 9 (.tup [(.con (.str [110, 117, 109])), (.var 8)]),
  .ifs (.cmp .eq (.call 43 [(.var 0), (.con (.int 2))]) (.con (.int 0))) [.set 9 (.call 49 [(.var 0), (.var 1), (.var 2), (.bin .sub (.var 3) (.con (.int 1)))])] [],
  .ret (.ite (.cmp .gt (.call 43 [(.var 0), (.con (.int 3))]) (.con (.int 0))) (.tup [(.con (.str [106, 111, 105, 110])), (.var 6), (.var 7), (.var 9)]) (.tup [(.con (.str [106, 111, 105, 110])), (.var 6), (.var 9), (.var 7)]))] [],
  .ifs (.cmp .eq (.var 4) (.con (.int 4))) [.set 10 (.lc true [11] (.name 11) .seq [(.lst false [(.con (.str [97])), (.con (.str [98])), (.con (.str [114, 111, 111, 109]))])] [(.cmp .eq (.call 43 [(.var 0), (.con (.int 2))]) (.con (.int 0)))] (.var 11)),
  .ret (.tup [(.con (.str [98, 121])), (.idx (.lst false [(.con (.str [99, 111, 117, 110, 116])), (.con (.str [115, 117, 109])), (.con (.str [108, 101, 97, 115, 116])), (.con (.str [109, 111, 115, 116]))]) (.call 43 [(.var 0), (.con (.int 4))])), (.bi false .toTuple [(.var 10)]), (.var 7)])] [],
  .ifs (.cmp .eq (.var 4) (.con (.int 5))) [.ret (.tup [(.con (.str [119, 104, 101, 114, 101])), (.idx (.lst false [(.con (.str [98, 101, 108, 111, 119])), (.con (.str [97, 98, 111, 118, 101])), (.con (.str [105, 115]))]) (.call 43 [(.var 0), (.con (.int 3))])), (.var 8), (.var 7)])] [],
  .ret (.tup [(.con (.str [114, 97, 110, 107])), (.bin .add (.con (.int 1)) (.call 43 [(.var 0), (.con (.int 4))])), (.var 7)])]⟩
/-- 50: _law_number; _law_d -/
def f__law_number : FDef := ⟨1, 1, 0, [.ret (.idx (.lst false [(.bin .sub (.call 43 [(.var 0), (.con (.int 9))]) (.con (.int 4))), (.bin .sub (.call 43 [(.var 0), (.con (.int 41))]) (.con (.int 20))), (.bin .sub (.call 43 [(.var 0), (.con (.int 2000001))]) (.con (.int 1000000)))]) (.bin .fdiv (.call 43 [(.var 0), (.con (.int 8))]) (.con (.int 3))))]⟩
/-- 51: _law_within; _law_question_here _law_first _law_part -/
def f__law_within : FDef := ⟨1, 3, 0, [.set 1 (.ite (.cmp .inn (.idx (.var 0) (.con (.int 0))) (.tup [(.con (.str [98, 121])), (.con (.str [119, 104, 101, 114, 101]))])) (.con (.int 3)) (.ite (.cmp .inn (.idx (.var 0) (.con (.int 0))) (.tup [(.con (.str [106, 111, 105, 110])), (.con (.str [114, 97, 110, 107]))])) (.con (.int 2)) (.bi false .len [(.var 0)]))),
  .ret (.lc false [2] (.name 2) .seq [(.slc (.var 0) (some (.var 1)) none)] [(.and (.bi false (.isinst .tuple) [(.var 2)]) (.and (.cmp .ne (.var 2) (.tup [])) (.cmp .inn (.idx (.var 2) (.con (.int 0))) (.tup [(.con (.str [110, 117, 109])), (.con (.str [97, 116])), (.con (.str [111, 118, 101, 114])), (.con (.str [106, 111, 105, 110])), (.con (.str [98, 121])), (.con (.str [119, 104, 101, 114, 101])), (.con (.str [114, 97, 110, 107]))]))))] (.var 2))]⟩
/-- 52: _law_deed; _law_d _law_words _law_kind _law_word _law_how _law_first -/
def f__law_deed : FDef := ⟨2, 6, 0, [.set 2 (.call 43 [(.var 0), (.con (.int 8))]),
  .set 3 (.idx (.lst false [(.con (.str [119, 101, 116])), (.con (.str [100, 114, 121])), (.con (.str [119, 97, 114, 109])), (.con (.str [119, 105, 100, 101]))]) (.call 43 [(.var 0), (.con (.int 4))])),
  .ifs (.cmp .eq (.var 2) (.con (.int 0))) [.ret (.tup [(.con (.str [116, 101, 108, 108])), (.call 47 [(.var 0), (.var 1)]), (.call 43 [(.var 0), (.con (.int 10000))]), (.call 50 [(.var 0)])])] [],
  .ifs (.cmp .eq (.var 2) (.con (.int 1))) [.ret (.tup [(.con (.str [115, 116, 114, 105, 107, 101])), (.call 43 [(.var 0), (.con (.int 100000))])])] [],
  .ifs (.cmp .eq (.var 2) (.con (.int 2))) [.ret (.tup [(.con (.str [116, 117, 114, 110])), (.idx (.lst false [(.call 43 [(.var 0), (.con (.int 9))]), (.call 43 [(.var 0), (.con (.int 10000))])]) (.call 43 [(.var 0), (.con (.int 2))]))])] [],
  .ifs (.cmp .eq (.var 2) (.con (.int 3))) [.ret (.tup [(.con (.str [119, 114, 105, 116, 101])), (.var 3), (.call 49 [(.var 0), (.var 1), (.con (.int 199)), (.con (.int 3))]), (.bin .add (.con (.int 1)) (.call 43 [(.var 0), (.con (.int 60))]))])] [],
  .ifs (.cmp .eq (.var 2) (.con (.int 4))) [.set 4 (.idx (.lst false [(.con (.str [98, 101, 108, 111, 119])), (.con (.str [97, 98, 111, 118, 101]))]) (.call 43 [(.var 0), (.con (.int 2))])),
  .ret (.tup [(.con (.str [119, 97, 107, 101])), (.var 3), (.call 49 [(.var 0), (.var 1), (.con (.int 199)), (.con (.int 3))]), (.var 4), (.call 50 [(.var 0)]), (.bin .add (.con (.int 1)) (.call 43 [(.var 0), (.con (.int 60))]))])] [],
  .ifs (.cmp .eq (.var 2) (.con (.int 5))) [.set 5 (.call 43 [(.var 0), (.con (.int 10000))]),
  .ret (.tup [(.con (.str [115, 105, 108, 101, 110, 99, 101])), (.call 48 [(.var 0), (.bin .add (.var 1) (.lst false [(.con (.str []))]))]), (.var 5), (.bin .add (.var 5) (.call 43 [(.var 0), (.bin .sub (.con (.int 10000)) (.var 5))]))])] [],
  .ret (.ite (.cmp .eq (.var 2) (.con (.int 6))) (.tup [(.con (.str [114, 101, 115, 116])), (.var 3)]) (.tup [(.con (.str [108, 105, 102, 116])), (.call 43 [(.var 0), (.con (.int 100000))])]))]⟩
/-- 53: _law_name_text; _law_name_here _law_tags_here _law_key _law_value -/
def f__law_name_text : FDef := ⟨1, 4, 0, [.set 1 (.bm false .join (.con (.str [44])) [(.lc false [2, 3] (.tup [2, 3]) .seq [(.idx (.var 0) (.con (.int 1)))] [] (.bin .add (.bin .add (.var 2) (.con (.str [61]))) (.var 3)))]),
  .ret (.bin .add (.bin .add (.bin .add (.idx (.var 0) (.con (.int 0))) (.bin .mul (.con (.str [123])) (.bi false .toInt [(.cmp .ne (.var 1) (.con (.str [])))]))) (.var 1)) (.bin .mul (.con (.str [125])) (.bi false .toInt [(.cmp .ne (.var 1) (.con (.str [])))])))]⟩
/-- 54: _law_picker_text; _law_picker_here _law_found _law_text _law_key _law_how _law_values -/
def f__law_picker_text : FDef := ⟨1, 6, 0, [.set 1 (.lc true [3, 4, 5] (.tup [3, 4, 5]) .seq [(.idx (.var 0) (.con (.int 1)))] [] (.bin .add (.bin .add (.var 3) (.idx (.lst false [(.con (.str [61])), (.con (.str [33, 61]))]) (.bi false .toInt [(.cmp .eq (.var 4) (.con (.str [111, 117, 116])))]))) (.bm false .join (.con (.str [124])) [(.bi false .toList [(.var 5)])]))),
  .set 2 (.bm false .join (.con (.str [44])) [(.var 1)]),
  .ret (.bin .add (.bin .add (.bin .add (.ite (.cmp .ne (.idx (.var 0) (.con (.int 0))) (.con (.str []))) (.idx (.var 0) (.con (.int 0))) (.con (.str [42]))) (.bin .mul (.con (.str [123])) (.bi false .toInt [(.cmp .ne (.var 2) (.con (.str [])))]))) (.var 2)) (.bin .mul (.con (.str [125])) (.bi false .toInt [(.cmp .ne (.var 2) (.con (.str [])))])))]⟩
/-- 55: _law_question_text; _law_question_here _law_word _law_picker_here _law_inner _law_keys _law_one -/
def f__law_question_text : FDef := ⟨1, 6, 0, [.set 1 (.idx (.var 0) (.con (.int 0))),
  .ifs (.cmp .eq (.var 1) (.con (.str [110, 117, 109]))) [.ret (.bin .add (.bin .add (.con (.str [40, 110, 117, 109, 32])) (.bi false .toStr [(.idx (.var 0) (.con (.int 1)))])) (.con (.str [41])))] [],
  .ifs (.cmp .eq (.var 1) (.con (.str [97, 116]))) [.ret (.bin .add (.bin .add (.bin .add (.bin .add (.con (.str [40, 97, 116, 32])) (.call 54 [(.idx (.var 0) (.con (.int 1)))])) (.con (.str [32]))) (.bi false .toStr [(.idx (.var 0) (.con (.int 2)))])) (.con (.str [41])))] [],
  .ifs (.cmp .eq (.var 1) (.con (.str [111, 118, 101, 114]))) [.set 2 (.call 54 [(.idx (.var 0) (.con (.int 2)))]),
  .ret (.bin .add (.bin .add (.bin .add (.bin .add (.bin .add (.bin .add (.con (.str [40, 111, 118, 101, 114, 32])) (.idx (.var 0) (.con (.int 1)))) (.con (.str [32]))) (.var 2)) (.con (.str [32]))) (.bi false .toStr [(.idx (.var 0) (.con (.int 3)))])) (.con (.str [41])))] [],
  .set 3 (.bm false .join (.con (.str [32])) [(.lc false [5] (.name 5) .seq [(.call 51 [(.var 0)])] [] (.call 55 [(.var 5)]))]),
  .ifs (.cmp .eq (.var 1) (.con (.str [98, 121]))) [.set 4 (.ite (.cmp .ne (.idx (.var 0) (.con (.int 2))) (.tup [])) (.bm false .join (.con (.str [44])) [(.bi false .toList [(.idx (.var 0) (.con (.int 2)))])]) (.con (.str [45]))),
  .ret (.bin .add (.bin .add (.bin .add (.bin .add (.bin .add (.bin .add (.con (.str [40, 98, 121, 32])) (.idx (.var 0) (.con (.int 1)))) (.con (.str [32]))) (.var 4)) (.con (.str [32]))) (.var 3)) (.con (.str [41])))] [],
  .ifs (.cmp .eq (.var 1) (.con (.str [119, 104, 101, 114, 101]))) [.ret (.bin .add (.bin .add (.bin .add (.bin .add (.bin .add (.bin .add (.con (.str [40, 119, 104, 101, 114, 101, 32])) (.idx (.var 0) (.con (.int 1)))) (.con (.str [32]))) (.bi false .toStr [(.idx (.var 0) (.con (.int 2)))])) (.con (.str [32]))) (.var 3)) (.con (.str [41])))] [],
  .ret (.bin .add (.bin .add (.bin .add (.bin .add (.bin .add (.bin .add (.con (.str [40])) (.var 1)) (.con (.str [32]))) (.bi false .toStr [(.idx (.var 0) (.con (.int 1)))])) (.con (.str [32]))) (.var 3)) (.con (.str [41])))]⟩
/-- 56: _law_deed_text; _law_deed_here _law_found _law_k -/
def f__law_deed_text : FDef := ⟨1, 3, 0, [.set 1 (.lst true [(.idx (.var 0) (.con (.int 0)))]),
  .for_ (.name 2) .range2 [(.con (.int 1)), (.bi false .len [(.var 0)])] [.ifs (.and (.cmp .eq (.idx (.var 0) (.con (.int 0))) (.con (.str [116, 101, 108, 108]))) (.cmp .eq (.var 2) (.con (.int 1)))) [.expr (.bm false .append (.var 1) [(.call 53 [(.idx (.var 0) (.var 2))])])] [.ifs (.and (.cmp .eq (.idx (.var 0) (.con (.int 0))) (.con (.str [115, 105, 108, 101, 110, 99, 101]))) (.cmp .eq (.var 2) (.con (.int 1)))) [.expr (.bm false .append (.var 1) [(.call 54 [(.idx (.var 0) (.var 2))])])] [.expr (.bm false .append (.var 1) [(.ite (.bi false (.isinst .tuple) [(.idx (.var 0) (.var 2))]) (.call 55 [(.idx (.var 0) (.var 2))]) (.bi false .toStr [(.idx (.var 0) (.var 2))]))])]]],
  .ret (.bm false .join (.con (.str [32])) [(.var 1)])]⟩
/-- 57: law; _law_script _law_d _law_deeds _law_four _law_picker_here _law_deep _law_k _law_ends _law_text _law_again _law_found _law_deed_here -/
def f_law : FDef := ⟨1, 12, 0, [.set 1 (.call 42 [(.var 0), (.con (.int 73))]),
  .set 2 (.lc true [6] (.name 6) .range1 [(.call 43 [(.var 1), (.con (.int 7))])] [] (.call 52 [(.var 1), (.lst false [(.con (.str [108, 111, 97, 100])), (.con (.str [116, 101, 109, 112])), (.con (.str [119, 101, 116]))])])),
  .set 3 (.tup [(.tup [(.con (.str [97])), (.con (.str [105, 110])), (.tup [(.con (.str [120])), (.con (.str [121]))])]), (.tup [(.con (.str [98])), (.con (.str [111, 117, 116])), (.tup [(.con (.str [49]))])]), (.tup [(.con (.str [97])), (.con (.str [111, 117, 116])), (.tup [(.con (.str [120]))])]), (.tup [(.con (.str [114, 111, 111, 109])), (.con (.str [111, 117, 116])), (.tup [(.con (.str [48])), (.con (.str [120])), (.con (.str [121])), (.con (.str [122, 122]))])])]),
  .set 4 (.idx (.lst false [(.call 48 [(.var 1), (.lst false [(.con (.str [108, 111, 97, 100])), (.con (.str [116, 101, 109, 112]))])]), (.tup [(.con (.str [108, 111, 97, 100])), (.bi false .toTuple [(.call 45 [(.var 1), (.var 3)])])])]) (.call 43 [(.var 1), (.con (.int 2))])),
  .set 5 (.tup [(.con (.str [97, 116])), (.var 4), (.bin .add (.con (.int 1)) (.call 43 [(.var 1), (.con (.int 200))]))]),
  .for_ (.name 6) .range1 [(.bin .add (.con (.int 1)) (.call 43 [(.var 1), (.con (.int 7))]))] [.set 5 (.tup [(.con (.str [114, 97, 110, 107])), (.bin .add (.con (.int 1)) (.call 43 [(.var 1), (.con (.int 99))])), (.var 5)])],
  .expr (.bm false .append (.var 2) [(.tup [(.con (.str [119, 114, 105, 116, 101])), (.con (.str [100, 101, 101, 112])), (.var 5), (.con (.int 1))])]),
  .set 7 (.lst true [(.tup [(.con (.str [116, 101, 108, 108])), (.tup [(.con (.str [108, 111, 97, 100])), (.tup [])]), (.con (.int 9999)), (.bin .sub (.con (.int 0)) (.bin .pow (.con (.int 10)) (.con (.int 6))))]), (.tup [(.con (.str [115, 116, 114, 105, 107, 101])), (.con (.int 99999))]), (.tup [(.con (.str [114, 101, 115, 116])), (.con (.str [97]))]), (.tup [(.con (.str [116, 117, 114, 110])), (.con (.int 0))]), (.tup [(.con (.str [108, 105, 102, 116])), (.con (.int 0))])]),
  .set 2 (.bin .add (.var 2) (.bin .mul (.var 7) (.call 43 [(.var 1), (.con (.int 2))]))),
  .set 8 (.bm false .join (.con (.str [10])) [(.lc false [11] (.name 11) .seq [(.var 2)] [] (.call 56 [(.var 11)]))]),
  .for_ (.name 9) .range1 [(.con (.int 2))] [.ifs (.not (.call 44 [(.call 30 [(.var 2)]), (.var 8)])) [.ret (.con (.bl false))] [],
  .set 10 (.call 41 [(.var 8)]),
  .ifs (.not (.call 44 [(.var 10), (.var 2)])) [.ret (.con (.bl false))] [],
  .expr (.bm false .append (.var 10) [(.tup [])])],
  .ret (.and (.cmp .eq (.call 41 [(.con (.str []))]) (.lst false [])) (.cmp .eq (.call 30 [(.lst false [])]) (.con (.str []))))]⟩
def fns : List FDef := [f_BadQuestion___init__, f_BadDeed___init__, f_BadText___init__, f_is_run, f_is_word, f_is_key, f_is_value, f_are_rising, f_are_keys, f_are_tags, f_is_name, f_is_condition, f_is_picker, f_is_number, f_is_one_of, f_is_worded, f_is_form, f_within, f_Looker___init__, f_Looker_look, f_need_question, f_is_rows_question, f_can_be, f_is_called, f_is_deed, f_name_text, f_picker_text, f_question_text, f_thing_text, f_deed_text, f_written, f_tags_of, f_name_of, f_condition_of, f_picker_of, f_number_of, f_Reader___init__, f_Reader_take, f_Reader_thing, f_Reader_read_question, f_Reader_deed, f_read, f__law_dice, f__law_off, f__law_alike, f__law_mixed, f__law_tags, f__law_name, f__law_picker, f__law_question, f__law_number, f__law_within, f__law_deed, f__law_name_text, f__law_picker_text, f__law_question_text, f__law_deed_text, f_law]
def gvs : List P := [.str [97, 98, 99, 100, 101, 102, 103, 104, 105, 106, 107, 108, 109, 110, 111, 112, 113, 114, 115, 116, 117, 118, 119, 120, 121, 122], .str [97, 98, 99, 100, 101, 102, 103, 104, 105, 106, 107, 108, 109, 110, 111, 112, 113, 114, 115, 116, 117, 118, 119, 120, 121, 122, 48, 49, 50, 51, 52, 53, 54, 55, 56, 57], .int 8, .int 6, .int 4, .int 60, .int 7, .int 200, .int 1000000, .int 99, .tup [.str [99, 111, 117, 110, 116], .str [115, 117, 109], .str [108, 101, 97, 115, 116], .str [109, 111, 115, 116], .str [102, 105, 114, 115, 116], .str [108, 97, 115, 116], .str [114, 105, 115, 101]], .tup [.str [112, 108, 117, 115], .str [109, 105, 110, 117, 115], .str [116, 105, 109, 101, 115], .str [108, 101, 97, 115, 116], .str [109, 111, 115, 116]], .tup [.str [99, 111, 117, 110, 116], .str [115, 117, 109], .str [108, 101, 97, 115, 116], .str [109, 111, 115, 116]], .tup [.str [98, 101, 108, 111, 119], .str [97, 98, 111, 118, 101], .str [105, 115]], .dct [.str [110, 117, 109], .str [97, 116], .str [111, 118, 101, 114], .str [106, 111, 105, 110], .str [98, 121], .str [119, 104, 101, 114, 101], .str [114, 97, 110, 107]] [.int 2, .int 3, .int 4, .int 4, .int 4, .int 4, .int 3], .int 60, .tup [.str [98, 101, 108, 111, 119], .str [97, 98, 111, 118, 101]], .int 9999, .int 99999, .int 60, .int 7, .str [48, 49, 50, 51, 52, 53, 54, 55, 56, 57], .str [42], .str [45], .dct [.str [116, 101, 108, 108], .str [115, 116, 114, 105, 107, 101], .str [116, 117, 114, 110], .str [119, 114, 105, 116, 101], .str [119, 97, 107, 101], .str [114, 101, 115, 116], .str [115, 105, 108, 101, 110, 99, 101], .str [108, 105, 102, 116]] [.tup [.str [110, 97, 109, 101], .str [116, 105, 99, 107], .str [119, 111, 114, 116, 104]], .tup [.str [110, 117, 109, 98, 101, 114]], .tup [.str [116, 105, 99, 107]], .tup [.str [119, 111, 114, 100], .str [113, 117, 101, 115, 116, 105, 111, 110], .str [115, 116, 101, 112]], .tup [.str [119, 111, 114, 100], .str [113, 117, 101, 115, 116, 105, 111, 110], .str [104, 111, 119], .str [119, 111, 114, 116, 104], .str [104, 101, 108, 100]], .tup [.str [119, 111, 114, 100]], .tup [.str [112, 105, 99, 107, 101, 114], .str [116, 105, 99, 107], .str [116, 105, 99, 107]], .tup [.str [110, 117, 109, 98, 101, 114]]], .dct [.str [110, 117, 109], .str [97, 116], .str [111, 118, 101, 114], .str [106, 111, 105, 110], .str [98, 121], .str [119, 104, 101, 114, 101], .str [114, 97, 110, 107]] [.tup [.str [110, 117, 109, 98, 101, 114]], .tup [.str [112, 105, 99, 107, 101, 114], .str [110, 117, 109, 98, 101, 114]], .tup [.str [119, 111, 114, 100], .str [112, 105, 99, 107, 101, 114], .str [110, 117, 109, 98, 101, 114]], .tup [.str [119, 111, 114, 100], .str [113, 117, 101, 115, 116, 105, 111, 110], .str [113, 117, 101, 115, 116, 105, 111, 110]], .tup [.str [119, 111, 114, 100], .str [107, 101, 121, 115], .str [113, 117, 101, 115, 116, 105, 111, 110]], .tup [.str [119, 111, 114, 100], .str [110, 117, 109, 98, 101, 114], .str [113, 117, 101, 115, 116, 105, 111, 110]], .tup [.str [110, 117, 109, 98, 101, 114], .str [113, 117, 101, 115, 116, 105, 111, 110]]]]
def meths : List ((Nat × Nat) × Nat) := [((4, 0), 18), ((4, 1), 19), ((5, 0), 36), ((5, 2), 37), ((5, 3), 38), ((5, 4), 39), ((5, 5), 40)]
def subs : List (Nat × Nat) := [(0, 0), (1, 1), (1, 0), (2, 2), (2, 0), (3, 3), (3, 0), (4, 4), (5, 5)]
def G : Prog := {
  fn := fun i => fns[i]?
  meth := fun c m => meths.lookup (c, m)
  init := fun c => meths.lookup (c, 0)
  gv := fun i => gvs.getD i .non
  sub := fun a b => subs.contains (a, b) }
-- classes TideError=0 BadQuestion=1 BadDeed=2 BadText=3 Looker=4 Reader=5
-- fields place=0 number=1 row=2 many=3 tokens=4 at=5
-- meths __init__=0 look=1 take=2 thing=3 read_question=4 deed=5
-- globs LETTERS=0 SIGNS=1 MOST_WORD=2 MOST_KEY=3 MOST_TAGS=4 MOST_QUESTIONS=5 MOST_DEEP=6 MOST_BACK=7 MOST_WORTH=8 MOST_RANK=9 FOLDS=10 JOINS=11 GROUPS=12 SIDES=13 SIZES=14 MOST_HELD=15 HOWS=16 MOST_TICK=17 MOST_NUMBER=18 MOST_STEP=19 MOST_FIGURES=20 FIGURES=21 ANY=22 NO_KEYS=23 THINGS=24 SHAPES=25
end K73
end T_K73ir
section T_K73g
set_option linter.all false
set_option Elab.async false
namespace K73
open TH
@[simp] theorem gv_0 : G.gv 0 = .str [97, 98, 99, 100, 101, 102, 103, 104, 105, 106, 107, 108, 109, 110, 111, 112, 113, 114, 115, 116, 117, 118, 119, 120, 121, 122] := rfl
@[simp] theorem gv_1 : G.gv 1 = .str [97, 98, 99, 100, 101, 102, 103, 104, 105, 106, 107, 108, 109, 110, 111, 112, 113, 114, 115, 116, 117, 118, 119, 120, 121, 122, 48, 49, 50, 51, 52, 53, 54, 55, 56, 57] := rfl
@[simp] theorem gv_2 : G.gv 2 = .int 8 := rfl
@[simp] theorem gv_3 : G.gv 3 = .int 6 := rfl
@[simp] theorem gv_4 : G.gv 4 = .int 4 := rfl
@[simp] theorem gv_5 : G.gv 5 = .int 60 := rfl
@[simp] theorem gv_6 : G.gv 6 = .int 7 := rfl
@[simp] theorem gv_7 : G.gv 7 = .int 200 := rfl
@[simp] theorem gv_8 : G.gv 8 = .int 1000000 := rfl
@[simp] theorem gv_9 : G.gv 9 = .int 99 := rfl
@[simp] theorem gv_10 : G.gv 10 = .tup [.str [99, 111, 117, 110, 116], .str [115, 117, 109], .str [108, 101, 97, 115, 116], .str [109, 111, 115, 116], .str [102, 105, 114, 115, 116], .str [108, 97, 115, 116], .str [114, 105, 115, 101]] := rfl
@[simp] theorem gv_11 : G.gv 11 = .tup [.str [112, 108, 117, 115], .str [109, 105, 110, 117, 115], .str [116, 105, 109, 101, 115], .str [108, 101, 97, 115, 116], .str [109, 111, 115, 116]] := rfl
@[simp] theorem gv_12 : G.gv 12 = .tup [.str [99, 111, 117, 110, 116], .str [115, 117, 109], .str [108, 101, 97, 115, 116], .str [109, 111, 115, 116]] := rfl
@[simp] theorem gv_13 : G.gv 13 = .tup [.str [98, 101, 108, 111, 119], .str [97, 98, 111, 118, 101], .str [105, 115]] := rfl
@[simp] theorem gv_14 : G.gv 14 = .dct [.str [110, 117, 109], .str [97, 116], .str [111, 118, 101, 114], .str [106, 111, 105, 110], .str [98, 121], .str [119, 104, 101, 114, 101], .str [114, 97, 110, 107]] [.int 2, .int 3, .int 4, .int 4, .int 4, .int 4, .int 3] := rfl
@[simp] theorem gv_15 : G.gv 15 = .int 60 := rfl
@[simp] theorem gv_16 : G.gv 16 = .tup [.str [98, 101, 108, 111, 119], .str [97, 98, 111, 118, 101]] := rfl
@[simp] theorem gv_17 : G.gv 17 = .int 9999 := rfl
@[simp] theorem gv_18 : G.gv 18 = .int 99999 := rfl
@[simp] theorem gv_19 : G.gv 19 = .int 60 := rfl
@[simp] theorem gv_20 : G.gv 20 = .int 7 := rfl
@[simp] theorem gv_21 : G.gv 21 = .str [48, 49, 50, 51, 52, 53, 54, 55, 56, 57] := rfl
@[simp] theorem gv_22 : G.gv 22 = .str [42] := rfl
@[simp] theorem gv_23 : G.gv 23 = .str [45] := rfl
@[simp] theorem gv_24 : G.gv 24 = .dct [.str [116, 101, 108, 108], .str [115, 116, 114, 105, 107, 101], .str [116, 117, 114, 110], .str [119, 114, 105, 116, 101], .str [119, 97, 107, 101], .str [114, 101, 115, 116], .str [115, 105, 108, 101, 110, 99, 101], .str [108, 105, 102, 116]] [.tup [.str [110, 97, 109, 101], .str [116, 105, 99, 107], .str [119, 111, 114, 116, 104]], .tup [.str [110, 117, 109, 98, 101, 114]], .tup [.str [116, 105, 99, 107]], .tup [.str [119, 111, 114, 100], .str [113, 117, 101, 115, 116, 105, 111, 110], .str [115, 116, 101, 112]], .tup [.str [119, 111, 114, 100], .str [113, 117, 101, 115, 116, 105, 111, 110], .str [104, 111, 119], .str [119, 111, 114, 116, 104], .str [104, 101, 108, 100]], .tup [.str [119, 111, 114, 100]], .tup [.str [112, 105, 99, 107, 101, 114], .str [116, 105, 99, 107], .str [116, 105, 99, 107]], .tup [.str [110, 117, 109, 98, 101, 114]]] := rfl
@[simp] theorem gv_25 : G.gv 25 = .dct [.str [110, 117, 109], .str [97, 116], .str [111, 118, 101, 114], .str [106, 111, 105, 110], .str [98, 121], .str [119, 104, 101, 114, 101], .str [114, 97, 110, 107]] [.tup [.str [110, 117, 109, 98, 101, 114]], .tup [.str [112, 105, 99, 107, 101, 114], .str [110, 117, 109, 98, 101, 114]], .tup [.str [119, 111, 114, 100], .str [112, 105, 99, 107, 101, 114], .str [110, 117, 109, 98, 101, 114]], .tup [.str [119, 111, 114, 100], .str [113, 117, 101, 115, 116, 105, 111, 110], .str [113, 117, 101, 115, 116, 105, 111, 110]], .tup [.str [119, 111, 114, 100], .str [107, 101, 121, 115], .str [113, 117, 101, 115, 116, 105, 111, 110]], .tup [.str [119, 111, 114, 100], .str [110, 117, 109, 98, 101, 114], .str [113, 117, 101, 115, 116, 105, 111, 110]], .tup [.str [110, 117, 109, 98, 101, 114], .str [113, 117, 101, 115, 116, 105, 111, 110]]] := rfl
@[simp] theorem meth_4_0 : G.meth 4 0 = some 18 := rfl
@[simp] theorem init_4 : G.init 4 = some 18 := rfl
@[simp] theorem meth_4_1 : G.meth 4 1 = some 19 := rfl
@[simp] theorem meth_5_0 : G.meth 5 0 = some 36 := rfl
@[simp] theorem init_5 : G.init 5 = some 36 := rfl
@[simp] theorem meth_5_2 : G.meth 5 2 = some 37 := rfl
@[simp] theorem meth_5_3 : G.meth 5 3 = some 38 := rfl
@[simp] theorem meth_5_4 : G.meth 5 4 = some 39 := rfl
@[simp] theorem meth_5_5 : G.meth 5 5 = some 40 := rfl
end K73
end T_K73g
section T_V1
set_option linter.all false
set_option Elab.async false
set_option maxRecDepth 100000
namespace K73
open TH
/-! ### names, pickers -/
theorem is_run {k : Nat} (hk : 1 ≤ k) {x sg : List Nat} {n : Int} {s : Sto} (hs : Flat s) (hx : x.length < line) : callF G k 3 [.p (.str x), .p (.str sg), .p (.int n)] s = .ok (.p (.bl (isRun x sg n))) s := by
  obtain ⟨k, rfl⟩ := Nat.exists_eq_add_of_le' hk
  rw [call_eq (fd := f_is_run) rfl rfl]
  have hlc := lc_pure (G := G) (cf := callF G k) (ci := callF G (k - 1)) (own := [3]) (tg := .name 3) (ik := .seq) (its := [(.var 0)]) (cs := [(.cmp .notIn (.var 3) (.var 1))]) (elt := .var 3) (env := [some (.p (.str x)), some (.p (.str sg)), some (.p (.int n)), none]) (s := s) (fun d => match d with | .p (.str [c]) => !decide (c ∈ sg) | _ => false) (fun d => match d with | .p y => y | _ => .non) hs (ds := [.p (.str x)]) (xs := x.map fun c => .p (.str [c])) (by simp) (by simp [items, Nat.le_of_lt hx]) (by simpa using hx) (fun _ => rfl) (fun d hd => by
    obtain ⟨c, _, rfl⟩ := List.mem_map.mp hd
    refine ⟨_, rfl, fun s' _ => ?_⟩
    simp [wipeE])
  have h0 : x.length ≤ line := Nat.le_of_lt hx
  simp [f_is_run, hlc, h0]
  by_cases h1 : (1 : Int) ≤ x.length
  · by_cases h2 : (x.length : Int) ≤ n
    · simp only [h1, h2, hlc, decide_true, truthM_b, R.bind_ok, if_true, cmpD_pp, cmpP_eq, eq_lnil, X.of_ok, X.seq_ret, fin0' hs, isRun, Bool.true_and]
      congr 3
      rw [Bool.eq_iff_iff]
      simp [List.filter_eq_nil_iff]
    · simp [h1, h2, fin0' hs, isRun]
  · simp [h1, fin0' hs, isRun]
theorem is_word {k : Nat} (hk : 2 ≤ k) {x : Txt} {s : Sto} (hs : Flat s) (hx : x.length < line) : callF G k 4 [.p (.str x)] s = .ok (.p (.bl (isWord x))) s := by
  obtain ⟨k, rfl⟩ := Nat.exists_eq_add_of_le' (by omega : 1 ≤ k)
  rw [call_eq (fd := f_is_word) rfl rfl]
  simp [f_is_word, is_run (k := k) (by omega) hs hx, fin0' hs]
  rfl
theorem is_key {k : Nat} (hk : 2 ≤ k) {x : Txt} {s : Sto} (hs : Flat s) (hx : x.length < line) : callF G k 5 [.p (.str x)] s = .ok (.p (.bl (isKey x))) s := by
  obtain ⟨k, rfl⟩ := Nat.exists_eq_add_of_le' (by omega : 1 ≤ k)
  rw [call_eq (fd := f_is_key) rfl rfl]
  simp [f_is_key, is_run (k := k) (by omega) hs hx, fin0' hs]
  rfl
theorem is_value {k : Nat} (hk : 2 ≤ k) {x : Txt} {s : Sto} (hs : Flat s) (hx : x.length < line) : callF G k 6 [.p (.str x)] s = .ok (.p (.bl (isVal x))) s := by
  obtain ⟨k, rfl⟩ := Nat.exists_eq_add_of_le' (by omega : 1 ≤ k)
  rw [call_eq (fd := f_is_value) rfl rfl]
  simp [f_is_value, is_run (k := k) (by omega) hs hx, fin0' hs]
  rfl
/-- a sequence of texts -/
theorem are_rising {k : Nat} (hk : 1 ≤ k) {xs : List Txt} {s : Sto} (hs : Flat s) (hx : xs.length < 1000000) (mk : P) (hm : mk = .tup (strsP xs) ∨ mk = .lst (strsP xs)) : callF G k 7 [.p mk] s = .ok (.p (.bl (rising xs))) s := by
  obtain ⟨k, rfl⟩ := Nat.exists_eq_add_of_le' hk
  rw [call_eq (fd := f_are_rising) rfl rfl]
  have hlen : biP .len [mk] = some (.int xs.length) := by rcases hm with rfl | rfl <;> simp [strsP]
  have hid : ∀ i : Nat, (h : i < xs.length) → idxP mk (.int i) = some (.str xs[i]) := by
    intro i h
    rcases hm with rfl | rfl
    · rw [idx_nat _ _ (by simpa [strsP] using h)]; simp [strsP]
    · rw [idx_natl _ _ (by simpa [strsP] using h)]; simp [strsP]
  have hlc := lc_pure (G := G) (cf := callF G k) (ci := callF G (k - 1)) (own := [1]) (tg := .name 1) (ik := .range2) (its := [(.con (.int 1)), (.bi false .len [(.var 0)])]) (cs := [(.cmp .ge (.idx (.var 0) (.bin .sub (.var 1) (.con (.int 1)))) (.idx (.var 0) (.var 1)))]) (elt := .var 1) (env := [some (.p mk), none]) (s := s) (fun d => match d with | .p (.int i) => !strLt (xs.getD (i - 1).toNat []) (xs.getD i.toNat []) | _ => false) (fun d => match d with | .p y => y | _ => .non) hs (ds := [.p (.int 1), .p (.int xs.length)]) (xs := (List.range ((xs.length : Int) - 1).toNat).map fun (k : Nat) => D.p (.int (1 + (k : Int)))) (by simp [hlen]) (by simp [items]; omega) (by simp [line]; omega) (fun _ => rfl) (fun d hd => by
    obtain ⟨c, hc, rfl⟩ := List.mem_map.mp hd
    rw [List.mem_range] at hc
    refine ⟨_, rfl, fun s' _ => ?_⟩
    have h1 : c < xs.length := by omega
    have h2 : c + 1 < xs.length := by omega
    have e1 : idxP mk (.int (1 + (c : Int) - 1)) = some (.str xs[c]) := by
      have := hid c h1
      rwa [show (1 + (c : Int) - 1) = c by omega]
    have e2 : idxP mk (.int (1 + (c : Int))) = some (.str xs[c + 1]) := by
      have := hid (c + 1) h2
      rwa [show (1 + (c : Int)) = ((c + 1 : Nat) : Int) by omega]
    have e3 : (1 + (c : Int) - 1).toNat = c := by omega
    have e4 : (1 + (c : Int)).toNat = c + 1 := by omega
    simp only [wipeE, List.set, evC_cons, ev_cmp, ev_idx, ev_var, ev_bin, ev_con, getV_z, getV_s, opt_some, R.bind_ok, view_p, bin_subi, idxD_pp, e1, e2, Option.map_some, cmpD_pp, cmpP_ges, truthM_b, e3, e4, List.getD_eq_getElem?_getD, List.getElem?_eq_getElem h1, List.getElem?_eq_getElem h2, Option.getD_some, implies_true, and_self])
  simp [f_are_rising, hlc, fin0' hs]
  rw [Bool.eq_iff_iff, rising_iff]
  simp only [decide_eq_true_eq, List.map_eq_nil_iff, List.filter_eq_nil_iff, List.isEmpty_iff]
  constructor
  · intro h j hj
    have := h (.p (.int (1 + (j : Int)))) (List.mem_map.mpr ⟨j, by rw [List.mem_range]; omega, rfl⟩)
    have e3 : (1 + (j : Int) - 1).toNat = j := by omega
    have e4 : (1 + (j : Int)).toNat = j + 1 := by omega
    simpa [e3, e4, List.getElem?_eq_getElem hj, List.getElem?_eq_getElem (Nat.lt_of_succ_lt hj)] using this
  · intro h d hd
    obtain ⟨j, hj, rfl⟩ := List.mem_map.mp hd
    rw [List.mem_range] at hj
    have hj' : j + 1 < xs.length := by omega
    have e3 : (1 + (j : Int) - 1).toNat = j := by omega
    have e4 : (1 + (j : Int)).toNat = j + 1 := by omega
    simpa [e3, e4, List.getElem?_eq_getElem hj', List.getElem?_eq_getElem (Nat.lt_of_succ_lt hj')] using h j hj'
end K73
end T_V1
section T_V2
set_option linter.all false
set_option Elab.async false
set_option maxRecDepth 100000
namespace K73
open TH
theorem are_keys {k : Nat} (hk : 3 ≤ k) {xs : List Txt} {s : Sto} (hs : Flat s) (hx : xs.length < 1000000) (hl : ∀ x ∈ xs, x.length < line) : callF G k 8 [.p (.tup (strsP xs))] s = .ok (.p (.bl (areKeys xs))) s := by
  obtain ⟨k, rfl⟩ := Nat.exists_eq_add_of_le' (by omega : 1 ≤ k)
  rw [call_eq (fd := f_are_keys) rfl rfl]
  have hlc := lc_map (G := G) (cf := callF G k) (ci := callF G (k - 1)) (own := [1]) (tg := .name 1) (ik := .seq) (its := [(.var 0)]) (elt := .call 5 [.var 1]) (env := [some (.p (.tup (strsP xs))), none]) (s := s) xs (fun x => .p (.str x)) (fun x => .bl (isKey x)) hs (ds := [.p (.tup (strsP xs))]) (by simp) (by simp [strsP]) (by simp [line]; omega) (fun _ => stands_p _ _ _ _) (fun d hd => by
    refine ⟨_, rfl, fun s' hs' => ?_⟩
    simp [wipeE, is_key (k := k) (by omega) hs' (hl d hd)])
  have hr := are_rising (k := k) (by omega) hs hx (.tup (strsP xs)) (.inl rfl)
  have hln : (strsP xs).length = xs.length := by simp [strsP]
  have hall := all_map xs isKey
  simp only [areKeys]
  generalize xs.all isKey = b at hall ⊢
  simp [f_are_keys, hr, hln]
  by_cases h1 : (4 : Int) < xs.length
  · have h2 : ¬ ((xs.length : Int) ≤ 4) := by omega
    simp [h1, h2, fin0' hs]
  · have h2 : ((xs.length : Int) ≤ 4) := by omega
    cases b <;> simp [h1, h2, hlc, hall, hr, fin0' hs]
theorem are_tags {k : Nat} (hk : 3 ≤ k) {xs : List Tag} {s : Sto} (hs : Flat s) (hx : xs.length < 1000000) (hl : ∀ x ∈ xs, x.1.length < line ∧ x.2.length < line) : callF G k 9 [.p (tagsP xs)] s = .ok (.p (.bl (isTags xs))) s := by
  obtain ⟨k, rfl⟩ := Nat.exists_eq_add_of_le' (by omega : 1 ≤ k)
  rw [call_eq (fd := f_are_tags) rfl rfl]
  have hr := are_rising (k := k) (by omega) (xs := xs.map (·.1)) hs (by simpa using hx) (.lst (strsP (xs.map (·.1)))) (.inr rfl)
  have hlc : ∀ a : D, evE G (callF G k) (callF G (k - 1)) (.lc false [2, 3] (.tup [2, 3]) .seq [(.var 0)] [] (.var 2)) [some (.p (tagsP xs)), some a, none, none] s = .ok (.p (.lst (xs.map fun x => .str x.1))) s := fun a => lc_map (G := G) (cf := callF G k) (ci := callF G (k - 1)) (own := [2, 3]) (tg := .tup [2, 3]) (ik := .seq) (its := [(.var 0)]) (elt := .var 2) (env := [some (.p (tagsP xs)), some a, none, none]) (s := s) xs (fun x => .p x.P) (fun x => .str x.1) hs (ds := [.p (tagsP xs)]) (by simp) (by simp [tagsP]) (by simp [line]; omega) (fun _ => stands_p _ _ _ _) (fun d hd => by
    refine ⟨_, rfl, fun s' hs' => ?_⟩
    simp [wipeE])
  have hlc0 : evE G (callF G k) (callF G (k - 1)) (.lc false [2, 3] (.tup [2, 3]) .seq [(.var 0)] [] (.var 2)) [some (.p (tagsP xs)), none, none, none] s = .ok (.p (.lst (xs.map fun x => .str x.1))) s := lc_map (G := G) (cf := callF G k) (ci := callF G (k - 1)) (own := [2, 3]) (tg := .tup [2, 3]) (ik := .seq) (its := [(.var 0)]) (elt := .var 2) (env := [some (.p (tagsP xs)), none, none, none]) (s := s) xs (fun x => .p x.P) (fun x => .str x.1) hs (ds := [.p (tagsP xs)]) (by simp) (by simp [tagsP]) (by simp [line]; omega) (fun _ => stands_p _ _ _ _) (fun d hd => by
    refine ⟨_, rfl, fun s' hs' => ?_⟩
    simp [wipeE])
  have e0 : (xs.map fun x => P.str x.1) = strsP (xs.map (·.1)) := by simp [strsP]
  rw [e0] at hlc0
  simp only [e0] at hlc
  have hft := for_test (G := G) (cf := callF G k) (ci := callF G (k - 1)) (tg := .name 1) (ik := .seq) (its := [.var 0]) (body := [.ifs (.or (.not (.bi false (.isinst .tuple) [(.var 1)])) (.or (.cmp .ne (.bi false .len [(.var 1)]) (.con (.int 2))) (.or (.not (.call 5 [(.idx (.var 1) (.con (.int 0)))])) (.not (.call 6 [(.idx (.var 1) (.con (.int 1)))]))))) [.ret (.con (.bl false))] []]) (s := s) xs (fun x => .p x.P) (ds := [.p (tagsP xs)])
    (fun e => ∃ o, e = [some (.p (tagsP xs)), o, none, none] ∧ (o = none ∨ ∃ a, o = some a)) (fun q => isKey q.1 && isVal q.2) (.p (.bl false)) (env := [some (.p (tagsP xs)), none, none, none]) (by simp) (by simp [tagsP]) (stands_p _ _ _ _) ⟨_, rfl, .inl rfl⟩ (fun x hx' env hI => by
      obtain ⟨o, rfl, _⟩ := hI
      refine ⟨_, rfl, ?_⟩
      have h1 := is_key (k := k) (by omega) hs (hl x hx').1
      have h2 := is_value (k := k) (by omega) hs (hl x hx').2
      cases e1 : isKey x.1 <;> cases e2 : isVal x.2 <;> simp [Tag.P, h1, h2, e1, e2])
  have hty : isTy .tuple (tagsP xs) = some true := rfl
  have hln : biP .len [tagsP xs] = some (.int xs.length) := by simp [tagsP]
  simp only [isTags]
  by_cases h1 : (4 : Int) < xs.length
  · have h2 : ¬ ((xs.length : Int) ≤ 4) := by omega
    simp [f_are_tags, hty, hln, h1, h2, fin0' hs]
  · have h2 : ((xs.length : Int) ≤ 4) := by omega
    rcases hft with ⟨k1, e, ⟨o, rfl, ho⟩, k3⟩ | ⟨k1, k3⟩
    · have hl2 : evE G (callF G k) (callF G (k - 1)) (.lc false [2, 3] (.tup [2, 3]) .seq [(.var 0)] [] (.var 2)) [some (.p (tagsP xs)), o, none, none] s = .ok (.p (.lst (strsP (xs.map (·.1))))) s := by
        rcases ho with rfl | ⟨a, rfl⟩
        · exact hlc0
        · exact hlc a
      rw [k1]
      simp [f_are_tags, hty, hln, h1, h2, k3, hl2, hr, fin0' hs]
    · rw [k1]
      simp [f_are_tags, hty, hln, h1, h2, k3, fin0' hs]
theorem is_name {k : Nat} (hk : 4 ≤ k) {n : Nm} {s : Sto} (hs : Flat s) (hw : n.w.length < line) (hx : n.ts.length < 1000000) (hl : ∀ x ∈ n.ts, x.1.length < line ∧ x.2.length < line) : callF G k 10 [.p n.P] s = .ok (.p (.bl n.ok)) s := by
  obtain ⟨k, rfl⟩ := Nat.exists_eq_add_of_le' (by omega : 1 ≤ k)
  rw [call_eq (fd := f_is_name) rfl rfl]
  have h1 := is_word (k := k) (by omega) hs hw
  have h2 := are_tags (k := k) (by omega) hs hx hl
  simp [f_is_name, Nm.P, h1, h2]
  cases e : isWord n.w <;> simp [Nm.ok, e, h2, fin0' hs]
theorem is_condition {k : Nat} (hk : 3 ≤ k) {c : Cd} {s : Sto} (hs : Flat s) (hw : c.key.length < line) (hx : c.vals.length < 1000000) (hl : ∀ x ∈ c.vals, x.length < line) : callF G k 11 [.p c.P] s = .ok (.p (.bl c.ok)) s := by
  obtain ⟨k, rfl⟩ := Nat.exists_eq_add_of_le' (by omega : 1 ≤ k)
  rw [call_eq (fd := f_is_condition) rfl rfl]
  have h1 := is_key (k := k) (by omega) hs hw
  have hr := are_rising (k := k) (by omega) hs hx (.tup (strsP c.vals)) (.inl rfl)
  have hlc := lc_map (G := G) (cf := callF G k) (ci := callF G (k - 1)) (own := [1]) (tg := .name 1) (ik := .seq) (its := [(.idx (.var 0) (.con (.int 2)))]) (elt := .call 6 [.var 1]) (env := [some (.p c.P), none]) (s := s) c.vals (fun x => .p (.str x)) (fun x => .bl (isVal x)) hs (ds := [.p (.tup (strsP c.vals))]) (by simp [Cd.P]) (by simp [strsP]) (by simp [line]; omega) (fun _ => stands_p _ _ _ _) (fun d hd => by
    refine ⟨_, rfl, fun s' hs' => ?_⟩
    simp [wipeE, is_value (k := k) (by omega) hs' (hl d hd)])
  simp only [Cd.P] at hlc
  have hln : (strsP c.vals).length = c.vals.length := by simp [strsP]
  have hall := all_map c.vals isVal
  simp only [Cd.ok]
  generalize c.vals.all isVal = b at hall ⊢
  have hin := isIn_2 c.how [105, 110] [111, 117, 116]
  generalize decide (c.how = [105, 110]) = b1 at hin ⊢
  generalize decide (c.how = [111, 117, 116]) = b2 at hin ⊢
  generalize eb : (b1 || b2) = hb at hin ⊢
  simp [f_is_condition, Cd.P, h1, hin, hln]
  cases isKey c.key with
  | false => simp [fin0' hs]
  | true =>
    cases hb with
    | false => simp [hin, fin0' hs]
    | true =>
      by_cases h3 : (1 : Int) ≤ c.vals.length
      · by_cases h4 : (c.vals.length : Int) ≤ 4
        · cases b <;> simp [hin, h3, h4, hlc, hall, hr, fin0' hs]
        · simp [hin, h3, h4, fin0' hs]
      · simp [hin, h3, fin0' hs]
end K73
end T_V2
section T_V3
set_option linter.all false
set_option Elab.async false
set_option maxRecDepth 100000
namespace K73
open TH
theorem is_picker {k : Nat} (hk : 4 ≤ k) {p : Pk} {s : Sto} (hs : Flat s) (hp : p.sm) : callF G k 12 [.p p.P] s = .ok (.p (.bl p.ok)) s := by
  obtain ⟨k, rfl⟩ := Nat.exists_eq_add_of_le' (by omega : 1 ≤ k)
  rw [call_eq (fd := f_is_picker) rfl rfl]
  obtain ⟨hw, hx, hl⟩ := hp
  have h1 := is_word (k := k) (by omega) hs hw
  have hlc := lc_map (G := G) (cf := callF G k) (ci := callF G (k - 1)) (own := [1]) (tg := .name 1) (ik := .seq) (its := [(.idx (.var 0) (.con (.int 1)))]) (elt := .call 11 [.var 1]) (env := [some (.p p.P), none]) (s := s) p.cs (fun x => .p x.P) (fun x => .bl x.ok) hs (ds := [.p (.tup (p.cs.map Cd.P))]) (by simp [Pk.P]) (by simp) (by simp [line]; omega) (fun _ => stands_p _ _ _ _) (fun d hd => by
    refine ⟨_, rfl, fun s' hs' => ?_⟩
    simp [wipeE, is_condition (k := k) (by omega) hs' (hl d hd).1 (hl d hd).2.1 (hl d hd).2.2])
  simp only [Pk.P] at hlc
  have hall := all_map p.cs Cd.ok
  simp only [Pk.ok]
  generalize p.cs.all Cd.ok = b at hall ⊢
  simp [f_is_picker, Pk.P, h1]
  by_cases h2 : p.w = []
  · by_cases h4 : (4 : Int) < p.cs.length
    · have h5 : ¬ (p.cs.length : Int) ≤ 4 := by omega
      simp [h2, h4, h5, fin0' hs]
    · have h5 : (p.cs.length : Int) ≤ 4 := by omega
      simp only [h2] at hlc
      cases b <;> simp [h2, h4, h5, hlc, hall, fin0' hs]
  · cases h3 : isWord p.w with
    | false => simp [h2, fin0' hs]
    | true =>
      by_cases h4 : (4 : Int) < p.cs.length
      · have h5 : ¬ (p.cs.length : Int) ≤ 4 := by omega
        simp [h2, h4, h5, fin0' hs]
      · have h5 : (p.cs.length : Int) ≤ 4 := by omega
        cases b <;> simp [h2, h4, h5, hlc, hall, fin0' hs]
theorem is_number {k : Nat} (hk : 1 ≤ k) {i lo hi : Int} {s : Sto} (hs : Flat s) : callF G k 13 [.p (.int i), .p (.int lo), .p (.int hi)] s = .ok (.p (.bl (inR i lo hi))) s := by
  obtain ⟨k, rfl⟩ := Nat.exists_eq_add_of_le' (by omega : 1 ≤ k)
  rw [call_eq (fd := f_is_number) rfl rfl]
  simp [f_is_number]
  by_cases h : lo ≤ i <;> simp [h, inR, fin0' hs]
theorem is_one_of {k : Nat} (hk : 1 ≤ k) {x : Txt} {ws : List Txt} {ps : List P} (hp : ps = strsP ws) {s : Sto} (hs : Flat s) : callF G k 14 [.p (.str x), .p (.tup ps)] s = .ok (.p (.bl (decide (x ∈ ws)))) s := by
  obtain ⟨k, rfl⟩ := Nat.exists_eq_add_of_le' (by omega : 1 ≤ k)
  rw [call_eq (fd := f_is_one_of) rfl rfl]
  subst hp
  have := isIn_strs x ws
  simp [f_is_one_of, strsP, this, fin0' hs]
theorem is_worded {k : Nat} (hk : 5 ≤ k) {p : Pk} {s : Sto} (hs : Flat s) (hp : p.sm) : callF G k 15 [.p p.P] s = .ok (.p (.bl p.okw)) s := by
  obtain ⟨k, rfl⟩ := Nat.exists_eq_add_of_le' (by omega : 1 ≤ k)
  rw [call_eq (fd := f_is_worded) rfl rfl]
  have h := is_picker (k := k) (by omega) hs hp
  simp [f_is_worded, h]
  cases h2 : p.ok <;> simp [h2, Pk.okw, Pk.P, fin0' hs]
theorem is_form {k : Nat} (hk : 6 ≤ k) {q : Q} {s : Sto} (hs : Flat s) (hp : q.sm) : callF G k 16 [.p q.P] s = .ok (.p (.bl q.form)) s := by
  obtain ⟨k, rfl⟩ := Nat.exists_eq_add_of_le' (by omega : 1 ≤ k)
  rw [call_eq (fd := f_is_form) rfl rfl]
  cases q with
  | num n =>
    have h := is_number (k := k) (by omega) (i := n) (lo := -1000000) (hi := 1000000) hs
    simp [f_is_form, Q.P, Q.form, h, fin0' hs]
  | «at» p n =>
    have h1 := is_worded (k := k) (by omega) hs hp
    have h := is_number (k := k) (by omega) (i := n) (lo := 1) (hi := 200) hs
    simp [f_is_form, Q.P, Q.form, h1]
    cases p.okw <;> simp [h, fin0' hs]
  | over w p n =>
    have h0 := is_one_of (k := k) (by omega) (x := w) (ws := FOLDS) rfl hs
    have h1 := is_worded (k := k) (by omega) hs hp.2
    have h := is_number (k := k) (by omega) (i := n) (lo := 1) (hi := 200) hs
    simp only [Q.form]
    generalize decide (w ∈ FOLDS) = b at h0 ⊢
    simp only [strsP, FOLDS, List.map] at h0
    simp [f_is_form, Q.P, h0]
    cases b <;> cases e : p.okw <;> simp [h1, e, h, fin0' hs]
  | join w a b =>
    have h0 := is_one_of (k := k) (by omega) (x := w) (ws := JOINS) rfl hs
    simp only [Q.form]
    generalize decide (w ∈ JOINS) = b at h0 ⊢
    simp only [strsP, JOINS, List.map] at h0
    simp [f_is_form, Q.P, h0, fin0' hs]
  | «by» w ks q =>
    have h0 := is_one_of (k := k) (by omega) (x := w) (ws := GROUPS) rfl hs
    have h1 := are_keys (k := k) (by omega) hs hp.2.1 hp.2.2
    simp only [Q.form]
    generalize decide (w ∈ GROUPS) = b at h0 ⊢
    simp only [strsP, GROUPS, List.map] at h0
    simp [f_is_form, Q.P, h0]
    cases b <;> simp [h1, fin0' hs]
  | whr w n q =>
    have h0 := is_one_of (k := k) (by omega) (x := w) (ws := SIDES) rfl hs
    have h := is_number (k := k) (by omega) (i := n) (lo := -1000000) (hi := 1000000) hs
    simp only [Q.form]
    generalize decide (w ∈ SIDES) = b at h0 ⊢
    simp only [strsP, SIDES, List.map] at h0
    simp [f_is_form, Q.P, h0]
    cases b <;> simp [h, fin0' hs]
  | rank n q =>
    have h := is_number (k := k) (by omega) (i := n) (lo := 1) (hi := 99) hs
    simp [f_is_form, Q.P, Q.form, h, fin0' hs]
end K73
end T_V3
section T_V4
set_option linter.all false
set_option Elab.async false
set_option maxRecDepth 100000
namespace K73
open TH
theorem within {k : Nat} (hk : 1 ≤ k) {q : Q} {s : Sto} (hs : Flat s) : callF G k 17 [.p q.P] s = .ok (.p (.lst (q.inners.map Q.P))) s := by
  obtain ⟨k, rfl⟩ := Nat.exists_eq_add_of_le' (by omega : 1 ≤ k)
  rw [call_eq (fd := f_within) rfl rfl]
  cases q <;> simp [f_within, Q.P, Q.inners, isIn_2, slcP, cutL, cutAt, fin0' hs]
abbrev lookC (many : Int) : Cell := .ins 4 [(3, .p (.int many))]
theorem look_all {k n : Nat} {deep : Int} (a0 a1 : D) (qs : List Q)
    (ih : ∀ q ∈ qs, ∀ (many : Int) (s : Sto), Flat s → s[n]? = some (lookC many) → many + q.size ≤ 60 → ∃ g, Flat g ∧ callF G k 19 [.ref n, .p q.P, .p (.int (deep + 1))] s = .ok (.p (.bl q.rows)) (s.set n (lookC (many + q.size)) ++ g)) :
    ∀ (many : Int) (b g : Sto) (acc : List Bool), n < b.length → Flat b → Flat g → acc.length + qs.length < 1000 → b[n]? = some (lookC many) → many + (qs.map Q.size).sum ≤ 60 →
      ∃ g', Flat g' ∧ lcL (.name 5) (fun env' => evC G (callF G k) (callF G (k - 1)) [] env') (fun env' => evE G (callF G k) (callF G (k - 1)) (.met 1 (.var 0) [(.var 5), (.bin .add (.var 2) (.con (.int 1)))]) env') (fun _ => true) b.length [some (.ref n), some a0, some (.p (.int deep)), some a1, none, none] (qs.map fun q => .p q.P) (b ++ .lst (acc.map fun x => .p (.bl x)) :: g)
        = .ok () (b.set n (lookC (many + (qs.map Q.size).sum)) ++ .lst ((acc ++ qs.map Q.rows).map fun x => .p (.bl x)) :: g') := by
  induction qs with
  | nil =>
    intro many b g acc hn fb fg hl hb hm
    refine ⟨g, fg, ?_⟩
    simp [lcL, set_same hb]
  | cons q qs IH =>
    intro many b g acc hn fb fg hl hb hm
    simp only [List.map_cons, List.sum_cons] at hm
    have f1 : Flat (b ++ .lst (acc.map fun x => .p (.bl x)) :: g) := fb.app (.cons (flatC_lst' _ _) fg)
    have e1 : (b ++ .lst (acc.map fun x => .p (.bl x)) :: g)[n]? = some (lookC many) := by rw [low_get hn, hb]
    obtain ⟨g1, fg1, h1⟩ := ih q List.mem_cons_self many _ f1 e1 (by omega)
    rw [low_set hn, List.append_assoc, List.cons_append] at h1
    have hn2 : n < (b.set n (lookC (many + q.size))).length := by simpa using hn
    obtain ⟨g2, fg2, h2⟩ := IH (fun q hq => ih q (List.mem_cons_of_mem _ hq)) (many + q.size) (b.set n (lookC (many + q.size))) (g ++ g1) (acc ++ [q.rows]) hn2 (fb.set rfl n) (fg.app fg1) (by simp at hl ⊢; omega) (set_get hn) (by omega)
    refine ⟨g2, fg2, ?_⟩
    rw [List.length_set] at h2
    simp only [List.map_cons, lcL, if_true, setTg, List.set, evC_nil, R.calm_ok, R.bind_ok, ev_met, ev_var, getV_z, opt_some, e1, meth_4_1, ev_cons, ev_nil, getV_s, ev_bin, ev_con, view_p, bin_addi, h1]
    rw [acc_get (by simp)]
    simp only [List.length_map]
    rw [if_pos (by simp only [line]; simp at hl; omega), acc_set (by simp)]
    have e5 : (acc.map fun x => D.p (.bl x)) ++ [.p (.bl q.rows)] = (acc ++ [q.rows]).map fun x => D.p (.bl x) := by simp
    rw [e5, h2]
    simp only [List.set_set, List.map_append, List.sum_cons, List.append_assoc, List.map_cons, List.map_nil, List.cons_append, List.nil_append]
    have e6 : many + ↑(q.size) + ↑((qs.map Q.size).sum) = many + ↑(q.size + (qs.map Q.size).sum) := by omega
    rw [e6]
theorem idx_ref {s : Sto} {m : Nat} {xs : List D} {i : Nat} {d : D} (h : s[m]? = some (.lst xs)) (hi : xs[i]? = some d) : idxD s (.ref m) (.p (.int i)) = some d := by
  have hl : i < xs.length := (List.getElem?_eq_some_iff.mp hi).1
  simp only [idxD, h, place]
  rw [if_pos ⟨by omega, by omega⟩]
  simpa using hi
theorem look {n : Nat} : ∀ (q : Q) (k : Nat) (deep many : Int) (s : Sto), 7 + q.depth ≤ k → Flat s → s[n]? = some (lookC many) → many + q.size ≤ 60 → deep + q.depth ≤ 7 → q.form = true → q.inner = true → ∃ g, Flat g ∧ callF G k 19 [.ref n, .p q.P, .p (.int deep)] s = .ok (.p (.bl q.rows)) (s.set n (lookC (many + q.size)) ++ g) := by
  suffices H : ∀ (q : Q) (k : Nat) (deep many : Int) (s : Sto), 7 + q.depth ≤ k → Flat s → s[n]? = some (lookC many) → many + q.size ≤ 60 → deep + q.depth ≤ 7 → q.form = true → q.inner = true →
      (∀ q' ∈ q.inners, ∀ (k : Nat) (deep many : Int) (s : Sto), 7 + q'.depth ≤ k → Flat s → s[n]? = some (lookC many) → many + q'.size ≤ 60 → deep + q'.depth ≤ 7 → q'.form = true → q'.inner = true → ∃ g, Flat g ∧ callF G k 19 [.ref n, .p q'.P, .p (.int deep)] s = .ok (.p (.bl q'.rows)) (s.set n (lookC (many + q'.size)) ++ g)) →
      ∃ g, Flat g ∧ callF G k 19 [.ref n, .p q.P, .p (.int deep)] s = .ok (.p (.bl q.rows)) (s.set n (lookC (many + q.size)) ++ g) by
    intro q
    induction q with
    | num m => exact fun k deep many s h1 h2 h3 h4 h5 h6 h7 => H _ k deep many s h1 h2 h3 h4 h5 h6 h7 (by simp [Q.inners])
    | «at» p m => exact fun k deep many s h1 h2 h3 h4 h5 h6 h7 => H _ k deep many s h1 h2 h3 h4 h5 h6 h7 (by simp [Q.inners])
    | over w p m => exact fun k deep many s h1 h2 h3 h4 h5 h6 h7 => H _ k deep many s h1 h2 h3 h4 h5 h6 h7 (by simp [Q.inners])
    | join w a b ia ib =>
      exact fun k deep many s h1 h2 h3 h4 h5 h6 h7 => H _ k deep many s h1 h2 h3 h4 h5 h6 h7 (fun q' hq => by
        simp only [Q.inners, List.mem_cons, List.not_mem_nil, or_false] at hq
        rcases hq with rfl | rfl
        · exact ia
        · exact ib)
    | «by» w ks a ia =>
      exact fun k deep many s h1 h2 h3 h4 h5 h6 h7 => H _ k deep many s h1 h2 h3 h4 h5 h6 h7 (fun q' hq => by
        simp only [Q.inners, List.mem_cons, List.not_mem_nil, or_false] at hq
        subst hq; exact ia)
    | whr w m a ia =>
      exact fun k deep many s h1 h2 h3 h4 h5 h6 h7 => H _ k deep many s h1 h2 h3 h4 h5 h6 h7 (fun q' hq => by
        simp only [Q.inners, List.mem_cons, List.not_mem_nil, or_false] at hq
        subst hq; exact ia)
    | rank m a ia =>
      exact fun k deep many s h1 h2 h3 h4 h5 h6 h7 => H _ k deep many s h1 h2 h3 h4 h5 h6 h7 (fun q' hq => by
        simp only [Q.inners, List.mem_cons, List.not_mem_nil, or_false] at hq
        subst hq; exact ia)
  intro q k deep many s hk hs hn hm hd hf hi ih
  obtain ⟨k, rfl⟩ := Nat.exists_eq_add_of_le' (by omega : 1 ≤ k)
  rw [call_eq (fd := f_Looker_look) rfl rfl]
  have hln : n < s.length := (List.getElem?_eq_some_iff.mp hn).1
  have h1 := is_form (k := k) (by omega) hs (Q.sm_of hf)
  rw [hf] at h1
  -- the questions within
  have hs1 : Flat (s.set n (lookC (many + 1))) := hs.set rfl n
  have hw := within (k := k) (q := q) (by omega) hs1
  have hsz : q.size = 1 + (q.inners.map Q.size).sum := by cases q <;> simp [Q.size, Q.inners] <;> omega
  have hin : ∀ q' ∈ q.inners, q'.depth + 1 ≤ q.depth ∧ q'.form = true ∧ q'.inner = true := by
    cases q <;> simp only [Q.inners, List.mem_cons, List.not_mem_nil, or_false, Q.depth, Q.inner, Bool.and_eq_true] at hi ⊢ <;> intro q' hq'
    all_goals first
      | (exact absurd hq' id)
      | (subst hq'; exact ⟨by omega, hi.1.2, hi.1.1⟩)
      | (rcases hq' with rfl | rfl
         · exact ⟨by omega, hi.1.2, hi.1.1⟩
         · exact ⟨by omega, hi.2.2, hi.2.1⟩)
  have hil : q.inners.length ≤ 2 := by cases q <;> simp [Q.inners]
  obtain ⟨g, fg, hl⟩ := look_all (k := k) (n := n) (deep := deep) (.p q.P) (.p (.int many)) q.inners (fun q' hq' many s fs hs hm => by
    obtain ⟨j1, j2, j3⟩ := hin q' hq'
    exact ih q' hq' k (deep + 1) many s (by omega) fs hs hm (by omega) j2 j3) (many + 1) (s.set n (lookC (many + 1))) [] [] (by simpa using hln) hs1 .nil (by simp; omega) (set_get hln) (by omega)
  have hlc : evE G (callF G k) (callF G (k - 1)) (.lc true [5] (.name 5) .seq [(.call 17 [(.var 1)])] [] (.met 1 (.var 0) [(.var 5), (.bin .add (.var 2) (.con (.int 1)))])) [some (.ref n), some (.p q.P), some (.p (.int deep)), some (.p (.int many)), none, none] (s.set n (lookC (many + 1))) = .ok (.ref s.length) (s.set n (lookC (many + q.size)) ++ .lst (q.inners.map fun x => .p (.bl x.rows)) :: g) := by
    rw [ev_lc]
    simp only [ev_cons, ev_nil, ev_call, ev_var, getV_s, getV_z, opt_some, R.bind_ok, hw, items_lst, List.map_map]
    have : (fun s' => stands ItK.seq [D.p (P.lst (List.map Q.P q.inners))] (s.set n (lookC (many + 1))) s') = fun _ => true := by funext s'; exact stands_p _ _ _ _
    rw [this]
    simp only [List.map_nil, List.length_set, List.set_set] at hl
    simp only [wipeE, List.set, List.length_set]
    have e6 : many + 1 + ((q.inners.map Q.size).sum : Nat) = many + q.size := by omega
    rw [e6] at hl
    rw [show (D.p ∘ Q.P) = fun q : Q => D.p q.P from rfl, hl]
    simp only [R.bind_ok, lcDone, if_true, List.nil_append, List.map_map]
    rfl
  refine ⟨.lst (q.inners.map fun x => .p (.bl x.rows)) :: g, .cons (flatC_lst' _ _) fg, ?_⟩
  have hm60 : ¬ many = 60 := by omega
  have hd7 : ¬ (7 : Int) < deep := by omega
  have hq0 : ∃ w r, q.P = .tup (.str w :: r) := by cases q <;> exact ⟨_, _, rfl⟩
  have hacc : ∀ c, (s.set n (lookC (many + q.size)) ++ c :: g)[s.length]? = some c := fun c => acc_get (by simp)
  simp only [f_Looker_look, exs_cons, ex_set, ev_fld, ev_var, List.map_cons, List.map_nil, List.length_cons, List.length_nil, Nat.zero_add, List.replicate, Nat.reduceSub, Nat.reduceAdd, List.cons_append, List.nil_append, getV_z, getV_s, opt_some, R.bind_ok, hn, List.lookup, beq_self_eq_true, X.of_ok, X.seq_nx, ex_ifs, ev_or, ev_cmp, ev_glo, gv_5, gv_6, cmpD_pp, cmpP_eq, cmpP_gt, eq_int, hm60, hd7, decide_false, truthM_b, Bool.false_eq_true, if_false, ev_not, ev_call, ev_cons, ev_nil, List.set, h1, Bool.not_true, exs_nil, ex_augf, ev_con, bin_addi, putFd, if_true]
  rw [if_pos (by omega)]
  simp only [X.seq_nx, hlc, X.of_ok, List.set]
  clear hlc hl hw
  generalize many + (q.size : Int) = z at *
  have i0 := fun d h => idx_ref (i := 0) (d := d) (hacc (.lst (q.inners.map fun x => .p (.bl x.rows)))) h
  have i1 := fun d h => idx_ref (i := 1) (d := d) (hacc (.lst (q.inners.map fun x => .p (.bl x.rows)))) h
  cases q with
  | num m => simp [Q.P, Q.rows, isIn_3]
  | «at» p m => simp [Q.P, Q.rows, isIn_3]
  | over w p m => simp [Q.P, Q.rows, isIn_3]
  | join w a b =>
    have j0 := i0 (.p (.bl a.rows)) rfl
    have j1 := i1 (.p (.bl b.rows)) rfl
    simp only [Int.ofNat_zero, Int.ofNat_one] at j0 j1
    cases ea : a.rows <;> simp [Q.P, Q.rows, isIn_3, j0, j1, ea]
  | «by» w ks a =>
    have j0 := i0 (.p (.bl a.rows)) rfl
    simp only [Q.inner, Bool.and_eq_true] at hi
    simp only [Int.ofNat_zero, hi.2] at j0
    simp [Q.P, Q.rows, isIn_3, j0, hi.2]
  | whr w m a =>
    have j0 := i0 (.p (.bl a.rows)) rfl
    simp only [Q.inner, Bool.and_eq_true] at hi
    simp only [Int.ofNat_zero, hi.2] at j0
    simp [Q.P, Q.rows, isIn_3, j0, hi.2]
  | rank m a =>
    have j0 := i0 (.p (.bl a.rows)) rfl
    simp only [Q.inner, Bool.and_eq_true] at hi
    simp only [Int.ofNat_zero, hi.2] at j0
    simp [Q.P, Q.rows, isIn_3, j0, hi.2]
theorem need_question {k : Nat} (hk : 16 ≤ k) {q : Q} {s : Sto} (hs : Flat s) (h : q.ok) : callF G k 20 [.p q.P, .p (.bl true)] s = .ok (.p .non) s := by
  obtain ⟨k, rfl⟩ := Nat.exists_eq_add_of_le' (by omega : 2 ≤ k)
  obtain ⟨h1, h2, h3, h4, h5⟩ := h
  rw [call_eq (fd := f_need_question) rfl rfl]
  have hi : callF G k 18 [.ref s.length] (s ++ [.ins 4 []]) = .ok (.p .non) (s ++ [lookC 0]) := by
    obtain ⟨k, rfl⟩ := Nat.exists_eq_add_of_le' (by omega : 1 ≤ k)
    rw [call_eq (fd := f_Looker___init__) rfl rfl]
    simp [f_Looker___init__, putFd]
  have hf1 : Flat (s ++ [lookC 0]) := hs.app (.one rfl)
  have hg : (s ++ [lookC 0])[s.length]? = some (lookC 0) := acc_get rfl
  obtain ⟨g, fg, hl⟩ := look (n := s.length) q (k + 1) 0 0 _ (by omega) hf1 hg (by omega) (by omega) h1 h2
  have e : (s ++ [lookC 0]).set s.length (lookC (0 + q.size)) = s ++ [lookC (0 + q.size)] := acc_set rfl
  rw [e] at hl
  have ef := fin0n (env := [some (.p q.P), some (.p (.bl true))]) hs ([lookC (0 + q.size)] ++ g) (t := s ++ [lookC (0 + q.size)] ++ g) (by simp)
  have hk1 : k + 1 - 1 = k := rfl
  simp only [f_need_question, List.map_cons, List.map_nil, List.length_cons, List.length_nil, Nat.zero_add, Nat.reduceAdd, Nat.reduceSub, List.replicate, List.append_nil, exs_cons, ex_ifs, ev_and, ev_not, ev_met, ev_new, ev_nil, R.bind_ok, init_4, hk1, hi, if_true, hg, meth_4_1, ev_cons, ev_var, getV_z, getV_s, opt_some, ev_con, hl, h3, truthM_b, Bool.not_true, Bool.false_eq_true, if_false, X.of_ok, exs_nil, X.seq_nx, ef]
theorem is_rows_question {k : Nat} (hk : 17 ≤ k) {q : Q} {s : Sto} (hs : Flat s) (h : q.ok) : callF G k 21 [.p q.P] s = .ok (.p (.bl true)) s := by
  obtain ⟨k, rfl⟩ := Nat.exists_eq_add_of_le' (by omega : 1 ≤ k)
  rw [call_eq (fd := f_is_rows_question) rfl rfl]
  have h := need_question (k := k) (by omega) hs h
  simp [f_is_rows_question, h, fin0' hs]
end K73
end T_V4
section T_V5
set_option linter.all false
set_option Elab.async false
set_option maxRecDepth 100000
namespace K73
open TH
abbrev kNAME : P := .str [110, 97, 109, 101]
abbrev kWORD : P := .str [119, 111, 114, 100]
abbrev kPICKER : P := .str [112, 105, 99, 107, 101, 114]
abbrev kQUESTION : P := .str [113, 117, 101, 115, 116, 105, 111, 110]
abbrev kHOW : P := .str [104, 111, 119]
abbrev kWORTH : P := .str [119, 111, 114, 116, 104]
abbrev kSTEP : P := .str [115, 116, 101, 112]
abbrev kHELD : P := .str [104, 101, 108, 100]
abbrev kTICK : P := .str [116, 105, 99, 107]
abbrev kNUMBER : P := .str [110, 117, 109, 98, 101, 114]
section
variable {k : Nat} {s : Sto}
theorem can_name (hk : 5 ≤ k) (hs : Flat s) {n : Nm} (h : n.ok = true) : callF G k 22 [.p kNAME, .p n.P] s = .ok (.p (.bl true)) s := by
  obtain ⟨k, rfl⟩ := Nat.exists_eq_add_of_le' (by omega : 1 ≤ k)
  rw [call_eq (fd := f_can_be) rfl rfl]
  obtain ⟨h1, h2, h3⟩ := Nm.sm_of h
  have := is_name (k := k) (by omega) hs h1 h2 h3
  simp [f_can_be, this, h, fin0' hs]
theorem can_word (hk : 3 ≤ k) (hs : Flat s) {w : Txt} (h : isWord w = true) : callF G k 22 [.p kWORD, .p (.str w)] s = .ok (.p (.bl true)) s := by
  obtain ⟨k, rfl⟩ := Nat.exists_eq_add_of_le' (by omega : 1 ≤ k)
  rw [call_eq (fd := f_can_be) rfl rfl]
  have h1 := word_len h
  have := is_word (k := k) (by omega) hs (x := w) (by simp only [line]; omega)
  simp [f_can_be, this, h, fin0' hs]
theorem can_picker (hk : 5 ≤ k) (hs : Flat s) {p : Pk} (h : p.ok = true) : callF G k 22 [.p kPICKER, .p p.P] s = .ok (.p (.bl true)) s := by
  obtain ⟨k, rfl⟩ := Nat.exists_eq_add_of_le' (by omega : 1 ≤ k)
  rw [call_eq (fd := f_can_be) rfl rfl]
  have := is_picker (k := k) (by omega) hs (Pk.sm_of h)
  simp [f_can_be, this, h, fin0' hs]
theorem can_question (hk : 18 ≤ k) (hs : Flat s) {q : Q} (h : q.ok) : callF G k 22 [.p kQUESTION, .p q.P] s = .ok (.p (.bl true)) s := by
  obtain ⟨k, rfl⟩ := Nat.exists_eq_add_of_le' (by omega : 1 ≤ k)
  rw [call_eq (fd := f_can_be) rfl rfl]
  have := is_rows_question (k := k) (by omega) hs h
  simp [f_can_be, this, fin0' hs]
theorem can_how (hk : 1 ≤ k) (hs : Flat s) {h : Txt} (hh : h ∈ HOWS) : callF G k 22 [.p kHOW, .p (.str h)] s = .ok (.p (.bl true)) s := by
  obtain ⟨k, rfl⟩ := Nat.exists_eq_add_of_le' (by omega : 1 ≤ k)
  rw [call_eq (fd := f_can_be) rfl rfl]
  have hh' : h = [98, 101, 108, 111, 119] ∨ h = [97, 98, 111, 118, 101] := by simpa [HOWS] using hh
  have : isIn (.str h) (.tup [.str [98, 101, 108, 111, 119], .str [97, 98, 111, 118, 101]]) = some true := by
    rw [isIn_2]; rcases hh' with rfl | rfl <;> rfl
  simp [f_can_be, this, fin0' hs]
theorem can_worth (hk : 2 ≤ k) (hs : Flat s) {i : Int} (h : inR i (-1000000) 1000000 = true) : callF G k 22 [.p kWORTH, .p (.int i)] s = .ok (.p (.bl true)) s := by
  obtain ⟨k, rfl⟩ := Nat.exists_eq_add_of_le' (by omega : 1 ≤ k)
  rw [call_eq (fd := f_can_be) rfl rfl]
  have := is_number (k := k) (by omega) hs (i := i) (lo := -1000000) (hi := 1000000)
  simp [f_can_be, this, h, fin0' hs]
theorem can_step (hk : 2 ≤ k) (hs : Flat s) {i : Int} (h : inR i 1 60 = true) : callF G k 22 [.p kSTEP, .p (.int i)] s = .ok (.p (.bl true)) s := by
  obtain ⟨k, rfl⟩ := Nat.exists_eq_add_of_le' (by omega : 1 ≤ k)
  rw [call_eq (fd := f_can_be) rfl rfl]
  have := is_number (k := k) (by omega) hs (i := i) (lo := 1) (hi := 60)
  simp [f_can_be, isIn_2, this, h, fin0' hs]
theorem can_held (hk : 2 ≤ k) (hs : Flat s) {i : Int} (h : inR i 1 60 = true) : callF G k 22 [.p kHELD, .p (.int i)] s = .ok (.p (.bl true)) s := by
  obtain ⟨k, rfl⟩ := Nat.exists_eq_add_of_le' (by omega : 1 ≤ k)
  rw [call_eq (fd := f_can_be) rfl rfl]
  have := is_number (k := k) (by omega) hs (i := i) (lo := 1) (hi := 60)
  simp [f_can_be, isIn_2, this, h, fin0' hs]
theorem can_tick (hk : 2 ≤ k) (hs : Flat s) {i : Int} (h : inR i 0 9999 = true) : callF G k 22 [.p kTICK, .p (.int i)] s = .ok (.p (.bl true)) s := by
  obtain ⟨k, rfl⟩ := Nat.exists_eq_add_of_le' (by omega : 1 ≤ k)
  rw [call_eq (fd := f_can_be) rfl rfl]
  have := is_number (k := k) (by omega) hs (i := i) (lo := 0) (hi := 9999)
  simp [f_can_be, isIn_2, this, h, fin0' hs]
theorem can_number (hk : 2 ≤ k) (hs : Flat s) {i : Int} (h : inR i 0 99999 = true) : callF G k 22 [.p kNUMBER, .p (.int i)] s = .ok (.p (.bl true)) s := by
  obtain ⟨k, rfl⟩ := Nat.exists_eq_add_of_le' (by omega : 1 ≤ k)
  rw [call_eq (fd := f_can_be) rfl rfl]
  have := is_number (k := k) (by omega) hs (i := i) (lo := 0) (hi := 99999)
  simp [f_can_be, isIn_2, this, h, fin0' hs]
theorem is_called (hk : 1 ≤ k) (hs : Flat s) {d : Dd} : callF G k 23 [.p d.P] s = .ok (.p (.bl true)) s := by
  obtain ⟨k, rfl⟩ := Nat.exists_eq_add_of_le' (by omega : 1 ≤ k)
  rw [call_eq (fd := f_is_called) rfl rfl]
  cases d <;> simp [f_is_called, Dd.P, fin0' hs]
/-- kinds and things of a deed -/
def zips : Dd → List (P × P)
  | .tell n t w => [(kNAME, n.P), (kTICK, .int t), (kWORTH, .int w)]
  | .strike n => [(kNUMBER, .int n)]
  | .turn t => [(kTICK, .int t)]
  | .write w q st => [(kWORD, .str w), (kQUESTION, q.P), (kSTEP, .int st)]
  | .wake w q h b hd => [(kWORD, .str w), (kQUESTION, q.P), (kHOW, .str h), (kWORTH, .int b), (kHELD, .int hd)]
  | .rest w => [(kWORD, .str w)]
  | .silence p a b => [(kPICKER, p.P), (kTICK, .int a), (kTICK, .int b)]
  | .lift n => [(kNUMBER, .int n)]
/-- deed[1:] with its kinds -/
theorem zips_it (d : Dd) (cf ci : Nat → List D → M D) (r : Env) : ∃ ds, evEs G cf ci [(.idx (.glo 24) (.idx (.var 0) (.con (.int 0)))), (.slc (.var 0) (some (.con (.int 1))) none)] (some (.p d.P) :: r) s = .ok ds s ∧ items .zip ds s = some ((zips d).map fun q => .p (.tup [q.1, q.2])) ∧ ∀ s', stands .zip ds s s' = true := by
  refine ⟨[.p (.tup ((zips d).map (·.1))), .p (.tup ((zips d).map (·.2)))], by cases d <;> simp [Dd.P, slcP, cutL, cutAt, zips], by cases d <;> simp [zips], fun s' => rfl⟩
theorem is_deed (hk : 19 ≤ k) (hs : Flat s) {d : Dd} (h : d.ok) : callF G k 24 [.p d.P] s = .ok (.p (.bl true)) s := by
  obtain ⟨k, rfl⟩ := Nat.exists_eq_add_of_le' (by omega : 1 ≤ k)
  rw [call_eq (fd := f_is_deed) rfl rfl]
  have hc := is_called (k := k) (by omega) hs (d := d)
  have hcan : ∀ q ∈ zips d, ∀ s', Flat s' → callF G k 22 [.p q.1, .p q.2] s' = .ok (.p (.bl true)) s' := by
    intro q hq s' hs'
    cases d <;> simp only [zips, List.mem_cons, List.not_mem_nil, or_false] at hq <;> simp only [Dd.ok] at h
    · rcases hq with rfl | rfl | rfl
      · exact can_name (by omega) hs' h.1
      · exact can_tick (by omega) hs' h.2.1
      · exact can_worth (by omega) hs' h.2.2
    · subst hq; exact can_number (by omega) hs' h
    · subst hq; exact can_tick (by omega) hs' h
    · rcases hq with rfl | rfl | rfl
      · exact can_word (by omega) hs' h.1
      · exact can_question (by omega) hs' h.2.1
      · exact can_step (by omega) hs' h.2.2
    · rcases hq with rfl | rfl | rfl | rfl | rfl
      · exact can_word (by omega) hs' h.1
      · exact can_question (by omega) hs' h.2.1
      · exact can_how (by omega) hs' h.2.2.1
      · exact can_worth (by omega) hs' h.2.2.2.1
      · exact can_held (by omega) hs' h.2.2.2.2
    · subst hq; exact can_word (by omega) hs' h
    · rcases hq with rfl | rfl | rfl
      · exact can_picker (by omega) hs' h.1
      · exact can_tick (by omega) hs' h.2.1
      · exact can_tick (by omega) hs' h.2.2.1
    · subst hq; exact can_number (by omega) hs' h
  obtain ⟨ds, z1, z2, z3⟩ := zips_it (s := s) d (callF G k) (callF G (k - 1)) [none, none]
  have hlc := lc_map (G := G) (cf := callF G k) (ci := callF G (k - 1)) (own := [1, 2]) (tg := .tup [1, 2]) (ik := .zip) (elt := (.call 22 [(.var 1), (.var 2)])) (env := [some (.p d.P), none, none]) (s := s) (zips d) (fun q => .p (.tup [q.1, q.2])) (fun _ => .bl true) hs z1 z2 (by cases d <;> simp [zips, line]) (fun _ => z3 _) (fun q hq => by
    refine ⟨_, rfl, fun s' hs' => ?_⟩
    simp [wipeE, hcan q hq s' hs'])
  have hall : biP .all [.lst ((zips d).map fun _ => .bl true)] = some (.bl true) := by
    rw [all_map (zips d) (fun _ => true)]
    congr 2
    exact List.all_eq_true.mpr fun _ _ => rfl
  simp [f_is_deed, hc, hlc, hall]
  cases d <;> simp only [Dd.ok] at h <;> simp [Dd.P, fin0' hs]
  exact h.2.2.2
end
end K73
end T_V5
section T_V6
set_option linter.all false
set_option Elab.async false
set_option maxRecDepth 100000
namespace K73
open TH
theorem le_line {n : Nat} (h : n ≤ 1000000) : n ≤ line := by simp only [line]; omega
section
variable {k : Nat} {s : Sto}
/-- key=value of all tags, joined -/
theorem pairs_ev {cf ci : Nat → List D → M D} {n : Nm} (h : n.ok = true) (hs : Flat s) (r : Env) : evE G cf ci (.bm false .join (.con (.str [44])) [(.lc false [2, 3] (.tup [2, 3]) .seq [(.idx (.var 0) (.con (.int 1)))] [] (.bin .add (.bin .add (.var 2) (.con (.str [61]))) (.var 3)))]) (some (.p n.P) :: none :: none :: none :: r) s = .ok (.p (.str (joinS [44] (n.ts.map Tag.txt)))) s := by
  obtain ⟨h1, h2, h3⟩ := Nm.tag_len h
  have h4 := Nm.pairs_len h
  have hlc := lc_map (G := G) (cf := cf) (ci := ci) (own := [2, 3]) (tg := .tup [2, 3]) (ik := .seq) (its := [(.idx (.var 0) (.con (.int 1)))]) (elt := (.bin .add (.bin .add (.var 2) (.con (.str [61]))) (.var 3))) (env := (some (.p n.P) :: none :: none :: none :: r)) (s := s) n.ts (fun t => .p t.P) (fun t => .str t.txt) hs (ds := [.p (tagsP n.ts)]) (by simp [Nm.P]) (by simp [tagsP]) (by simp only [line]; omega) (fun _ => stands_p _ _ _ _) (fun t ht => by
    have h5 := h3 t ht
    refine ⟨_, rfl, fun s' hs' => ?_⟩
    have e1 : t.1.length + 1 ≤ line := le_line (by omega)
    have e2 : t.1.length + 1 + t.2.length ≤ line := le_line (by omega)
    simp [wipeE, Tag.txt, e1, e2])
  have e3 : ((n.ts.map Tag.txt).map (·.length)).sum + (n.ts.map Tag.txt).length * 1 ≤ line := le_line (by simp only [List.length_map]; omega)
  have e4 : strsOf (n.ts.map fun t => P.str t.txt) = some (n.ts.map Tag.txt) := strsOf_map' Tag.txt n.ts
  simp only [List.map_map, List.length_map, Nat.mul_one] at e3
  simp [hlc, e4, e3]
theorem name_text (hk : 1 ≤ k) (hs : Flat s) {n : Nm} (h : n.ok = true) : callF G k 25 [.p n.P] s = .ok (.p (.str n.txt)) s := by
  obtain ⟨k, rfl⟩ := Nat.exists_eq_add_of_le' (by omega : 1 ≤ k)
  rw [call_eq (fd := f_name_text) rfl rfl]
  have hp := pairs_ev (cf := callF G k) (ci := callF G (k - 1)) h hs []
  have h1 := Nm.join_len h
  have h2 := (Nm.tag_len h).1
  generalize hj : joinS [44] (n.ts.map Tag.txt) = j at hp h1
  have e1 : 1 + j.length ≤ line := le_line (by omega)
  have e2 : 1 + j.length + 1 ≤ line := le_line (by omega)
  have e3 : n.w.length + (1 + j.length + 1) ≤ line := le_line (by omega)
  have e3' : n.w.length + (j.length + 1 + 1) ≤ line := le_line (by omega)
  have e3'' : j.length + 1 ≤ line := le_line (by omega)
  have e3''' : j.length + 1 + 1 ≤ line := le_line (by omega)
  have e4 : n.w.length ≤ line := le_line (by omega)
  simp only [f_name_text, exs_cons, ex_set, List.map_cons, List.map_nil, List.length_cons, List.length_nil, Nat.zero_add, Nat.reduceAdd, Nat.reduceSub, List.replicate, List.cons_append, List.nil_append, hp, X.of_ok, List.set, X.seq_nx]
  by_cases hjn : j = []
  · simp [Nm.P, Nm.txt, hj, hjn, br, e4, fin0' hs]
  · simp [Nm.P, Nm.txt, hj, hjn, br, e1, e2, e3, e3', e3'', e3''', fin0' hs]
theorem picker_text (hk : 1 ≤ k) (hs : Flat s) {p : Pk} (h : p.ok = true) : callF G k 26 [.p p.P] s = .ok (.p (.str p.txt)) s := by
  obtain ⟨k, rfl⟩ := Nat.exists_eq_add_of_le' (by omega : 1 ≤ k)
  rw [call_eq (fd := f_picker_text) rfl rfl]
  obtain ⟨h1, h2, h3⟩ := Pk.parts h
  have h4 := Pk.cs_len h
  have hlc := lc_map (G := G) (cf := callF G k) (ci := callF G (k - 1)) (own := [3, 4, 5]) (tg := .tup [3, 4, 5]) (ik := .seq) (its := [(.idx (.var 0) (.con (.int 1)))]) (elt := (.bin .add (.bin .add (.var 3) (.idx (.var 1) (.var 4))) (.bm false .join (.con (.str [124])) [(.bi false .toList [(.var 5)])]))) (env := [some (.p p.P), some (.p (.dct [.str [105, 110], .str [111, 117, 116]] [.str [61], .str [33, 61]])), none, none, none, none]) (s := s) p.cs (fun t => .p t.P) (fun t => .str t.txt) hs (ds := [.p (.tup (p.cs.map Cd.P))]) (by simp [Pk.P]) (by simp) (by simp only [line]; omega) (fun _ => stands_p _ _ _ _) (fun c hc => by
    have h5 := Cd.parts (h3 c hc)
    have h6 := Cd.vals_len (h3 c hc)
    have h7 := Cd.join_len (h3 c hc)
    have e3 : (c.vals.map (·.length)).sum + c.vals.length * 1 ≤ line := le_line (by omega)
    have e3' : (c.vals.map (·.length)).sum + c.vals.length ≤ line := le_line (by omega)
    have e4 : strsOf (strsP c.vals) = some c.vals := strsOf_map c.vals
    have e5 : lookP [.str [105, 110], .str [111, 117, 116]] [.str [61], .str [33, 61]] (.str c.how) = some (.str c.sgn) := by
      rcases h5.2.2.2 with e | e <;> simp [e, Cd.sgn]
    have h8 : c.sgn.length ≤ 2 := by unfold Cd.sgn; split <;> simp
    have e6 : c.key.length + c.sgn.length ≤ line := le_line (by omega)
    have e7 : c.key.length + c.sgn.length + (joinS [124] c.vals).length ≤ line := le_line (by omega)
    refine ⟨_, rfl, fun s' hs' => ?_⟩
    simp [wipeE, Cd.txt, e3', e4, e5, e6, e7])
  have e3 : ((p.cs.map Cd.txt).map (·.length)).sum + (p.cs.map Cd.txt).length * 1 ≤ line := le_line (by simp only [List.length_map]; omega)
  have e4 : strsOf (p.cs.map fun t => P.str t.txt) = some (p.cs.map Cd.txt) := strsOf_map' Cd.txt p.cs
  have hp : evE G (callF G k) (callF G (k - 1)) (.bm false .join (.con (.str [44])) [(.lc false [3, 4, 5] (.tup [3, 4, 5]) .seq [(.idx (.var 0) (.con (.int 1)))] [] (.bin .add (.bin .add (.var 3) (.idx (.var 1) (.var 4))) (.bm false .join (.con (.str [124])) [(.bi false .toList [(.var 5)])])))]) [some (.p p.P), some (.p (.dct [.str [105, 110], .str [111, 117, 116]] [.str [61], .str [33, 61]])), none, none, none, none] s = .ok (.p (.str (joinS [44] (p.cs.map Cd.txt)))) s := by
    simp only [List.map_map, List.length_map, Nat.mul_one] at e3
    simp [hlc, e4, e3]
  have h1' := Pk.join_len h
  generalize hj : joinS [44] (p.cs.map Cd.txt) = j at hp h1'
  have e1 : 1 + j.length ≤ line := le_line (by omega)
  have e2 : 1 + j.length + 1 ≤ line := le_line (by omega)
  have e3 : p.w.length + (1 + j.length + 1) ≤ line := le_line (by omega)
  have e3' : p.w.length + (j.length + 1 + 1) ≤ line := le_line (by omega)
  have e3'' : j.length + 1 ≤ line := le_line (by omega)
  have e3''' : j.length + 1 + 1 ≤ line := le_line (by omega)
  have e4 : p.w.length ≤ line := le_line (by omega)
  have e5 : 1 + (j.length + 1 + 1) ≤ line := le_line (by omega)
  have e6 : 1 ≤ line := le_line (by omega)
  simp only [f_picker_text, exs_cons, ex_set, List.map_cons, List.map_nil, List.length_cons, List.length_nil, Nat.zero_add, Nat.reduceAdd, Nat.reduceSub, List.replicate, List.cons_append, List.nil_append, ev_dic, ev_cons, ev_nil, ev_con, R.bind_ok, pall_cons, pall_nil, Option.map_some, X.of_ok, List.set, X.seq_nx, hp]
  by_cases hw : p.w = []
  · by_cases hjn : j = []
    · simp [Pk.P, Pk.txt, hj, hjn, hw, br, e4, e6, fin0' hs]
    · simp [Pk.P, Pk.txt, hj, hjn, hw, br, e1, e2, e3, e3', e3'', e3''', e5, fin0' hs]
  · by_cases hjn : j = []
    · simp [Pk.P, Pk.txt, hj, hjn, hw, br, e4, e6, fin0' hs]
    · simp [Pk.P, Pk.txt, hj, hjn, hw, br, e1, e2, e3, e3', e3'', e3''', e5, fin0' hs]
end
end K73
end T_V6
section T_V7
set_option linter.all false
set_option Elab.async false
set_option maxRecDepth 100000
namespace K73
open TH
abbrev kKEYS : P := .str [107, 101, 121, 115]
section
variable {k : Nat} {s : Sto}
theorem tt_name (hk : 2 ≤ k) (hs : Flat s) {n : Nm} (h : n.ok = true) : callF G k 28 [.p kNAME, .p n.P] s = .ok (.p (.str n.txt)) s := by
  obtain ⟨k, rfl⟩ := Nat.exists_eq_add_of_le' (by omega : 1 ≤ k)
  rw [call_eq (fd := f_thing_text) rfl rfl]
  simp [f_thing_text, name_text (k := k) (by omega) hs h, fin0' hs]
theorem tt_picker (hk : 2 ≤ k) (hs : Flat s) {p : Pk} (h : p.ok = true) : callF G k 28 [.p kPICKER, .p p.P] s = .ok (.p (.str p.txt)) s := by
  obtain ⟨k, rfl⟩ := Nat.exists_eq_add_of_le' (by omega : 1 ≤ k)
  rw [call_eq (fd := f_thing_text) rfl rfl]
  simp [f_thing_text, picker_text (k := k) (by omega) hs h, fin0' hs]
theorem tt_question (hs : Flat s) {q : P} {t : Txt} (h : callF G k 27 [.p q] s = .ok (.p (.str t)) s) : callF G (k + 1) 28 [.p kQUESTION, .p q] s = .ok (.p (.str t)) s := by
  rw [call_eq (fd := f_thing_text) rfl rfl]
  simp [f_thing_text, h, fin0' hs]
theorem tt_keys (hk : 1 ≤ k) (hs : Flat s) {ks : List Txt} (h : areKeys ks = true) : callF G k 28 [.p kKEYS, .p (.tup (strsP ks))] s = .ok (.p (.str (keysTxt ks))) s := by
  obtain ⟨k, rfl⟩ := Nat.exists_eq_add_of_le' (by omega : 1 ≤ k)
  rw [call_eq (fd := f_thing_text) rfl rfl]
  have h1 := keys_parts h
  have h2 := keys_sum h
  have e1 : (ks.map (·.length)).sum + ks.length ≤ line := le_line (by omega)
  have e2 : strsOf (strsP ks) = some ks := strsOf_map ks
  have e3 : (strsP ks).isEmpty = decide (ks = []) := by cases ks <;> simp [strsP]
  simp [f_thing_text, e3]
  by_cases hk : ks = []
  · simp [hk, keysTxt, fin0' hs]
  · simp [hk, keysTxt, e2, e1, fin0' hs]
/-- what else is written by str -/
theorem tt_int (hk : 1 ≤ k) (hs : Flat s) {kd : Txt} (h : kd = [110, 117, 109, 98, 101, 114] ∨ kd = [116, 105, 99, 107] ∨ kd = [119, 111, 114, 116, 104] ∨ kd = [115, 116, 101, 112] ∨ kd = [104, 101, 108, 100]) {i : Int} (hi : i.natAbs < 1000000000) : callF G k 28 [.p (.str kd), .p (.int i)] s = .ok (.p (.str (intS i))) s := by
  obtain ⟨k, rfl⟩ := Nat.exists_eq_add_of_le' (by omega : 1 ≤ k)
  rw [call_eq (fd := f_thing_text) rfl rfl]
  have hi' : i.natAbs < 1000000000000000000 := by omega
  rcases h with rfl | rfl | rfl | rfl | rfl <;> simp [f_thing_text, hi', fin0' hs]
theorem tt_str (hk : 1 ≤ k) (hs : Flat s) {kd : Txt} (h : kd = [119, 111, 114, 100] ∨ kd = [104, 111, 119]) {x : Txt} : callF G k 28 [.p (.str kd), .p (.str x)] s = .ok (.p (.str x)) s := by
  obtain ⟨k, rfl⟩ := Nat.exists_eq_add_of_le' (by omega : 1 ≤ k)
  rw [call_eq (fd := f_thing_text) rfl rfl]
  rcases h with rfl | rfl <;> simp [f_thing_text, fin0' hs]
end
abbrev QZ := P × P × Txt
def qzips : Q → List QZ
  | .num n => [(kNUMBER, .int n, intS n)]
  | .at p n => [(kPICKER, p.P, p.txt), (kNUMBER, .int n, intS n)]
  | .over h p n => [(kWORD, .str h, h), (kPICKER, p.P, p.txt), (kNUMBER, .int n, intS n)]
  | .join h a b => [(kWORD, .str h, h), (kQUESTION, a.P, a.txt), (kQUESTION, b.P, b.txt)]
  | .by h ks q => [(kWORD, .str h, h), (kKEYS, .tup (strsP ks), keysTxt ks), (kQUESTION, q.P, q.txt)]
  | .whr h n q => [(kWORD, .str h, h), (kNUMBER, .int n, intS n), (kQUESTION, q.P, q.txt)]
  | .rank n q => [(kNUMBER, .int n, intS n), (kQUESTION, q.P, q.txt)]
def qword : Q → Txt
  | .num _ => NUM | .at _ _ => AT | .over _ _ _ => OVER | .join _ _ _ => JOIN | .by _ _ _ => BY | .whr _ _ _ => WHERE | .rank _ _ => RANK
theorem qtxt_eq (q : Q) : q.txt = 40 :: (joinS [32] (qword q :: (qzips q).map (·.2.2)) ++ [41]) := by cases q <;> rfl
theorem qzips_it (q : Q) (cf ci : Nat → List D → M D) (r : Env) (s : Sto) : ∃ ds, evEs G cf ci [(.idx (.glo 25) (.idx (.var 0) (.con (.int 0)))), (.slc (.var 0) (some (.con (.int 1))) none)] (some (.p q.P) :: r) s = .ok ds s ∧ items .zip ds s = some ((qzips q).map fun z => .p (.tup [z.1, z.2.1])) ∧ ∀ s1 s2, stands .zip ds s1 s2 = true := by
  refine ⟨[.p (.tup ((qzips q).map (·.1))), .p (.tup ((qzips q).map (·.2.1)))], by cases q <;> simp [Q.P, slcP, cutL, cutAt, qzips], by cases q <;> simp [qzips], fun _ _ => rfl⟩
theorem qtext_of {k : Nat} {s : Sto} (hs : Flat s) {q : Q} (hl : q.txt.length ≤ 100000) (hz : ∀ z ∈ qzips q, ∀ s', Flat s' → callF G k 28 [.p z.1, .p z.2.1] s' = .ok (.p (.str z.2.2)) s') : callF G (k + 1) 27 [.p q.P] s = .ok (.p (.str q.txt)) s := by
  rw [call_eq (fd := f_question_text) rfl rfl]
  obtain ⟨ds, z1, z2, z3⟩ := qzips_it q (callF G k) (callF G (k - 1)) [some (.ref s.length), none, none] (s ++ [.lst [.p (.str (qword q))]])
  have hf := for_inv (G := G) (cf := callF G k) (ci := callF G (k - 1)) (tg := .tup [2, 3]) (ik := .zip) (body := [.expr (.bm false .append (.var 1) [(.call 28 [(.var 2), (.var 3)])])]) (qzips q) (fun z => .p (.tup [z.1, z.2.1]))
    (fun rest e s' => ∃ done x y, done ++ rest = qzips q ∧ e = [some (.p q.P), some (.ref s.length), x, y] ∧ s' = s ++ [.lst ((qword q :: done.map (·.2.2)).map fun t => .p (.str t))])
    z1 z2 ⟨[], none, none, rfl, rfl, rfl⟩ (fun z r e s' hI => by
      obtain ⟨done, x, y, h1, rfl, rfl⟩ := hI
      refine ⟨z3 _ _, _, rfl, ?_⟩
      have hzm : z ∈ qzips q := by rw [← h1]; simp
      have hfl : Flat (s ++ [Cell.lst ((qword q :: done.map (·.2.2)).map fun t => D.p (.str t))]) := hs.app (.one (flatC_lst' P.str _))
      have hc := hz z hzm _ hfl
      have hq : (qzips q).length ≤ 3 := by cases q <;> simp [qzips]
      have hdl : done.length ≤ 3 := by have := congrArg List.length h1; simp only [List.length_append] at this; omega
      have hra := run_append (d := .p (.str z.2.2)) (top_get s (.lst ((qword q :: done.map (·.2.2)).map fun t => D.p (.str t)))) (by simp only [List.length_map, List.length_cons, line]; omega)
      refine ⟨_, _, ?_, done ++ [z], some (.p z.1), some (.p z.2.1), by simp [h1], rfl, rfl⟩
      simp only [exs_cons, ex_expr, ev_bm, ev_var, List.set, getV_z, getV_s, opt_some, R.bind_ok, recv_append (top_get _ _), if_true, ev_cons, ev_call, ev_nil, hc, hra, top_set, X.of_ok, X.seq_nx, exs_nil]
      simp) (fun _ _ _ => z3 _ _)
  obtain ⟨e, s', hf, done, x, y, h1, rfl, rfl⟩ := hf
  rw [List.append_nil] at h1
  subst h1
  have hsum := sum_le_joinS [32] (qword q :: (qzips q).map (·.2.2))
  have hq : (qzips q).length ≤ 3 := by cases q <;> simp [qzips]
  have htl : q.txt.length = (joinS [32] (qword q :: (qzips q).map (·.2.2))).length + 2 := by rw [qtxt_eq]; simp
  have h0 : ∃ r, q.P = .tup (.str (qword q) :: r) := by cases q <;> exact ⟨_, rfl⟩
  obtain ⟨r0, h0⟩ := h0
  have hi0 : idxP q.P (.int 0) = some (.str (qword q)) := by rw [h0]; simp
  have e1 : ((qword q :: (qzips q).map (·.2.2)).map (·.length)).sum + (qword q :: (qzips q).map (·.2.2)).length * 1 ≤ line := le_line (by simp only [List.length_cons, List.length_map] at hsum ⊢; omega)
  have hvw : views (s ++ [Cell.lst ((qword q :: (qzips q).map (·.2.2)).map fun t => D.p (.str t))]) [.ref s.length] = some [.lst ((qword q :: (qzips q).map (·.2.2)).map P.str)] := by
    rw [views_ref (xs := (qword q :: (qzips q).map (·.2.2)).map P.str) (by rw [top_get]; simp)]
    rfl
  have hj : biP .join [.str [32], .lst ((qword q :: (qzips q).map (·.2.2)).map P.str)] = some (.str (joinS [32] (qword q :: (qzips q).map (·.2.2)))) := by
    rw [biP_join, strsOf_map]
    simp only [Option.bind_some, List.length_cons, List.length_nil, Nat.zero_add] at e1 ⊢
    rw [if_pos e1]
  generalize hJ : joinS [32] (qword q :: (qzips q).map (·.2.2)) = J at *
  have e2 : 1 + J.length ≤ line := le_line (by omega)
  have e3 : J.length + 1 + 1 ≤ line := le_line (by omega)
  have hfin := fin0 (x := .str q.txt) hs [Cell.lst ((qword q :: (qzips q).map (·.2.2)).map fun t => D.p (.str t))] rfl
  simp only [f_question_text, exs_cons, ex_set, List.map_cons, List.map_nil, List.length_cons, List.length_nil, Nat.zero_add, Nat.reduceAdd, Nat.reduceSub, List.replicate, List.cons_append, List.nil_append, ev_lst, ev_cons, ev_nil, ev_idx, ev_var, ev_con, getV_z, opt_some, R.bind_ok, idxD_pp, hi0, Option.map_some, lcEnd_true, X.of_ok, List.set, X.seq_nx]
  rw [hf]
  simp only [X.seq_nx, ex_ret, ev_bin, ev_con, R.bind_ok, ev_bm, recv_join, if_true, ev_cons, ev_nil, ev_var, getV_z, getV_s, opt_some, runBi_join, views_p, List.map_cons] at hvw hfin hj ⊢
  simp only [hvw, Option.map_some, hj, R.bind_ok, view_p, bin_adds, List.length_cons, List.length_nil, Nat.zero_add, e2, if_true, List.cons_append, List.nil_append, List.length_append, e3, X.of_ok, X.seq_ret]
  rw [qtxt_eq, hJ] at hfin ⊢
  exact hfin
theorem nat7 {i lo hi : Int} (h : inR i lo hi = true) (h1 : -1000000 ≤ lo) (h2 : hi ≤ 1000000) : i.natAbs < 1000000000 := by
  have := inR_abs h; omega
theorem question_text : ∀ (q : Q) {k : Nat} {s : Sto}, 2 * q.depth + 3 ≤ k → Flat s → q.form = true → q.inner = true → q.size ≤ 60 → callF G k 27 [.p q.P] s = .ok (.p (.str q.txt)) s := by
  intro q
  induction q with
  | num n =>
    intro k s hk hs h hi hz
    obtain ⟨k, rfl⟩ := Nat.exists_eq_add_of_le' (by omega : 1 ≤ k)
    refine qtext_of hs (by have := Q.txt_len h hi; omega) fun z hm s' hs' => ?_
    simp only [qzips, List.mem_cons, List.not_mem_nil, or_false] at hm
    subst hm
    exact tt_int (by omega) hs' (by simp) (nat7 h (by decide) (by decide))
  | «at» p n =>
    intro k s hk hs h hi hz
    obtain ⟨k, rfl⟩ := Nat.exists_eq_add_of_le' (by omega : 1 ≤ k)
    refine qtext_of hs (by have := Q.txt_len h hi; omega) fun z hm s' hs' => ?_
    simp only [qzips, List.mem_cons, List.not_mem_nil, or_false] at hm
    simp only [Q.form, Pk.okw, Bool.and_eq_true] at h
    rcases hm with rfl | rfl
    · exact tt_picker (by omega) hs' h.1.1
    · exact tt_int (by omega) hs' (by simp) (nat7 h.2 (by decide) (by decide))
  | over w p n =>
    intro k s hk hs h hi hz
    obtain ⟨k, rfl⟩ := Nat.exists_eq_add_of_le' (by omega : 1 ≤ k)
    refine qtext_of hs (by have := Q.txt_len h hi; omega) fun z hm s' hs' => ?_
    simp only [qzips, List.mem_cons, List.not_mem_nil, or_false] at hm
    simp only [Q.form, Pk.okw, Bool.and_eq_true] at h
    rcases hm with rfl | rfl | rfl
    · exact tt_str (by omega) hs' (by simp)
    · exact tt_picker (by omega) hs' h.2.1.1
    · exact tt_int (by omega) hs' (by simp) (nat7 h.2.2 (by decide) (by decide))
  | join w a b ia ib =>
    intro k s hk hs h hi hz
    obtain ⟨k, rfl⟩ := Nat.exists_eq_add_of_le' (by omega : 2 ≤ k)
    refine qtext_of hs (by have := Q.txt_len h hi; omega) fun z hm s' hs' => ?_
    simp only [qzips, List.mem_cons, List.not_mem_nil, or_false] at hm
    simp only [Q.inner, Bool.and_eq_true] at hi
    simp only [Q.size] at hz
    simp only [Q.depth] at hk
    rcases hm with rfl | rfl | rfl
    · exact tt_str (by omega) hs' (by simp)
    · exact tt_question hs' (ia (by omega) hs' hi.1.2 hi.1.1 (by omega))
    · exact tt_question hs' (ib (by omega) hs' hi.2.2 hi.2.1 (by omega))
  | «by» w ks a ia =>
    intro k s hk hs h hi hz
    obtain ⟨k, rfl⟩ := Nat.exists_eq_add_of_le' (by omega : 2 ≤ k)
    refine qtext_of hs (by have := Q.txt_len h hi; omega) fun z hm s' hs' => ?_
    simp only [qzips, List.mem_cons, List.not_mem_nil, or_false] at hm
    simp only [Q.inner, Bool.and_eq_true] at hi
    simp only [Q.form, Bool.and_eq_true] at h
    simp only [Q.size] at hz
    simp only [Q.depth] at hk
    rcases hm with rfl | rfl | rfl
    · exact tt_str (by omega) hs' (by simp)
    · exact tt_keys (by omega) hs' h.2
    · exact tt_question hs' (ia (by omega) hs' hi.1.2 hi.1.1 (by omega))
  | whr w n a ia =>
    intro k s hk hs h hi hz
    obtain ⟨k, rfl⟩ := Nat.exists_eq_add_of_le' (by omega : 2 ≤ k)
    refine qtext_of hs (by have := Q.txt_len h hi; omega) fun z hm s' hs' => ?_
    simp only [qzips, List.mem_cons, List.not_mem_nil, or_false] at hm
    simp only [Q.inner, Bool.and_eq_true] at hi
    simp only [Q.form, Bool.and_eq_true] at h
    simp only [Q.size] at hz
    simp only [Q.depth] at hk
    rcases hm with rfl | rfl | rfl
    · exact tt_str (by omega) hs' (by simp)
    · exact tt_int (by omega) hs' (by simp) (nat7 h.2 (by decide) (by decide))
    · exact tt_question hs' (ia (by omega) hs' hi.1.2 hi.1.1 (by omega))
  | rank n a ia =>
    intro k s hk hs h hi hz
    obtain ⟨k, rfl⟩ := Nat.exists_eq_add_of_le' (by omega : 2 ≤ k)
    refine qtext_of hs (by have := Q.txt_len h hi; omega) fun z hm s' hs' => ?_
    simp only [qzips, List.mem_cons, List.not_mem_nil, or_false] at hm
    simp only [Q.inner, Bool.and_eq_true] at hi
    simp only [Q.form, Bool.and_eq_true] at h
    simp only [Q.size] at hz
    simp only [Q.depth] at hk
    rcases hm with rfl | rfl
    · exact tt_int (by omega) hs' (by simp) (nat7 h (by decide) (by decide))
    · exact tt_question hs' (ia (by omega) hs' hi.1.2 hi.1.1 (by omega))
/-- kinds, things, texts of a deed -/
def dtexts : Dd → List Txt
  | .tell n t w => [n.txt, intS t, intS w]
  | .strike n => [intS n]
  | .turn t => [intS t]
  | .write w q st => [w, q.txt, intS st]
  | .wake w q h b hd => [w, q.txt, h, intS b, intS hd]
  | .rest w => [w]
  | .silence p a b => [p.txt, intS a, intS b]
  | .lift n => [intS n]
def dword : Dd → Txt
  | .tell _ _ _ => TELL | .strike _ => STRIKE | .turn _ => TURN | .write _ _ _ => WRITE | .wake _ _ _ _ _ => WAKE | .rest _ => REST | .silence _ _ _ => SILENCE | .lift _ => LIFT
theorem dws_eq (d : Dd) : d.ws = dword d :: dtexts d := by cases d <;> rfl
theorem deed_text {k : Nat} {s : Sto} (hk : 20 ≤ k) (hs : Flat s) {d : Dd} (h : d.ok) : callF G k 29 [.p d.P] s = .ok (.p (.str d.txt)) s := by
  obtain ⟨k, rfl⟩ := Nat.exists_eq_add_of_le' (by omega : 2 ≤ k)
  rw [call_eq (fd := f_deed_text) rfl rfl]
  have hk1 : k + 1 - 1 = k := rfl
  have hs1 : Flat (s ++ [.lst [.p (.str (dword d))]]) := hs.app (.one rfl)
  obtain ⟨ds, z1, z2, z3⟩ := zips_it (s := s ++ [.lst [.p (.str (dword d))]]) d (callF G (k + 1)) (callF G k) [some (.ref s.length), none, none]
  have htt : ∀ z ∈ (zips d).zip (dtexts d), ∀ s', Flat s' → callF G (k + 1) 28 [.p z.1.1, .p z.1.2] s' = .ok (.p (.str z.2)) s' := by
    intro z hz s' hs'
    cases d <;> simp only [zips, dtexts, List.zip_cons_cons, List.zip_nil_right, List.mem_cons, List.not_mem_nil, or_false] at hz <;> simp only [Dd.ok] at h
    · rcases hz with rfl | rfl | rfl
      · exact tt_name (by omega) hs' h.1
      · exact tt_int (by omega) hs' (by simp) (nat7 h.2.1 (by decide) (by decide))
      · exact tt_int (by omega) hs' (by simp) (nat7 h.2.2 (by decide) (by decide))
    · subst hz; exact tt_int (by omega) hs' (by simp) (nat7 h (by decide) (by decide))
    · subst hz; exact tt_int (by omega) hs' (by simp) (nat7 h (by decide) (by decide))
    · rcases hz with rfl | rfl | rfl
      · exact tt_str (by omega) hs' (by simp)
      · exact tt_question hs' (question_text _ (by have := h.2.1.2.2.2.2; omega) hs' h.2.1.1 h.2.1.2.1 h.2.1.2.2.2.1)
      · exact tt_int (by omega) hs' (by simp) (nat7 h.2.2 (by decide) (by decide))
    · rcases hz with rfl | rfl | rfl | rfl | rfl
      · exact tt_str (by omega) hs' (by simp)
      · exact tt_question hs' (question_text _ (by have := h.2.1.2.2.2.2; omega) hs' h.2.1.1 h.2.1.2.1 h.2.1.2.2.2.1)
      · exact tt_str (by omega) hs' (by simp)
      · exact tt_int (by omega) hs' (by simp) (nat7 h.2.2.2.1 (by decide) (by decide))
      · exact tt_int (by omega) hs' (by simp) (nat7 h.2.2.2.2 (by decide) (by decide))
    · subst hz; exact tt_str (by omega) hs' (by simp)
    · rcases hz with rfl | rfl | rfl
      · exact tt_picker (by omega) hs' h.1
      · exact tt_int (by omega) hs' (by simp) (nat7 h.2.1 (by decide) (by decide))
      · exact tt_int (by omega) hs' (by simp) (nat7 h.2.2.1 (by decide) (by decide))
    · subst hz; exact tt_int (by omega) hs' (by simp) (nat7 h (by decide) (by decide))
  have hzl : (zips d).length ≤ 5 ∧ (zips d).length = (dtexts d).length := by cases d <;> simp [zips, dtexts]
  have ez : ((zips d).zip (dtexts d)).map (fun z => D.p (.tup [z.1.1, z.1.2])) = (zips d).map fun q => .p (.tup [q.1, q.2]) := by cases d <;> simp [zips, dtexts]
  have et : ((zips d).zip (dtexts d)).map (fun z => P.str z.2) = (dtexts d).map P.str := by cases d <;> simp [zips, dtexts]
  rw [← ez] at z2
  have hlc := lc_map (G := G) (cf := callF G (k + 1)) (ci := callF G k) (own := [2, 3]) (tg := .tup [2, 3]) (ik := .zip) (elt := (.call 28 [(.var 2), (.var 3)])) (env := [some (.p d.P), some (.ref s.length), none, none]) ((zips d).zip (dtexts d)) (fun z => .p (.tup [z.1.1, z.1.2])) (fun z => .str z.2) hs1 z1 z2 (by simp only [List.length_zip, line]; omega) (fun _ => z3 _) (fun z hz => by
    refine ⟨_, rfl, fun s' hs' => ?_⟩
    simp [wipeE, htt z hz s' hs'])
  rw [et] at hlc
  have hi0 : idxP d.P (.int 0) = some (.str (dword d)) := by cases d <;> simp [Dd.P, dword, TELL, STRIKE, TURN, WRITE, WAKE, REST, SILENCE, LIFT]
  have hext := run_extend (ys := (dtexts d).map P.str) (top_get s (.lst [.p (.str (dword d))])) (by simp only [List.length_cons, List.length_nil, List.length_map, line]; omega)
  have e0 : [D.p (.str (dword d))] ++ ((dtexts d).map P.str).map D.p = (d.ws.map P.str).map D.p := by rw [dws_eq]; simp
  rw [e0, top_set] at hext
  have hvw : views (s ++ [Cell.lst ((d.ws.map P.str).map D.p)]) [.ref s.length] = some [.lst (d.ws.map P.str)] := by
    rw [views_ref (top_get _ _)]
    rfl
  have hwl := Dd.ws_len h
  have e1 : (d.ws.map (·.length)).sum + d.ws.length * 1 ≤ line := le_line (by omega)
  have hj : biP .join [.str [32], .lst (d.ws.map P.str)] = some (.str d.txt) := by
    rw [biP_join, strsOf_map]
    simp only [Option.bind_some, List.length_cons, List.length_nil, Nat.zero_add]
    rw [if_pos e1]
    rfl
  have hfin := fin0 (x := .str d.txt) hs [Cell.lst ((d.ws.map P.str).map D.p)] rfl
  simp only [f_deed_text, hk1, exs_cons, ex_set, List.map_cons, List.map_nil, List.length_cons, List.length_nil, Nat.zero_add, Nat.reduceAdd, Nat.reduceSub, List.replicate, List.cons_append, List.nil_append, ev_lst, ev_cons, ev_nil, ev_idx, ev_var, ev_con, getV_z, getV_s, opt_some, R.bind_ok, idxD_pp, hi0, Option.map_some, lcEnd_true, X.of_ok, List.set, X.seq_nx, ex_expr, ev_bm, recv_extend (top_get _ _), if_true, hlc, hext, ex_ret, recv_join, runBi_join, views_p, hvw, hj, X.seq_ret, hfin]
theorem written {k : Nat} {s : Sto} (hk : 21 ≤ k) (hs : Flat s) {ds : List Dd} (hd : ∀ d ∈ ds, d.ok) (hl : ds.length ≤ 100) : callF G k 30 [.p (.lst (ds.map Dd.P))] s = .ok (.p (.str (joinS [10] (ds.map Dd.txt)))) s := by
  obtain ⟨k, rfl⟩ := Nat.exists_eq_add_of_le' (by omega : 1 ≤ k)
  rw [call_eq (fd := f_written) rfl rfl]
  have hf := for_inv (G := G) (cf := callF G k) (ci := callF G (k - 1)) (tg := .tup [1, 2]) (ik := .enum) (its := [.var 0]) (body := [.ifs (.not (.call 24 [(.var 2)])) [.never] []]) (env := [some (.p (.lst (ds.map Dd.P))), none, none]) (s := s) (ds := [.p (.lst (ds.map Dd.P))]) (s1 := s) ((List.range ds.length).zip ds) (fun z => .p (.tup [.int z.1, z.2.P]))
    (fun rest e s' => (∀ z ∈ rest, z.2.ok) ∧ s' = s ∧ ∃ x y, e = [some (.p (.lst (ds.map Dd.P))), x, y]) (by simp) (by
      simp [items, List.zip, List.map_zipWith, List.zipWith_map_right]) ⟨fun z hz => hd _ (List.of_mem_zip hz).2, rfl, none, none, rfl⟩ (fun z r e s' hI => by
      obtain ⟨h1, rfl, x, y, rfl⟩ := hI
      have := is_deed (k := k) (by omega) hs (h1 z List.mem_cons_self)
      refine ⟨stands_p _ _ _ _, _, rfl, [some (.p (.lst (ds.map Dd.P))), some (.p (.int z.1)), some (.p z.2.P)], s', ?_, fun z hz => h1 z (List.mem_cons_of_mem _ hz), rfl, _, _, rfl⟩
      simp [this]) (fun _ _ _ => stands_p _ _ _ _)
  obtain ⟨e, s', hf, _, rfl, x, y, rfl⟩ := hf
  have hlc := lc_map (G := G) (cf := callF G k) (ci := callF G (k - 1)) (own := [2]) (tg := .name 2) (ik := .seq) (its := [.var 0]) (elt := .call 29 [.var 2]) (env := [some (.p (.lst (ds.map Dd.P))), x, y]) (s := s') ds (fun d => .p d.P) (fun d => .str d.txt) hs (ds := [.p (.lst (ds.map Dd.P))]) (by simp) (by simp) (by simp only [line]; omega) (fun _ => stands_p _ _ _ _) (fun d hd' => by
    refine ⟨_, rfl, fun s2 hs2 => ?_⟩
    simp [wipeE, deed_text (k := k) (by omega) hs2 (hd d hd')])
  have e4 : strsOf (ds.map fun t => P.str t.txt) = some (ds.map Dd.txt) := strsOf_map' Dd.txt ds
  have hsum := sum_len (l := ds.map Dd.txt) (B := 15106) (fun x hx => by
    obtain ⟨d, hd', rfl⟩ := List.mem_map.mp hx
    exact Dd.txt_len (hd d hd'))
  have e1 : ((ds.map Dd.txt).map (·.length)).sum + (ds.map Dd.txt).length * 1 ≤ line := by simp only [List.length_map, line] at hsum ⊢; omega
  have hj : biP .join [.str [10], .lst (ds.map fun t => P.str t.txt)] = some (.str (joinS [10] (ds.map Dd.txt))) := by
    rw [biP_join, e4]
    simp only [Option.bind_some, List.length_cons, List.length_nil, Nat.zero_add]
    rw [if_pos e1]
  simp [f_written, hf, hlc, hj, fin0' hs]
end K73
end T_V7
section T_V8
set_option linter.all false
set_option Elab.async false
set_option maxRecDepth 100000
namespace K73
open TH
section
variable {k : Nat} {s : Sto}
theorem mul_flag (c : Nat) (b : Bool) : binP .mul (.str [c]) (.int (if b then 1 else 0)) = some (.str (if b then [c] else [])) := by cases b <;> simp [binP]
theorem mul_1 (c : Nat) : binP .mul (.str [c]) (.int 1) = some (.str [c]) := by simp [binP]
theorem mul_0 (c : Nat) : binP .mul (.str [c]) (.int 0) = some (.str []) := by simp [binP]
theorem law_name_text (hk : 1 ≤ k) (hs : Flat s) {n : Nm} (h : n.ok = true) : callF G k 53 [.p n.P] s = .ok (.p (.str n.txt)) s := by
  obtain ⟨k, rfl⟩ := Nat.exists_eq_add_of_le' (by omega : 1 ≤ k)
  rw [call_eq (fd := f__law_name_text) rfl rfl]
  have hp := pairs_ev (cf := callF G k) (ci := callF G (k - 1)) h hs []
  have h1 := Nm.join_len h
  have h2 := (Nm.tag_len h).1
  generalize hj : joinS [44] (n.ts.map Tag.txt) = j at hp h1
  have e1 : n.w.length + 1 ≤ line := le_line (by omega)
  have e2 : n.w.length + 1 + j.length ≤ line := le_line (by omega)
  have e3 : n.w.length + 1 + j.length + 1 ≤ line := le_line (by omega)
  have e3' : n.w.length + (j.length + 1) ≤ line := le_line (by omega)
  have e3'' : n.w.length + (j.length + 1) + 1 ≤ line := le_line (by omega)
  have e4 : n.w.length ≤ line := le_line (by omega)
  simp only [f__law_name_text, exs_cons, ex_set, List.map_cons, List.map_nil, List.length_cons, List.length_nil, Nat.zero_add, Nat.reduceAdd, Nat.reduceSub, List.replicate, List.cons_append, List.nil_append, hp, X.of_ok, List.set, X.seq_nx]
  by_cases hjn : j = []
  · simp [Nm.P, Nm.txt, hj, hjn, br, mul_0, e4, fin0' hs]
  · simp [Nm.P, Nm.txt, hj, hjn, br, mul_1, e1, e2, e3, e3', e3'', fin0' hs]
theorem law_picker_text (hk : 1 ≤ k) (hs : Flat s) {p : Pk} (h : p.ok = true) : callF G k 54 [.p p.P] s = .ok (.p (.str p.txt)) s := by
  obtain ⟨k, rfl⟩ := Nat.exists_eq_add_of_le' (by omega : 1 ≤ k)
  rw [call_eq (fd := f__law_picker_text) rfl rfl]
  obtain ⟨h1, h2, h3⟩ := Pk.parts h
  have h4 := Pk.cs_len h
  have hlc := lcK_gen (G := G) (cf := callF G k) (ci := callF G (k - 1)) (own := [3, 4, 5]) (tg := .tup [3, 4, 5]) (ik := .seq) (its := [(.idx (.var 0) (.con (.int 1)))]) (cs := []) (elt := (.bin .add (.bin .add (.var 3) (.idx (.lst false [(.con (.str [61])), (.con (.str [33, 61]))]) (.bi false .toInt [(.cmp .eq (.var 4) (.con (.str [111, 117, 116])))]))) (.bm false .join (.con (.str [124])) [(.bi false .toList [(.var 5)])]))) (env := [some (.p p.P), none, none, none, none, none]) (s := s) p.cs (fun t => .p t.P) (fun _ => true) (fun t => .str t.txt) hs (ds := [.p (.tup (p.cs.map Cd.P))]) (by simp [Pk.P]) (by simp) (by simp only [line]; omega) (fun _ => stands_p _ _ _ _) (fun c hc => by
    have h5 := Cd.parts (h3 c hc)
    have h6 := Cd.vals_len (h3 c hc)
    have h7 := Cd.join_len (h3 c hc)
    have e3' : (c.vals.map (·.length)).sum + c.vals.length ≤ line := le_line (by omega)
    have e4 : strsOf (strsP c.vals) = some c.vals := strsOf_map c.vals
    have h8 : c.sgn.length ≤ 2 := by unfold Cd.sgn; split <;> simp
    have e6 : c.key.length + c.sgn.length ≤ line := le_line (by omega)
    have e7 : c.key.length + c.sgn.length + (joinS [124] c.vals).length ≤ line := le_line (by omega)
    refine ⟨_, rfl, fun s' hs' => ⟨by simp, fun _ => ?_⟩⟩
    by_cases ho : c.how = [111, 117, 116]
    · simp [Cd.sgn, ho] at e6 e7
      simp [wipeE, Cd.txt, Cd.sgn, ho, e3', e4, e6, e7]
    · simp [Cd.sgn, ho] at e6 e7
      simp [wipeE, Cd.txt, Cd.sgn, ho, e3', e4, e6, e7])
  rw [List.filter_eq_self.mpr (fun _ _ => rfl)] at hlc
  have em : (p.cs.map fun t => P.str t.txt) = (p.cs.map Cd.txt).map P.str := by simp
  rw [em] at hlc
  have e3 : ((p.cs.map Cd.txt).map (·.length)).sum + (p.cs.map Cd.txt).length * 1 ≤ line := le_line (by simp only [List.length_map]; omega)
  have hvw : views (s ++ [Cell.lst (((p.cs.map Cd.txt).map P.str).map D.p)]) [.ref s.length] = some [.lst ((p.cs.map Cd.txt).map P.str)] := by
    rw [views_ref (top_get _ _)]
    rfl
  have hj : biP .join [.str [44], .lst ((p.cs.map Cd.txt).map P.str)] = some (.str (joinS [44] (p.cs.map Cd.txt))) := by
    rw [biP_join, strsOf_map]
    simp only [Option.bind_some, List.length_cons, List.length_nil, Nat.zero_add]
    rw [if_pos e3]
  have h1' := Pk.join_len h
  generalize hjj : joinS [44] (p.cs.map Cd.txt) = j at hj h1'
  have hfin := fin0 (x := .str p.txt) hs [Cell.lst (((p.cs.map Cd.txt).map P.str).map D.p)] rfl
  generalize hS : s ++ [Cell.lst (((p.cs.map Cd.txt).map P.str).map D.p)] = S at hlc hvw hfin
  have e1 : p.w.length + 1 ≤ line := le_line (by omega)
  have e2 : p.w.length + 1 + j.length ≤ line := le_line (by omega)
  have e3 : p.w.length + 1 + j.length + 1 ≤ line := le_line (by omega)
  have e3' : p.w.length + (j.length + 1) ≤ line := le_line (by omega)
  have e3'' : p.w.length + (j.length + 1) + 1 ≤ line := le_line (by omega)
  have e4 : p.w.length ≤ line := le_line (by omega)
  have e5 : 1 ≤ line := le_line (by omega)
  have e6 : 1 + 1 ≤ line := le_line (by omega)
  have e7 : 1 + 1 + j.length ≤ line := le_line (by omega)
  have e8 : 1 + 1 + j.length + 1 ≤ line := le_line (by omega)
  have e9 : j.length + 1 + 1 ≤ line := le_line (by omega)
  have e10 : j.length + 1 + 1 + 1 ≤ line := le_line (by omega)
  simp only [f__law_picker_text, exs_cons, ex_set, List.map_cons, List.map_nil, List.length_cons, List.length_nil, Nat.zero_add, Nat.reduceAdd, Nat.reduceSub, List.replicate, List.cons_append, List.nil_append, hlc, X.of_ok, List.set, X.seq_nx, ev_bm, ev_con, R.bind_ok, recv_join, if_true, ev_cons, ev_nil, ev_var, getV_z, getV_s, opt_some, runBi_join, views_p, hvw, Option.map_some, hj]
  by_cases hw : p.w = []
  · by_cases hjn : j = []
    · simp [Pk.txt, hjj, hjn, hw, br] at hfin
      simp [Pk.P, Pk.txt, hjj, hjn, hw, br, mul_0, e4, e5, hfin]
    · simp [Pk.txt, hjj, hjn, hw, br] at hfin
      simp [Pk.P, Pk.txt, hjj, hjn, hw, br, mul_1, e1, e2, e3, e3', e3'', e5, e6, e7, e8, e9, e10, hfin]
  · by_cases hjn : j = []
    · simp [Pk.txt, hjj, hjn, hw, br] at hfin
      simp [Pk.P, Pk.txt, hjj, hjn, hw, br, mul_0, e4, hfin]
    · simp [Pk.txt, hjj, hjn, hw, br] at hfin
      simp [Pk.P, Pk.txt, hjj, hjn, hw, br, mul_1, e1, e2, e3, e3', e3'', hfin]
end
end K73
end T_V8
section T_V9
set_option linter.all false
set_option Elab.async false
set_option maxRecDepth 100000
namespace K73
open TH
theorem adds_ok {a b : Txt} (h : a.length + b.length ≤ line) : binP .add (.str a) (.str b) = some (.str (a ++ b)) := by simp [h]
def QW : List Txt := [[110, 117, 109], [97, 116], [111, 118, 101, 114], [106, 111, 105, 110], [98, 121], [119, 104, 101, 114, 101], [114, 97, 110, 107]]
theorem qP_eq (q : Q) : ∃ r, q.P = .tup (.str (qword q) :: r) := by cases q <;> exact ⟨_, rfl⟩
theorem qword_mem (q : Q) : qword q ∈ QW := by cases q <;> simp [qword, QW, NUM, AT, OVER, JOIN, BY, WHERE, RANK]
section
variable {k : Nat} {s : Sto}
theorem law_within (hk : 1 ≤ k) (hs : Flat s) {q : Q} : callF G k 51 [.p q.P] s = .ok (.p (.lst (q.inners.map Q.P))) s := by
  obtain ⟨k, rfl⟩ := Nat.exists_eq_add_of_le' (by omega : 1 ≤ k)
  rw [call_eq (fd := f__law_within) rfl rfl]
  have hlc := fun (f : Int) (h1 : evEs G (callF G k) (callF G (k - 1)) [(.slc (.var 0) (some (.var 1)) none)] [some (.p q.P), some (.p (.int f)), none] s = .ok [.p (.tup (q.inners.map Q.P))] s) => lc_gen (G := G) (cf := callF G k) (ci := callF G (k - 1)) (own := [2]) (tg := .name 2) (ik := .seq) (its := [(.slc (.var 0) (some (.var 1)) none)]) (cs := [(.and (.bi false (.isinst .tuple) [(.var 2)]) (.and (.cmp .ne (.var 2) (.tup [])) (.cmp .inn (.idx (.var 2) (.con (.int 0))) (.tup [(.con (.str [110, 117, 109])), (.con (.str [97, 116])), (.con (.str [111, 118, 101, 114])), (.con (.str [106, 111, 105, 110])), (.con (.str [98, 121])), (.con (.str [119, 104, 101, 114, 101])), (.con (.str [114, 97, 110, 107]))]))))]) (elt := .var 2) (env := [some (.p q.P), some (.p (.int f)), none]) (s := s) q.inners (fun a => .p a.P) (fun _ => true) Q.P hs h1 (by simp) (by cases q <;> simp [Q.inners, line]) (fun _ => stands_p _ _ _ _) (fun a ha => by
    refine ⟨_, rfl, fun s' hs' => ⟨?_, fun _ => by simp [wipeE]⟩⟩
    obtain ⟨r, hr⟩ := qP_eq a
    have hin : isIn (.str (qword a)) (.tup [.str [110, 117, 109], .str [97, 116], .str [111, 118, 101, 114], .str [106, 111, 105, 110], .str [98, 121], .str [119, 104, 101, 114, 101], .str [114, 97, 110, 107]]) = some true := by
      have := isIn_strs (qword a) QW
      rw [decide_eq_true (qword_mem a)] at this
      exact this
    simp [wipeE, hr, hin])
  simp only [List.filter_eq_self.mpr (fun _ _ => rfl : ∀ a ∈ q.inners, true = true)] at hlc
  cases q with
  | num n => have := hlc 2 (by simp [Q.P, Q.inners, slcP, cutL, cutAt]); simp only [Q.P] at this; simp [f__law_within, Q.P, isIn_2, this, fin0' hs]
  | «at» p n => have := hlc 3 (by simp [Q.P, Q.inners, slcP, cutL, cutAt]); simp only [Q.P] at this; simp [f__law_within, Q.P, isIn_2, this, fin0' hs]
  | over w p n => have := hlc 4 (by simp [Q.P, Q.inners, slcP, cutL, cutAt]); simp only [Q.P] at this; simp [f__law_within, Q.P, isIn_2, this, fin0' hs]
  | join w a b => have := hlc 2 (by simp [Q.P, Q.inners, slcP, cutL, cutAt]); simp only [Q.P] at this; simp [f__law_within, Q.P, isIn_2, this, fin0' hs]
  | «by» w ks a => have := hlc 3 (by simp [Q.P, Q.inners, slcP, cutL, cutAt]); simp only [Q.P] at this; simp [f__law_within, Q.P, isIn_2, this, fin0' hs]
  | whr w n a => have := hlc 3 (by simp [Q.P, Q.inners, slcP, cutL, cutAt]); simp only [Q.P] at this; simp [f__law_within, Q.P, isIn_2, this, fin0' hs]
  | rank n a => have := hlc 2 (by simp [Q.P, Q.inners, slcP, cutL, cutAt]); simp only [Q.P] at this; simp [f__law_within, Q.P, isIn_2, this, fin0' hs]
/-- the texts within, joined -/
theorem inner_lc (hk : 1 ≤ k) (hs : Flat s) {q : Q} (ih : ∀ a ∈ q.inners, ∀ s', Flat s' → callF G k 55 [.p a.P] s' = .ok (.p (.str a.txt)) s') (w : D) :
    evE G (callF G k) (callF G (k - 1)) (.lc false [5] (.name 5) .seq [(.call 51 [(.var 0)])] [] (.call 55 [(.var 5)])) [some (.p q.P), some w, none, none, none, none] s = .ok (.p (.lst (q.inners.map fun a => .str a.txt))) s := by
  have hw := law_within hk hs (q := q)
  exact lc_map (G := G) (cf := callF G k) (ci := callF G (k - 1)) (own := [5]) (tg := .name 5) (ik := .seq) (its := [(.call 51 [(.var 0)])]) (elt := (.call 55 [(.var 5)])) (env := [some (.p q.P), some w, none, none, none, none]) (s := s) q.inners (fun a => .p a.P) (fun a => .str a.txt) hs (ds := [.p (.lst (q.inners.map Q.P))]) (by simp [hw]) (by simp) (by cases q <;> simp [Q.inners, line]) (fun _ => stands_p _ _ _ _) (fun a ha => by
    refine ⟨_, rfl, fun s' hs' => ?_⟩
    simp [wipeE, ih a ha s' hs'])
theorem inner_join {q : Q} (hi : q.inner = true) (hz : q.size ≤ 60) : biP .join [.str [32], .lst (q.inners.map fun t => P.str t.txt)] = some (.str (joinS [32] (q.inners.map Q.txt))) := by
  have e4 : strsOf (q.inners.map fun t => P.str t.txt) = some (q.inners.map Q.txt) := strsOf_map' Q.txt _
  have e1 : ((q.inners.map Q.txt).map (·.length)).sum + (q.inners.map Q.txt).length * 1 ≤ line := by
    refine le_line ?_
    have hw : ∀ a ∈ q.inners, a.form = true ∧ a.inner = true ∧ a.size ≤ 60 := by
      cases q <;> simp only [Q.inners, List.mem_cons, List.not_mem_nil, or_false, Q.inner, Q.size, Bool.and_eq_true] at hi hz ⊢ <;> intro a ha
      all_goals first
        | (exact absurd ha id)
        | (subst ha; exact ⟨hi.1.2, hi.1.1, by omega⟩)
        | (rcases ha with rfl | rfl
           · exact ⟨hi.1.2, hi.1.1, by omega⟩
           · exact ⟨hi.2.2, hi.2.1, by omega⟩)
    have hl : q.inners.length ≤ 2 := by cases q <;> simp [Q.inners]
    have := sum_len (l := q.inners.map Q.txt) (B := 15000) (fun x hx => by
      obtain ⟨a, ha, rfl⟩ := List.mem_map.mp hx
      obtain ⟨j1, j2, j3⟩ := hw a ha
      have := Q.txt_len j1 j2
      omega)
    simp only [List.length_map] at this ⊢
    omega
  rw [biP_join, e4]
  simp only [Option.bind_some, List.length_cons, List.length_nil, Nat.zero_add]
  rw [if_pos e1]
theorem keys_join {ks : List Txt} (h : areKeys ks = true) : biP .join [.str [44], .lst (strsP ks)] = some (.str (joinS [44] ks)) := by
  have h1 := keys_parts h
  have h2 := keys_sum h
  have e1 : (ks.map (·.length)).sum + ks.length * 1 ≤ line := le_line (by omega)
  have e2 : strsOf (strsP ks) = some ks := strsOf_map ks
  rw [biP_join, e2]
  simp only [Option.bind_some, List.length_cons, List.length_nil, Nat.zero_add]
  rw [if_pos e1]
end
theorem joins2 (a b : Txt) : joinS [32] [a, b] = a ++ 32 :: b := by simp [joinS]
set_option maxHeartbeats 0 in
theorem law_qtext_of {k : Nat} {s : Sto} (hk : 2 ≤ k) (hs : Flat s) {q : Q} (hf : q.form = true) (hi : q.inner = true) (hz : q.size ≤ 60) (ih : ∀ a ∈ q.inners, ∀ s', Flat s' → callF G k 55 [.p a.P] s' = .ok (.p (.str a.txt)) s') : callF G (k + 1) 55 [.p q.P] s = .ok (.p (.str q.txt)) s := by
  rw [call_eq (fd := f__law_question_text) rfl rfl]
  have hin := inner_lc (by omega) hs ih
  have hj := inner_join hi hz
  have htl := Q.txt_len hf hi
  cases q with
  | num n =>
    simp only [Q.form] at hf
    have h1 := intS_len7 hf (by decide) (by decide)
    have h2 : n.natAbs < 1000000000000000000 := by have := nat7 hf (by decide) (by decide); omega
    simp (disch := (simp only [List.length_append, List.length_cons, List.length_nil, line]; omega)) [f__law_question_text, Q.P, h2, adds_ok, -bin_adds, fin0' hs, Q.txt, joinS, NUM]
  | «at» p n =>
    simp only [Q.form, Pk.okw, Bool.and_eq_true] at hf
    have h0 := law_picker_text (k := k) (by omega) hs hf.1.1
    have h3 := Pk.txt_len hf.1.1
    have h1 := intS_len7 hf.2 (by decide) (by decide)
    have h2 : n.natAbs < 1000000000000000000 := by have := nat7 hf.2 (by decide) (by decide); omega
    simp (disch := (simp only [List.length_append, List.length_cons, List.length_nil, line]; omega)) [f__law_question_text, Q.P, h0, h2, adds_ok, -bin_adds, fin0' hs, Q.txt, joinS, AT]
  | over w p n =>
    simp only [Q.form, Pk.okw, Bool.and_eq_true] at hf
    have h0 := law_picker_text (k := k) (by omega) hs hf.2.1.1
    have h3 := Pk.txt_len hf.2.1.1
    have h4 := folds_len hf.1
    have h1 := intS_len7 hf.2.2 (by decide) (by decide)
    have h2 : n.natAbs < 1000000000000000000 := by have := nat7 hf.2.2 (by decide) (by decide); omega
    simp (disch := (simp only [List.length_append, List.length_cons, List.length_nil, line]; omega)) [f__law_question_text, Q.P, h0, h2, adds_ok, -bin_adds, fin0' hs, Q.txt, joinS, OVER]
  | join w a b =>
    simp only [Q.form] at hf
    have h4 := joins_len hf
    have h5 : a.txt.length + b.txt.length ≤ 20000 := by simp only [Q.txt, joinS, List.length_append, List.length_cons] at htl; omega
    have hin := hin (.p (.str JOIN))
    simp only [Q.P, Q.inners, List.map_cons, List.map_nil, joins2, JOIN] at hin hj
    simp (disch := (simp only [List.length_append, List.length_cons, List.length_nil, line]; omega)) [f__law_question_text, Q.P, hin, hj, -biP_join, adds_ok, -bin_adds, fin0' hs, Q.txt, joinS, JOIN]
  | «by» w ks a =>
    simp only [Q.form, Bool.and_eq_true] at hf
    have h4 := groups_len hf.1
    have h6 := keysTxt_len hf.2
    have h5 : a.txt.length ≤ 20000 := by simp only [Q.txt, joinS, List.length_append, List.length_cons] at htl; omega
    have hin := hin (.p (.str BY))
    simp only [Q.P, Q.inners, List.map_cons, List.map_nil, joinS, BY] at hin hj
    have hjk := keys_join hf.2
    have e3 : (strsP ks).isEmpty = decide (ks = []) := by cases ks <;> simp [strsP]
    by_cases hks : ks = []
    · subst hks
      simp (disch := (simp only [List.length_append, List.length_cons, List.length_nil, line]; omega)) [f__law_question_text, Q.P, strsP, keysTxt, adds_ok, -bin_adds, fin0' hs, Q.txt, joinS, BY] at hin ⊢
      simp (disch := (simp only [List.length_append, List.length_cons, List.length_nil, line]; omega)) [hin, hj, -biP_join, adds_ok, -bin_adds, fin0' hs]
    · simp [keysTxt, hks] at h6
      simp (disch := (simp only [List.length_append, List.length_cons, List.length_nil, line]; omega)) [f__law_question_text, Q.P, hin, hj, -biP_join, hjk, e3, hks, keysTxt, adds_ok, -bin_adds, fin0' hs, Q.txt, joinS, BY]
  | whr w n a =>
    simp only [Q.form, Bool.and_eq_true] at hf
    have h4 := sides_len hf.1
    have h1 := intS_len7 hf.2 (by decide) (by decide)
    have h2 : n.natAbs < 1000000000000000000 := by have := nat7 hf.2 (by decide) (by decide); omega
    have h5 : a.txt.length ≤ 20000 := by simp only [Q.txt, joinS, List.length_append, List.length_cons] at htl; omega
    have hin := hin (.p (.str WHERE))
    simp only [Q.P, Q.inners, List.map_cons, List.map_nil, joinS, WHERE] at hin hj
    simp (disch := (simp only [List.length_append, List.length_cons, List.length_nil, line]; omega)) [f__law_question_text, Q.P, hin, hj, -biP_join, h2, adds_ok, -bin_adds, fin0' hs, Q.txt, joinS, WHERE]
  | rank n a =>
    simp only [Q.form] at hf
    have h1 := intS_len7 hf (by decide) (by decide)
    have h2 : n.natAbs < 1000000000000000000 := by have := nat7 hf (by decide) (by decide); omega
    have h5 : a.txt.length ≤ 20000 := by simp only [Q.txt, joinS, List.length_append, List.length_cons] at htl; omega
    have hin := hin (.p (.str RANK))
    simp only [Q.P, Q.inners, List.map_cons, List.map_nil, joinS, RANK] at hin hj
    simp (disch := (simp only [List.length_append, List.length_cons, List.length_nil, line]; omega)) [f__law_question_text, Q.P, hin, hj, -biP_join, h2, adds_ok, -bin_adds, fin0' hs, Q.txt, joinS, RANK]
end K73
end T_V9
section T_V10
set_option linter.all false
set_option Elab.async false
set_option maxRecDepth 100000
namespace K73
open TH
theorem law_question_text : ∀ (q : Q) {k : Nat} {s : Sto}, q.depth + 3 ≤ k → Flat s → q.form = true → q.inner = true → q.size ≤ 60 → callF G k 55 [.p q.P] s = .ok (.p (.str q.txt)) s := by
  intro q
  induction q with
  | num n =>
    intro k s hk hs h hi hz
    obtain ⟨k, rfl⟩ := Nat.exists_eq_add_of_le' (by omega : 1 ≤ k)
    exact law_qtext_of (by omega) hs h hi hz (fun a ha => by simp [Q.inners] at ha)
  | «at» p n =>
    intro k s hk hs h hi hz
    obtain ⟨k, rfl⟩ := Nat.exists_eq_add_of_le' (by omega : 1 ≤ k)
    exact law_qtext_of (by omega) hs h hi hz (fun a ha => by simp [Q.inners] at ha)
  | over w p n =>
    intro k s hk hs h hi hz
    obtain ⟨k, rfl⟩ := Nat.exists_eq_add_of_le' (by omega : 1 ≤ k)
    exact law_qtext_of (by omega) hs h hi hz (fun a ha => by simp [Q.inners] at ha)
  | join w a b ia ib =>
    intro k s hk hs h hi hz
    obtain ⟨k, rfl⟩ := Nat.exists_eq_add_of_le' (by omega : 1 ≤ k)
    simp only [Q.depth] at hk
    refine law_qtext_of (by omega) hs h hi hz (fun c hc s' hs' => ?_)
    simp only [Q.inner, Bool.and_eq_true] at hi
    simp only [Q.size] at hz
    simp only [Q.inners, List.mem_cons, List.not_mem_nil, or_false] at hc
    rcases hc with rfl | rfl
    · exact ia (by omega) hs' hi.1.2 hi.1.1 (by omega)
    · exact ib (by omega) hs' hi.2.2 hi.2.1 (by omega)
  | «by» w ks a ia =>
    intro k s hk hs h hi hz
    obtain ⟨k, rfl⟩ := Nat.exists_eq_add_of_le' (by omega : 1 ≤ k)
    simp only [Q.depth] at hk
    refine law_qtext_of (by omega) hs h hi hz (fun c hc s' hs' => ?_)
    simp only [Q.inner, Bool.and_eq_true] at hi
    simp only [Q.size] at hz
    simp only [Q.inners, List.mem_cons, List.not_mem_nil, or_false] at hc
    subst hc
    exact ia (by omega) hs' hi.1.2 hi.1.1 (by omega)
  | whr w n a ia =>
    intro k s hk hs h hi hz
    obtain ⟨k, rfl⟩ := Nat.exists_eq_add_of_le' (by omega : 1 ≤ k)
    simp only [Q.depth] at hk
    refine law_qtext_of (by omega) hs h hi hz (fun c hc s' hs' => ?_)
    simp only [Q.inner, Bool.and_eq_true] at hi
    simp only [Q.size] at hz
    simp only [Q.inners, List.mem_cons, List.not_mem_nil, or_false] at hc
    subst hc
    exact ia (by omega) hs' hi.1.2 hi.1.1 (by omega)
  | rank n a ia =>
    intro k s hk hs h hi hz
    obtain ⟨k, rfl⟩ := Nat.exists_eq_add_of_le' (by omega : 1 ≤ k)
    simp only [Q.depth] at hk
    refine law_qtext_of (by omega) hs h hi hz (fun c hc s' hs' => ?_)
    simp only [Q.inner, Bool.and_eq_true] at hi
    simp only [Q.size] at hz
    simp only [Q.inners, List.mem_cons, List.not_mem_nil, or_false] at hc
    subst hc
    exact ia (by omega) hs' hi.1.2 hi.1.1 (by omega)
def dtz (d : Dd) : List (Nat × Txt) := (List.range' 1 (dtexts d).length).zip (dtexts d)
abbrev dtBody : List S := [.ifs (.and (.cmp .eq (.idx (.var 0) (.con (.int 0))) (.con (.str [116, 101, 108, 108]))) (.cmp .eq (.var 2) (.con (.int 1)))) [.expr (.bm false .append (.var 1) [(.call 53 [(.idx (.var 0) (.var 2))])])] [.ifs (.and (.cmp .eq (.idx (.var 0) (.con (.int 0))) (.con (.str [115, 105, 108, 101, 110, 99, 101]))) (.cmp .eq (.var 2) (.con (.int 1)))) [.expr (.bm false .append (.var 1) [(.call 54 [(.idx (.var 0) (.var 2))])])] [.expr (.bm false .append (.var 1) [(.ite (.bi false (.isinst .tuple) [(.idx (.var 0) (.var 2))]) (.call 55 [(.idx (.var 0) (.var 2))]) (.bi false .toStr [(.idx (.var 0) (.var 2))]))])]]]
@[simp] theorem idx_4 (x y z u v : P) (r : List P) : idxP (.tup (x :: y :: z :: u :: v :: r)) (.int 4) = some v := idx_nat (x :: y :: z :: u :: v :: r) 4 (by simp)
@[simp] theorem idx_5 (x y z u v w : P) (r : List P) : idxP (.tup (x :: y :: z :: u :: v :: w :: r)) (.int 5) = some w := idx_nat (x :: y :: z :: u :: v :: w :: r) 5 (by simp)
theorem qP_ty (q : Q) (t : Ty) : isTy t q.P = some (decide (t = .tuple)) := by
  obtain ⟨r, h⟩ := qP_eq q; rw [h]; simp
theorem nat18 {i lo hi : Int} (h : inR i lo hi = true) (h1 : -1000000 ≤ lo) (h2 : hi ≤ 1000000) : i.natAbs < 1000000000000000000 := by
  have := inR_abs h; omega
set_option maxHeartbeats 0 in
theorem dt_step {k m : Nat} {S : Sto} {xs : List D} (hk : 11 ≤ k) (hs : Flat S) {d : Dd} (h : d.ok) (hm : S[m]? = some (.lst xs)) (hx : xs.length < 100) (z : Nat × Txt) (hz : z ∈ dtz d) :
    execs G (callF G k) (callF G (k - 1)) dtBody [some (.p d.P), some (.ref m), some (.p (.int z.1))] S = .nx [some (.p d.P), some (.ref m), some (.p (.int z.1))] (S.set m (.lst (xs ++ [.p (.str z.2)]))) := by
  have hra := fun t => run_append (d := .p (.str t)) hm (by simp only [line]; omega)
  have hrc := recv_append hm
  cases d <;> simp only [dtz, dtexts, List.length_cons, List.length_nil, Nat.zero_add, Nat.reduceAdd, List.range'_succ, List.range'_zero, List.zip_cons_cons, List.zip_nil_right, List.mem_cons, List.not_mem_nil, or_false] at hz <;> simp only [Dd.ok] at h
  · rcases hz with rfl | rfl | rfl
    · have := law_name_text (k := k) (by omega) hs h.1
      simp [Dd.P, this, hra, hrc]
    · have := nat18 h.2.1 (by decide) (by decide)
      simp [Dd.P, this, hra, hrc]
    · have := nat18 h.2.2 (by decide) (by decide)
      simp [Dd.P, this, hra, hrc]
  · subst hz
    have := nat18 h (by decide) (by decide)
    simp [Dd.P, this, hra, hrc]
  · subst hz
    have := nat18 h (by decide) (by decide)
    simp [Dd.P, this, hra, hrc]
  · rcases hz with rfl | rfl | rfl
    · simp [Dd.P, hra, hrc]
    · have := law_question_text _ (k := k) (by have := h.2.1.2.2.2.2; omega) hs h.2.1.1 h.2.1.2.1 h.2.1.2.2.2.1
      simp [Dd.P, qP_ty, this, hra, hrc]
    · have := nat18 h.2.2 (by decide) (by decide)
      simp [Dd.P, this, hra, hrc]
  · rcases hz with rfl | rfl | rfl | rfl | rfl
    · simp [Dd.P, hra, hrc]
    · have := law_question_text _ (k := k) (by have := h.2.1.2.2.2.2; omega) hs h.2.1.1 h.2.1.2.1 h.2.1.2.2.2.1
      simp [Dd.P, qP_ty, this, hra, hrc]
    · simp [Dd.P, hra, hrc]
    · have := nat18 h.2.2.2.1 (by decide) (by decide)
      simp [Dd.P, this, hra, hrc]
    · have := nat18 h.2.2.2.2 (by decide) (by decide)
      simp [Dd.P, this, hra, hrc]
  · subst hz
    simp [Dd.P, hra, hrc]
  · rcases hz with rfl | rfl | rfl
    · have := law_picker_text (k := k) (by omega) hs h.1
      simp [Dd.P, this, hra, hrc]
    · have := nat18 h.2.1 (by decide) (by decide)
      simp [Dd.P, this, hra, hrc]
    · have := nat18 h.2.2.1 (by decide) (by decide)
      simp [Dd.P, this, hra, hrc]
  · subst hz
    have := nat18 h (by decide) (by decide)
    simp [Dd.P, this, hra, hrc]
theorem law_deed_text {k : Nat} {s : Sto} (hk : 12 ≤ k) (hs : Flat s) {d : Dd} (h : d.ok) : callF G k 56 [.p d.P] s = .ok (.p (.str d.txt)) s := by
  obtain ⟨k, rfl⟩ := Nat.exists_eq_add_of_le' (by omega : 1 ≤ k)
  rw [call_eq (fd := f__law_deed_text) rfl rfl]
  have hi0 : idxP d.P (.int 0) = some (.str (dword d)) := by cases d <;> simp [Dd.P, dword, TELL, STRIKE, TURN, WRITE, WAKE, REST, SILENCE, LIFT]
  have hln : biP .len [d.P] = some (.int ((dtexts d).length + 1 : Nat)) := by cases d <;> simp [Dd.P, dtexts]
  have hdl : (dtexts d).length ≤ 5 := by cases d <;> simp [dtexts]
  have e00 : (dtz d).map (fun z => D.p (.int z.1)) = (List.range (((dtexts d).length + 1 : Nat) - (1 : Int)).toNat).map fun (k : Nat) => D.p (.int (1 + (k : Int))) := by cases d <;> simp [dtz, dtexts, List.range'_succ, List.range_succ]
  have e01 : (dtz d).map (·.2) = dtexts d := by cases d <;> simp [dtz, dtexts, List.range'_succ]
  have hf := for_inv (G := G) (cf := callF G k) (ci := callF G (k - 1)) (tg := .name 2) (ik := .range2) (its := [(.con (.int 1)), (.bi false .len [(.var 0)])]) (body := dtBody) (env := [some (.p d.P), some (.ref s.length), none]) (s := s ++ [.lst [.p (.str (dword d))]]) (ds := [.p (.int 1), .p (.int ((dtexts d).length + 1 : Nat))]) (s1 := s ++ [.lst [.p (.str (dword d))]]) (dtz d) (fun z => .p (.int z.1))
    (fun rest e s' => ∃ done x, done ++ rest = dtz d ∧ e = [some (.p d.P), some (.ref s.length), x] ∧ s' = s ++ [.lst ((dword d :: done.map (·.2)).map fun t => .p (.str t))])
    (by simp [hln]) (by rw [e00]; simp only [items]; rw [if_pos ⟨by decide, by omega⟩]) ⟨[], none, rfl, rfl, rfl⟩ (fun z r e s' hI => by
      obtain ⟨done, x, h1, rfl, rfl⟩ := hI
      have hzm : z ∈ dtz d := by rw [← h1]; simp
      have hdl' : done.length ≤ 5 := by
        have e1 := congrArg List.length h1
        have e2 := congrArg List.length e01
        simp only [List.length_append, List.length_map] at e1 e2; omega
      have hfl : Flat (s ++ [Cell.lst ((dword d :: done.map (·.2)).map fun t => D.p (.str t))]) := hs.app (.one (flatC_lst' P.str _))
      have := dt_step (k := k) (by omega) hfl h (top_get s _) (by simp only [List.length_map, List.length_cons]; omega) z hzm
      rw [top_set] at this
      refine ⟨rfl, _, rfl, _, _, this, done ++ [z], _, by simp [h1], rfl, by simp⟩) (fun _ _ _ => rfl)
  obtain ⟨e, s', hf, done, x, h1, rfl, rfl⟩ := hf
  rw [List.append_nil] at h1
  subst h1
  rw [e01, ← dws_eq] at hf
  have hvw : views (s ++ [Cell.lst (d.ws.map fun t => D.p (.str t))]) [.ref s.length] = some [.lst (d.ws.map P.str)] := by
    rw [views_ref (xs := d.ws.map P.str) (by rw [top_get]; simp)]
    rfl
  have hwl := Dd.ws_len h
  have e1 : (d.ws.map (·.length)).sum + d.ws.length * 1 ≤ line := le_line (by omega)
  have hj : biP .join [.str [32], .lst (d.ws.map P.str)] = some (.str d.txt) := by
    rw [biP_join, strsOf_map]
    simp only [Option.bind_some, List.length_cons, List.length_nil, Nat.zero_add]
    rw [if_pos e1]
    rfl
  have hfin := fin0 (x := .str d.txt) hs [Cell.lst (d.ws.map fun t => D.p (.str t))] rfl
  simp only [f__law_deed_text, exs_cons, ex_set, List.map_cons, List.map_nil, List.length_cons, List.length_nil, Nat.zero_add, Nat.reduceAdd, Nat.reduceSub, List.replicate, List.cons_append, List.nil_append, ev_lst, ev_cons, ev_nil, ev_idx, ev_var, ev_con, getV_z, getV_s, opt_some, R.bind_ok, idxD_pp, hi0, Option.map_some, lcEnd_true, X.of_ok, List.set, X.seq_nx, hf, ex_ret, ev_bm, recv_join, if_true, runBi_join, views_p, hvw, hj, X.seq_ret, hfin]
end K73
end T_V10
section T_V11
set_option linter.all false
set_option Elab.async false
set_option maxRecDepth 100000
namespace K73
open TH
theorem part_eq {c : Nat} {x : Txt} (h : x.length ≤ line) : biP .partition [.str x, .str [c]] = some (.tup [.str (partAt c x).1, .str (if (partAt c x).2.1 then [c] else []), .str (partAt c x).2.2]) := by
  simp [biP, h]
theorem split_eq {c : Nat} {x : Txt} (h : x.length + 2 ≤ line) (hc : c < 256) : biP .split [.str x, .str [c]] = some (.lst (strsP (splitAt c x))) := by
  simp [biP, h, hc, strsP]
theorem slc_eq {x : Txt} {lo hi : Option Int} (h : x.length ≤ line) : slcP (.str x) lo hi = some (.str (cutL x lo hi)) := by simp [slcP, h]
section
variable {k : Nat} {s : Sto}
theorem tags_of (hk : 1 ≤ k) (hs : Flat s) {w : Txt} {l : List Txt} (hw : (123 : Nat) ∉ w) (hl : ∀ x ∈ l, x ≠ [] ∧ (44 : Nat) ∉ x) (hz : (w ++ br (joinS [44] l)).length ≤ 1000) : callF G k 31 [.p (.str (w ++ br (joinS [44] l)))] s = .ok (.p (.tup [.str w, .lst (strsP l)])) s := by
  obtain ⟨k, rfl⟩ := Nat.exists_eq_add_of_le' (by omega : 1 ≤ k)
  rw [call_eq (fd := f_tags_of) rfl rfl]
  have hz' : (w ++ br (joinS [44] l)).length ≤ line := le_line (by omega)
  by_cases hn : l = []
  · subst hn
    have e : w ++ br (joinS [44] []) = w := by simp [joinS, br]
    rw [e] at hz' ⊢
    simp [f_tags_of, part_eq hz', partAt_miss hw, asTup, setAll, strsP, fin0' hs]
  · have hj : joinS [44] l ≠ [] := join_ne hn fun x hx => (hl x hx).1
    have e : w ++ br (joinS [44] l) = w ++ 123 :: (joinS [44] l ++ [125]) := by simp [br, hj]
    rw [e] at hz' hz ⊢
    have hsp := splitAt_join (c := 44) hn fun x hx => (hl x hx).2
    simp only [List.length_append, List.length_cons, List.length_nil] at hz
    have e1 : (joinS [44] l ++ [125]).length ≤ line := le_line (by simp only [List.length_append, List.length_cons, List.length_nil]; omega)
    have e2 : (joinS [44] l).length + 2 ≤ line := le_line (by omega)
    simp [f_tags_of, part_eq hz', partAt_hit hw, asTup, setAll, slc_eq e1, slc_last, split_eq e2, hsp, fin0' hs]
theorem name_of (hk : 2 ≤ k) (hs : Flat s) {n : Nm} (h : n.ok = true) : callF G k 32 [.p (.str n.txt)] s = .ok (.p n.P) s := by
  obtain ⟨k, rfl⟩ := Nat.exists_eq_add_of_le' (by omega : 1 ≤ k)
  rw [call_eq (fd := f_name_of) rfl rfl]
  obtain ⟨h1, h2⟩ := Nm.ok_parts h
  have h3 := Nm.tag_len h
  have ht := tags_of (k := k) (by omega) hs (w := n.w) (l := n.ts.map Tag.txt) (fun e => by have := word_ch h1 e; omega) (fun x hx => by
    obtain ⟨t, ht, rfl⟩ := List.mem_map.mp hx
    exact ⟨by simp [Tag.txt], fun e => by have := tag_ch (h2 t ht) e; omega⟩) (by have := Nm.txt_len h; simp only [Nm.txt] at this; omega)
  have hlc := lc_map (G := G) (cf := callF G k) (ci := callF G (k - 1)) (own := [3]) (tg := .name 3) (ik := .seq) (its := [.var 2]) (elt := (.tup [(.idx (.bm false .partition (.var 3) [(.con (.str [61]))]) (.con (.int 0))), (.idx (.bm false .partition (.var 3) [(.con (.str [61]))]) (.con (.int 2)))])) (env := [some (.p (.str n.txt)), some (.p (.str n.w)), some (.p (.lst (strsP (n.ts.map Tag.txt)))), none]) (s := s) n.ts (fun t => .p (.str t.txt)) Tag.P hs (ds := [.p (.lst (strsP (n.ts.map Tag.txt)))]) (by simp) (by simp [strsP]) (by simp only [line]; omega) (fun _ => stands_p _ _ _ _) (fun t ht => by
    refine ⟨_, rfl, fun s' hs' => ?_⟩
    have hk : (61 : Nat) ∉ t.1 := fun e => by have := key_ch (h2 t ht).1 e; omega
    have hz : (Tag.txt t).length ≤ line := le_line (by have := h3.2.2 t ht; simp only [Tag.txt, List.length_append, List.length_cons]; omega)
    simp only [Tag.txt] at hz
    simp [wipeE, Tag.txt, part_eq hz, partAt_hit hk, Tag.P])
  simp only [Nm.txt] at ht hlc
  simp [f_name_of, Nm.txt, ht, asTup, setAll, hlc, Nm.P, tagsP, fin0' hs]
theorem condition_of (hk : 1 ≤ k) (hs : Flat s) {c : Cd} (h : c.ok = true) : callF G k 33 [.p (.str c.txt)] s = .ok (.p c.P) s := by
  obtain ⟨k, rfl⟩ := Nat.exists_eq_add_of_le' (by omega : 1 ≤ k)
  rw [call_eq (fd := f_condition_of) rfl rfl]
  obtain ⟨h1, h2, h3⟩ := Cd.ok_parts h
  have hz : c.txt.length ≤ line := le_line (by have := Cd.txt_len h; omega)
  have hk : (61 : Nat) ∉ c.key := fun e => by have := key_ch h1 e; omega
  have hsp := splitAt_join (c := 124) h2 fun x hx e => by have := val_ch (h3 x hx) e; omega
  have e2 : (joinS [124] c.vals).length + 2 ≤ line := le_line (by have := Cd.join_len h; omega)
  have hkl := (key_len h1).2
  by_cases ho : c.how = [111, 117, 116]
  · have e : c.txt = (c.key ++ [33]) ++ 61 :: joinS [124] c.vals := by simp [Cd.txt, Cd.sgn, ho]
    have hk' : (61 : Nat) ∉ c.key ++ [33] := by simp [hk]
    rw [e] at hz ⊢
    have e1 : (c.key ++ [33]).length ≤ line := le_line (by simp only [List.length_append, List.length_cons, List.length_nil]; omega)
    have hend : biP .endswith [.str (c.key ++ [33]), .str [33]] = some (.bl true) := by simp [biP]
    have hsl := slc_last c.key 33
    generalize c.key ++ [33] = K at *
    simp [f_condition_of, part_eq hz, partAt_hit hk', asTup, setAll, hend, slc_eq e1, hsl, split_eq e2, hsp, Cd.P, ho, fin0' hs]
  · have e : c.txt = c.key ++ 61 :: joinS [124] c.vals := by simp [Cd.txt, Cd.sgn, ho]
    have hi : c.how = [105, 110] := by
      rcases (Cd.parts h).2.2.2 with e | e
      · exact e
      · exact absurd e ho
    rw [e] at hz ⊢
    have hend : biP .endswith [.str c.key, .str [33]] = some (.bl false) := by
      simp only [biP, Option.some.injEq, P.bl.injEq, decide_eq_false_iff_not]
      intro e
      have := key_ch h1 (List.mem_of_getLast? e); omega
    simp [f_condition_of, part_eq hz, partAt_hit hk, asTup, setAll]
    simp [hend, split_eq e2, hsp, Cd.P, hi, fin0' hs]
theorem picker_of (hk : 2 ≤ k) (hs : Flat s) {p : Pk} (h : p.ok = true) : callF G k 34 [.p (.str p.txt)] s = .ok (.p p.P) s := by
  obtain ⟨k, rfl⟩ := Nat.exists_eq_add_of_le' (by omega : 1 ≤ k)
  rw [call_eq (fd := f_picker_of) rfl rfl]
  obtain ⟨h1, h2⟩ := Pk.ok_parts h
  have h3 := Pk.parts h
  have hW : (123 : Nat) ∉ (if p.w = [] then [42] else p.w) := by
    split
    · simp
    · rename_i e
      rcases h1 with h1 | h1
      · exact absurd h1 e
      · exact fun e => by have := word_ch h1 e; omega
  have ht := tags_of (k := k) (by omega) hs (w := if p.w = [] then [42] else p.w) (l := p.cs.map Cd.txt) hW (fun x hx => by
    obtain ⟨t, ht, rfl⟩ := List.mem_map.mp hx
    exact ⟨by have := key_ne (Cd.ok_parts (h2 t ht)).1; simp [Cd.txt, this], fun e => by have := cd_ch (h2 t ht) e; omega⟩) (by have := Pk.txt_len h; simp only [Pk.txt] at this; omega)
  have hlc := fun a b => lc_map (G := G) (cf := callF G k) (ci := callF G (k - 1)) (own := [3]) (tg := .name 3) (ik := .seq) (its := [.var 2]) (elt := (.call 33 [(.var 3)])) (env := [some a, some b, some (.p (.lst (strsP (p.cs.map Cd.txt)))), none]) (s := s) p.cs (fun t => .p (.str t.txt)) Cd.P hs (ds := [.p (.lst (strsP (p.cs.map Cd.txt)))]) (by simp) (by simp [strsP]) (by simp only [line]; omega) (fun _ => stands_p _ _ _ _) (fun t ht => by
    refine ⟨_, rfl, fun s' hs' => ?_⟩
    simp [wipeE, condition_of (k := k) (by omega) hs' (h2 t ht)])
  have hP : p.P = .tup [.str p.w, .tup (p.cs.map Cd.P)] := rfl
  by_cases hw : p.w = []
  · simp only [hw, if_true, List.cons_append, List.nil_append] at ht
    simp [f_picker_of, Pk.txt, hw, ht, asTup, setAll, hlc, hP, fin0' hs]
  · simp only [hw, if_false] at ht
    have hne : ¬ p.w = [42] := by
      intro e
      rcases h1 with h1 | h1
      · exact hw h1
      · have := word_ch h1 (c := 42) (by rw [e]; exact List.mem_cons_self); omega
    simp [f_picker_of, Pk.txt, hw, ht, asTup, setAll, hlc, hP, hne, fin0' hs]
theorem fig_mem {c : Nat} (h : 48 ≤ c ∧ c ≤ 57) : c ∈ [48, 49, 50, 51, 52, 53, 54, 55, 56, 57] := by
  have : c = 48 ∨ c = 49 ∨ c = 50 ∨ c = 51 ∨ c = 52 ∨ c = 53 ∨ c = 54 ∨ c = 55 ∨ c = 56 ∨ c = 57 := by omega
  simp; omega
theorem fig_all {k : Nat} {s : Sto} (hs : Flat s) {x : Txt} (hx : ∀ c ∈ x, 48 ≤ c ∧ c ≤ 57) (hl : x.length < line) (a : D) : evE G (callF G k) (callF G (k - 1)) (.lc false [2] (.name 2) .seq [(.var 1)] [] (.cmp .inn (.var 2) (.glo 21))) [some a, some (.p (.str x)), none] s = .ok (.p (.lst (x.map fun _ => .bl true))) s :=
  lc_map (G := G) (cf := callF G k) (ci := callF G (k - 1)) (own := [2]) (tg := .name 2) (ik := .seq) (its := [(.var 1)]) (elt := (.cmp .inn (.var 2) (.glo 21))) (env := [some a, some (.p (.str x)), none]) (s := s) x (fun c => .p (.str [c])) (fun _ => .bl true) hs (ds := [.p (.str x)]) (by simp) (by simp [items, Nat.le_of_lt hl]) hl (fun _ => stands_p _ _ _ _) (fun c hc => by
    refine ⟨_, rfl, fun s' hs' => ?_⟩
    have := fig_mem (hx c hc)
    simp only [wipeE, List.set, ev_cmp, ev_var, getV_z, getV_s, opt_some, R.bind_ok, ev_glo, gv_21, cmpD_pp, cmpP_in, isIn_ss, this, decide_true])
theorem number_of (hk : 1 ≤ k) (hs : Flat s) {i : Int} (h : i.natAbs < 10000000) : callF G k 35 [.p (.str (intS i))] s = .ok (.p (.int i)) s := by
  obtain ⟨k, rfl⟩ := Nat.exists_eq_add_of_le' (by omega : 1 ≤ k)
  rw [call_eq (fd := f_number_of) rfl rfl]
  have hi := intOf_intS i
  have hln := intS_len (k := 7) (i := i) (by decide) (by omega)
  have e0 : (intS i).length ≤ line := le_line (by omega)
  have e1 : (intS i).length ≤ 640 := by omega
  have hcore : ∀ x : Txt, 1 ≤ x.length → x.length ≤ 7 → (∀ c ∈ x, 48 ≤ c ∧ c ≤ 57) → biP .len [.str x] = some (.int x.length) ∧ (1 : Int) ≤ x.length ∧ (x.length : Int) ≤ 7 ∧ evE G (callF G k) (callF G (k - 1)) (.lc false [2] (.name 2) .seq [(.var 1)] [] (.cmp .inn (.var 2) (.glo 21))) [some (.p (.str (intS i))), some (.p (.str x)), none] s = .ok (.p (.lst (x.map fun _ => .bl true))) s ∧ biP .all [.lst (x.map fun _ => .bl true)] = some (.bl true) := by
    intro x h1 h2 h3
    refine ⟨?_, by omega, by omega, fig_all hs h3 (by simp only [line]; omega) _, ?_⟩
    · rw [biP_len_str, if_pos (le_line (by omega))]
    · rw [all_map x (fun _ => true)]
      congr 2
      exact List.all_eq_true.mpr fun _ _ => rfl
  by_cases hn : 0 ≤ i
  · have e : intS i = dg i.toNat := by rw [intS_eq, if_pos hn]
    have hst : biP .startswith [.str (intS i), .str [45]] = some (.bl false) := by
      simp only [biP, Option.some.injEq, P.bl.injEq, decide_eq_false_iff_not]
      intro e'
      rw [e] at e'
      have := dg_mem (List.mem_of_head? e'); omega
    obtain ⟨a1, a2, a3, a4, a5⟩ := hcore (intS i) (by rw [e]; exact dg_pos _) (by rw [e]; exact dg_len (by decide) (by omega)) (by rw [e]; exact fun c hc => dg_mem hc)
    generalize intS i = x at *
    simp [f_number_of, hst, a1, a2, a3, a4, a5, e1, hi, fin0' hs, -biP_len_str]
  · have e : intS i = 45 :: dg (-i).toNat := by rw [intS_eq, if_neg hn]
    have hst : biP .startswith [.str (intS i), .str [45]] = some (.bl true) := by simp [biP, e]
    have hcut : cutL (intS i) (some 1) none = dg (-i).toNat := by rw [e]; simp [cutL, cutAt]
    obtain ⟨a1, a2, a3, a4, a5⟩ := hcore (dg (-i).toNat) (dg_pos _) (dg_len (by decide) (by omega)) (fun c hc => dg_mem hc)
    generalize intS i = x at *
    generalize dg (-i).toNat = y at *
    simp [f_number_of, hst, slc_eq e0, hcut, a1, a2, a3, a4, a5, e1, hi, fin0' hs, -biP_len_str]
end
end K73
end T_V11
section T_V12
set_option linter.all false
set_option Elab.async false
set_option maxRecDepth 100000
namespace K73
open TH
abbrev rd (toks : List Txt) (i : Nat) : Cell := .ins 5 [(4, .p (.lst (strsP toks))), (5, .p (.int i))]
theorem rd_flat (toks : List Txt) (i : Nat) : flatC (rd toks i) = true := rfl
theorem replS_len {c : Nat} {t : Txt} (ht : t.length = 3) : ∀ x : Txt, (replS c t x).length ≤ 3 * x.length
  | [] => by simp [replS]
  | a :: x => by
    have := replS_len (c := c) ht x
    simp only [replS, List.length_append, List.length_cons]
    split
    · omega
    · simp only [List.length_cons, List.length_nil]; omega
theorem splitAt_len (c : Nat) : ∀ x : Txt, (splitAt c x).length ≤ x.length + 1
  | [] => by simp [splitAt]
  | a :: x => by
    have := splitAt_len c x
    simp only [splitAt]
    split
    · simp only [List.length_cons]; omega
    · split
      · simp
      · rename_i e; rw [e] at this; simp only [List.length_cons] at this ⊢; omega
section
variable {k : Nat} {s : Sto}
theorem reader_init (hk : 1 ≤ k) (hs : Flat s) {row : Txt} (hr : row.length ≤ 30000) : callF G k 36 [.ref s.length, .p (.str row)] (s ++ [.ins 5 []]) = .ok (.p .non) (s ++ [rd (Tk row) 0]) := by
  obtain ⟨k, rfl⟩ := Nat.exists_eq_add_of_le' (by omega : 1 ≤ k)
  rw [call_eq (fd := f_Reader___init__) rfl rfl]
  have h1 : biP .replace [.str row, .str [40], .str [32, 40, 32]] = some (.str (replS 40 [32, 40, 32] row)) := by
    simp only [biP]; rw [if_pos ⟨by omega, by decide, by decide, by decide⟩]
  have hl1 := replS_len (c := 40) (t := [32, 40, 32]) rfl row
  have h2 : biP .replace [.str (replS 40 [32, 40, 32] row), .str [41], .str [32, 41, 32]] = some (.str (Rr row)) := by
    simp only [biP]; rw [if_pos ⟨by omega, by decide, by decide, by decide⟩]; rfl
  have hl2 := replS_len (c := 41) (t := [32, 41, 32]) rfl (replS 40 [32, 40, 32] row)
  have hl3 : (Rr row).length ≤ 270000 := by unfold Rr; omega
  have h3 := split_eq (c := 32) (x := Rr row) (le_line (by omega)) (by decide)
  have hl4 := splitAt_len 32 (Rr row)
  generalize hsp : splitAt 32 (Rr row) = sp at *
  have hfl : Flat (s ++ [Cell.ins 5 [(4, D.p (.lst (strsP sp)))]]) := hs.app (.one rfl)
  have hlc := lc_gen (G := G) (cf := callF G k) (ci := callF G (k - 1)) (own := [2]) (tg := .name 2) (ik := .seq) (its := [(.fld (.var 0) 4)]) (cs := [(.cmp .ne (.var 2) (.con (.str [])))]) (elt := .var 2) (env := [some (.ref s.length), some (.p (.str row)), none]) (s := s ++ [Cell.ins 5 [(4, D.p (.lst (strsP sp)))]]) sp (fun t => .p (.str t)) (fun t => !decide (t = [])) P.str hfl (ds := [.p (.lst (strsP sp))]) (by simp) (by simp [strsP]) (by simp only [line]; omega) (fun _ => stands_p _ _ _ _) (fun t ht => by
    refine ⟨_, rfl, fun s' hs' => ⟨by simp [wipeE], fun _ => by simp [wipeE]⟩⟩)
  have hT : (sp.filter fun t => !decide (t = [])).map P.str = strsP (Tk row) := by rw [Tk, Ff, hsp]; rfl
  rw [hT] at hlc
  simp [f_Reader___init__, h1, h2, h3, putFd, hlc]
theorem take {n i : Nat} {toks : List Txt} (hk : 1 ≤ k) (hn : s[n]? = some (rd toks i)) : callF G k 37 [.ref n] s = .ok (.p (.str (toks.getD i []))) (s.set n (rd toks (i + 1))) := by
  obtain ⟨k, rfl⟩ := Nat.exists_eq_add_of_le' (by omega : 1 ≤ k)
  rw [call_eq (fd := f_Reader_take) rfl rfl]
  have hln : n < s.length := (List.getElem?_eq_some_iff.mp hn).1
  have hg : (s.set n (rd toks (i + 1)))[n]? = some (rd toks (i + 1)) := set_get hln
  have e1 : ((i : Int) + 1) = ((i + 1 : Nat) : Int) := by omega
  have e2 : (((i + 1 : Nat) : Int) - 1) = (i : Int) := by omega
  simp only [f_Reader_take, exs_cons, ex_augf, ev_var, List.map_cons, List.map_nil, List.length_cons, List.length_nil, Nat.zero_add, Nat.reduceSub, List.replicate, List.append_nil, getV_z, opt_some, R.bind_ok, X.of_ok, hn, List.lookup, Nat.reduceBEq, beq_self_eq_true, ev_con, bin_addi, putFd, Nat.reduceAdd, Nat.reduceEqDiff, if_false, if_true, e1]
  rw [if_pos (by omega)]
  simp only [X.seq_nx, ex_ret, ev_ite, ev_cmp, ev_fld, ev_var, getV_z, opt_some, R.bind_ok, hg, List.lookup, Nat.reduceBEq, beq_self_eq_true, ev_bi, ev_cons, ev_nil, runBi_len, views_p, views_nil, Option.map_some, biP_len_lst, strsP_len, cmpD_pp, cmpP_le, truthM_b, ev_idx, ev_bin, ev_con, view_p, bin_subi, e2, idxD_pp]
  by_cases h : i < toks.length
  · have hle : ((i + 1 : Nat) : Int) ≤ (toks.length : Int) := by omega
    have hid : idxP (.lst (strsP toks)) (.int i) = some (.str toks[i]) := by
      rw [idx_natl _ _ (by simpa using h)]; simp [strsP]
    have hle' : (i : Int) + 1 ≤ (toks.length : Int) := by omega
    simp [hle', hid, h]
    rfl
  · have hle : ¬ ((i + 1 : Nat) : Int) ≤ (toks.length : Int) := by omega
    have hlen : toks.length ≤ i := by omega
    have hle' : ¬ (i : Int) + 1 ≤ (toks.length : Int) := by omega
    simp [hle', hlen]
    rfl
theorem drop_get {toks ts : List Txt} {t : Txt} {i : Nat} (h : toks.drop i = t :: ts) : toks.getD i [] = t ∧ toks.drop (i + 1) = ts := by
  have h1 : toks[i]? = some t := by
    have := congrArg (fun l => l[0]?) h
    simpa using this
  refine ⟨by simp [List.getD_eq_getElem?_getD, h1], ?_⟩
  have := congrArg List.tail h
  simpa using this
/-- the next word -/
theorem take_drop {n i : Nat} {toks ts : List Txt} {t : Txt} (hk : 1 ≤ k) (hn : s[n]? = some (rd toks i)) (h : toks.drop i = t :: ts) : callF G k 37 [.ref n] s = .ok (.p (.str t)) (s.set n (rd toks (i + 1))) := by
  rw [take hk hn, (drop_get h).1]
theorem rd_of {n i : Nat} {toks : List Txt} (hn : s[n]? = some (rd toks i)) (c : Cell) : (s.set n c)[n]? = some c := set_get (List.getElem?_eq_some_iff.mp hn).1
section
variable {n i : Nat} {toks ts : List Txt} {dp : P}
/-- what a thing of a kind is read from -/
theorem rt_name (hk : 3 ≤ k) (hs : Flat s) (hn : s[n]? = some (rd toks i)) {x : Nm} (hx : x.ok = true) (h : toks.drop i = x.txt :: ts) : callF G k 38 [.ref n, .p kNAME, .p dp] s = .ok (.p x.P) (s.set n (rd toks (i + 1))) := by
  obtain ⟨k, rfl⟩ := Nat.exists_eq_add_of_le' (by omega : 1 ≤ k)
  rw [call_eq (fd := f_Reader_thing) rfl rfl]
  have h1 := take_drop (k := k) (by omega) hn h
  have h2 := name_of (k := k) (by omega) (hs.set (rd_flat toks (i + 1)) n) hx
  simp [f_Reader_thing, hn, h1, h2]
theorem rt_picker (hk : 3 ≤ k) (hs : Flat s) (hn : s[n]? = some (rd toks i)) {x : Pk} (hx : x.ok = true) (h : toks.drop i = x.txt :: ts) : callF G k 38 [.ref n, .p kPICKER, .p dp] s = .ok (.p x.P) (s.set n (rd toks (i + 1))) := by
  obtain ⟨k, rfl⟩ := Nat.exists_eq_add_of_le' (by omega : 1 ≤ k)
  rw [call_eq (fd := f_Reader_thing) rfl rfl]
  have h1 := take_drop (k := k) (by omega) hn h
  have h2 := picker_of (k := k) (by omega) (hs.set (rd_flat toks (i + 1)) n) hx
  simp [f_Reader_thing, hn, h1, h2]
theorem rt_keys (hk : 3 ≤ k) (hs : Flat s) (hn : s[n]? = some (rd toks i)) {x : List Txt} (hx : areKeys x = true) (h : toks.drop i = keysTxt x :: ts) : callF G k 38 [.ref n, .p kKEYS, .p dp] s = .ok (.p (.tup (strsP x))) (s.set n (rd toks (i + 1))) := by
  obtain ⟨k, rfl⟩ := Nat.exists_eq_add_of_le' (by omega : 1 ≤ k)
  rw [call_eq (fd := f_Reader_thing) rfl rfl]
  have h1 := take_drop (k := k) (by omega) hn h
  have hk' : ∀ y ∈ x, isKey y = true := by
    simp only [areKeys, Bool.and_eq_true, decide_eq_true_eq, List.all_eq_true] at hx
    exact hx.1.2
  by_cases hx0 : x = []
  · subst hx0
    simp only [keysTxt, if_true] at h1
    simp [f_Reader_thing, hn, h1, strsP]
  · have hl := keysTxt_len hx
    simp only [keysTxt, hx0, if_false] at h1 hl
    have hne : ¬ joinS [44] x = [45] := by
      intro e
      have : (45 : Nat) ∈ joinS [44] x := by rw [e]; exact List.mem_cons_self
      rcases mem_join this with h | ⟨y, hy, h⟩
      · simp at h
      · have := key_ch (hk' y hy) h; omega
    have hsp := splitAt_join (c := 44) hx0 fun y hy e => by have := key_ch (hk' y hy) e; omega
    have h3 := split_eq (c := 44) (x := joinS [44] x) (le_line (by omega)) (by decide)
    rw [hsp] at h3
    simp [f_Reader_thing, hn, h1, hne, h3]
theorem rt_str (hk : 3 ≤ k) (hs : Flat s) (hn : s[n]? = some (rd toks i)) {kd : Txt} (hkd : kd = [119, 111, 114, 100] ∨ kd = [104, 111, 119]) {x : Txt} (h : toks.drop i = x :: ts) : callF G k 38 [.ref n, .p (.str kd), .p dp] s = .ok (.p (.str x)) (s.set n (rd toks (i + 1))) := by
  obtain ⟨k, rfl⟩ := Nat.exists_eq_add_of_le' (by omega : 1 ≤ k)
  rw [call_eq (fd := f_Reader_thing) rfl rfl]
  have h1 := take_drop (k := k) (by omega) hn h
  rcases hkd with rfl | rfl <;> simp [f_Reader_thing, hn, h1, isIn_2]
theorem rt_int (hk : 3 ≤ k) (hs : Flat s) (hn : s[n]? = some (rd toks i)) {kd : Txt} (hkd : kd = [110, 117, 109, 98, 101, 114] ∨ kd = [116, 105, 99, 107] ∨ kd = [119, 111, 114, 116, 104] ∨ kd = [115, 116, 101, 112] ∨ kd = [104, 101, 108, 100]) {x : Int} (hx : x.natAbs < 10000000) (h : toks.drop i = intS x :: ts) : callF G k 38 [.ref n, .p (.str kd), .p dp] s = .ok (.p (.int x)) (s.set n (rd toks (i + 1))) := by
  obtain ⟨k, rfl⟩ := Nat.exists_eq_add_of_le' (by omega : 1 ≤ k)
  rw [call_eq (fd := f_Reader_thing) rfl rfl]
  have h1 := take_drop (k := k) (by omega) hn h
  have h2 := number_of (k := k) (by omega) (hs.set (rd_flat toks (i + 1)) n) hx
  rcases hkd with rfl | rfl | rfl | rfl | rfl <;> simp [f_Reader_thing, hn, h1, isIn_2, h2]
theorem rt_question {j : Nat} {q : P} (hn : s[n]? = some (rd toks i)) (h : callF G k 39 [.ref n, .p dp] s = .ok (.p q) (s.set n (rd toks j))) : callF G (k + 1) 38 [.ref n, .p kQUESTION, .p dp] s = .ok (.p q) (s.set n (rd toks j)) := by
  rw [call_eq (fd := f_Reader_thing) rfl rfl]
  simp [f_Reader_thing, hn, h]
end
end
/-- the tokens of a question's things -/
def zTk (z : QZ) : List Txt := Tk z.2.2
theorem qtoks_eq (q : Q) (hf : q.form = true) (hi : q.inner = true) : Tk q.txt = [40] :: qword q :: (((qzips q).map zTk).flatten ++ [[41]]) := by
  have hqw : Tk (qword q) = [qword q] := Tk_word (by cases q <;> simp [qword, NUM, AT, OVER, JOIN, BY, WHERE, RANK]) (by
    cases q <;> intro c hc <;> refine pc_az ?_ <;> simp only [qword, NUM, AT, OVER, JOIN, BY, WHERE, RANK, List.mem_cons, List.not_mem_nil, or_false] at hc <;> omega)
  rw [qtxt_eq, Tk_open, Tk_close, Tk_join]
  simp only [List.map_cons, List.flatten_cons, hqw, List.map_map]
  rfl
theorem drop_app {α : Type} {l a b : List α} {i : Nat} (h : l.drop i = a ++ b) : l.drop (i + a.length) = b := by
  rw [← List.drop_drop, h]; simp
theorem rq_of {k n i : Nat} {toks ts : List Txt} {s : Sto} {deep : Int} (hk : 2 ≤ k) (hs : Flat s) (hn : s[n]? = some (rd toks i)) {q : Q} (hf : q.form = true) (hi : q.inner = true) (hd : deep ≤ 7) (ht : toks.drop i = Tk q.txt ++ ts)
    (hz : ∀ z ∈ qzips q, ∀ (s' : Sto) (j : Nat) (us : List Txt), Flat s' → s'[n]? = some (rd toks j) → toks.drop j = zTk z ++ us → callF G k 38 [.ref n, .p z.1, .p (.int (deep + 1))] s' = .ok (.p z.2.1) (s'.set n (rd toks (j + (zTk z).length)))) :
    callF G (k + 1) 39 [.ref n, .p (.int deep)] s = .ok (.p q.P) (s.set n (rd toks (i + (Tk q.txt).length))) := by
  rw [call_eq (fd := f_Reader_read_question) rfl rfl]
  rw [qtoks_eq q hf hi] at ht ⊢
  have hln : n < s.length := (List.getElem?_eq_some_iff.mp hn).1
  have h1 := take_drop (k := k) (by omega) hn (ts := qword q :: (((qzips q).map zTk).flatten ++ [[41]]) ++ ts) (by rw [ht]; rfl)
  have hd1 := (drop_get (ts := qword q :: (((qzips q).map zTk).flatten ++ [[41]]) ++ ts) (by rw [ht]; rfl)).2
  have h2 := take_drop (k := k) (by omega) (rd_of hn (rd toks (i + 1))) (ts := ((qzips q).map zTk).flatten ++ [[41]] ++ ts) (by rw [hd1]; rfl)
  have hd2 := (drop_get (ts := ((qzips q).map zTk).flatten ++ [[41]] ++ ts) (by rw [hd1]; rfl)).2
  rw [List.set_set] at h2
  have hq : (qzips q).length ≤ 3 := by cases q <;> simp [qzips]
  have hshape : lookP [.str [110, 117, 109], .str [97, 116], .str [111, 118, 101, 114], .str [106, 111, 105, 110], .str [98, 121], .str [119, 104, 101, 114, 101], .str [114, 97, 110, 107]] [.tup [.str [110, 117, 109, 98, 101, 114]], .tup [.str [112, 105, 99, 107, 101, 114], .str [110, 117, 109, 98, 101, 114]], .tup [.str [119, 111, 114, 100], .str [112, 105, 99, 107, 101, 114], .str [110, 117, 109, 98, 101, 114]], .tup [.str [119, 111, 114, 100], .str [113, 117, 101, 115, 116, 105, 111, 110], .str [113, 117, 101, 115, 116, 105, 111, 110]], .tup [.str [119, 111, 114, 100], .str [107, 101, 121, 115], .str [113, 117, 101, 115, 116, 105, 111, 110]], .tup [.str [119, 111, 114, 100], .str [110, 117, 109, 98, 101, 114], .str [113, 117, 101, 115, 116, 105, 111, 110]], .tup [.str [110, 117, 109, 98, 101, 114], .str [113, 117, 101, 115, 116, 105, 111, 110]]] (.str (qword q)) = some (.tup ((qzips q).map (·.1))) := by
    cases q <;> simp [qword, qzips, NUM, AT, OVER, JOIN, BY, WHERE, RANK]
  have hfor := for_inv (G := G) (cf := callF G k) (ci := callF G (k - 1)) (tg := .name 4) (ik := .seq) (its := [(.bm false .dget (.glo 25) [(.var 2), (.tup [])])]) (body := [.set 3 (.bin .add (.var 3) (.tup [(.met 3 (.var 0) [(.var 4), (.bin .add (.var 1) (.con (.int 1)))])]))]) (env := [some (.ref n), some (.p (.int deep)), some (.p (.str (qword q))), some (.p (.tup [.str (qword q)])), none]) (s := s.set n (rd toks (i + 1 + 1))) (ds := [.p (.tup ((qzips q).map (·.1)))]) (s1 := s.set n (rd toks (i + 1 + 1))) (qzips q) (fun z => .p z.1)
    (fun rest e s' => ∃ done x, done ++ rest = qzips q ∧ e = [some (.ref n), some (.p (.int deep)), some (.p (.str (qword q))), some (.p (.tup (.str (qword q) :: done.map (·.2.1)))), x] ∧ s' = s.set n (rd toks (i + 1 + 1 + ((done.map zTk).flatten).length)))
    (by simp [hshape]) (by simp) ⟨[], none, rfl, rfl, rfl⟩ (fun z r e s' hI => by
      obtain ⟨done, x, e1, rfl, rfl⟩ := hI
      have hzm : z ∈ qzips q := by rw [← e1]; simp
      have hdl : done.length ≤ 3 := by have := congrArg List.length e1; simp only [List.length_append] at this; omega
      have hdr : toks.drop (i + 1 + 1 + ((done.map zTk).flatten).length) = zTk z ++ ((r.map zTk).flatten ++ [[41]] ++ ts) := by
        refine drop_app ?_
        rw [hd2, ← e1]
        simp
      have hc := hz z hzm _ _ _ (hs.set (rd_flat toks _) n) (rd_of hn _) hdr
      rw [List.set_set] at hc
      have e5 : done.length + 1 + 1 ≤ line := le_line (by omega)
      have e6 : i + 1 + 1 + (((done ++ [z]).map zTk).flatten).length = i + 1 + 1 + ((done.map zTk).flatten).length + (zTk z).length := by simp; omega
      refine ⟨stands_p _ _ _ _, _, rfl, _, _, ?_, done ++ [z], some (.p z.1), by simp [e1], rfl, rfl⟩
      rw [e6]
      have hg := rd_of hn (rd toks (i + 1 + 1 + ((done.map zTk).flatten).length))
      generalize ((done.map zTk).flatten).length = L at *
      simp [hg, hc, e5]) (fun _ _ _ => stands_p _ _ _ _)
  obtain ⟨e, s', hfor, done, x, e1, rfl, rfl⟩ := hfor
  rw [List.append_nil] at e1
  subst e1
  have hd3 := drop_app (a := ((qzips q).map zTk).flatten) (b := [41] :: ts) (by rw [hd2]; simp)
  have h3 := take_drop (k := k) (by omega) (rd_of hn (rd toks (i + 1 + 1 + ((qzips q).map zTk).flatten.length))) hd3
  rw [List.set_set] at h3
  have hqP : P.tup (.str (qword q) :: (qzips q).map (·.2.1)) = q.P := by cases q <;> rfl
  have hd7 : ¬ (7 : Int) < deep := by omega
  rw [hqP] at hfor
  have elen : i + 1 + 1 + ((qzips q).map zTk).flatten.length + 1 = i + ([40] :: qword q :: (((qzips q).map zTk).flatten ++ [[41]])).length := by
    simp only [List.length_cons, List.length_append, List.length_nil]; omega
  rw [← elen]
  have hg1 := rd_of hn (rd toks (i + 1))
  have hg2 := rd_of hn (rd toks (i + 1 + 1 + ((qzips q).map zTk).flatten.length))
  generalize ((qzips q).map zTk).flatten.length = L at *
  simp [f_Reader_read_question, hd7, hn, h1, hg1, h2, hfor, hg2, h3]
end K73
end T_V12
section T_V13
set_option linter.all false
set_option Elab.async false
set_option maxRecDepth 100000
namespace K73
open TH
theorem nat8 {i lo hi : Int} (h : inR i lo hi = true) (h1 : -1000000 ≤ lo) (h2 : hi ≤ 1000000) : i.natAbs < 10000000 := by
  have := inR_abs h; omega
section
variable {k n i : Nat} {toks ts : List Txt} {dp : P} {s : Sto}
theorem rz_name (hk : 3 ≤ k) (hs : Flat s) (hn : s[n]? = some (rd toks i)) {x : Nm} (hx : x.ok = true) (h : toks.drop i = zTk (kNAME, x.P, x.txt) ++ ts) : callF G k 38 [.ref n, .p kNAME, .p dp] s = .ok (.p x.P) (s.set n (rd toks (i + (zTk (kNAME, x.P, x.txt)).length))) := by
  have e : zTk (kNAME, x.P, x.txt) = [x.txt] := Tk_word (nm_ne hx) (nm_pc hx)
  rw [e] at h ⊢; exact rt_name hk hs hn hx h
theorem rz_picker (hk : 3 ≤ k) (hs : Flat s) (hn : s[n]? = some (rd toks i)) {x : Pk} (hx : x.ok = true) (h : toks.drop i = zTk (kPICKER, x.P, x.txt) ++ ts) : callF G k 38 [.ref n, .p kPICKER, .p dp] s = .ok (.p x.P) (s.set n (rd toks (i + (zTk (kPICKER, x.P, x.txt)).length))) := by
  have e : zTk (kPICKER, x.P, x.txt) = [x.txt] := Tk_word (pk_ne hx) (pk_pc hx)
  rw [e] at h ⊢; exact rt_picker hk hs hn hx h
theorem rz_keys (hk : 3 ≤ k) (hs : Flat s) (hn : s[n]? = some (rd toks i)) {x : List Txt} (hx : areKeys x = true) (h : toks.drop i = zTk (kKEYS, .tup (strsP x), keysTxt x) ++ ts) : callF G k 38 [.ref n, .p kKEYS, .p dp] s = .ok (.p (.tup (strsP x))) (s.set n (rd toks (i + (zTk (kKEYS, .tup (strsP x), keysTxt x)).length))) := by
  have e : zTk (kKEYS, .tup (strsP x), keysTxt x) = [keysTxt x] := Tk_word (keys_ne hx) (keys_pc hx)
  rw [e] at h ⊢; exact rt_keys hk hs hn hx h
theorem rz_str (hk : 3 ≤ k) (hs : Flat s) (hn : s[n]? = some (rd toks i)) {kd : Txt} (hkd : kd = [119, 111, 114, 100] ∨ kd = [104, 111, 119]) {x : Txt} (hx : x ≠ [] ∧ ∀ c ∈ x, pc c) (h : toks.drop i = zTk (.str kd, .str x, x) ++ ts) : callF G k 38 [.ref n, .p (.str kd), .p dp] s = .ok (.p (.str x)) (s.set n (rd toks (i + (zTk (.str kd, .str x, x)).length))) := by
  have e : zTk (.str kd, .str x, x) = [x] := Tk_word hx.1 hx.2
  rw [e] at h ⊢; exact rt_str hk hs hn hkd h
theorem rz_int (hk : 3 ≤ k) (hs : Flat s) (hn : s[n]? = some (rd toks i)) {kd : Txt} (hkd : kd = [110, 117, 109, 98, 101, 114] ∨ kd = [116, 105, 99, 107] ∨ kd = [119, 111, 114, 116, 104] ∨ kd = [115, 116, 101, 112] ∨ kd = [104, 101, 108, 100]) {x : Int} (hx : x.natAbs < 10000000) (h : toks.drop i = zTk (.str kd, .int x, intS x) ++ ts) : callF G k 38 [.ref n, .p (.str kd), .p dp] s = .ok (.p (.int x)) (s.set n (rd toks (i + (zTk (.str kd, .int x, intS x)).length))) := by
  have e : zTk (.str kd, .int x, intS x) = [intS x] := Tk_int x
  rw [e] at h ⊢; exact rt_int hk hs hn hkd hx h
end
theorem read_question : ∀ (q : Q) {k n i : Nat} {toks ts : List Txt} {s : Sto} {deep : Int}, 2 * q.depth + 5 ≤ k → Flat s → s[n]? = some (rd toks i) → q.form = true → q.inner = true → deep + q.depth ≤ 7 → toks.drop i = Tk q.txt ++ ts → callF G k 39 [.ref n, .p (.int deep)] s = .ok (.p q.P) (s.set n (rd toks (i + (Tk q.txt).length))) := by
  intro q
  induction q with
  | num m =>
    intro k n i toks ts s deep hk hs hn h hi hd ht
    obtain ⟨k, rfl⟩ := Nat.exists_eq_add_of_le' (by omega : 2 ≤ k)
    refine rq_of (by omega) hs hn h hi (by omega) ht fun z hm s' j us fs' hn' hdr => ?_
    simp only [qzips, List.mem_cons, List.not_mem_nil, or_false] at hm
    subst hm
    exact rz_int (by omega) fs' hn' (by simp) (nat8 h (by decide) (by decide)) hdr
  | «at» p m =>
    intro k n i toks ts s deep hk hs hn h hi hd ht
    obtain ⟨k, rfl⟩ := Nat.exists_eq_add_of_le' (by omega : 2 ≤ k)
    refine rq_of (by omega) hs hn h hi (by omega) ht fun z hm s' j us fs' hn' hdr => ?_
    simp only [qzips, List.mem_cons, List.not_mem_nil, or_false] at hm
    simp only [Q.form, Pk.okw, Bool.and_eq_true] at h
    rcases hm with rfl | rfl
    · exact rz_picker (by omega) fs' hn' h.1.1 hdr
    · exact rz_int (by omega) fs' hn' (by simp) (nat8 h.2 (by decide) (by decide)) hdr
  | over w p m =>
    intro k n i toks ts s deep hk hs hn h hi hd ht
    obtain ⟨k, rfl⟩ := Nat.exists_eq_add_of_le' (by omega : 2 ≤ k)
    refine rq_of (by omega) hs hn h hi (by omega) ht fun z hm s' j us fs' hn' hdr => ?_
    simp only [qzips, List.mem_cons, List.not_mem_nil, or_false] at hm
    simp only [Q.form, Pk.okw, Bool.and_eq_true] at h
    rcases hm with rfl | rfl | rfl
    · exact rz_str (by omega) fs' hn' (by simp) (folds_pc h.1) hdr
    · exact rz_picker (by omega) fs' hn' h.2.1.1 hdr
    · exact rz_int (by omega) fs' hn' (by simp) (nat8 h.2.2 (by decide) (by decide)) hdr
  | join w a b ia ib =>
    intro k n i toks ts s deep hk hs hn h hi hd ht
    obtain ⟨k, rfl⟩ := Nat.exists_eq_add_of_le' (by omega : 2 ≤ k)
    simp only [Q.depth] at hk hd
    refine rq_of (by omega) hs hn h hi (by omega) ht fun z hm s' j us fs' hn' hdr => ?_
    simp only [qzips, List.mem_cons, List.not_mem_nil, or_false] at hm
    simp only [Q.inner, Bool.and_eq_true] at hi
    rcases hm with rfl | rfl | rfl
    · exact rz_str (by omega) fs' hn' (by simp) (joins_pc h) hdr
    · exact rt_question hn' (ia (by omega) fs' hn' hi.1.2 hi.1.1 (by omega) hdr)
    · exact rt_question hn' (ib (by omega) fs' hn' hi.2.2 hi.2.1 (by omega) hdr)
  | «by» w ks a ia =>
    intro k n i toks ts s deep hk hs hn h hi hd ht
    obtain ⟨k, rfl⟩ := Nat.exists_eq_add_of_le' (by omega : 2 ≤ k)
    simp only [Q.depth] at hk hd
    refine rq_of (by omega) hs hn h hi (by omega) ht fun z hm s' j us fs' hn' hdr => ?_
    simp only [qzips, List.mem_cons, List.not_mem_nil, or_false] at hm
    simp only [Q.inner, Bool.and_eq_true] at hi
    simp only [Q.form, Bool.and_eq_true] at h
    rcases hm with rfl | rfl | rfl
    · exact rz_str (by omega) fs' hn' (by simp) (groups_pc h.1) hdr
    · exact rz_keys (by omega) fs' hn' h.2 hdr
    · exact rt_question hn' (ia (by omega) fs' hn' hi.1.2 hi.1.1 (by omega) hdr)
  | whr w m a ia =>
    intro k n i toks ts s deep hk hs hn h hi hd ht
    obtain ⟨k, rfl⟩ := Nat.exists_eq_add_of_le' (by omega : 2 ≤ k)
    simp only [Q.depth] at hk hd
    refine rq_of (by omega) hs hn h hi (by omega) ht fun z hm s' j us fs' hn' hdr => ?_
    simp only [qzips, List.mem_cons, List.not_mem_nil, or_false] at hm
    simp only [Q.inner, Bool.and_eq_true] at hi
    simp only [Q.form, Bool.and_eq_true] at h
    rcases hm with rfl | rfl | rfl
    · exact rz_str (by omega) fs' hn' (by simp) (sides_pc h.1) hdr
    · exact rz_int (by omega) fs' hn' (by simp) (nat8 h.2 (by decide) (by decide)) hdr
    · exact rt_question hn' (ia (by omega) fs' hn' hi.1.2 hi.1.1 (by omega) hdr)
  | rank m a ia =>
    intro k n i toks ts s deep hk hs hn h hi hd ht
    obtain ⟨k, rfl⟩ := Nat.exists_eq_add_of_le' (by omega : 2 ≤ k)
    simp only [Q.depth] at hk hd
    refine rq_of (by omega) hs hn h hi (by omega) ht fun z hm s' j us fs' hn' hdr => ?_
    simp only [qzips, List.mem_cons, List.not_mem_nil, or_false] at hm
    simp only [Q.inner, Bool.and_eq_true] at hi
    rcases hm with rfl | rfl
    · exact rz_int (by omega) fs' hn' (by simp) (nat8 h (by decide) (by decide)) hdr
    · exact rt_question hn' (ia (by omega) fs' hn' hi.1.2 hi.1.1 (by omega) hdr)
def dzq : Dd → List QZ
  | .tell n t w => [(kNAME, n.P, n.txt), (kTICK, .int t, intS t), (kWORTH, .int w, intS w)]
  | .strike n => [(kNUMBER, .int n, intS n)]
  | .turn t => [(kTICK, .int t, intS t)]
  | .write w q st => [(kWORD, .str w, w), (kQUESTION, q.P, q.txt), (kSTEP, .int st, intS st)]
  | .wake w q h b hd => [(kWORD, .str w, w), (kQUESTION, q.P, q.txt), (kHOW, .str h, h), (kWORTH, .int b, intS b), (kHELD, .int hd, intS hd)]
  | .rest w => [(kWORD, .str w, w)]
  | .silence p a b => [(kPICKER, p.P, p.txt), (kTICK, .int a, intS a), (kTICK, .int b, intS b)]
  | .lift n => [(kNUMBER, .int n, intS n)]
theorem dtoks_eq (d : Dd) : Tk d.txt = dword d :: ((dzq d).map zTk).flatten := by
  have hqw : Tk (dword d) = [dword d] := Tk_word (by cases d <;> simp [dword, TELL, STRIKE, TURN, WRITE, WAKE, REST, SILENCE, LIFT]) (by
    cases d <;> intro c hc <;> refine pc_az ?_ <;> simp only [dword, TELL, STRIKE, TURN, WRITE, WAKE, REST, SILENCE, LIFT, List.mem_cons, List.not_mem_nil, or_false] at hc <;> omega)
  have hw : dtexts d = (dzq d).map (·.2.2) := by cases d <;> rfl
  rw [Dd.txt, dws_eq, Tk_join, hw]
  simp only [List.map_cons, List.flatten_cons, hqw, List.map_map]
  rfl
theorem dz_read {k : Nat} (hk : 20 ≤ k) {d : Dd} (h : d.ok) {n : Nat} {toks : List Txt} : ∀ z ∈ dzq d, ∀ (s' : Sto) (j : Nat) (us : List Txt), Flat s' → s'[n]? = some (rd toks j) → toks.drop j = zTk z ++ us → callF G k 38 [.ref n, .p z.1, .p (.int 0)] s' = .ok (.p z.2.1) (s'.set n (rd toks (j + (zTk z).length))) := by
  intro z hz s' j us fs' hn' hdr
  obtain ⟨k, rfl⟩ := Nat.exists_eq_add_of_le' (by omega : 1 ≤ k)
  cases d <;> simp only [dzq, List.mem_cons, List.not_mem_nil, or_false] at hz <;> simp only [Dd.ok] at h
  · rcases hz with rfl | rfl | rfl
    · exact rz_name (by omega) fs' hn' h.1 hdr
    · exact rz_int (by omega) fs' hn' (by simp) (nat8 h.2.1 (by decide) (by decide)) hdr
    · exact rz_int (by omega) fs' hn' (by simp) (nat8 h.2.2 (by decide) (by decide)) hdr
  · subst hz; exact rz_int (by omega) fs' hn' (by simp) (nat8 h (by decide) (by decide)) hdr
  · subst hz; exact rz_int (by omega) fs' hn' (by simp) (nat8 h (by decide) (by decide)) hdr
  · rcases hz with rfl | rfl | rfl
    · exact rz_str (by omega) fs' hn' (by simp) ⟨word_ne h.1, word_pc h.1⟩ hdr
    · exact rt_question hn' (read_question _ (by have := h.2.1.2.2.2.2; omega) fs' hn' h.2.1.1 h.2.1.2.1 (by have := h.2.1.2.2.2.2; omega) hdr)
    · exact rz_int (by omega) fs' hn' (by simp) (nat8 h.2.2 (by decide) (by decide)) hdr
  · rcases hz with rfl | rfl | rfl | rfl | rfl
    · exact rz_str (by omega) fs' hn' (by simp) ⟨word_ne h.1, word_pc h.1⟩ hdr
    · exact rt_question hn' (read_question _ (by have := h.2.1.2.2.2.2; omega) fs' hn' h.2.1.1 h.2.1.2.1 (by have := h.2.1.2.2.2.2; omega) hdr)
    · exact rz_str (by omega) fs' hn' (by simp) (hows_pc h.2.2.1) hdr
    · exact rz_int (by omega) fs' hn' (by simp) (nat8 h.2.2.2.1 (by decide) (by decide)) hdr
    · exact rz_int (by omega) fs' hn' (by simp) (nat8 h.2.2.2.2 (by decide) (by decide)) hdr
  · subst hz; exact rz_str (by omega) fs' hn' (by simp) ⟨word_ne h, word_pc h⟩ hdr
  · rcases hz with rfl | rfl | rfl
    · exact rz_picker (by omega) fs' hn' h.1 hdr
    · exact rz_int (by omega) fs' hn' (by simp) (nat8 h.2.1 (by decide) (by decide)) hdr
    · exact rz_int (by omega) fs' hn' (by simp) (nat8 h.2.2.1 (by decide) (by decide)) hdr
  · subst hz; exact rz_int (by omega) fs' hn' (by simp) (nat8 h (by decide) (by decide)) hdr
theorem reader_deed {k n : Nat} {s : Sto} (hk : 21 ≤ k) (hs : Flat s) {d : Dd} (h : d.ok) (hn : s[n]? = some (rd (Tk d.txt) 0)) : ∃ j, callF G k 40 [.ref n] s = .ok (.p d.P) (s.set n (rd (Tk d.txt) j)) := by
  obtain ⟨k, rfl⟩ := Nat.exists_eq_add_of_le' (by omega : 1 ≤ k)
  rw [call_eq (fd := f_Reader_deed) rfl rfl]
  have hzr := dz_read (k := k) (by omega) h (n := n) (toks := Tk d.txt)
  have hdr0 : (Tk d.txt).drop 0 = dword d :: ((dzq d).map zTk).flatten := dtoks_eq d
  generalize Tk d.txt = toks at *
  have h1 := take_drop (k := k) (by omega) hn hdr0
  have hd1 := (drop_get hdr0).2
  have hq : (dzq d).length ≤ 5 := by cases d <;> simp [dzq]
  have hthings : ∃ ks vs, G.gv 24 = .dct ks vs ∧ lookP ks vs (.str (dword d)) = some (.tup ((dzq d).map (·.1))) := by
    refine ⟨_, _, gv_24, ?_⟩
    cases d <;> simp [dword, dzq, TELL, STRIKE, TURN, WRITE, WAKE, REST, SILENCE, LIFT]
  obtain ⟨ks, vs, hgv, hlook⟩ := hthings
  have hfor := for_inv (G := G) (cf := callF G k) (ci := callF G (k - 1)) (tg := .name 3) (ik := .seq) (its := [(.bm false .dget (.glo 24) [(.var 1), (.tup [])])]) (body := [.set 2 (.bin .add (.var 2) (.tup [(.met 3 (.var 0) [(.var 3), (.con (.int 0))])]))]) (env := [some (.ref n), some (.p (.str (dword d))), some (.p (.tup [.str (dword d)])), none]) (s := s.set n (rd toks (0 + 1))) (ds := [.p (.tup ((dzq d).map (·.1)))]) (s1 := s.set n (rd toks (0 + 1))) (dzq d) (fun z => .p z.1)
    (fun rest e s' => ∃ done x, done ++ rest = dzq d ∧ e = [some (.ref n), some (.p (.str (dword d))), some (.p (.tup (.str (dword d) :: done.map (·.2.1)))), x] ∧ s' = s.set n (rd toks (0 + 1 + ((done.map zTk).flatten).length)))
    (by simp [hgv, hlook, -gv_24]) (by simp) ⟨[], none, rfl, rfl, rfl⟩ (fun z r e s' hI => by
      obtain ⟨done, x, e1, rfl, rfl⟩ := hI
      have hzm : z ∈ dzq d := by rw [← e1]; simp
      have hdl : done.length ≤ 5 := by have := congrArg List.length e1; simp only [List.length_append] at this; omega
      have hdr : toks.drop (0 + 1 + ((done.map zTk).flatten).length) = zTk z ++ (r.map zTk).flatten := by
        refine drop_app ?_
        rw [hd1, ← e1]
        simp
      have hc := hzr z hzm _ _ _ (hs.set (rd_flat toks _) n) (rd_of hn _) hdr
      rw [List.set_set] at hc
      have e5 : done.length + 1 + 1 ≤ line := le_line (by omega)
      have e6 : 0 + 1 + (((done ++ [z]).map zTk).flatten).length = 0 + 1 + ((done.map zTk).flatten).length + (zTk z).length := by simp; omega
      refine ⟨stands_p _ _ _ _, _, rfl, _, _, ?_, done ++ [z], some (.p z.1), by simp [e1], rfl, rfl⟩
      rw [e6]
      have hg := rd_of hn (rd toks (0 + 1 + ((done.map zTk).flatten).length))
      generalize 0 + 1 + ((done.map zTk).flatten).length = L at *
      simp [hg, hc, e5]) (fun _ _ _ => stands_p _ _ _ _)
  obtain ⟨e, s', hfor, done, x, e1, rfl, rfl⟩ := hfor
  rw [List.append_nil] at e1
  subst e1
  have hqP : P.tup (.str (dword d) :: (dzq d).map (·.2.1)) = d.P := by cases d <;> rfl
  rw [hqP] at hfor
  refine ⟨0 + 1 + ((dzq d).map zTk).flatten.length, ?_⟩
  generalize 0 + 1 + ((dzq d).map zTk).flatten.length = L at *
  simp only [Nat.zero_add] at hfor h1
  simp [f_Reader_deed, hn, h1, hfor]
end K73
end T_V13
section T_V14
set_option linter.all false
set_option Elab.async false
set_option maxRecDepth 100000
namespace K73
open TH
theorem fin2 {s g : Sto} {xs : List P} (hs : Flat s) : finish 2 s (.ret (.ref s.length) (s ++ .lst (xs.map D.p) :: g)) = .ok (.ref s.length) (s ++ [.lst (xs.map D.p)]) := by
  have h := hs.all s.length s.length
  rw [List.take_length] at h
  simp [finish, h, view]
theorem line_ev (x : Txt) (hx : x ≠ []) (hl : x.length + 2 ≤ line) {cf ci : Nat → List D → M D} {r : Env} {s : Sto} : evEs G cf ci [(.ite (.cmp .ne (.var 0) (.con (.str []))) (.bm false .split (.var 0) [(.con (.str [10]))]) (.lst false []))] (some (.p (.str x)) :: r) s = .ok [.p (.lst (strsP (splitAt 10 x)))] s := by
  simp [hx, split_eq hl]
theorem read {k : Nat} {s : Sto} (hk : 22 ≤ k) (hs : Flat s) {ds : List Dd} (hne : ds ≠ []) (hd : ∀ d ∈ ds, d.ok) (hl : ds.length ≤ 100) : callF G k 41 [.p (.str (joinS [10] (ds.map Dd.txt)))] s = .ok (.ref s.length) (s ++ [.lst ((ds.map Dd.P).map D.p)]) := by
  obtain ⟨k, rfl⟩ := Nat.exists_eq_add_of_le' (by omega : 2 ≤ k)
  rw [call_eq (fd := f_read) rfl rfl]
  have hk1 : k + 1 - 1 = k := rfl
  rw [hk1]
  have hsum := sum_len (l := ds.map Dd.txt) (B := 15106) (fun x hx => by
    obtain ⟨d, hd', rfl⟩ := List.mem_map.mp hx
    exact Dd.txt_len (hd d hd'))
  have hjl := joinS_len [10] (ds.map Dd.txt)
  have hnl : (joinS [10] (ds.map Dd.txt)).length + 2 ≤ line := by simp only [List.length_map, List.length_cons, List.length_nil, line] at hsum hjl ⊢; omega
  have hnn : joinS [10] (ds.map Dd.txt) ≠ [] := join_ne (by simpa using hne) (fun x hx => by
    obtain ⟨d, _, rfl⟩ := List.mem_map.mp hx
    exact d.txt_ne)
  have hsp : splitAt 10 (joinS [10] (ds.map Dd.txt)) = ds.map Dd.txt := splitAt_join (by simpa using hne) (fun x hx => by
    obtain ⟨d, hd', rfl⟩ := List.mem_map.mp hx
    exact Dd.txt_no (hd d hd'))
  have hlev := fun (cf ci : Nat → List D → M D) (r : Env) (s : Sto) => line_ev (joinS [10] (ds.map Dd.txt)) hnn hnl (cf := cf) (ci := ci) (r := r) (s := s)
  rw [hsp] at hlev
  generalize joinS [10] (ds.map Dd.txt) = text at *
  have hfor := for_inv (G := G) (cf := callF G (k + 1)) (ci := callF G k) (tg := .tup [2, 3]) (ik := .enum) (its := [(.ite (.cmp .ne (.var 0) (.con (.str []))) (.bm false .split (.var 0) [(.con (.str [10]))]) (.lst false []))]) (body := [.set 4 (.met 5 (.new 5 [(.var 3)]) []),
  .ifs (.or (.not (.call 24 [(.var 4)])) (.cmp .ne (.call 29 [(.var 4)]) (.var 3))) [.never] [],
  .expr (.bm false .append (.var 1) [(.var 4)])]) (env := [some (.p (.str text)), some (.ref s.length), none, none, none]) (s := s ++ [.lst []]) (s1 := s ++ [.lst []]) (ds := [.p (.lst (strsP (ds.map Dd.txt)))]) ((List.range ds.length).zip ds) (fun z => .p (.tup [.int z.1, .str z.2.txt]))
    (fun rest e s' => ∃ done x y z g, done ++ rest = (List.range ds.length).zip ds ∧ e = [some (.p (.str text)), some (.ref s.length), x, y, z] ∧ s' = s ++ .lst ((done.map fun z => z.2.P).map D.p) :: g ∧ Flat g)
    (hlev _ _ _ _) (by simp [items, strsP, List.zip, List.map_zipWith, List.zipWith_map_right]) ⟨[], none, none, none, [], rfl, rfl, rfl, .nil⟩ (fun z r e s' hI => by
      obtain ⟨done, a, b, c, g, e1, rfl, rfl, fg⟩ := hI
      have hzm : z ∈ (List.range ds.length).zip ds := by rw [← e1]; simp
      have hzd : z.2.ok := hd _ (List.of_mem_zip hzm).2
      have hdl : done.length ≤ 100 := by
        have := congrArg List.length e1
        simp only [List.length_append, List.length_zip, List.length_range] at this; omega
      have hS : Flat (s ++ .lst ((done.map fun z => z.2.P).map D.p) :: g) := hs.app (.cons (flatC_lst _) fg)
      have hSg : (s ++ .lst ((done.map fun z => z.2.P).map D.p) :: g)[s.length]? = some (.lst ((done.map fun z => z.2.P).map D.p)) := acc_get rfl
      have hSs := fun c' : Cell => acc_set (b := s) (g := g) (c := .lst ((done.map fun z => z.2.P).map D.p)) (c' := c') rfl
      generalize hSe : s ++ .lst ((done.map fun z => z.2.P).map D.p) :: g = S at *
      have hi := reader_init (k := k) (by omega) hS (row := z.2.txt) (by have := Dd.txt_len hzd; omega)
      have hS1 : Flat (S ++ [rd (Tk z.2.txt) 0]) := hS.app (.one (rd_flat _ _))
      obtain ⟨j, hdd⟩ := reader_deed (k := k + 1) (by omega) hS1 hzd (top_get _ _)
      rw [top_set] at hdd
      have hS2 : Flat (S ++ [rd (Tk z.2.txt) j]) := hS.app (.one (rd_flat _ _))
      have hid := is_deed (k := k + 1) (by omega) hS2 hzd
      have hdt := deed_text (k := k + 1) (by omega) hS2 hzd
      have hlt : s.length < S.length := by rw [← hSe]; simp
      have hSg2 : (S ++ [rd (Tk z.2.txt) j])[s.length]? = some (.lst ((done.map fun z => z.2.P).map D.p)) := by rw [low_get hlt, hSg]
      have hra := run_append (d := .p z.2.P) hSg2 (by simp only [List.length_map, line]; omega)
      have hset : (S ++ [rd (Tk z.2.txt) j]).set s.length (.lst ((done.map fun z => z.2.P).map D.p ++ [.p z.2.P])) = s ++ .lst (((done ++ [z]).map fun z => z.2.P).map D.p) :: (g ++ [rd (Tk z.2.txt) j]) := by
        rw [low_set hlt, ← hSe, hSe, hSs]; simp
      rw [hset] at hra
      refine ⟨stands_p _ _ _ _, _, rfl, _, _, ?_, done ++ [z], some (.p (.int z.1)), some (.p (.str z.2.txt)), some (.p z.2.P), g ++ [rd (Tk z.2.txt) j], by simp [e1], rfl, rfl, fg.app (.one (rd_flat _ _))⟩
      have hg0 : (S ++ [rd (Tk z.2.txt) 0])[S.length]? = some (rd (Tk z.2.txt) 0) := top_get _ _
      simp only [exs_cons, ex_set, ev_met, ev_new, ev_cons, ev_nil, ev_var, List.set, getV_z, getV_s, opt_some, R.bind_ok, init_5, hi, if_true, hg0, meth_5_5, hdd, X.of_ok, X.seq_nx, ex_ifs, ev_or, ev_not, ev_call, hid, truthM_b, Bool.not_true, Bool.false_eq_true, if_false, ev_cmp, hdt, cmpD_pp, cmpP_ne, eq_str, decide_true, Option.map_some, exs_nil, ex_expr, ev_bm, recv_append hSg2, hra]) (fun _ _ _ => stands_p _ _ _ _)
  obtain ⟨e, s', hfor, done, a, b, c, g, e1, rfl, rfl, fg⟩ := hfor
  rw [List.append_nil] at e1
  subst e1
  have e2 : ((List.range ds.length).zip ds).map (fun z => z.2.P) = ds.map Dd.P := by
    rw [show (fun z : Nat × Dd => z.2.P) = Dd.P ∘ Prod.snd from rfl, ← List.map_map, List.map_snd_zip (by simp)]
  rw [e2] at hfor
  have hfin := fin2 (g := g) (xs := ds.map Dd.P) hs
  simp only [f_read, exs_cons, ex_set, List.map_cons, List.map_nil, List.length_cons, List.length_nil, Nat.zero_add, Nat.reduceSub, Nat.reduceAdd, List.replicate, List.cons_append, List.nil_append, ev_lst, ev_nil, R.bind_ok, lcEnd_true, X.of_ok, List.set, X.seq_nx, hfor, ex_ret, ev_var, getV_z, getV_s, opt_some, X.seq_ret, hfin]
theorem read_nil {k : Nat} {s : Sto} (hk : 1 ≤ k) (hs : Flat s) : callF G k 41 [.p (.str [])] s = .ok (.ref s.length) (s ++ [.lst []]) := by
  obtain ⟨k, rfl⟩ := Nat.exists_eq_add_of_le' (by omega : 1 ≤ k)
  rw [call_eq (fd := f_read) rfl rfl]
  have hfin := fin2 (g := []) (xs := []) hs
  simp [f_read, ex_for, items, forL, fin2]
  simpa using hfin
theorem written_nil {k : Nat} {s : Sto} (hk : 1 ≤ k) (hs : Flat s) : callF G k 30 [.p (.lst [])] s = .ok (.p (.str [])) s := by
  obtain ⟨k, rfl⟩ := Nat.exists_eq_add_of_le' (by omega : 1 ≤ k)
  rw [call_eq (fd := f_written) rfl rfl]
  have hlc := lc_map (G := G) (cf := callF G k) (ci := callF G (k - 1)) (own := [2]) (tg := .name 2) (ik := .seq) (its := [.var 0]) (elt := .call 29 [.var 2]) (env := [some (.p (.lst [])), none, none]) (s := s) ([] : List P) D.p id hs (ds := [.p (.lst [])]) (by simp) (by simp) (by simp [line]) (fun _ => stands_p _ _ _ _) (fun d hd' => by simp at hd')
  simp [f_written, ex_for, items, forL, hlc, joinS, fin0' hs]
/-- a value is like itself -/
theorem alike_str {k : Nat} {s : Sto} (hk : 1 ≤ k) (hs : Flat s) (x : Txt) : callF G k 44 [.p (.str x), .p (.str x)] s = .ok (.p (.bl true)) s := by
  obtain ⟨k, rfl⟩ := Nat.exists_eq_add_of_le' (by omega : 1 ≤ k)
  rw [call_eq (fd := f__law_alike) rfl rfl]
  simp [f__law_alike, cmpP, fin0' hs]
theorem alike_int {k : Nat} {s : Sto} (hk : 1 ≤ k) (hs : Flat s) (x : Int) : callF G k 44 [.p (.int x), .p (.int x)] s = .ok (.p (.bl true)) s := by
  obtain ⟨k, rfl⟩ := Nat.exists_eq_add_of_le' (by omega : 1 ≤ k)
  rw [call_eq (fd := f__law_alike) rfl rfl]
  simp [f__law_alike, cmpP, fin0' hs]
theorem alike_true (n : Nat) : biP .all [.lst ((List.range n).map fun _ => .bl true)] = some (.bl true) := by
  rw [all_map (List.range n) (fun _ => true)]
  congr 2
  exact List.all_eq_true.mpr fun _ _ => rfl
theorem alike : ∀ {n : Nat} {x : P}, Al n x → ∀ {k : Nat} {s : Sto}, n + 1 ≤ k → Flat s → callF G k 44 [.p x, .p x] s = .ok (.p (.bl true)) s := by
  intro n x h
  induction h with
  | str n x => intro k s hk hs; exact alike_str (by omega) hs x
  | int n x => intro k s hk hs; exact alike_int (by omega) hs x
  | @tup n xs h hl ih =>
    intro k s hk hs
    obtain ⟨k, rfl⟩ := Nat.exists_eq_add_of_le' (by omega : 1 ≤ k)
    rw [call_eq (fd := f__law_alike) rfl rfl]
    have hlc := lc_map (G := G) (cf := callF G k) (ci := callF G (k - 1)) (own := [2]) (tg := .name 2) (ik := .range1) (its := [(.bi false .len [(.var 1)])]) (elt := (.call 44 [(.idx (.var 0) (.var 2)), (.idx (.var 1) (.var 2))])) (env := [some (.p (.tup xs)), some (.p (.tup xs)), none]) (s := s) (List.range xs.length) (fun j => .p (.int j)) (fun _ => .bl true) hs (ds := [.p (.int xs.length)]) (by simp) (by simp [items]; omega) (by simp [line]; omega) (fun _ => stands_p _ _ _ _) (fun j hj => by
      rw [List.mem_range] at hj
      refine ⟨_, rfl, fun s' hs' => ?_⟩
      simp [wipeE, idx_nat xs j hj, ih _ (List.getElem_mem hj) (k := k) (by omega) hs'])
    simp [f__law_alike, cmpP, hlc, alike_true, fin0' hs]
  | @lst n xs h hl ih =>
    intro k s hk hs
    obtain ⟨k, rfl⟩ := Nat.exists_eq_add_of_le' (by omega : 1 ≤ k)
    rw [call_eq (fd := f__law_alike) rfl rfl]
    have hlc := lc_map (G := G) (cf := callF G k) (ci := callF G (k - 1)) (own := [2]) (tg := .name 2) (ik := .range1) (its := [(.bi false .len [(.var 1)])]) (elt := (.call 44 [(.idx (.var 0) (.var 2)), (.idx (.var 1) (.var 2))])) (env := [some (.p (.lst xs)), some (.p (.lst xs)), none]) (s := s) (List.range xs.length) (fun j => .p (.int j)) (fun _ => .bl true) hs (ds := [.p (.int xs.length)]) (by simp) (by simp [items]; omega) (by simp [line]; omega) (fun _ => stands_p _ _ _ _) (fun j hj => by
      rw [List.mem_range] at hj
      refine ⟨_, rfl, fun s' hs' => ?_⟩
      simp [wipeE, idx_natl xs j hj, ih _ (List.getElem_mem hj) (k := k) (by omega) hs'])
    simp [f__law_alike, cmpP, hlc, alike_true, fin0' hs]
theorem cmpD_isN_ref (s : Sto) (m : Nat) : cmpD s .isN (.ref m) (.p .non) = some false := rfl
/-- a list that is an object, held against a list -/
theorem alike_ref {n m k : Nat} {xs : List P} {s : Sto} (h : ∀ x ∈ xs, Al n x) (hl : xs.length < 1000) (hk : n + 2 ≤ k) (hs : Flat s) (hm : s[m]? = some (.lst (xs.map D.p))) : callF G k 44 [.ref m, .p (.lst xs)] s = .ok (.p (.bl true)) s := by
  obtain ⟨k, rfl⟩ := Nat.exists_eq_add_of_le' (by omega : 1 ≤ k)
  rw [call_eq (fd := f__law_alike) rfl rfl]
  have hml : m < s.length := (List.getElem?_eq_some_iff.mp hm).1
  have hlc := lc_at (G := G) (cf := callF G k) (ci := callF G (k - 1)) (own := [2]) (tg := .name 2) (ik := .range1) (its := [(.bi false .len [(.var 1)])]) (elt := (.call 44 [(.idx (.var 0) (.var 2)), (.idx (.var 1) (.var 2))])) (env := [some (.ref m), some (.p (.lst xs)), none]) (s := s) (List.range xs.length) (fun j => .p (.int j)) (fun _ => .bl true) hs (ds := [.p (.int xs.length)]) (by simp) (by simp [items]; omega) (by simp [line]; omega) (fun _ => stands_p _ _ _ _) (fun j hj => by
    rw [List.mem_range] at hj
    refine ⟨_, rfl, fun c hc => ?_⟩
    have hid := idx_ref (s := s ++ [c]) (m := m) (xs := xs.map D.p) (i := j) (d := .p xs[j]) (by rw [low_get hml, hm]) (by simp [hj])
    simp [wipeE, hid, idx_natl xs j hj, alike (h _ (List.getElem_mem hj)) (k := k) (by omega) (hs.app (.one hc))])
  have hvw := views_ref hm []
  simp only [views_nil, Option.map_some] at hvw
  simp [f__law_alike, cmpP, hlc, alike_true, hvw, fin0' hs]
end K73
end T_V14
section T_V15
set_option linter.all false
set_option Elab.async false
set_option maxRecDepth 100000
namespace K73
open TH
/-- the dice: a seed, the digits left, great numbers -/
abbrev dl (a b : Int) (xs : List Int) : Cell := .lst (((a :: b :: xs).map P.int).map D.p)
structure Good (c : Cell) : Prop where
  ex : ∃ a b xs, c = dl a b xs ∧ 0 ≤ a ∧ 0 ≤ b ∧ (∀ x ∈ xs, (0 : Int) ≤ x) ∧ xs.length ≤ 100
theorem Good.flat {c : Cell} (h : Good c) : flatC c = true := by
  obtain ⟨a, b, xs, rfl, _⟩ := h.ex
  exact flatC_lst _
section
variable {k : Nat} {rest : Sto}
theorem d_idx {a b : Int} {xs : List Int} {j : Nat} {v : Int} (h : (a :: b :: xs)[j]? = some v) : idxD (dl a b xs :: rest) (.ref 0) (.p (.int j)) = some (.p (.int v)) :=
  idx_ref (s := dl a b xs :: rest) (m := 0) (xs := ((a :: b :: xs).map P.int).map D.p) rfl (by rw [List.getElem?_map, List.getElem?_map, h]; rfl)
theorem d_0 {a b : Int} {xs : List Int} : idxD (dl a b xs :: rest) (.ref 0) (.p (.int 0)) = some (.p (.int a)) := d_idx (j := 0) rfl
theorem d_1 {a b : Int} {xs : List Int} : idxD (dl a b xs :: rest) (.ref 0) (.p (.int 1)) = some (.p (.int b)) := d_idx (j := 1) rfl
theorem d_views {a b : Int} {xs : List Int} : views (dl a b xs :: rest) [.ref 0] = some [.lst ((a :: b :: xs).map P.int)] := by
  rw [views_ref (xs := (a :: b :: xs).map P.int) rfl]; rfl
theorem d_pop {a b y : Int} {xs : List Int} : runBi false .popAt [.ref 0, .p (.int 2)] (dl a b (y :: xs) :: rest) = .ok (.p (.int y)) (dl a b xs :: rest) := by
  have hp : place (xs.length + 1 + 1 + 1) 2 = some 2 := by
    simp only [place]; rw [if_pos ⟨by decide, by omega⟩]; rfl
  simp [runBi, Bi.changes, biD, hp]
theorem sidx0 {cf ci : Nat → List D → M D} {a b v : Int} {xs : List Int} {e : E} {r : Env} {st : Sto} (h : evE G cf ci e (some (.ref 0) :: r) st = .ok (.p (.int v)) (dl a b xs :: rest)) : exec G cf ci (.sidx (.var 0) (.con (.int 0)) e) (some (.ref 0) :: r) st = .nx (some (.ref 0) :: r) (dl v b xs :: rest) := by
  have hp : place (((a :: b :: xs).map P.int).map D.p).length 0 = some 0 := by
    simp only [place]; rw [if_pos ⟨by decide, by simp only [List.length_map, List.length_cons]; omega⟩]; rfl
  simp only [ex_sidx, h, X.of_ok, ev_var, getV_z, opt_some, ev_con, List.getElem?_cons_zero, hp]
  rfl
theorem sidx1 {cf ci : Nat → List D → M D} {a b v : Int} {xs : List Int} {e : E} {r : Env} {st : Sto} (h : evE G cf ci e (some (.ref 0) :: r) st = .ok (.p (.int v)) (dl a b xs :: rest)) : exec G cf ci (.sidx (.var 0) (.con (.int 1)) e) (some (.ref 0) :: r) st = .nx (some (.ref 0) :: r) (dl a v xs :: rest) := by
  have hp : place (((a :: b :: xs).map P.int).map D.p).length 1 = some 1 := by
    simp only [place]; rw [if_pos ⟨by decide, by simp only [List.length_map, List.length_cons]; omega⟩]; rfl
  simp only [ex_sidx, h, X.of_ok, ev_var, getV_z, opt_some, ev_con, List.getElem?_cons_zero, hp]
  rfl
theorem mod_ok {i j : Int} (h : 0 < j) : binP .mod (.int i) (.int j) = some (.int (i % j)) := by simp [binP, h]
theorem fdiv_ok {i j : Int} (h : 0 < j) (h2 : j < 1073741824) : binP .fdiv (.int i) (.int j) = some (.int (i / j)) := by simp [binP, h, h2]
theorem mul_ok {i j : Int} (h : smallI j = true) : binP .mul (.int i) (.int j) = some (.int (i * j)) := by simp [binP, h]
abbrev offTail : List S := [.ifs (.cmp .gt (.idx (.var 0) (.con (.int 1))) (.con (.int 0))) [.set 2 (.bin .mod (.idx (.var 0) (.con (.int 1))) (.var 1)),
  .sidx (.var 0) (.con (.int 1)) (.bin .fdiv (.idx (.var 0) (.con (.int 1))) (.var 1)),
  .ret (.var 2)] [],
  .sidx (.var 0) (.con (.int 0)) (.bin .mod (.bin .add (.bin .mul (.idx (.var 0) (.con (.int 0))) (.con (.int 48271))) (.con (.int 11))) (.con (.int 2147483647))),
  .ret (.bin .mod (.bin .fdiv (.idx (.var 0) (.con (.int 0))) (.con (.int 64))) (.var 1))]
theorem off_tail {cf ci : Nat → List D → M D} {a b u : Int} {xs : List Int} (ha : 0 ≤ a) (hb : 0 ≤ b) (hxs : ∀ x ∈ xs, (0 : Int) ≤ x) (hl : xs.length ≤ 100) (hu : 0 < u) (hu2 : u < 1073741824) : ∃ r c', Good c' ∧ 0 ≤ r ∧ r < u ∧ execs G cf ci offTail [some (.ref 0), some (.p (.int u)), none] (dl a b xs :: rest) = .ret (.p (.int r)) (c' :: rest) := by
  have hm0 : ∀ x : Int, 0 ≤ x % u := fun x => Int.emod_nonneg x (by omega)
  have hm1 : ∀ x : Int, x % u < u := fun x => Int.emod_lt_of_pos x hu
  have hs0 : 0 ≤ (a * 48271 + 11) % 2147483647 := Int.emod_nonneg _ (by decide)
  by_cases h : 0 < b
  · refine ⟨b % u, dl a (b / u) xs, ⟨_, _, _, rfl, ha, Int.ediv_nonneg hb (by omega), hxs, hl⟩, hm0 b, hm1 b, ?_⟩
    have hs := sidx1 (cf := cf) (ci := ci) (rest := rest) (a := a) (b := b) (v := b / u) (xs := xs) (e := .bin .fdiv (.idx (.var 0) (.con (.int 1))) (.var 1)) (r := [some (.p (.int u)), some (.p (.int (b % u)))]) (st := dl a b xs :: rest) (by
      simp only [ev_bin, ev_idx, ev_var, ev_con, getV_z, getV_s, opt_some, R.bind_ok, d_1, view_p, fdiv_ok hu hu2])
    simp only [offTail, exs_cons, ex_ifs, ev_cmp, ev_idx, ev_var, ev_con, getV_z, getV_s, opt_some, R.bind_ok, d_1, cmpD_pp, cmpP_gt, h, decide_true, X.of_ok, truthM_b, if_true, ex_set, ev_bin, view_p, mod_ok hu, X.seq_nx, List.set, hs, ex_ret, X.seq_ret]
  · have hb0 : b = 0 := by omega
    subst hb0
    refine ⟨(a * 48271 + 11) % 2147483647 / 64 % u, dl ((a * 48271 + 11) % 2147483647) 0 xs, ⟨_, _, _, rfl, hs0, Int.le_refl 0, hxs, hl⟩, hm0 _, hm1 _, ?_⟩
    have hs := sidx0 (cf := cf) (ci := ci) (rest := rest) (a := a) (b := 0) (v := (a * 48271 + 11) % 2147483647) (xs := xs) (e := .bin .mod (.bin .add (.bin .mul (.idx (.var 0) (.con (.int 0))) (.con (.int 48271))) (.con (.int 11))) (.con (.int 2147483647))) (r := [some (.p (.int u)), none]) (st := dl a 0 xs :: rest) (by
      simp only [ev_bin, ev_idx, ev_var, ev_con, getV_z, getV_s, opt_some, R.bind_ok, d_0, view_p, mul_ok (i := a) (j := 48271) (by decide), bin_addi, mod_ok (j := 2147483647) (by decide)])
    simp only [offTail, exs_cons, ex_ifs, ev_cmp, ev_idx, ev_var, ev_con, getV_z, getV_s, opt_some, R.bind_ok, d_1, cmpD_pp, cmpP_gt, Int.lt_irrefl, decide_false, X.of_ok, truthM_b, Bool.false_eq_true, if_false, exs_nil, X.seq_nx, hs, ev_bin, d_0, view_p, ex_ret, fdiv_ok (j := 64) (by decide) (by decide), mod_ok hu, X.seq_ret]
theorem off (hk : 1 ≤ k) {c : Cell} (hc : Good c) {u : Int} (hu : 0 < u) (hu2 : u < 1073741824) (rest : Sto) : ∃ r c', Good c' ∧ 0 ≤ r ∧ r < u ∧ callF G k 43 [.ref 0, .p (.int u)] (c :: rest) = .ok (.p (.int r)) (c' :: rest) := by
  obtain ⟨k, rfl⟩ := Nat.exists_eq_add_of_le' (by omega : 1 ≤ k)
  obtain ⟨a, b, xs, rfl, ha, hb, hxs, hl⟩ := hc.ex
  have key : ∀ s' : Sto, exec G (callF G k) (callF G (k - 1)) (.ifs (.and (.cmp .eq (.idx (.var 0) (.con (.int 1))) (.con (.int 0))) (.cmp .gt (.bi false .len [(.var 0)]) (.con (.int 2)))) [.sidx (.var 0) (.con (.int 1)) (.bm false .popAt (.var 0) [(.con (.int 2))])] []) [some (.ref 0), some (.p (.int u)), none] (dl a b xs :: rest) = .nx [some (.ref 0), some (.p (.int u)), none] s' →
      ∀ r c', execs G (callF G k) (callF G (k - 1)) offTail [some (.ref 0), some (.p (.int u)), none] s' = .ret (.p (.int r)) (c' :: rest) → callF G (k + 1) 43 [.ref 0, .p (.int u)] (dl a b xs :: rest) = .ok (.p (.int r)) (c' :: rest) := by
    intro s' h1 r c' h2
    rw [call_eq (fd := f__law_off) rfl rfl]
    show finish 1 _ (execs G _ _ (_ :: offTail) [some (.ref 0), some (.p (.int u)), none] _) = _
    rw [exs_cons, h1, X.seq_nx, h2, fin1r]
  have hlen : views (dl a b xs :: rest) [.ref 0] = some [.lst ((a :: b :: xs).map P.int)] := d_views
  have hln : ((a :: b :: xs).map P.int).length = xs.length + 2 := by simp
  by_cases h0 : b = 0
  · subst h0
    cases xs with
    | nil =>
      obtain ⟨r, c', g, h1, h2, h3⟩ := off_tail (cf := callF G k) (ci := callF G (k - 1)) (rest := rest) ha hb hxs hl hu hu2
      refine ⟨r, c', g, h1, h2, key _ ?_ r c' h3⟩
      simp only [ex_ifs, ev_and, ev_cmp, ev_idx, ev_var, ev_con, getV_z, opt_some, R.bind_ok, d_1, cmpD_pp, cmpP_eq, eq_int, decide_true, truthM_b, if_true, ev_bi, ev_cons, ev_nil, runBi_len, hlen, biP_len_lst, hln, cmpP_gt]
      simp
    | cons y ys =>
      have hy := hxs y List.mem_cons_self
      have hys : ∀ x ∈ ys, (0 : Int) ≤ x := fun x hx => hxs x (List.mem_cons_of_mem _ hx)
      obtain ⟨r, c', g, h1, h2, h3⟩ := off_tail (cf := callF G k) (ci := callF G (k - 1)) (rest := rest) ha hy hys (by simp at hl; omega) hu hu2
      refine ⟨r, c', g, h1, h2, key _ ?_ r c' h3⟩
      have hrp : recvOk .popAt (dl a 0 (y :: ys) :: rest) (.ref 0) = true := recv_pop rfl
      have hs := sidx1 (cf := callF G k) (ci := callF G (k - 1)) (rest := rest) (a := a) (b := 0) (v := y) (xs := ys) (e := .bm false .popAt (.var 0) [(.con (.int 2))]) (r := [some (.p (.int u)), none]) (st := dl a 0 (y :: ys) :: rest) (by
        simp only [ev_bm, ev_var, getV_z, opt_some, R.bind_ok, hrp, if_true, ev_cons, ev_nil, ev_con, d_pop])
      have h2l : ((2 : Int) < ((ys.length + 1 + 2 : Nat) : Int)) := by omega
      simp only [ex_ifs, ev_and, ev_cmp, ev_idx, ev_var, ev_con, getV_z, opt_some, R.bind_ok, d_1, cmpD_pp, cmpP_eq, eq_int, decide_true, truthM_b, if_true, ev_bi, ev_cons, ev_nil, runBi_len, hlen, biP_len_lst, hln, cmpP_gt, List.length_cons, h2l, X.of_ok, exs_cons, hs, X.seq_nx, exs_nil]
  · obtain ⟨r, c', g, h1, h2, h3⟩ := off_tail (cf := callF G k) (ci := callF G (k - 1)) (rest := rest) ha hb hxs hl hu hu2
    refine ⟨r, c', g, h1, h2, key _ ?_ r c' h3⟩
    simp only [ex_ifs, ev_and, ev_cmp, ev_idx, ev_var, ev_con, getV_z, opt_some, R.bind_ok, d_1, cmpD_pp, cmpP_eq, eq_int, h0, decide_false, truthM_b, Bool.false_eq_true, if_false, X.of_ok, exs_nil]
theorem dice {k : Nat} (hk : 1 ≤ k) {ns : List Int} (hl : ns.length ≤ 63) {z : Int} (hz : 0 ≤ z) : ∃ c, Good c ∧ callF G k 42 [.p (.scr ns), .p (.int z)] [] = .ok (.ref 0) [c] := by
  obtain ⟨k, rfl⟩ := Nat.exists_eq_add_of_le' (by omega : 1 ≤ k)
  rw [call_eq (fd := f__law_dice) rfl rfl]
  have hfor := for_inv (G := G) (cf := callF G k) (ci := callF G (k - 1)) (tg := .name 3) (ik := .seq) (its := [.var 0]) (body := [.set 2 (.bin .mod (.bin .add (.bin .mul (.var 2) (.con (.int 31))) (.bi false .abs [(.var 3)])) (.con (.int 2147483647)))]) (env := [some (.p (.scr ns)), some (.p (.int z)), some (.p (.int z)), none]) (s := []) (s1 := []) (ds := [.p (.scr ns)]) ns (fun i => .p (.int i))
    (fun rest e s' => s' = [] ∧ ∃ f x, 0 ≤ f ∧ e = [some (.p (.scr ns)), some (.p (.int z)), some (.p (.int f)), x]) (by simp) rfl ⟨rfl, z, none, hz, rfl⟩ (fun i r e s' hI => by
      obtain ⟨rfl, f, x, hf, rfl⟩ := hI
      refine ⟨stands_p _ _ _ _, _, rfl, _, [], ?_, rfl, (f * 31 + (if i < 0 then -i else i)) % 2147483647, some (.p (.int i)), Int.emod_nonneg _ (by decide), rfl⟩
      have habs : biP .abs [.int i] = some (.int (if i < 0 then -i else i)) := rfl
      simp only [exs_cons, ex_set, ev_bin, ev_var, ev_con, List.set, getV_z, getV_s, opt_some, R.bind_ok, view_p, mul_ok (i := f) (j := 31) (by decide), ev_bi, ev_cons, ev_nil, runBi_abs, views_p, views_nil, Option.map_some, habs, bin_addi, mod_ok (j := 2147483647) (by decide), X.of_ok, X.seq_nx, exs_nil]) (fun _ _ _ => stands_p _ _ _ _)
  obtain ⟨e, s', hfor, rfl, f, x, hf, rfl⟩ := hfor
  have hlc := lc_gen (G := G) (cf := callF G k) (ci := callF G (k - 1)) (own := [3]) (tg := .name 3) (ik := .seq) (its := [.var 0]) (cs := [(.cmp .ge (.var 3) (.bin .pow (.con (.int 10)) (.con (.int 18))))]) (elt := .var 3) (env := [some (.p (.scr ns)), some (.p (.int z)), some (.p (.int f)), x]) (s := []) ns (fun i => .p (.int i)) (fun i => decide ((10 : Int) ^ 18 ≤ i)) P.int Flat.nil (ds := [.p (.scr ns)]) (by simp) rfl (by simp only [line]; omega) (fun _ => stands_p _ _ _ _) (fun i hi => by
    refine ⟨_, rfl, fun s' hs' => ⟨?_, fun _ => by simp [wipeE]⟩⟩
    have hp : binP .pow (.int 10) (.int 18) = some (.int ((10 : Int) ^ 18)) := by decide +kernel
    simp only [wipeE, List.set, evC_cons, ev_cmp, ev_var, getV_z, getV_s, opt_some, R.bind_ok, ev_bin, ev_con, view_p, hp, cmpD_pp, cmpP_ge, truthM_b])
  have hfl := List.length_filter_le (fun i => decide ((10 : Int) ^ 18 ≤ i)) ns
  have hfx : ∀ i ∈ ns.filter (fun i => decide ((10 : Int) ^ 18 ≤ i)), (0 : Int) ≤ i := fun i hi => by
    have := (List.mem_filter.mp hi).2
    have h10 : (0 : Int) ≤ 10 ^ 18 := by decide
    exact Int.le_trans h10 (by simpa using this)
  generalize ns.filter (fun i => decide ((10 : Int) ^ 18 ≤ i)) = xs at *
  refine ⟨dl f 0 xs, ⟨_, _, _, rfl, hf, Int.le_refl 0, hfx, by omega⟩, ?_⟩
  have hadd : binP .add (.lst [.int f, .int 0]) (.lst (xs.map P.int)) = some (.lst ((f :: 0 :: xs).map P.int)) := by
    simp only [binP]; rw [if_pos (le_line (by simp only [List.length_cons, List.length_nil, List.length_map]; omega))]; rfl
  have hfin := fin2 (s := []) (g := []) (xs := (f :: 0 :: xs).map P.int) Flat.nil
  simp only [f__law_dice, exs_cons, ex_set, List.map_cons, List.map_nil, List.length_cons, List.length_nil, Nat.zero_add, Nat.reduceAdd, Nat.reduceSub, List.replicate, List.cons_append, List.nil_append, ev_var, getV_z, getV_s, opt_some, X.of_ok, List.set, X.seq_nx, hfor, ex_ret, ev_addl, ev_lst, ev_cons, ev_nil, ev_con, R.bind_ok, lcEnd_false (s := []) _ _ (rfl : pall [.p (.int f), .p (.int 0)] = some [.int f, .int 0]), hlc, view_p, hadd, fin_true, X.seq_ret]
  exact hfin
end
end K73
end T_V15
section T_V16
set_option linter.all false
set_option Elab.async false
set_option maxRecDepth 100000
namespace K73
open TH
theorem idxW (ws : List Txt) {r : Int} (h0 : 0 ≤ r) (h1 : r < ws.length) : ∃ v ∈ ws, idxP (.lst (ws.map P.str)) (.int r) = some (.str v) := by
  obtain ⟨j, rfl⟩ := Int.eq_ofNat_of_zero_le h0
  have hj : j < ws.length := by omega
  refine ⟨ws[j], List.getElem_mem hj, ?_⟩
  rw [idx_natl _ _ (by simpa using hj)]
  simp
/-- a generator's end -/
theorem finG {c c' : Cell} {rest g : Sto} {x : P} (h : Flat (c' :: rest)) : finish 0 (c :: rest) (.ret (.p x) (c' :: (rest ++ g))) = .ok (.p x) (c' :: rest) :=
  fin0t h g rfl rfl
theorem finG0 {c c' : Cell} {rest : Sto} {x : P} (h : Flat (c' :: rest)) : finish 0 (c :: rest) (.ret (.p x) (c' :: rest)) = .ok (.p x) (c' :: rest) :=
  fin0t h [] (by simp) rfl
theorem finGr {c c' : Cell} {rest g : Sto} {m : Nat} {xs : List P} (h : Flat (c' :: rest)) (hm : rest.length + 1 ≤ m) (hg : (c' :: (rest ++ g))[m]? = some (.lst (xs.map D.p))) : finish 0 (c :: rest) (.ret (.ref m) (c' :: (rest ++ g))) = .ok (.p (.lst xs)) (c' :: rest) := by
  have h2 := h.all (rest.length + 1) (rest.length + 1)
  have ht : (c' :: (rest ++ g)).take (rest.length + 1) = c' :: rest := by simp
  have ht2 : (c' :: rest).take (rest.length + 1) = c' :: rest := by simp
  rw [ht2] at h2
  have hm' : ¬ m < rest.length + 1 := by omega
  simp only [finish, List.length_cons, ht, h2, if_true, hm', if_false, view_ref hg]
/-- a while loop -/
theorem whileL_inv {c : Env → M Bool} {body : Env → Sto → X} (I : Nat → Env → Sto → Prop)
    (h1 : ∀ m env s, I (m + 1) env s → c env s = .ok true s ∧ ∃ e s', body env s = .nx e s' ∧ I m e s') (h0 : ∀ env s, I 0 env s → c env s = .ok false s) :
    ∀ (m fuel : Nat) (env : Env) (s : Sto), m < fuel → I m env s → ∃ e s', whileL c body fuel env s = .nx e s' ∧ I 0 e s'
  | m, 0, _, _, h, _ => absurd h (Nat.not_lt_zero m)
  | 0, fuel + 1, env, s, _, hI => ⟨env, s, by simp [whileL, h0 env s hI], hI⟩
  | m + 1, fuel + 1, env, s, h, hI => by
    obtain ⟨k1, e, s', k2, k3⟩ := h1 m env s hI
    obtain ⟨e2, s2, k4, k5⟩ := whileL_inv I h1 h0 m fuel e s' (by omega) k3
    refine ⟨e2, s2, ?_, k5⟩
    simp only [whileL, k1, X.of_ok, if_true, k2, k4]
theorem eraseIdx_map' {α β : Type} (f : α → β) : ∀ (l : List α) (j : Nat), (l.map f).eraseIdx j = (l.eraseIdx j).map f
  | [], _ => rfl
  | _ :: _, 0 => rfl
  | a :: l, j + 1 => by simp [eraseIdx_map' f l j]
theorem erase_perm {α : Type} : ∀ (l : List α) (j : Nat) (h : j < l.length), (l[j] :: l.eraseIdx j).Perm l
  | a :: l, 0, _ => .refl _
  | a :: l, j + 1, h => by
    have := erase_perm l j (by simpa using h)
    exact (List.Perm.swap _ _ _).trans (this.cons a)
section
variable {k : Nat}
theorem mixed (hk : 2 ≤ k) {c : Cell} (hc : Good c) {rest : Sto} (hr : Flat rest) {row : List P} (hl : row.length ≤ 100) {rp : P} (hrp : rp = .lst row ∨ rp = .tup row) : ∃ xs c', Good c' ∧ xs.Perm row ∧ callF G k 45 [.ref 0, .p rp] (c :: rest) = .ok (.p (.lst xs)) (c' :: rest) := by
  obtain ⟨k, rfl⟩ := Nat.exists_eq_add_of_le' (by omega : 1 ≤ k)
  have hw := whileL_inv (c := fun env' s' => (evE G (callF G k) (callF G (k - 1)) (.cmp .ne (.var 2) (.lst false [])) env' s').bind fun d s => truthM d s) (body := fun env' s' => execs G (callF G k) (callF G (k - 1)) [.expr (.bm false .append (.var 3) [(.bm false .popAt (.var 2) [(.call 43 [(.var 0), (.bi false .len [(.var 2)])])])])] env' s')
    (fun m e s' => ∃ (c' : Cell) (L F : List P), Good c' ∧ L.length = m ∧ (L ++ F).Perm row ∧ e = [some (.ref 0), some (.p rp), some (.ref (rest.length + 1)), some (.ref (rest.length + 2))] ∧ s' = c' :: (rest ++ [.lst (L.map D.p), .lst (F.map D.p)]))
    (fun m e s' hI => by
      obtain ⟨c', L, F, g, hL, hp, rfl, rfl⟩ := hI
      have hg1 : ∀ (c : Cell) (L F : List P), (c :: (rest ++ [Cell.lst (L.map D.p), .lst (F.map D.p)]))[rest.length + 1]? = some (.lst (L.map D.p)) := fun c L F => by simp
      have hg2 : ∀ (c : Cell) (L F : List P), (c :: (rest ++ [Cell.lst (L.map D.p), .lst (F.map D.p)]))[rest.length + 2]? = some (.lst (F.map D.p)) := fun c L F => by simp
      have hvw := views_ref (hg1 c' L F) []
      simp only [views_nil, Option.map_some] at hvw
      have hLne : L ≠ [] := by intro e; rw [e] at hL; simp at hL
      have hLe : L.isEmpty = false := by cases L <;> simp_all
      have hLF : L.length + F.length = row.length := by simpa using hp.length_eq
      obtain ⟨r, c2, g2, hr0, hr1, ho⟩ := off (k := k) (by omega) g (u := L.length) (by omega) (by omega) (rest ++ [.lst (L.map D.p), .lst (F.map D.p)])
      obtain ⟨j, rfl⟩ := Int.eq_ofNat_of_zero_le hr0
      have hj : j < L.length := by omega
      have hpop : runBi false .popAt [.ref (rest.length + 1), .p (.int j)] (c2 :: (rest ++ [.lst (L.map D.p), .lst (F.map D.p)])) = .ok (.p L[j]) (c2 :: (rest ++ [.lst ((L.eraseIdx j).map D.p), .lst (F.map D.p)])) := by
        have hpl : place L.length j = some j := by simp only [place]; rw [if_pos ⟨by omega, by omega⟩]; rfl
        have h1 : (L.map D.p)[j]? = some (D.p L[j]) := by simp [hj]
        simp only [runBi, Bi.changes, if_true, Bool.false_eq_true, if_false, biD, hg1, List.length_map, hpl, h1]
        rw [eraseIdx_map']
        simp
      have happ := run_append (d := .p L[j]) (hg2 c2 (L.eraseIdx j) F) (by simp only [List.length_map, line]; omega)
      have hset : (c2 :: (rest ++ [Cell.lst ((L.eraseIdx j).map D.p), .lst (F.map D.p)])).set (rest.length + 2) (.lst (F.map D.p ++ [.p L[j]])) = c2 :: (rest ++ [.lst ((L.eraseIdx j).map D.p), .lst ((F ++ [L[j]]).map D.p)]) := by simp
      rw [hset] at happ
      refine ⟨?_, _, _, ?_, c2, L.eraseIdx j, F ++ [L[j]], g2, by rw [List.length_eraseIdx_of_lt hj]; omega, ?_, rfl, rfl⟩
      · simp [cmpD, view_ref (hg1 c' L F), hLe]
      · simp [recv_append (hg2 c' L F), recv_pop (hg1 c' L F), hvw, ho, hpop, happ]
      · refine List.Perm.trans ?_ hp
        have h1 : L.Perm (L[j] :: L.eraseIdx j) := (erase_perm L j hj).symm
        have h2 : (L.eraseIdx j ++ (F ++ [L[j]])).Perm (L[j] :: (L.eraseIdx j ++ F)) := by
          rw [← List.append_assoc]
          exact List.perm_append_singleton _ _
        exact h2.trans (h1.symm.append_right F))
    (fun e s' hI => by
      obtain ⟨c', L, F, g, hL, hp, rfl, rfl⟩ := hI
      have hL0 : L = [] := List.length_eq_zero_iff.mp hL
      subst hL0
      have hg1 : (c' :: (rest ++ [Cell.lst [], .lst (F.map D.p)]))[rest.length + 1]? = some (.lst []) := by simp
      simp [cmpD, view_ref (xs := []) hg1])
  obtain ⟨e, s', hw, c', L, F, g, hL, hp, rfl, rfl⟩ := hw row.length G.fuel [some (.ref 0), some (.p rp), some (.ref (rest.length + 1)), some (.ref (rest.length + 2))] (c :: (rest ++ [.lst (row.map D.p), .lst []])) (by have : G.fuel = 100000 := rfl; omega) ⟨c, row, [], hc, rfl, by simp, rfl, rfl⟩
  have hL0 : L = [] := List.length_eq_zero_iff.mp hL
  subst hL0
  rw [List.nil_append] at hp
  refine ⟨F, c', g, hp, ?_⟩
  rw [call_eq (fd := f__law_mixed) rfl rfl]
  have hfin := finGr (c := c) (c' := c') (rest := rest) (g := [.lst (([] : List P).map D.p), .lst (F.map D.p)]) (m := rest.length + 2) (xs := F) (Flat.cons g.flat hr) (by omega) (by simp)
  have htl : runBi true .toList [.p rp] (c :: rest) = .ok (.ref (rest.length + 1)) (c :: (rest ++ [.lst (row.map D.p)])) := by
    rcases hrp with rfl | rfl <;> simp [runBi, Bi.changes, Bi.fresh]
  simp only [f__law_mixed, exs_cons, ex_set, List.map_cons, List.map_nil, List.length_cons, List.length_nil, Nat.zero_add, Nat.reduceAdd, Nat.reduceSub, List.replicate, List.cons_append, List.nil_append, ev_bi, ev_cons, ev_nil, ev_var, getV_z, getV_s, opt_some, R.bind_ok, htl, X.of_ok, List.set, X.seq_nx, ev_lst, lcEnd_true, List.length_append, List.append_assoc]
  have hw' : exec G (callF G k) (callF G (k - 1)) (.whl (.cmp .ne (.var 2) (.lst false [])) [.expr (.bm false .append (.var 3) [(.bm false .popAt (.var 2) [(.call 43 [(.var 0), (.bi false .len [(.var 2)])])])])]) [some (.ref 0), some (.p rp), some (.ref (rest.length + 1)), some (.ref (rest.length + 2))] (c :: (rest ++ [.lst (row.map D.p), .lst []])) = .nx [some (.ref 0), some (.p rp), some (.ref (rest.length + 1)), some (.ref (rest.length + 2))] (c' :: (rest ++ [.lst (([] : List P).map D.p), .lst (F.map D.p)])) := by rw [ex_whl]; exact hw
  rw [show rest.length + 1 + 1 = rest.length + 2 from rfl, hw']
  simp only [X.seq_nx, ex_ret, ev_var, getV_z, getV_s, opt_some, X.of_ok, X.seq_ret]
  exact hfin
/-- the values that are drawn -/
def VALS : List Txt := [[120], [121], [49]]
def KEYS : List Txt := [[97], [98], [114, 111, 111, 109]]
theorem KEYS_ok {x : Txt} (h : x ∈ KEYS) : isKey x = true := by
  have : ∀ x ∈ KEYS, isKey x = true := by decide
  exact this x h
theorem VALS_ok {x : Txt} (h : x ∈ VALS) : isVal x = true := by
  have : ∀ x ∈ VALS, isVal x = true := by decide
  exact this x h
theorem subl_rising {l : List Txt} (h : l.Sublist KEYS) : rising l = true ∧ l.length ≤ 3 := by
  have h3 : l.length ≤ 3 := h.length_le
  refine ⟨?_, h3⟩
  simp only [KEYS, List.sublist_cons_iff, List.sublist_nil] at h
  rcases h with ((rfl | ⟨r, rfl, rfl⟩) | ⟨r, rfl, (rfl | ⟨r, rfl, rfl⟩)⟩) | ⟨r, rfl, ((rfl | ⟨r, rfl, rfl⟩) | ⟨r, rfl, (rfl | ⟨r, rfl, rfl⟩)⟩)⟩ <;> decide
/-- the first ones of a drawn order, sorted -/
theorem vals_ok {L : List Txt} (hp : L.Perm VALS) {j : Nat} (h1 : 1 ≤ j) (h2 : j ≤ 2) : rising (sortS (L.take j)) = true ∧ (sortS (L.take j)).length = j ∧ ∀ v ∈ sortS (L.take j), isVal v = true := by
  have hl : L.length = 3 := hp.length_eq
  have hm : ∀ x ∈ L, x ∈ VALS := fun x hx => hp.mem_iff.mp hx
  have hn : L.Nodup := hp.nodup_iff.mpr (by decide)
  match L, hl with
  | [a, b, c], _ =>
    have ha := hm a (by simp)
    have hb := hm b (by simp)
    have hc := hm c (by simp)
    simp only [VALS, List.mem_cons, List.not_mem_nil, or_false] at ha hb hc
    have hj : j = 1 ∨ j = 2 := by omega
    rcases ha with rfl | rfl | rfl <;> rcases hb with rfl | rfl | rfl <;> rcases hc with rfl | rfl | rfl <;> first | (exact absurd hn (by decide)) | (rcases hj with rfl | rfl <;> decide)
theorem tags (hk : 2 ≤ k) {c : Cell} (hc : Good c) {rest : Sto} (hr : Flat rest) : ∃ (ts : List Tag) (c' : Cell), Good c' ∧ isTags ts = true ∧ callF G k 46 [.ref 0] (c :: rest) = .ok (.p (tagsP ts)) (c' :: rest) := by
  obtain ⟨k, rfl⟩ := Nat.exists_eq_add_of_le' (by omega : 1 ≤ k)
  have hf := for_inv (G := G) (cf := callF G k) (ci := callF G (k - 1)) (tg := .name 2) (ik := .seq) (its := [(.lst false [(.con (.str [97])), (.con (.str [98])), (.con (.str [114, 111, 111, 109]))])]) (body := [.ifs (.cmp .eq (.call 43 [(.var 0), (.con (.int 3))]) (.con (.int 0))) [.expr (.bm false .append (.var 1) [(.tup [(.var 2), (.idx (.lst false [(.con (.str [120])), (.con (.str [121])), (.con (.str [49]))]) (.call 43 [(.var 0), (.con (.int 3))]))])])] []])
    (env := [some (.ref 0), some (.ref (rest.length + 1)), none]) (s := c :: (rest ++ [.lst []])) (s1 := c :: (rest ++ [.lst []])) (ds := [.p (.lst [.str [97], .str [98], .str [114, 111, 111, 109]])]) KEYS (fun x => .p (.str x))
    (fun rs e s' => ∃ (c' : Cell) (ts : List Tag) (x : Option D), Good c' ∧ (ts.map (·.1) ++ rs).Sublist KEYS ∧ (∀ t ∈ ts, t.2 ∈ VALS) ∧ e = [some (.ref 0), some (.ref (rest.length + 1)), x] ∧ s' = c' :: (rest ++ [.lst ((ts.map Tag.P).map D.p)]))
    (by simp) (by simp [KEYS]) ⟨c, [], none, hc, List.Sublist.refl _, by simp, rfl, rfl⟩ (fun a r e s' hI => by
      obtain ⟨c', ts, x, g, hsub, hts, rfl, rfl⟩ := hI
      have htl : ts.length ≤ 3 := by have := hsub.length_le; simp only [List.length_append, List.length_map, KEYS, List.length_cons, List.length_nil] at this; omega
      have hgS : ∀ (c : Cell), (c :: (rest ++ [Cell.lst ((ts.map Tag.P).map D.p)]))[rest.length + 1]? = some (.lst ((ts.map Tag.P).map D.p)) := fun c => by simp
      obtain ⟨r1, c1, g1, h1, h2, h3⟩ := off (k := k) (by omega) g (u := 3) (by decide) (by decide) (rest ++ [.lst ((ts.map Tag.P).map D.p)])
      by_cases h0 : r1 = 0
      · obtain ⟨r2, c2, g2, h4, h5, h6⟩ := off (k := k) (by omega) g1 (u := 3) (by decide) (by decide) (rest ++ [.lst ((ts.map Tag.P).map D.p)])
        obtain ⟨v, hv, hid⟩ := idxW VALS h4 (by simpa [VALS] using h5)
        simp only [VALS, List.map_cons, List.map_nil] at hid
        have happ := run_append (d := .p (.tup [.str a, .str v])) (hgS c2) (by simp only [List.length_map, line]; omega)
        have hset : (c2 :: (rest ++ [Cell.lst ((ts.map Tag.P).map D.p)])).set (rest.length + 1) (.lst ((ts.map Tag.P).map D.p ++ [.p (.tup [.str a, .str v])])) = c2 :: (rest ++ [.lst (((ts ++ [(a, v)]).map Tag.P).map D.p)]) := by simp [Tag.P]
        rw [hset] at happ
        refine ⟨stands_p _ _ _ _, _, rfl, [some (.ref 0), some (.ref (rest.length + 1)), some (.p (.str a))], _, ?_, c2, ts ++ [(a, v)], some (.p (.str a)), g2, by simpa using hsub, ?_, rfl, rfl⟩
        · simp [-List.map_map, h3, h0, recv_append (hgS c1), h6, hid, happ]
        · intro t ht
          rcases List.mem_append.mp ht with ht | ht
          · exact hts t ht
          · simp at ht; subst ht; exact hv
      · refine ⟨stands_p _ _ _ _, _, rfl, [some (.ref 0), some (.ref (rest.length + 1)), some (.p (.str a))], _, ?_, c1, ts, some (.p (.str a)), g1, ?_, hts, rfl, rfl⟩
        · simp [-List.map_map, h3, h0]
        · exact List.Sublist.trans (List.Sublist.append (List.Sublist.refl _) (List.sublist_cons_self a r)) hsub) (fun _ _ _ => stands_p _ _ _ _)
  obtain ⟨e, s', hf, c', ts, x, g, hsub, hts, rfl, rfl⟩ := hf
  rw [List.append_nil] at hsub
  obtain ⟨hri, hle⟩ := subl_rising hsub
  rw [List.length_map] at hle
  refine ⟨ts, c', g, ?_, ?_⟩
  · simp only [isTags, Bool.and_eq_true, decide_eq_true_eq, List.all_eq_true]
    exact ⟨by omega, fun t ht => ⟨KEYS_ok (hsub.subset (List.mem_map.mpr ⟨t, ht, rfl⟩)), VALS_ok (hts t ht)⟩, hri⟩
  · rw [call_eq (fd := f__law_tags) rfl rfl]
    have hgS : (c' :: (rest ++ [Cell.lst ((ts.map Tag.P).map D.p)]))[rest.length + 1]? = some (.lst ((ts.map Tag.P).map D.p)) := by simp
    have hvw := views_ref hgS []
    simp only [views_nil, Option.map_some] at hvw
    have hfin := finG (c := c) (c' := c') (rest := rest) (g := [.lst ((ts.map Tag.P).map D.p)]) (x := tagsP ts) (Flat.cons g.flat hr)
    simp only [f__law_tags, exs_cons, ex_set, List.map_cons, List.map_nil, List.length_cons, List.length_nil, Nat.zero_add, Nat.reduceAdd, Nat.reduceSub, List.replicate, List.cons_append, List.nil_append, ev_lst, ev_nil, R.bind_ok, lcEnd_true, X.of_ok, List.set, X.seq_nx, hf, ex_ret, ev_bi, ev_cons, ev_var, getV_z, getV_s, opt_some, runBi_toTuple, hvw, biP_toTuple_l, X.seq_ret]
    exact hfin
end
end K73
end T_V16
section T_V17
set_option linter.all false
set_option Elab.async false
set_option maxRecDepth 100000
namespace K73
open TH
def unstr : P → Txt
  | .str x => x
  | _ => []
theorem run_sorted {s : Sto} {ys : List Txt} (h : ys.length < 64) : runBi true .sorted [.p (.lst (ys.map P.str))] s = .ok (.ref s.length) (s ++ [.lst (((sortS ys).map P.str).map D.p)]) := by
  have : biP .sorted [.lst (ys.map P.str)] = some (.lst ((sortS ys).map P.str)) := by
    simp only [biP, strsOf_map, Option.bind_some]; rw [if_pos h]
  simp [runBi, Bi.changes, Bi.fresh, this]
theorem cut_take {α : Type} (xs : List α) {r : Int} (h0 : 0 ≤ r) : cutL xs none (some r) = xs.take r.toNat := by
  simp only [cutL, cutAt, List.drop_zero]
  rw [if_neg (by omega)]
  rcases Nat.le_total r.toNat xs.length with h | h
  · rw [Nat.min_eq_left h]; rfl
  · rw [Nat.min_eq_right h, List.take_of_length_le (by omega), List.take_of_length_le h]
section
variable {k : Nat}
theorem name (hk : 3 ≤ k) {c : Cell} (hc : Good c) {rest : Sto} (hr : Flat rest) {ws : List Txt} (hw : ∀ w ∈ ws, isWord w = true) (h1 : 1 ≤ ws.length) (h2 : ws.length ≤ 100) : ∃ (n : Nm) (c' : Cell), Good c' ∧ n.ok = true ∧ callF G k 47 [.ref 0, .p (.lst (strsP ws))] (c :: rest) = .ok (.p n.P) (c' :: rest) := by
  obtain ⟨k, rfl⟩ := Nat.exists_eq_add_of_le' (by omega : 1 ≤ k)
  obtain ⟨r, c1, g1, a1, a2, a3⟩ := off (k := k) (by omega) hc (u := ws.length) (by omega) (by omega) rest
  obtain ⟨ts, c2, g2, b1, b2⟩ := tags (k := k) (by omega) g1 hr
  obtain ⟨v, hv, hid⟩ := idxW ws a1 (by omega)
  refine ⟨⟨v, ts⟩, c2, g2, by simp [Nm.ok, hw v hv, b1], ?_⟩
  rw [call_eq (fd := f__law_name) rfl rfl]
  have hfin := finG0 (c := c) (c' := c2) (rest := rest) (x := Nm.P ⟨v, ts⟩) (Flat.cons g2.flat hr)
  simp only [strsP] at *
  simp [f__law_name, a3, hid, b2, Nm.P, tagsP] at hfin ⊢
  simp [b2, tagsP, hfin]
theorem picker (hk : 3 ≤ k) {c : Cell} (hc : Good c) {rest : Sto} (hr : Flat rest) {ws : List Txt} (hw : ∀ w ∈ ws, w = [] ∨ isWord w = true) (h1 : 1 ≤ ws.length) (h2 : ws.length ≤ 100) : ∃ (p : Pk) (c' : Cell), Good c' ∧ p.ok = true ∧ p.w ∈ ws ∧ callF G k 48 [.ref 0, .p (.lst (strsP ws))] (c :: rest) = .ok (.p p.P) (c' :: rest) := by
  obtain ⟨k, rfl⟩ := Nat.exists_eq_add_of_le' (by omega : 1 ≤ k)
  obtain ⟨r, c1, g1, a1, a2, a3⟩ := off (k := k) (by omega) hc (u := 3) (by decide) (by decide) (rest ++ [.lst []])
  have hf := for_inv (G := G) (cf := callF G k) (ci := callF G (k - 1)) (tg := .name 3) (ik := .range1) (its := [(.call 43 [(.var 0), (.con (.int 3))])]) (body := [.set 4 (.idx (.lst false [(.con (.str [97])), (.con (.str [98])), (.con (.str [114, 111, 111, 109]))]) (.call 43 [(.var 0), (.con (.int 3))])),
  .set 5 (.bi true .sorted [(.slc (.call 45 [(.var 0), (.lst false [(.con (.str [120])), (.con (.str [121])), (.con (.str [49]))])]) none (some (.bin .add (.con (.int 1)) (.call 43 [(.var 0), (.con (.int 2))]))))]),
  .expr (.bm false .append (.var 2) [(.tup [(.var 4), (.idx (.lst false [(.con (.str [105, 110])), (.con (.str [111, 117, 116]))]) (.call 43 [(.var 0), (.con (.int 2))])), (.bi false .toTuple [(.var 5)])])])])
    (env := [some (.ref 0), some (.p (.lst (strsP ws))), some (.ref (rest.length + 1)), none, none, none]) (s := c :: (rest ++ [.lst []])) (s1 := c1 :: (rest ++ [.lst []])) (ds := [.p (.int r)]) (List.range r.toNat) (fun i => .p (.int i))
    (fun rs e s' => ∃ (c' : Cell) (cs : List Cd) (g : Sto) (x y z : Option D), Good c' ∧ Flat g ∧ cs.length + rs.length ≤ 2 ∧ (∀ t ∈ cs, t.ok = true) ∧ e = [some (.ref 0), some (.p (.lst (strsP ws))), some (.ref (rest.length + 1)), x, y, z] ∧ s' = c' :: (rest ++ .lst ((cs.map Cd.P).map D.p) :: g))
    (by simp [a3]) (by simp only [items]; rw [if_pos (by omega)]) ⟨c1, [], [], none, none, none, g1, .nil, by simp; omega, by simp, rfl, rfl⟩ (fun a rr e s' hI => by
      obtain ⟨c', cs, g, x, y, z, gd, fg, hln, hcs, rfl, rfl⟩ := hI
      simp only [List.length_cons] at hln
      have hgS : ∀ (c : Cell) (g : Sto), (c :: (rest ++ Cell.lst ((cs.map Cd.P).map D.p) :: g))[rest.length + 1]? = some (.lst ((cs.map Cd.P).map D.p)) := fun c g => by simp
      have hfS : Flat (rest ++ Cell.lst ((cs.map Cd.P).map D.p) :: g) := hr.app (.cons (flatC_lst _) fg)
      obtain ⟨r1, d1, e1, b1, b2, b3⟩ := off (k := k) (by omega) gd (u := 3) (by decide) (by decide) (rest ++ .lst ((cs.map Cd.P).map D.p) :: g)
      obtain ⟨key, hkey, hidk⟩ := idxW KEYS b1 (by simpa [KEYS] using b2)
      simp only [KEYS, List.map_cons, List.map_nil] at hidk
      obtain ⟨xs, d2, e2, hperm, hmix⟩ := mixed (k := k) (by omega) e1 hfS (row := VALS.map P.str) (by simp [VALS]) (rp := .lst (VALS.map P.str)) (.inl rfl)
      obtain ⟨r2, d3, e3, b4, b5, b6⟩ := off (k := k) (by omega) e2 (u := 2) (by decide) (by decide) (rest ++ .lst ((cs.map Cd.P).map D.p) :: g)
      have hxs : xs = (xs.map unstr).map P.str := by
        rw [List.map_map]
        conv => lhs; rw [← List.map_id xs]
        refine List.map_congr_left fun q hq => ?_
        obtain ⟨t, _, rfl⟩ := List.mem_map.mp (hperm.mem_iff.mp hq)
        rfl
      have hLp : (xs.map unstr).Perm VALS := by
        have := hperm.map unstr
        simpa [VALS, unstr] using this
      generalize xs.map unstr = L at hxs hLp
      subst hxs
      obtain ⟨hri, hlenS, hvS⟩ := vals_ok hLp (j := (1 + r2).toNat) (by omega) (by omega)
      have hcut : cutL (L.map P.str) none (some (1 + r2)) = (L.take (1 + r2).toNat).map P.str := by
        rw [cut_take _ (by omega), List.map_take]
      have hsort := run_sorted (s := d3 :: (rest ++ .lst ((cs.map Cd.P).map D.p) :: g)) (ys := L.take (1 + r2).toNat) (by rw [List.length_take]; omega)
      generalize sortS (L.take (1 + r2).toNat) = vs at hsort hri hlenS hvS
      have hst : (d3 :: (rest ++ Cell.lst ((cs.map Cd.P).map D.p) :: g)) ++ [Cell.lst ((vs.map P.str).map D.p)] = d3 :: (rest ++ Cell.lst ((cs.map Cd.P).map D.p) :: (g ++ [Cell.lst ((vs.map P.str).map D.p)])) := by simp
      have hll : (d3 :: (rest ++ Cell.lst ((cs.map Cd.P).map D.p) :: g)).length = rest.length + g.length + 2 := by simp; omega
      rw [hst, hll] at hsort
      obtain ⟨r3, d4, e4, b7, b8, b9⟩ := off (k := k) (by omega) e3 (u := 2) (by decide) (by decide) (rest ++ .lst ((cs.map Cd.P).map D.p) :: (g ++ [Cell.lst ((vs.map P.str).map D.p)]))
      obtain ⟨how, hhow, hidh⟩ := idxW [[105, 110], [111, 117, 116]] b7 (by simpa using b8)
      simp only [List.map_cons, List.map_nil] at hidh
      have hvw : views (d4 :: (rest ++ .lst ((cs.map Cd.P).map D.p) :: (g ++ [Cell.lst ((vs.map P.str).map D.p)]))) [.ref (rest.length + g.length + 2)] = some [.lst (vs.map P.str)] := by
        rw [views_ref (xs := vs.map P.str) (by
          rw [show rest.length + g.length + 2 = (rest.length + (g.length + 1)) + 1 by omega, List.getElem?_cons_succ, List.getElem?_append_right (by omega)]
          simp)]
        rfl
      have happ := run_append (d := .p (.tup [.str key, .str how, .tup (vs.map P.str)])) (hgS d4 (g ++ [Cell.lst ((vs.map P.str).map D.p)])) (by simp only [List.length_map, line]; omega)
      have hset : (d4 :: (rest ++ Cell.lst ((cs.map Cd.P).map D.p) :: (g ++ [Cell.lst ((vs.map P.str).map D.p)]))).set (rest.length + 1) (.lst ((cs.map Cd.P).map D.p ++ [.p (.tup [.str key, .str how, .tup (vs.map P.str)])])) = d4 :: (rest ++ .lst (((cs ++ [(⟨key, how, vs⟩ : Cd)]).map Cd.P).map D.p) :: (g ++ [Cell.lst ((vs.map P.str).map D.p)])) := by simp [Cd.P, strsP]
      rw [hset] at happ
      simp only [VALS, List.map_cons, List.map_nil] at hmix
      refine ⟨rfl, _, rfl, [some (.ref 0), some (.p (.lst (strsP ws))), some (.ref (rest.length + 1)), some (.p (.int a)), some (.p (.str key)), some (.ref (rest.length + g.length + 2))], _, ?_, d4, cs ++ [⟨key, how, vs⟩], g ++ [Cell.lst ((vs.map P.str).map D.p)], some (.p (.int a)), some (.p (.str key)), some (.ref (rest.length + g.length + 2)), e4, fg.app (.one (flatC_lst _)), by simp only [List.length_append, List.length_cons, List.length_nil]; omega, ?_, rfl, rfl⟩
      · have hrc := recv_append (hgS d3 (g ++ [Cell.lst ((vs.map P.str).map D.p)]))
        generalize (((cs ++ [(⟨key, how, vs⟩ : Cd)]).map Cd.P).map D.p) = Y at happ ⊢
        generalize (cs.map Cd.P).map D.p = X at *
        generalize vs.map P.str = V at *
        generalize V.map D.p = V' at *
        generalize (L.take (1 + r2).toNat).map P.str = LT at *
        generalize L.map P.str = L' at *
        simp [b3, hidk, hmix, b6, slcP, hcut, hsort, hrc, b9, hidh, hvw, happ]
      · intro t ht
        rcases List.mem_append.mp ht with ht | ht
        · exact hcs t ht
        · simp only [List.mem_cons, List.not_mem_nil, or_false] at ht
          subst ht
          have hh : how = [105, 110] ∨ how = [111, 117, 116] := by simpa using hhow
          simp only [Cd.ok, Bool.and_eq_true, Bool.or_eq_true, decide_eq_true_eq, List.all_eq_true]
          exact ⟨KEYS_ok hkey, hh, ⟨by omega, by omega⟩, hvS, hri⟩) (fun _ _ _ => rfl)
  obtain ⟨e, s', hf, c', cs, g, x, y, z, gd, fg, hln, hcs, rfl, rfl⟩ := hf
  obtain ⟨r1, d1, e1, b1, b2, b3⟩ := off (k := k) (by omega) gd (u := ws.length) (by omega) (by omega) (rest ++ .lst ((cs.map Cd.P).map D.p) :: g)
  obtain ⟨v, hv, hid⟩ := idxW ws b1 (by omega)
  refine ⟨⟨v, cs⟩, d1, e1, ?_, hv, ?_⟩
  · simp only [Pk.ok, Bool.and_eq_true, Bool.or_eq_true, decide_eq_true_eq, List.all_eq_true]
    exact ⟨hw v hv, by simp only [List.length_nil] at hln; omega, hcs⟩
  · rw [call_eq (fd := f__law_picker) rfl rfl]
    have hgS : (d1 :: (rest ++ Cell.lst ((cs.map Cd.P).map D.p) :: g))[rest.length + 1]? = some (.lst ((cs.map Cd.P).map D.p)) := by simp
    have hvw := views_ref hgS []
    simp only [views_nil, Option.map_some] at hvw
    have hfin := finG (c := c) (c' := d1) (rest := rest) (g := .lst ((cs.map Cd.P).map D.p) :: g) (x := Pk.P ⟨v, cs⟩) (Flat.cons e1.flat hr)
    simp only [strsP] at *
    have hwl : (ws.map P.str).length = ws.length := by simp
    simp only [f__law_picker, exs_cons, ex_set, List.map_cons, List.map_nil, List.length_cons, List.length_nil, Nat.zero_add, Nat.reduceAdd, Nat.reduceSub, List.replicate, List.cons_append, List.nil_append, ev_lst, ev_nil, R.bind_ok, lcEnd_true, X.of_ok, List.set, X.seq_nx, hf, ex_ret, ev_tup, ev_cons, ev_idx, ev_var, getV_z, getV_s, opt_some, ev_call, ev_bi, runBi_len, views_p, views_nil, Option.map_some, biP_len_lst, hwl, b3, idxD_pp, hid, runBi_toTuple, hvw, biP_toTuple_l, mkTup_2, X.seq_ret]
    exact hfin
theorem number (hk : 2 ≤ k) {c : Cell} (hc : Good c) {rest : Sto} (hr : Flat rest) : ∃ (i : Int) (c' : Cell), Good c' ∧ inR i (-1000000) 1000000 = true ∧ callF G k 50 [.ref 0] (c :: rest) = .ok (.p (.int i)) (c' :: rest) := by
  obtain ⟨k, rfl⟩ := Nat.exists_eq_add_of_le' (by omega : 1 ≤ k)
  obtain ⟨r1, d1, e1, a1, a2, a3⟩ := off (k := k) (by omega) hc (u := 9) (by decide) (by decide) rest
  obtain ⟨r2, d2, e2, b1, b2, b3⟩ := off (k := k) (by omega) e1 (u := 41) (by decide) (by decide) rest
  obtain ⟨r3, d3, e3, c1, c2, c3⟩ := off (k := k) (by omega) e2 (u := 2000001) (by decide) (by decide) rest
  obtain ⟨r4, d4, e4, f1, f2, f3⟩ := off (k := k) (by omega) e3 (u := 8) (by decide) (by decide) rest
  have hfd : binP .fdiv (.int r4) (.int 3) = some (.int (r4 / 3)) := fdiv_ok (by decide) (by decide)
  have h3 : r4 / 3 = 0 ∨ r4 / 3 = 1 ∨ r4 / 3 = 2 := by omega
  have hidx : ∃ v ∈ [r1 - 4, r2 - 20, r3 - 1000000], idxP (.lst [.int (r1 - 4), .int (r2 - 20), .int (r3 - 1000000)]) (.int (r4 / 3)) = some (.int v) := by
    rcases h3 with h | h | h <;> rw [h]
    · exact ⟨_, by simp, idxl_0 _ _⟩
    · exact ⟨_, by simp, idxl_1 _ _ _⟩
    · exact ⟨_, by simp, idxl_2 _ _ _ _⟩
  obtain ⟨v, hv, hidx⟩ := hidx
  refine ⟨v, d4, e4, ?_, ?_⟩
  · simp only [List.mem_cons, List.not_mem_nil, or_false] at hv
    simp only [inR, Bool.and_eq_true, decide_eq_true_eq]
    omega
  · rw [call_eq (fd := f__law_number) rfl rfl]
    simp [f__law_number, a3, b3, c3, f3, hfd, hidx, finG0 (Flat.cons e4.flat hr)]
end
end K73
end T_V17
section T_V18
set_option linter.all false
set_option Elab.async false
set_option maxRecDepth 100000
namespace K73
open TH
/-- what a drawn question keeps -/
structure GQ (n : Nat) (q : Q) : Prop where
  form : q.form = true
  inner : q.inner = true
  rows : q.rows = true
  size : q.size + 1 ≤ 2 ^ (n + 1)
  depth : q.depth ≤ n
theorem GQ.ok {n : Nat} {q : Q} (h : GQ n q) (hn : n ≤ 4) : q.ok := by
  refine ⟨h.form, h.inner, h.rows, ?_, by have := h.depth; omega⟩
  have h1 := h.size
  have h2 : 2 ^ (n + 1) ≤ 2 ^ 5 := Nat.pow_le_pow_right (by decide) (by omega)
  omega
theorem pow1 (n : Nat) : 2 ≤ 2 ^ (n + 1) := by
  have : 2 ^ 1 ≤ 2 ^ (n + 1) := Nat.pow_le_pow_right (by decide) (by omega)
  simpa using this
section
variable {k : Nat}
theorem keysL (hk : 1 ≤ k) {rest : Sto} {env : Env} (he : ∀ x, ∃ r, env.set 11 x = some (.ref 0) :: r ∧ getV (env.set 11 x) 11 = x) (ok : Sto → Bool) (hok : ∀ s, ok s = true) : ∀ (ks : List Txt) (c : Cell) (acc : List Txt), Good c → acc.length + ks.length ≤ 1000 → ∃ (c' : Cell) (acc' : List Txt), Good c' ∧ acc'.Sublist ks ∧
    lcL (.name 11) (fun env' => evC G (callF G k) (callF G (k - 1)) [(.cmp .eq (.call 43 [(.var 0), (.con (.int 2))]) (.con (.int 0)))] env') (fun env' => evE G (callF G k) (callF G (k - 1)) (.var 11) env') ok (rest.length + 1) env (ks.map fun x => .p (.str x)) (c :: (rest ++ [.lst ((acc.map P.str).map D.p)])) = .ok () (c' :: (rest ++ [.lst (((acc ++ acc').map P.str).map D.p)]))
  | [], c, acc, g, _ => ⟨c, [], g, List.Sublist.refl _, by simp [lcL, hok]⟩
  | x :: ks, c, acc, g, hl => by
    obtain ⟨r, c1, g1, a1, a2, a3⟩ := off (k := k) hk g (u := 2) (by decide) (by decide) (rest ++ [.lst ((acc.map P.str).map D.p)])
    obtain ⟨er, h1, h2⟩ := he (some (.p (.str x)))
    simp only [List.length_cons] at hl
    have hcond : evC G (callF G k) (callF G (k - 1)) [(.cmp .eq (.call 43 [(.var 0), (.con (.int 2))]) (.con (.int 0)))] (env.set 11 (some (.p (.str x)))) (c :: (rest ++ [.lst ((acc.map P.str).map D.p)])) = .ok (decide (r = 0)) (c1 :: (rest ++ [.lst ((acc.map P.str).map D.p)])) := by
      rw [h1]
      simp only [evC_cons, ev_cmp, ev_call, ev_cons, ev_nil, ev_var, getV_z, opt_some, R.bind_ok, ev_con, a3, cmpD_pp, cmpP_eq, eq_int, truthM_b]
    have helt : ∀ s, evE G (callF G k) (callF G (k - 1)) (.var 11) (env.set 11 (some (.p (.str x)))) s = .ok (.p (.str x)) s := fun s => by
      simp only [ev_var, h2, opt_some]
    by_cases h0 : r = 0
    · obtain ⟨c', acc', g', hs, hr⟩ := keysL hk (rest := rest) he ok hok ks c1 (acc ++ [x]) g1 (by simp; omega)
      refine ⟨c', x :: acc', g', hs.cons_cons x, ?_⟩
      have hg : (c1 :: (rest ++ [Cell.lst ((acc.map P.str).map D.p)]))[rest.length + 1]? = some (.lst ((acc.map P.str).map D.p)) := by simp
      have hset : (c1 :: (rest ++ [Cell.lst ((acc.map P.str).map D.p)])).set (rest.length + 1) (.lst ((acc.map P.str).map D.p ++ [.p (.str x)])) = c1 :: (rest ++ [.lst (((acc ++ [x]).map P.str).map D.p)]) := by simp
      simp only [List.map_cons, lcL, hok, if_true, setTg, hcond, h0, decide_true, R.calm_ok, R.bind_ok, helt, hg, List.length_map]
      rw [if_pos (by simp only [line]; omega), hset, hr]
      simp
    · obtain ⟨c', acc', g', hs, hr⟩ := keysL hk (rest := rest) he ok hok ks c1 acc g1 (by omega)
      refine ⟨c', acc', g', hs.trans (List.sublist_cons_self x ks), ?_⟩
      simp only [List.map_cons, lcL, hok, if_true, setTg, hcond, h0, decide_false, R.calm_ok, R.bind_ok, Bool.false_eq_true, if_false, hr]
theorem KEYS_sub {ks : List Txt} (h : ks.Sublist KEYS) : areKeys ks = true := by
  obtain ⟨h1, h2⟩ := subl_rising h
  simp only [areKeys, Bool.and_eq_true, decide_eq_true_eq, List.all_eq_true]
  exact ⟨⟨by omega, fun x hx => KEYS_ok (h.subset hx)⟩, h1⟩
theorem idxM (ws : List Txt) {ps : List P} (hp : ps = ws.map P.str) {r : Int} (h0 : 0 ≤ r) (h1 : r < ws.length) : ∃ v, decide (v ∈ ws) = true ∧ idxP (.lst ps) (.int r) = some (.str v) := by
  subst hp
  obtain ⟨v, hv, h⟩ := idxW ws h0 h1
  exact ⟨v, by simpa using hv, h⟩
set_option maxHeartbeats 0 in
theorem question {ws : List Txt} (hw : ∀ w ∈ ws, isWord w = true) (hw1 : 1 ≤ ws.length) (hw2 : ws.length ≤ 100) : ∀ (n : Nat) {k : Nat} {c : Cell} {rest : Sto} {z : Int}, z = n → n + 4 ≤ k → Good c → Flat rest → ∃ (q : Q) (c' : Cell), Good c' ∧ GQ n q ∧ callF G k 49 [.ref 0, .p (.lst (strsP ws)), .p (.int 199), .p (.int z)] (c :: rest) = .ok (.p q.P) (c' :: rest) := by
  intro n
  induction n with
  | zero =>
    intro k c rest z hz hk hc hr
    subst hz
    obtain ⟨k, rfl⟩ := Nat.exists_eq_add_of_le' (by omega : 1 ≤ k)
    obtain ⟨kd, c1, g1, a1, a2, a3⟩ := off (k := k) (by omega) hc (u := 7) (by decide) (by decide) rest
    obtain ⟨sp, c2, g2, b1, b2, b3⟩ := off (k := k) (by omega) g1 (u := 200) (by decide) (by decide) rest
    obtain ⟨r, c3, g3, d1, d2, d3⟩ := off (k := k) (by omega) g2 (u := 2) (by decide) (by decide) rest
    have hsp : inR (1 + sp) 1 200 = true := by simp only [inR, Bool.and_eq_true, decide_eq_true_eq]; omega
    by_cases h0 : r = 0
    · obtain ⟨p, c4, g4, e1, e2, e3⟩ := picker (k := k) (by omega) g3 hr (ws := ws) (fun w h => .inr (hw w h)) hw1 hw2
      have hpw : p.okw = true := by
        have := word_ne (hw _ e2)
        simp [Pk.okw, e1, this]
      refine ⟨.at p (1 + sp), c4, g4, ⟨by simp only [Q.form, hpw, hsp, Bool.and_self], rfl, rfl, by simp [Q.size], by simp [Q.depth]⟩, ?_⟩
      rw [call_eq (fd := f__law_question) rfl rfl]
      have hfin := finG0 (c := c) (c' := c4) (rest := rest) (x := Q.P (.at p (1 + sp))) (Flat.cons g4.flat hr)
      simp only [Q.P] at hfin
      simp [f__law_question, a3, b3, d3, h0, e3, hfin, Q.P]
    · obtain ⟨r7, c4, g4, f1, f2, f3⟩ := off (k := k) (by omega) g3 (u := 7) (by decide) (by decide) rest
      obtain ⟨how, hh, hid⟩ := idxM FOLDS rfl f1 (by simpa [FOLDS] using f2)
      simp only [FOLDS, List.map_cons, List.map_nil] at hid
      obtain ⟨p, c5, g5, e1, e2, e3⟩ := picker (k := k) (by omega) g4 hr (ws := ws) (fun w h => .inr (hw w h)) hw1 hw2
      have hpw : p.okw = true := by
        have := word_ne (hw _ e2)
        simp [Pk.okw, e1, this]
      refine ⟨.over how p (1 + sp), c5, g5, ⟨by simp only [Q.form, hh, hpw, hsp, Bool.and_self], rfl, rfl, by simp [Q.size], by simp [Q.depth]⟩, ?_⟩
      rw [call_eq (fd := f__law_question) rfl rfl]
      have hfin := finG0 (c := c) (c' := c5) (rest := rest) (x := Q.P (.over how p (1 + sp))) (Flat.cons g5.flat hr)
      simp only [Q.P] at hfin
      simp [f__law_question, a3, b3, d3, h0, f3, hid, e3, hfin, Q.P]
  | succ n ih =>
    intro k c rest z hz hk hc hr
    obtain ⟨k, rfl⟩ := Nat.exists_eq_add_of_le' (by omega : 1 ≤ k)
    have hz1 : ¬ z < 1 := by omega
    obtain ⟨kd, c1, g1, a1, a2, a3⟩ := off (k := k) (by omega) hc (u := 7) (by decide) (by decide) rest
    obtain ⟨sp, c2, g2, b1, b2, b3⟩ := off (k := k) (by omega) g1 (u := 200) (by decide) (by decide) rest
    have hsp : inR (1 + sp) 1 200 = true := by simp only [inR, Bool.and_eq_true, decide_eq_true_eq]; omega
    have hp1 := pow1 n
    have hp2 : 2 ^ (n + 1 + 1) = 2 * 2 ^ (n + 1) := by rw [Nat.pow_succ]; omega
    by_cases hk2 : kd < 2
    · obtain ⟨r, c3, g3, d1, d2, d3⟩ := off (k := k) (by omega) g2 (u := 2) (by decide) (by decide) rest
      by_cases h0 : r = 0
      · obtain ⟨p, c4, g4, e1, e2, e3⟩ := picker (k := k) (by omega) g3 hr (ws := ws) (fun w h => .inr (hw w h)) hw1 hw2
        have hpw : p.okw = true := by
          have := word_ne (hw _ e2)
          simp [Pk.okw, e1, this]
        refine ⟨.at p (1 + sp), c4, g4, ⟨by simp only [Q.form, hpw, hsp, Bool.and_self], rfl, rfl, by simp only [Q.size]; omega, by simp [Q.depth]⟩, ?_⟩
        rw [call_eq (fd := f__law_question) rfl rfl]
        have hfin := finG0 (c := c) (c' := c4) (rest := rest) (x := Q.P (.at p (1 + sp))) (Flat.cons g4.flat hr)
        simp only [Q.P] at hfin
        simp [f__law_question, a3, b3, hz1, hk2, d3, h0, e3, hfin, Q.P]
      · obtain ⟨r7, c4, g4, f1, f2, f3⟩ := off (k := k) (by omega) g3 (u := 7) (by decide) (by decide) rest
        obtain ⟨how, hh, hid⟩ := idxM FOLDS rfl f1 (by simpa [FOLDS] using f2)
        simp only [FOLDS, List.map_cons, List.map_nil] at hid
        obtain ⟨p, c5, g5, e1, e2, e3⟩ := picker (k := k) (by omega) g4 hr (ws := ws) (fun w h => .inr (hw w h)) hw1 hw2
        have hpw : p.okw = true := by
          have := word_ne (hw _ e2)
          simp [Pk.okw, e1, this]
        refine ⟨.over how p (1 + sp), c5, g5, ⟨by simp only [Q.form, hh, hpw, hsp, Bool.and_self], rfl, rfl, by simp only [Q.size]; omega, by simp [Q.depth]⟩, ?_⟩
        rw [call_eq (fd := f__law_question) rfl rfl]
        have hfin := finG0 (c := c) (c' := c5) (rest := rest) (x := Q.P (.over how p (1 + sp))) (Flat.cons g5.flat hr)
        simp only [Q.P] at hfin
        simp [f__law_question, a3, b3, hz1, hk2, d3, h0, f3, hid, e3, hfin, Q.P]
    · obtain ⟨q1, c3, g3, i1, i2⟩ := ih (z := z - 1) (k := k) (by omega) (by omega) g2 hr
      obtain ⟨nb, c4, g4, j1, j2, j3⟩ := off (k := k) (by omega) g3 (u := 41) (by decide) (by decide) rest
      have hnb : inR (nb - 20) (-1000000) 1000000 = true := by simp only [inR, Bool.and_eq_true, decide_eq_true_eq]; omega
      have hs1 := i1.size
      have hd1 := i1.depth
      by_cases hk4 : kd < 4
      · obtain ⟨r5, c5, g5, f1, f2, f3⟩ := off (k := k) (by omega) g4 (u := 5) (by decide) (by decide) rest
        obtain ⟨how, hh, hid⟩ := idxM JOINS rfl f1 (by simpa [JOINS] using f2)
        simp only [JOINS, List.map_cons, List.map_nil] at hid
        obtain ⟨r2, c6, g6, l1, l2, l3⟩ := off (k := k) (by omega) g5 (u := 2) (by decide) (by decide) rest
        have key : ∀ (q2 : Q) (c7 : Cell), Good c7 → q2.form = true → q2.inner = true → q2.size + 1 ≤ 2 ^ (n + 1) → q2.depth ≤ n → (r2 = 0 → callF G k 49 [.ref 0, .p (.lst (strsP ws)), .p (.int 199), .p (.int (z - 1))] (c6 :: rest) = .ok (.p q2.P) (c7 :: rest)) → (r2 ≠ 0 → q2 = .num (nb - 20) ∧ c7 = c6) →
            ∃ (q : Q) (c' : Cell), Good c' ∧ GQ (n + 1) q ∧ callF G (k + 1) 49 [.ref 0, .p (.lst (strsP ws)), .p (.int 199), .p (.int z)] (c :: rest) = .ok (.p q.P) (c' :: rest) := by
          intro q2 c7 g7 m1 m2 m3 m4 m5 m6
          obtain ⟨r3, c8, g8, o1, o2, o3⟩ := off (k := k) (by omega) g7 (u := 3) (by decide) (by decide) rest
          have hmk : ∀ x, finish 0 (c :: rest) (.ret (.p x) (c8 :: rest)) = .ok (.p x) (c8 :: rest) := fun x => finG0 (Flat.cons g8.flat hr)
          by_cases h3 : 0 < r3
          · refine ⟨.join how q1 q2, c8, g8, ⟨hh, by simp only [Q.inner, i1.inner, i1.form, m1, m2, Bool.and_self], by simp only [Q.rows, i1.rows, Bool.true_or], by simp only [Q.size]; omega, by simp only [Q.depth]; omega⟩, ?_⟩
            rw [call_eq (fd := f__law_question) rfl rfl]
            by_cases h0 : r2 = 0
            · simp [f__law_question, a3, b3, hz1, hk2, i2, j3, hk4, f3, hid, l3, h0, m5 h0, o3, h3, hmk, Q.P]
            · obtain ⟨rfl, rfl⟩ := m6 h0
              simp [f__law_question, a3, b3, hz1, hk2, i2, j3, hk4, f3, hid, l3, h0, o3, h3, hmk, Q.P]
          · refine ⟨.join how q2 q1, c8, g8, ⟨hh, by simp only [Q.inner, i1.inner, i1.form, m1, m2, Bool.and_self], by simp only [Q.rows, i1.rows, Bool.or_true], by simp only [Q.size]; omega, by simp only [Q.depth]; omega⟩, ?_⟩
            rw [call_eq (fd := f__law_question) rfl rfl]
            by_cases h0 : r2 = 0
            · simp [f__law_question, a3, b3, hz1, hk2, i2, j3, hk4, f3, hid, l3, h0, m5 h0, o3, h3, hmk, Q.P]
            · obtain ⟨rfl, rfl⟩ := m6 h0
              simp [f__law_question, a3, b3, hz1, hk2, i2, j3, hk4, f3, hid, l3, h0, o3, h3, hmk, Q.P]
        by_cases h0 : r2 = 0
        · obtain ⟨q2, c7, g7, i3, i4⟩ := ih (z := z - 1) (k := k) (by omega) (by omega) g6 hr
          exact key q2 c7 g7 i3.form i3.inner i3.size i3.depth (fun _ => i4) (fun h => absurd h0 h)
        · exact key (.num (nb - 20)) c6 g6 hnb rfl (by simp only [Q.size]; omega) (by simp [Q.depth]) (fun h => absurd h h0) (fun _ => ⟨rfl, rfl⟩)
      · by_cases hk44 : kd = 4
        · have hz1' := hz1
          obtain ⟨c5, ks, g5, hsub, hkl⟩ := keysL (k := k) (by omega) (rest := rest) (env := [some (.ref 0), some (.p (.lst (strsP ws))), some (.p (.int 199)), some (.p (.int z)), some (.p (.int kd)), some (.p (.int (1 + sp))), none, some (.p q1.P), some (.p (.int (nb - 20))), none, none, none]) (fun x => ⟨_, rfl, by cases x <;> rfl⟩) (fun _ => true) (fun _ => rfl) KEYS c4 [] g4 (by simp [KEYS])
          have hks := KEYS_sub hsub
          have hlc : evE G (callF G k) (callF G (k - 1)) (.lc true [11] (.name 11) .seq [(.lst false [(.con (.str [97])), (.con (.str [98])), (.con (.str [114, 111, 111, 109]))])] [(.cmp .eq (.call 43 [(.var 0), (.con (.int 2))]) (.con (.int 0)))] (.var 11)) [some (.ref 0), some (.p (.lst (strsP ws))), some (.p (.int 199)), some (.p (.int z)), some (.p (.int kd)), some (.p (.int (1 + sp))), none, some (.p q1.P), some (.p (.int (nb - 20))), none, none, none] (c4 :: rest) = .ok (.ref (rest.length + 1)) (c5 :: (rest ++ [.lst ((ks.map P.str).map D.p)])) := by
            rw [ev_lc]
            have e1 : evEs G (callF G k) (callF G (k - 1)) [(.lst false [(.con (.str [97])), (.con (.str [98])), (.con (.str [114, 111, 111, 109]))])] [some (.ref 0), some (.p (.lst (strsP ws))), some (.p (.int 199)), some (.p (.int z)), some (.p (.int kd)), some (.p (.int (1 + sp))), none, some (.p q1.P), some (.p (.int (nb - 20))), none, none, none] (c4 :: rest) = .ok [.p (.lst [.str [97], .str [98], .str [114, 111, 111, 109]])] (c4 :: rest) := by simp
            rw [e1]
            simp only [R.bind_ok, items_lst]
            have e2 : (fun s' => stands ItK.seq [D.p (P.lst [.str [97], .str [98], .str [114, 111, 111, 109]])] (c4 :: rest) s') = fun _ => true := by funext s'; exact stands_p _ _ _ _
            rw [e2]
            simp only [List.map_nil, List.nil_append, KEYS, List.map_cons] at hkl
            simp only [wipeE, List.set, List.length_cons, List.cons_append, List.map_cons, List.map_nil, hkl, R.bind_ok, lcDone, if_true]
          obtain ⟨r4, c6, g6, o1, o2, o3⟩ := off (k := k) (by omega) g5 (u := 4) (by decide) (by decide) (rest ++ [.lst ((ks.map P.str).map D.p)])
          obtain ⟨how, hh, hid⟩ := idxM GROUPS rfl o1 (by simpa [GROUPS] using o2)
          simp only [GROUPS, List.map_cons, List.map_nil] at hid
          have hgS : (c6 :: (rest ++ [Cell.lst ((ks.map P.str).map D.p)]))[rest.length + 1]? = some (.lst ((ks.map P.str).map D.p)) := by simp
          have hvw := views_ref hgS []
          simp only [views_nil, Option.map_some] at hvw
          refine ⟨.by how ks q1, c6, g6, ⟨by simp only [Q.form, hh, hks, Bool.and_self], by simp only [Q.inner, i1.inner, i1.form, i1.rows, Bool.and_self], rfl, by simp only [Q.size]; omega, by simp only [Q.depth]; omega⟩, ?_⟩
          rw [call_eq (fd := f__law_question) rfl rfl]
          have hfin := finG (c := c) (c' := c6) (rest := rest) (g := [.lst ((ks.map P.str).map D.p)]) (x := Q.P (.by how ks q1)) (Flat.cons g6.flat hr)
          simp only [Q.P, strsP] at hfin
          simp only [Q.P, strsP] at a3 b3 i2 hlc ⊢
          generalize (ks.map P.str).map D.p = X at *
          generalize ks.map P.str = Y at *
          subst hk44
          simp [f__law_question, a3, b3, hz1, i2, j3, hlc, o3, hid, hvw, Q.P, strsP]
          simpa using hfin
        · by_cases hk5 : kd = 5
          · obtain ⟨r3, c5, g5, o1, o2, o3⟩ := off (k := k) (by omega) g4 (u := 3) (by decide) (by decide) rest
            obtain ⟨how, hh, hid⟩ := idxM SIDES rfl o1 (by simpa [SIDES] using o2)
            simp only [SIDES, List.map_cons, List.map_nil] at hid
            refine ⟨.whr how (nb - 20) q1, c5, g5, ⟨by simp only [Q.form, hh, hnb, Bool.and_self], by simp only [Q.inner, i1.inner, i1.form, i1.rows, Bool.and_self], rfl, by simp only [Q.size]; omega, by simp only [Q.depth]; omega⟩, ?_⟩
            rw [call_eq (fd := f__law_question) rfl rfl]
            have hfin := finG0 (c := c) (c' := c5) (rest := rest) (x := Q.P (.whr how (nb - 20) q1)) (Flat.cons g5.flat hr)
            simp only [Q.P] at hfin
            subst hk5
            simp [f__law_question, a3, b3, hz1, i2, j3, o3, hid, hfin, Q.P]
          · obtain ⟨r4, c5, g5, o1, o2, o3⟩ := off (k := k) (by omega) g4 (u := 4) (by decide) (by decide) rest
            refine ⟨.rank (1 + r4) q1, c5, g5, ⟨by simp only [Q.form, inR, Bool.and_eq_true, decide_eq_true_eq]; omega, by simp only [Q.inner, i1.inner, i1.form, i1.rows, Bool.and_self], rfl, by simp only [Q.size]; omega, by simp only [Q.depth]; omega⟩, ?_⟩
            rw [call_eq (fd := f__law_question) rfl rfl]
            have hfin := finG0 (c := c) (c' := c5) (rest := rest) (x := Q.P (.rank (1 + r4) q1)) (Flat.cons g5.flat hr)
            simp only [Q.P] at hfin
            simp [f__law_question, a3, b3, hz1, hk2, hk4, hk44, hk5, i2, j3, o3, hfin, Q.P]
end
end K73
end T_V18
section T_V19
set_option linter.all false
set_option Elab.async false
set_option maxRecDepth 100000
namespace K73
open TH
section
variable {k : Nat}
theorem DWORDS_ok {x : Txt} (h : x ∈ [[119, 101, 116], [100, 114, 121], [119, 97, 114, 109], [119, 105, 100, 101]]) : isWord x = true := by
  have : ∀ x ∈ ([[119, 101, 116], [100, 114, 121], [119, 97, 114, 109], [119, 105, 100, 101]] : List Txt), isWord x = true := by decide
  exact this x h
set_option maxHeartbeats 0 in
theorem deed {ws : List Txt} (hw : ∀ w ∈ ws, isWord w = true) (hw1 : 1 ≤ ws.length) (hw2 : ws.length ≤ 99) (hk : 9 ≤ k) {c : Cell} (hc : Good c) {rest : Sto} (hr : Flat rest) : ∃ (d : Dd) (c' : Cell), Good c' ∧ d.ok ∧ callF G k 52 [.ref 0, .p (.lst (strsP ws))] (c :: rest) = .ok (.p d.P) (c' :: rest) := by
  obtain ⟨k, rfl⟩ := Nat.exists_eq_add_of_le' (by omega : 1 ≤ k)
  obtain ⟨kd, c1, g1, a1, a2, a3⟩ := off (k := k) (by omega) hc (u := 8) (by decide) (by decide) rest
  obtain ⟨r4, c2, g2, b1, b2, b3⟩ := off (k := k) (by omega) g1 (u := 4) (by decide) (by decide) rest
  obtain ⟨w, hwm, hidw⟩ := idxW [[119, 101, 116], [100, 114, 121], [119, 97, 114, 109], [119, 105, 100, 101]] b1 (by simpa using b2)
  have hwd := DWORDS_ok hwm
  simp only [List.map_cons, List.map_nil] at hidw
  by_cases k0 : kd = 0
  · obtain ⟨n, c3, g3, e1, e2⟩ := name (k := k) (by omega) g2 hr hw hw1 (by omega)
    obtain ⟨t, c4, g4, f1, f2, f3⟩ := off (k := k) (by omega) g3 (u := 10000) (by decide) (by decide) rest
    obtain ⟨wt, c5, g5, i1, i2⟩ := number (k := k) (by omega) g4 hr
    refine ⟨.tell n t wt, c5, g5, ⟨e1, by simp only [inR, Bool.and_eq_true, decide_eq_true_eq]; omega, i1⟩, ?_⟩
    rw [call_eq (fd := f__law_deed) rfl rfl]
    have hfin := finG0 (c := c) (c' := c5) (rest := rest) (x := Dd.P (.tell n t wt)) (Flat.cons g5.flat hr)
    simp only [Dd.P] at hfin
    subst k0
    simp [f__law_deed, a3, b3, hidw, e2, f3, i2, hfin, Dd.P]
  by_cases k1 : kd = 1
  · obtain ⟨t, c4, g4, f1, f2, f3⟩ := off (k := k) (by omega) g2 (u := 100000) (by decide) (by decide) rest
    refine ⟨.strike t, c4, g4, by simp only [Dd.ok, inR, Bool.and_eq_true, decide_eq_true_eq]; omega, ?_⟩
    rw [call_eq (fd := f__law_deed) rfl rfl]
    have hfin := finG0 (c := c) (c' := c4) (rest := rest) (x := Dd.P (.strike t)) (Flat.cons g4.flat hr)
    simp only [Dd.P] at hfin
    subst k1
    simp [f__law_deed, a3, b3, hidw, f3, hfin, Dd.P]
  by_cases k2 : kd = 2
  · obtain ⟨t1, c3, g3, e1, e2, e3⟩ := off (k := k) (by omega) g2 (u := 9) (by decide) (by decide) rest
    obtain ⟨t2, c4, g4, f1, f2, f3⟩ := off (k := k) (by omega) g3 (u := 10000) (by decide) (by decide) rest
    obtain ⟨j, c5, g5, i1, i2, i3⟩ := off (k := k) (by omega) g4 (u := 2) (by decide) (by decide) rest
    have hj : j = 0 ∨ j = 1 := by omega
    have hid : ∃ t, (t = t1 ∨ t = t2) ∧ idxP (.lst [.int t1, .int t2]) (.int j) = some (.int t) := by
      rcases hj with rfl | rfl
      · exact ⟨t1, .inl rfl, idxl_0 _ _⟩
      · exact ⟨t2, .inr rfl, idxl_1 _ _ _⟩
    obtain ⟨t, ht, hid⟩ := hid
    refine ⟨.turn t, c5, g5, by simp only [Dd.ok, inR, Bool.and_eq_true, decide_eq_true_eq]; omega, ?_⟩
    rw [call_eq (fd := f__law_deed) rfl rfl]
    have hfin := finG0 (c := c) (c' := c5) (rest := rest) (x := Dd.P (.turn t)) (Flat.cons g5.flat hr)
    simp only [Dd.P] at hfin
    subst k2
    simp [f__law_deed, a3, b3, hidw, e3, f3, i3, hid, hfin, Dd.P]
  by_cases k3 : kd = 3
  · obtain ⟨q, c3, g3, e1, e2⟩ := question hw hw1 (by omega) 3 (z := 3) (k := k) rfl (by omega) g2 hr
    obtain ⟨t, c4, g4, f1, f2, f3⟩ := off (k := k) (by omega) g3 (u := 60) (by decide) (by decide) rest
    refine ⟨.write w q (1 + t), c4, g4, ⟨hwd, e1.ok (by decide), by simp only [inR, Bool.and_eq_true, decide_eq_true_eq]; omega⟩, ?_⟩
    rw [call_eq (fd := f__law_deed) rfl rfl]
    have hfin := finG0 (c := c) (c' := c4) (rest := rest) (x := Dd.P (.write w q (1 + t))) (Flat.cons g4.flat hr)
    simp only [Dd.P] at hfin
    subst k3
    simp [f__law_deed, a3, b3, hidw, e2, f3, hfin, Dd.P]
  by_cases k4 : kd = 4
  · obtain ⟨r2, c3, g3, e1, e2, e3⟩ := off (k := k) (by omega) g2 (u := 2) (by decide) (by decide) rest
    obtain ⟨h, hh, hidh⟩ := idxW HOWS e1 (by simpa [HOWS] using e2)
    simp only [HOWS, List.map_cons, List.map_nil] at hidh
    obtain ⟨q, c4, g4, i1, i2⟩ := question hw hw1 (by omega) 3 (z := 3) (k := k) rfl (by omega) g3 hr
    obtain ⟨b, c5, g5, j1, j2⟩ := number (k := k) (by omega) g4 hr
    obtain ⟨t, c6, g6, f1, f2, f3⟩ := off (k := k) (by omega) g5 (u := 60) (by decide) (by decide) rest
    refine ⟨.wake w q h b (1 + t), c6, g6, ⟨hwd, i1.ok (by decide), hh, j1, by simp only [inR, Bool.and_eq_true, decide_eq_true_eq]; omega⟩, ?_⟩
    rw [call_eq (fd := f__law_deed) rfl rfl]
    have hfin := finG0 (c := c) (c' := c6) (rest := rest) (x := Dd.P (.wake w q h b (1 + t))) (Flat.cons g6.flat hr)
    simp only [Dd.P] at hfin
    subst k4
    simp [f__law_deed, a3, b3, hidw, e3, hidh, i2, j2, f3, hfin, Dd.P]
  by_cases k5 : kd = 5
  · obtain ⟨t, c3, g3, e1, e2, e3⟩ := off (k := k) (by omega) g2 (u := 10000) (by decide) (by decide) rest
    obtain ⟨p, c4, g4, i1, i2, i3⟩ := picker (k := k) (by omega) g3 hr (ws := ws ++ [[]]) (fun w h => by
      rcases List.mem_append.mp h with h | h
      · exact .inr (hw w h)
      · exact .inl (by simpa using h)) (by simp) (by simp; omega)
    obtain ⟨u, c5, g5, j1, j2, j3⟩ := off (k := k) (by omega) g4 (u := 10000 - t) (by omega) (by omega) rest
    have hadd : binP .add (.lst (strsP ws)) (.lst [.str []]) = some (.lst (strsP (ws ++ [[]]))) := by
      simp only [binP]; rw [if_pos (le_line (by simp; omega))]; simp [strsP]
    refine ⟨.silence p t (t + u), c5, g5, ⟨i1, by simp only [inR, Bool.and_eq_true, decide_eq_true_eq]; omega, by simp only [inR, Bool.and_eq_true, decide_eq_true_eq]; omega, by omega⟩, ?_⟩
    rw [call_eq (fd := f__law_deed) rfl rfl]
    have hfin := finG0 (c := c) (c' := c5) (rest := rest) (x := Dd.P (.silence p t (t + u))) (Flat.cons g5.flat hr)
    simp only [Dd.P] at hfin
    subst k5
    simp [f__law_deed, a3, b3, hidw, e3, hadd, i3, j3, hfin, Dd.P]
  by_cases k6 : kd = 6
  · refine ⟨.rest w, c2, g2, hwd, ?_⟩
    rw [call_eq (fd := f__law_deed) rfl rfl]
    have hfin := finG0 (c := c) (c' := c2) (rest := rest) (x := Dd.P (.rest w)) (Flat.cons g2.flat hr)
    simp only [Dd.P] at hfin
    subst k6
    simp [f__law_deed, a3, b3, hidw, hfin, Dd.P]
  · obtain ⟨t, c4, g4, f1, f2, f3⟩ := off (k := k) (by omega) g2 (u := 100000) (by decide) (by decide) rest
    refine ⟨.lift t, c4, g4, by simp only [Dd.ok, inR, Bool.and_eq_true, decide_eq_true_eq]; omega, ?_⟩
    rw [call_eq (fd := f__law_deed) rfl rfl]
    have hfin := finG0 (c := c) (c' := c4) (rest := rest) (x := Dd.P (.lift t)) (Flat.cons g4.flat hr)
    simp only [Dd.P] at hfin
    simp [f__law_deed, a3, b3, hidw, k0, k1, k2, k3, k4, k5, k6, f3, hfin, Dd.P]
end
end K73
end T_V19
section T_V20
set_option linter.all false
set_option Elab.async false
set_option maxRecDepth 100000
namespace K73
open TH
abbrev cDs (ds : List Dd) : Cell := .lst ((ds.map Dd.P).map D.p)
abbrev WS3 : List Txt := [[108, 111, 97, 100], [116, 101, 109, 112], [119, 101, 116]]
abbrev WS2 : List Txt := [[108, 111, 97, 100], [116, 101, 109, 112]]
section
variable {k : Nat}
/-- the deeds that are drawn -/
theorem deedsL (hk : 9 ≤ k) {a0 : Option D} {r0 : Env} : ∀ (is : List Nat) (c : Cell) (acc : List Dd), Good c → (∀ d ∈ acc, d.ok) → acc.length + is.length ≤ 100 → ∃ (c' : Cell) (acc' : List Dd), Good c' ∧ (∀ d ∈ acc', d.ok) ∧ acc'.length = is.length ∧
    lcL (.name 6) (fun env' => evC G (callF G k) (callF G (k - 1)) [] env') (fun env' => evE G (callF G k) (callF G (k - 1)) (.call 52 [(.var 1), (.lst false [(.con (.str [108, 111, 97, 100])), (.con (.str [116, 101, 109, 112])), (.con (.str [119, 101, 116]))])]) env') (fun _ => true) 1 (a0 :: some (.ref 0) :: r0) (is.map fun (i : Nat) => D.p (.int (i : Int))) [c, cDs acc] = .ok () [c', cDs (acc ++ acc')]
  | [], c, acc, g, _, _ => ⟨c, [], g, by simp, rfl, by simp [lcL]⟩
  | i :: is, c, acc, g, ha, hl => by
    simp only [List.length_cons] at hl
    obtain ⟨d, c1, g1, h1, h2⟩ := deed (ws := WS3) (k := k) (by decide) (by decide) (by decide) hk g (rest := [cDs acc]) (.one (flatC_lst _))
    obtain ⟨c', acc', g', h3, h4, h5⟩ := deedsL hk (a0 := a0) (r0 := r0) is c1 (acc ++ [d]) g1 (fun x hx => by
      rcases List.mem_append.mp hx with hx | hx
      · exact ha x hx
      · simp at hx; subst hx; exact h1) (by simp; omega)
    refine ⟨c', d :: acc', g', fun x hx => by
      rcases List.mem_cons.mp hx with rfl | hx
      · exact h1
      · exact h3 x hx, by simp [h4], ?_⟩
    simp only [strsP, List.map_cons, List.map_nil] at h2
    have hset : [c1, cDs acc].set 1 (.lst ((acc.map Dd.P).map D.p ++ [.p d.P])) = [c1, cDs (acc ++ [d])] := by simp
    simp only [List.map_cons, lcL, if_true, setTg, List.set_cons_succ, evC_nil, R.calm_ok, R.bind_ok, ev_call, ev_cons, ev_var, getV_z, getV_s, opt_some, ev_lst, ev_nil, ev_con, lcEnd_false (ys := [.p (.str [108, 111, 97, 100]), .p (.str [116, 101, 109, 112]), .p (.str [119, 101, 116])]) _ _ rfl, h2, List.getElem?_cons_succ, List.getElem?_cons_zero, List.length_map]
    rw [if_pos (by simp only [line]; omega)]
    have : [c1, cDs acc].set 1 (.lst ((acc.map Dd.P).map D.p ++ [.p d.P])) = [c1, cDs (acc ++ [d])] := hset
    simp only [List.set_cons_succ, List.set_cons_zero] at this ⊢
    rw [this, h5]
    simp
/-- conditions out of data -/
def unCd : P → Cd
  | .tup [.str k, .str h, .tup vs] => ⟨k, h, vs.map unstr⟩
  | _ => ⟨[], [], []⟩
theorem unCd_P (c : Cd) : unCd c.P = c := by
  have : (strsP c.vals).map unstr = c.vals := by
    rw [strsP, List.map_map]
    conv => rhs; rw [← List.map_id c.vals]
    exact List.map_congr_left fun _ _ => rfl
  simp only [unCd, Cd.P, this]
def FOURc : List Cd := [⟨[97], [105, 110], [[120], [121]]⟩, ⟨[98], [111, 117, 116], [[49]]⟩, ⟨[97], [111, 117, 116], [[120]]⟩, ⟨[114, 111, 111, 109], [111, 117, 116], [[48], [120], [121], [122, 122]]⟩]
theorem FOURc_ok : ∀ c ∈ FOURc, c.ok = true := by
  intro c hc
  simp only [FOURc, List.mem_cons, List.not_mem_nil, or_false] at hc
  rcases hc with rfl | rfl | rfl | rfl <;> decide
theorem four_perm {xs : List P} (h : xs.Perm (FOURc.map Cd.P)) : ∃ cs : List Cd, xs = cs.map Cd.P ∧ cs.length = 4 ∧ ∀ c ∈ cs, c.ok = true := by
  refine ⟨xs.map unCd, ?_, by have := h.length_eq; simpa [FOURc] using this, ?_⟩
  · rw [List.map_map]
    conv => lhs; rw [← List.map_id xs]
    refine List.map_congr_left fun q hq => ?_
    obtain ⟨c, _, rfl⟩ := List.mem_map.mp (h.mem_iff.mp hq)
    simp [unCd_P]
  · intro c hc
    obtain ⟨q, hq, rfl⟩ := List.mem_map.mp hc
    obtain ⟨c, hc', rfl⟩ := List.mem_map.mp (h.mem_iff.mp hq)
    rw [unCd_P]
    exact FOURc_ok c hc'
/-! ### how deep the data lies -/
theorem Al_strs {xs : List Txt} (h : xs.length < 1000) : Al 1 (.tup (strsP xs)) := .tup (fun x hx => by
  obtain ⟨t, _, rfl⟩ := List.mem_map.mp hx
  exact .str 0 t) (by simpa using h)
theorem Al_cd {c : Cd} (h : c.ok = true) : Al 2 c.P := .tup (fun x hx => by
  simp only [List.mem_cons, List.not_mem_nil, or_false] at hx
  rcases hx with rfl | rfl | rfl
  · exact .str 1 _
  · exact .str 1 _
  · exact Al_strs (by have := (Cd.parts h).2.1; omega)) (by simp)
theorem Al_pk {p : Pk} (h : p.ok = true) : Al 4 p.P := .tup (fun x hx => by
  simp only [List.mem_cons, List.not_mem_nil, or_false] at hx
  rcases hx with rfl | rfl
  · exact .str 3 _
  · refine .tup (fun y hy => ?_) (by have := (Pk.parts h).2.1; simp; omega)
    obtain ⟨c, hc, rfl⟩ := List.mem_map.mp hy
    exact Al_cd ((Pk.parts h).2.2 c hc)) (by simp)
theorem Al_nm {n : Nm} (h : n.ok = true) : Al 3 n.P := .tup (fun x hx => by
  simp only [List.mem_cons, List.not_mem_nil, or_false] at hx
  rcases hx with rfl | rfl
  · exact .str 2 _
  · refine .tup (fun y hy => ?_) (by have := (Nm.tag_len h).2.1; simp; omega)
    obtain ⟨t, ht, rfl⟩ := List.mem_map.mp hy
    refine .tup (fun z hz => ?_) (by simp)
    simp only [List.mem_cons, List.not_mem_nil, or_false] at hz
    rcases hz with rfl | rfl <;> exact .str 0 _) (by simp)
theorem Al_q : ∀ {q : Q}, q.form = true → q.inner = true → Al (q.depth + 5) q.P
  | .num n, h, _ => .tup (fun x hx => by
    simp only [List.mem_cons, List.not_mem_nil, or_false] at hx
    rcases hx with rfl | rfl
    · exact .str _ _
    · exact .int _ _) (by simp)
  | .at p n, h, _ => .tup (fun x hx => by
    simp only [Q.form, Pk.okw, Bool.and_eq_true] at h
    simp only [List.mem_cons, List.not_mem_nil, or_false] at hx
    rcases hx with rfl | rfl | rfl
    · exact .str _ _
    · exact Al_pk h.1.1
    · exact .int _ _) (by simp)
  | .over w p n, h, _ => .tup (fun x hx => by
    simp only [Q.form, Pk.okw, Bool.and_eq_true] at h
    simp only [List.mem_cons, List.not_mem_nil, or_false] at hx
    rcases hx with rfl | rfl | rfl | rfl
    · exact .str _ _
    · exact .str _ _
    · exact Al_pk h.2.1.1
    · exact .int _ _) (by simp)
  | .join w a b, h, hi => by
    simp only [Q.inner, Bool.and_eq_true] at hi
    have h1 := Al_q hi.1.2 hi.1.1
    have h2 := Al_q hi.2.2 hi.2.1
    have e : (Q.join w a b).depth + 5 = max a.depth b.depth + 5 + 1 := by simp only [Q.depth]; omega
    rw [e]
    refine .tup (fun x hx => ?_) (by simp)
    simp only [List.mem_cons, List.not_mem_nil, or_false] at hx
    rcases hx with rfl | rfl | rfl | rfl
    · exact .str _ _
    · exact .str _ _
    · exact h1.mono (by omega)
    · exact h2.mono (by omega)
  | .by w ks q, h, hi => by
    simp only [Q.form, Bool.and_eq_true] at h
    simp only [Q.inner, Bool.and_eq_true] at hi
    have h1 := Al_q hi.1.2 hi.1.1
    have e : (Q.by w ks q).depth + 5 = q.depth + 5 + 1 := by simp only [Q.depth]; omega
    rw [e]
    refine .tup (fun x hx => ?_) (by simp)
    simp only [List.mem_cons, List.not_mem_nil, or_false] at hx
    rcases hx with rfl | rfl | rfl | rfl
    · exact .str _ _
    · exact .str _ _
    · exact (Al_strs (by have := (keys_parts h.2).1; omega)).mono (by omega)
    · exact h1
  | .whr w n q, h, hi => by
    simp only [Q.inner, Bool.and_eq_true] at hi
    have h1 := Al_q hi.1.2 hi.1.1
    have e : (Q.whr w n q).depth + 5 = q.depth + 5 + 1 := by simp only [Q.depth]; omega
    rw [e]
    refine .tup (fun x hx => ?_) (by simp)
    simp only [List.mem_cons, List.not_mem_nil, or_false] at hx
    rcases hx with rfl | rfl | rfl | rfl
    · exact .str _ _
    · exact .str _ _
    · exact .int _ _
    · exact h1
  | .rank n q, h, hi => by
    simp only [Q.inner, Bool.and_eq_true] at hi
    have h1 := Al_q hi.1.2 hi.1.1
    have e : (Q.rank n q).depth + 5 = q.depth + 5 + 1 := by simp only [Q.depth]; omega
    rw [e]
    refine .tup (fun x hx => ?_) (by simp)
    simp only [List.mem_cons, List.not_mem_nil, or_false] at hx
    rcases hx with rfl | rfl | rfl
    · exact .str _ _
    · exact .int _ _
    · exact h1
theorem Al_dd {d : Dd} (h : d.ok) : Al 13 d.P := by
  have hq : ∀ q : Q, q.ok → Al 12 q.P := fun q hq => (Al_q hq.1 hq.2.1).mono (by have := hq.2.2.2.2; omega)
  cases d <;> simp only [Dd.ok] at h <;> refine .tup (fun x hx => ?_) (by simp) <;> simp only [List.mem_cons, List.not_mem_nil, or_false] at hx
  · rcases hx with rfl | rfl | rfl | rfl
    · exact .str _ _
    · exact (Al_nm h.1).mono (by omega)
    · exact .int _ _
    · exact .int _ _
  · rcases hx with rfl | rfl
    · exact .str _ _
    · exact .int _ _
  · rcases hx with rfl | rfl
    · exact .str _ _
    · exact .int _ _
  · rcases hx with rfl | rfl | rfl | rfl
    · exact .str _ _
    · exact .str _ _
    · exact hq _ h.2.1
    · exact .int _ _
  · rcases hx with rfl | rfl | rfl | rfl | rfl | rfl
    · exact .str _ _
    · exact .str _ _
    · exact hq _ h.2.1
    · exact .str _ _
    · exact .int _ _
    · exact .int _ _
  · rcases hx with rfl | rfl
    · exact .str _ _
    · exact .str _ _
  · rcases hx with rfl | rfl | rfl | rfl
    · exact .str _ _
    · exact (Al_pk h.1).mono (by omega)
    · exact .int _ _
    · exact .int _ _
  · rcases hx with rfl | rfl
    · exact .str _ _
    · exact .int _ _
end
end K73
end T_V20
section T_V21
set_option linter.all false
set_option Elab.async false
set_option maxRecDepth 100000
namespace K73
open TH
abbrev FOURp : P := .tup [.tup [.str [97], .str [105, 110], .tup [.str [120], .str [121]]], .tup [.str [98], .str [111, 117, 116], .tup [.str [49]]], .tup [.str [97], .str [111, 117, 116], .tup [.str [120]]], .tup [.str [114, 111, 111, 109], .str [111, 117, 116], .tup [.str [48], .str [120], .str [121], .str [122, 122]]]]
def ENDS : List Dd := [.tell ⟨[108, 111, 97, 100], []⟩ 9999 (-1000000), .strike 99999, .rest [97], .turn 0, .lift 0]
theorem ENDS_ok : ∀ d ∈ ENDS, d.ok := by
  intro d hd
  simp only [ENDS, List.mem_cons, List.not_mem_nil, or_false] at hd
  rcases hd with rfl | rfl | rfl | rfl | rfl
  · exact ⟨by decide, by decide, by decide⟩
  · exact (by decide : inR 99999 0 99999 = true)
  · exact (by decide : isWord [97] = true)
  · exact (by decide : inR 0 0 9999 = true)
  · exact (by decide : inR 0 0 99999 = true)
theorem rep_mem {n : Nat} {d : Dd} (h : d ∈ (List.replicate n ENDS).flatten) : d ∈ ENDS := by
  obtain ⟨l, hl, hd⟩ := List.mem_flatten.mp h
  rw [List.mem_replicate] at hl
  rw [hl.2] at hd; exact hd
theorem rep_map (n : Nat) (f : Dd → P) : (List.replicate n (ENDS.map f)).flatten = ((List.replicate n ENDS).flatten).map f := by
  rw [List.map_flatten, List.map_replicate]
set_option maxHeartbeats 0 in
theorem plain (ns : List Int) (hl : ns.length ≤ 63) : callF G 60 57 [.p (.scr ns)] [] = .ok (.p (.bl true)) [] := by
  show callF G (59 + 1) 57 [.p (.scr ns)] [] = _
  obtain ⟨k, hk⟩ : ∃ k, k = 59 := ⟨59, rfl⟩
  rw [← hk]
  rw [call_eq (fd := f_law) rfl rfl]
  have hone : ∀ ds : List Dd, Flat [cDs ds] := fun ds => .one (flatC_lst _)
  -- the dice
  obtain ⟨c0, g0, hdice⟩ := dice (k := k) (by omega) hl (z := 73) (by decide)
  -- the deeds
  obtain ⟨r, c1, g1, a1, a2, a3⟩ := off (k := k) (by omega) g0 (u := 7) (by decide) (by decide) []
  obtain ⟨c2, ds, g2, hds, hdl, hL⟩ := deedsL (k := k) (by omega) (a0 := some (.p (.scr ns))) (r0 := [none, none, none, none, none, none, none, none, none, none]) (List.range r.toNat) c1 [] g1 (by simp) (by simp; omega)
  have s2 : evE G (callF G k) (callF G (k - 1)) (.lc true [6] (.name 6) .range1 [(.call 43 [(.var 1), (.con (.int 7))])] [] (.call 52 [(.var 1), (.lst false [(.con (.str [108, 111, 97, 100])), (.con (.str [116, 101, 109, 112])), (.con (.str [119, 101, 116]))])])) [some (.p (.scr ns)), some (.ref 0), none, none, none, none, none, none, none, none, none, none] [c0] = .ok (.ref 1) [c2, cDs ds] := by
    rw [ev_lc]
    simp only [ev_cons, ev_nil, ev_call, ev_var, ev_con, getV_z, getV_s, opt_some, R.bind_ok, a3]
    have hit : items .range1 [.p (.int r)] [c1] = some ((List.range r.toNat).map fun (i : Nat) => D.p (.int (i : Int))) := by
      simp only [items]; rw [if_pos (by omega)]
    rw [hit]
    have e2 : (fun s' => stands ItK.range1 [D.p (P.int r)] [c1] s') = fun _ => true := by funext s'; exact stands_p _ _ _ _
    rw [e2]
    simp only [List.nil_append] at hL
    change lcL _ _ _ _ _ _ _ [c1, Cell.lst []] = _ at hL
    simp only [wipeE, List.set, List.length_cons, List.length_nil, Nat.zero_add, List.cons_append, List.nil_append, hL, R.bind_ok, lcDone, if_true]
  have hdl6 : ds.length ≤ 6 := by rw [hdl, List.length_range]; omega
  -- the picker
  obtain ⟨p1, c3, g3, e1, e2, e3⟩ := picker (k := k) (by omega) g2 (hone ds) (ws := WS2) (by decide) (by decide) (by decide)
  obtain ⟨xs, c4, g4, hperm, hmix⟩ := mixed (k := k) (by omega) g3 (hone ds) (row := FOURc.map Cd.P) (by simp [FOURc]) (rp := FOURp) (.inr rfl)
  obtain ⟨cs, rfl, hcl, hcs⟩ := four_perm hperm
  obtain ⟨j, c5, g5, b1, b2, b3⟩ := off (k := k) (by omega) g4 (u := 2) (by decide) (by decide) [cDs ds]
  have hpk : ∃ p : Pk, p.okw = true ∧ idxP (.lst [p1.P, .tup [.str [108, 111, 97, 100], .tup (cs.map Cd.P)]]) (.int j) = some p.P := by
    have hj : j = 0 ∨ j = 1 := by omega
    rcases hj with rfl | rfl
    · refine ⟨p1, ?_, idxl_0 _ _⟩
      have hw : ∀ w ∈ WS2, w ≠ [] := by decide
      simp [Pk.okw, e1, hw _ e2]
    · refine ⟨⟨[108, 111, 97, 100], cs⟩, ?_, idxl_1 _ _ _⟩
      have : (cs.all Cd.ok) = true := List.all_eq_true.mpr hcs
      have hw : isWord [108, 111, 97, 100] = true := by decide
      simp only [Pk.okw, Pk.ok, this, hcl, hw]
      rfl
  obtain ⟨p, hpw, hidp⟩ := hpk
  simp only [WS2, strsP, List.map_cons, List.map_nil] at e3
  -- how far back
  obtain ⟨bk, c6, g6, d1, d2, d3⟩ := off (k := k) (by omega) g5 (u := 200) (by decide) (by decide) [cDs ds]
  -- within so many
  obtain ⟨dn, c7, g7, f1, f2, f3⟩ := off (k := k) (by omega) g6 (u := 7) (by decide) (by decide) [cDs ds]
  have hfor := fun (x6 : Option D) => for_inv (G := G) (cf := callF G k) (ci := callF G (k - 1)) (tg := .name 6) (ik := .range1) (its := [(.bin .add (.con (.int 1)) (.call 43 [(.var 1), (.con (.int 7))]))]) (body := [.set 5 (.tup [(.con (.str [114, 97, 110, 107])), (.bin .add (.con (.int 1)) (.call 43 [(.var 1), (.con (.int 99))])), (.var 5)])])
    (env := [some (.p (.scr ns)), some (.ref 0), some (.ref 1), some (.p FOURp), some (.p p.P), some (.p (.tup [.str [97, 116], p.P, .int (1 + bk)])), x6, none, none, none, none, none]) (s := c6 :: [cDs ds]) (s1 := c7 :: [cDs ds]) (ds := [.p (.int (1 + dn))]) (List.range (1 + dn).toNat) (fun (i : Nat) => D.p (.int (i : Int)))
    (fun rs e s' => ∃ (c' : Cell) (q : Q) (x : Option D), Good c' ∧ q.form = true ∧ q.inner = true ∧ q.rows = true ∧ q.size = 1 + q.depth ∧ q.depth + rs.length ≤ 7 ∧ e = [some (.p (.scr ns)), some (.ref 0), some (.ref 1), some (.p FOURp), some (.p p.P), some (.p q.P), x, none, none, none, none, none] ∧ s' = c' :: [cDs ds])
    (by simp only [ev_cons, ev_nil, ev_bin, ev_con, ev_call, ev_var, getV_z, getV_s, opt_some, R.bind_ok, f3, view_p, bin_addi]) (by simp only [items]; rw [if_pos (by omega)]) ⟨c7, .at p (1 + bk), x6, g7, by simp only [Q.form, hpw, inR, Bool.true_and, Bool.and_eq_true, decide_eq_true_eq]; omega, rfl, rfl, rfl, by simp only [Q.depth, List.length_range]; omega, rfl, rfl⟩ (fun i rr e s' hI => by
      obtain ⟨c', q, x, g, q1, q2, q3, q4, q5, rfl, rfl⟩ := hI
      obtain ⟨n, c'', g'', h1, h2, h3⟩ := off (k := k) (by omega) g (u := 99) (by decide) (by decide) [cDs ds]
      refine ⟨rfl, _, rfl, _, _, ?_, c'', .rank (1 + n) q, some (.p (.int i)), g'', by simp only [Q.form, inR, Bool.and_eq_true, decide_eq_true_eq]; omega, by simp only [Q.inner, q1, q2, q3, Bool.and_self], rfl, by simp only [Q.size, Q.depth]; omega, by simp only [Q.depth, List.length_cons] at q5 ⊢; omega, rfl, rfl⟩
      simp only [exs_cons, ex_set, List.set, ev_tup, ev_cons, ev_nil, ev_con, ev_bin, ev_call, ev_var, getV_z, getV_s, opt_some, R.bind_ok, h3, view_p, bin_addi, mkTup_3, X.of_ok, X.seq_nx, exs_nil, Q.P]) (fun _ _ _ => rfl)
  obtain ⟨e, s', hfor, c8, q, x6, g8, q1, q2, q3, q4, q5, rfl, rfl⟩ := hfor none
  have hqok : q.ok := ⟨q1, q2, q3, by omega, by omega⟩
  simp only [List.length_nil, Nat.add_zero] at q5
  -- the deep one
  have hdeep : (Dd.write [100, 101, 101, 112] q 1).ok := ⟨by decide, hqok, by decide⟩
  have happ := run_append (s := c8 :: [cDs ds]) (n := 1) (d := .p (.tup [.str [119, 114, 105, 116, 101], .str [100, 101, 101, 112], q.P, .int 1])) rfl (by simp only [List.length_map, line]; omega)
  have hset : (c8 :: [cDs ds]).set 1 (.lst ((ds.map Dd.P).map D.p ++ [.p (.tup [.str [119, 114, 105, 116, 101], .str [100, 101, 101, 112], q.P, .int 1])])) = c8 :: [cDs (ds ++ [Dd.write [100, 101, 101, 112] q 1])] := by simp [Dd.P]
  rw [hset] at happ
  have hrcv : recvOk .append (c8 :: [cDs ds]) (.ref 1) = true := recv_append rfl
  -- the ends
  have hall : ∀ d ∈ ds ++ [Dd.write [100, 101, 101, 112] q 1], d.ok := fun d hd => by
    rcases List.mem_append.mp hd with hd | hd
    · exact hds d hd
    · simp at hd; subst hd; exact hdeep
  generalize hds2 : ds ++ [Dd.write [100, 101, 101, 112] q 1] = ds2 at *
  have hdl7 : ds2.length ≤ 7 ∧ ds2 ≠ [] := by
    rw [← hds2]; constructor
    · simp; omega
    · simp
  obtain ⟨m, c9, g9, h1, h2, h3⟩ := off (k := k) (by omega) g8 (u := 2) (by decide) (by decide) [cDs ds2, cDs ENDS]
  have hv1 : view (c9 :: [cDs ds2, cDs ENDS]) (.ref 1) = some (.lst (ds2.map Dd.P)) := view_ref rfl
  have hv2 : view (c9 :: [cDs ds2, cDs ENDS]) (.ref 2) = some (.lst (ENDS.map Dd.P)) := view_ref rfl
  have hmul : binP .mul (.lst (ENDS.map Dd.P)) (.int m) = some (.lst (((List.replicate m.toNat ENDS).flatten).map Dd.P)) := by
    simp only [binP]; rw [if_pos ⟨h1, by omega, by simp [ENDS]⟩, rep_map]
  have hRl : ((List.replicate m.toNat ENDS).flatten).length ≤ 5 := by
    have hm : m.toNat = 0 ∨ m.toNat = 1 := by omega
    rcases hm with h | h <;> rw [h] <;> decide
  have hadd : binP .add (.lst (ds2.map Dd.P)) (.lst (((List.replicate m.toNat ENDS).flatten).map Dd.P)) = some (.lst ((ds2 ++ (List.replicate m.toNat ENDS).flatten).map Dd.P)) := by
    simp only [binP]; rw [if_pos (le_line (by simp only [List.length_map]; omega))]; simp
  have hall3 : ∀ d ∈ ds2 ++ (List.replicate m.toNat ENDS).flatten, d.ok := fun d hd => by
    rcases List.mem_append.mp hd with hd | hd
    · exact hall d hd
    · exact ENDS_ok d (rep_mem hd)
  have hln3 : (ds2 ++ (List.replicate m.toNat ENDS).flatten).length ≤ 12 ∧ ds2 ++ (List.replicate m.toNat ENDS).flatten ≠ [] := by
    constructor
    · simp only [List.length_append]; omega
    · simp [hdl7.2]
  generalize ds2 ++ (List.replicate m.toNat ENDS).flatten = D3 at *
  -- the text
  have hB : Flat [c9, cDs ds2, cDs ENDS] := .cons g9.flat (.cons (flatC_lst _) (.one (flatC_lst _)))
  have hlc := lc_map (G := G) (cf := callF G k) (ci := callF G (k - 1)) (own := [11]) (tg := .name 11) (ik := .seq) (its := [.var 2]) (elt := .call 56 [.var 11]) (env := [some (.p (.scr ns)), some (.ref 0), some (.p (.lst (D3.map Dd.P))), some (.p FOURp), some (.p p.P), some (.p q.P), x6, some (.ref 2), none, none, none, none]) (s := [c9, cDs ds2, cDs ENDS]) D3 (fun d => .p d.P) (fun d => .str d.txt) hB (ds := [.p (.lst (D3.map Dd.P))]) (by simp) (by simp) (by simp only [line]; omega) (fun _ => stands_p _ _ _ _) (fun d hd' => by
    refine ⟨_, rfl, fun s2 hs2 => ?_⟩
    simp [wipeE, law_deed_text (k := k) (by omega) hs2 (hall3 d hd')])
  have e4 : strsOf (D3.map fun t => P.str t.txt) = some (D3.map Dd.txt) := strsOf_map' Dd.txt D3
  have hsum := sum_len (l := D3.map Dd.txt) (B := 15106) (fun x hx => by
    obtain ⟨d, hd', rfl⟩ := List.mem_map.mp hx
    exact Dd.txt_len (hall3 d hd'))
  have e1' : ((D3.map Dd.txt).map (·.length)).sum + (D3.map Dd.txt).length * 1 ≤ line := by simp only [List.length_map, line] at hsum ⊢; omega
  have hj : biP .join [.str [10], .lst (D3.map fun t => P.str t.txt)] = some (.str (joinS [10] (D3.map Dd.txt))) := by
    rw [biP_join, e4]
    simp only [Option.bind_some, List.length_cons, List.length_nil, Nat.zero_add]
    rw [if_pos e1']
  have hwr := fun (s : Sto) (hs : Flat s) => written (k := k) (by omega) hs hall3 (by omega)
  have hrd := fun (s : Sto) (hs : Flat s) => read (k := k) (by omega) hs hln3.2 hall3 (by omega)
  generalize joinS [10] (D3.map Dd.txt) = T at *
  -- twice
  have hagain := for_inv (G := G) (cf := callF G k) (ci := callF G (k - 1)) (tg := .name 9) (ik := .range1) (its := [(.con (.int 2))]) (body := [.ifs (.not (.call 44 [(.call 30 [(.var 2)]), (.var 8)])) [.ret (.con (.bl false))] [],
  .set 10 (.call 41 [(.var 8)]),
  .ifs (.not (.call 44 [(.var 10), (.var 2)])) [.ret (.con (.bl false))] [],
  .expr (.bm false .append (.var 10) [(.tup [])])]) (env := [some (.p (.scr ns)), some (.ref 0), some (.p (.lst (D3.map Dd.P))), some (.p FOURp), some (.p p.P), some (.p q.P), x6, some (.ref 2), some (.p (.str T)), none, none, none]) (s := [c9, cDs ds2, cDs ENDS]) (s1 := [c9, cDs ds2, cDs ENDS]) (ds := [.p (.int 2)]) (List.range 2) (fun (i : Nat) => D.p (.int (i : Int)))
    (fun rs e s' => ∃ (y z : Option D), Flat s' ∧ e = [some (.p (.scr ns)), some (.ref 0), some (.p (.lst (D3.map Dd.P))), some (.p FOURp), some (.p p.P), some (.p q.P), x6, some (.ref 2), some (.p (.str T)), y, z, none])
    (by simp) rfl ⟨none, none, hB, rfl⟩ (fun i rr e s' hI => by
      obtain ⟨y, z, fs, rfl⟩ := hI
      have w1 := hwr s' fs
      have w2 := alike_str (k := k) (by omega) fs T
      have w3 := hrd s' fs
      have fs2 : Flat (s' ++ [cDs D3]) := fs.app (hone D3)
      have w4 := alike_ref (n := 13) (m := s'.length) (k := k) (xs := D3.map Dd.P) (s := s' ++ [cDs D3]) (fun x hx => by
        obtain ⟨d, hd, rfl⟩ := List.mem_map.mp hx
        exact Al_dd (hall3 d hd)) (by simp only [List.length_map]; omega) (by omega) fs2 (top_get _ _)
      have w5 := run_append (d := .p (.tup [])) (top_get s' (cDs D3)) (by simp only [List.length_map, line]; omega)
      have w6 : recvOk .append (s' ++ [cDs D3]) (.ref s'.length) = true := recv_append (top_get _ _)
      rw [top_set] at w5
      refine ⟨rfl, _, rfl, [some (.p (.scr ns)), some (.ref 0), some (.p (.lst (D3.map Dd.P))), some (.p FOURp), some (.p p.P), some (.p q.P), x6, some (.ref 2), some (.p (.str T)), some (.p (.int i)), some (.ref s'.length), none], s' ++ [.lst ((D3.map Dd.P).map D.p ++ [.p (.tup [])])], ?_, some (.p (.int i)), some (.ref s'.length), fs.app (.one ?_), rfl⟩
      · simp only [exs_cons, ex_ifs, ev_not, ev_call, ev_cons, ev_nil, ev_var, List.set, getV_z, getV_s, opt_some, R.bind_ok, w1, w2, truthM_b, Bool.not_true, X.of_ok, Bool.false_eq_true, if_false, exs_nil, X.seq_nx, ex_set, w3, w4, ex_expr, ev_bm, w6, if_true, ev_tup, mkTup_0, w5]
      · have := flatC_lst (D3.map Dd.P ++ [.tup []])
        simpa using this) (fun _ _ _ => rfl)
  obtain ⟨e, s', hagain, y, z, fs, rfl⟩ := hagain
  have w7 := read_nil (k := k) (by omega) fs
  have fs2 : Flat (s' ++ [.lst []]) := fs.app (.one rfl)
  have w8 := written_nil (k := k) (by omega) fs2
  have w9 : cmpD (s' ++ [Cell.lst []]) .eq (.ref s'.length) (.p (.lst [])) = some true := by
    have hv : view (s' ++ [Cell.lst []]) (.ref s'.length) = some (.lst []) := view_ref (xs := []) (top_get _ _)
    simp only [cmpD, hv, view_p]; rfl
  have hfin : finish 0 [] (.ret (.p (.bl true)) (s' ++ [Cell.lst []])) = .ok (.p (.bl true)) [] := fin0 .nil (s' ++ [Cell.lst []]) rfl
  have hpow : binP .pow (.int 10) (.int 6) = some (.int 1000000) := by decide +kernel
  have hends : [D.p (.tup [.str [116, 101, 108, 108], .tup [.str [108, 111, 97, 100], .tup []], .int 9999, .int (0 - 1000000)]), .p (.tup [.str [115, 116, 114, 105, 107, 101], .int 99999]), .p (.tup [.str [114, 101, 115, 116], .str [97]]), .p (.tup [.str [116, 117, 114, 110], .int 0]), .p (.tup [.str [108, 105, 102, 116], .int 0])] = (ENDS.map Dd.P).map D.p := rfl
  simp only [f_law, exs_cons, ex_set, List.map_cons, List.map_nil, List.length_cons, List.length_nil, Nat.zero_add, Nat.reduceAdd, Nat.reduceSub, List.replicate, List.cons_append, List.nil_append, ev_call, ev_cons, ev_nil, ev_var, ev_con, getV_z, getV_s, opt_some, R.bind_ok, hdice, X.of_ok, List.set, X.seq_nx, s2, ev_tup, mkTup_1, mkTup_2, mkTup_3, mkTup_4, ev_idx, ev_lst, lcEnd_false (ys := [.p (.str [108, 111, 97, 100]), .p (.str [116, 101, 109, 112])]) _ _ rfl, e3, ev_bi, hmix, runBi_toTuple, views_p, views_nil, Option.map_some, biP_toTuple_l, lcEnd_false (ys := [.p p1.P, .p (.tup [.str [108, 111, 97, 100], .tup (cs.map Cd.P)])]) _ _ rfl, b3, idxD_pp, hidp, ev_bin, d3, view_p, bin_addi, hfor]
  simp only [ex_expr, ev_bm, ev_var, getV_z, getV_s, opt_some, R.bind_ok, hrcv, if_true, ev_cons, ev_nil, ev_tup, ev_con, mkTup_4, happ, X.of_ok, X.seq_nx, exs_cons, ex_set, ev_lst, mkTup_0, mkTup_2, ev_bin, view_p, hpow, bin_subi, lcEnd_true, List.set, hends]
  have hcat : [c8, cDs ds2] ++ [Cell.lst ((ENDS.map Dd.P).map D.p)] = c8 :: [cDs ds2, cDs ENDS] := rfl
  have hlen2 : ([c8, cDs ds2] : Sto).length = 2 := rfl
  simp only [hcat, hlen2, h3, R.bind_ok, hv1, hv2, hmul, view_p, hadd, X.of_ok, X.seq_nx, recv_join, if_true, hlc, runBi_join, views_p, views_nil, Option.map_some, hj, List.set, hagain, ex_ret, ev_and, ev_cmp, ev_call, ev_cons, ev_nil, ev_con, ev_lst, lcEnd_false (ys := []) [] _ rfl, w7, w9, truthM_b, w8, cmpD_pp, cmpP_eq, eq_str, decide_true, X.seq_ret, hfin]
end K73
end T_V21
section T_L73
set_option Elab.async false
set_option linter.all false
set_option maxRecDepth 100000
namespace K73
open TH PySem L2
def top (i : Nat) : Stmt := PySem.Challenge.pw_tidehouse_k73_deeds_written.main.body.getD i (.Pass ⟨0, 0, 0, 0⟩)
def mth (i j : Nat) : Stmt := match top i with
  | .ClassDef _ _ _ b _ _ _ _ _ _ _ => b.getD j (.Pass ⟨0, 0, 0, 0⟩)
  | _ => .Pass ⟨0, 0, 0, 0⟩
def r0 : FnR := ⟨mth 2 0, ("BadQuestion", some "__init__"), "__init__", "BadQuestion.__init__", ["self", "place"], ["self", "place"], []⟩
def r1 : FnR := ⟨mth 3 0, ("BadDeed", some "__init__"), "__init__", "BadDeed.__init__", ["self", "number"], ["self", "number"], []⟩
def r2 : FnR := ⟨mth 4 0, ("BadText", some "__init__"), "__init__", "BadText.__init__", ["self", "row"], ["self", "row"], []⟩
def r3 : FnR := ⟨top 11, ("is_run", none), "is_run", "is_run", ["thing", "signs", "upto", "sign"], ["thing", "signs", "upto"], []⟩
def r4 : FnR := ⟨top 12, ("is_word", none), "is_word", "is_word", ["thing"], ["thing"], []⟩
def r5 : FnR := ⟨top 13, ("is_key", none), "is_key", "is_key", ["thing"], ["thing"], []⟩
def r6 : FnR := ⟨top 14, ("is_value", none), "is_value", "is_value", ["thing"], ["thing"], []⟩
def r7 : FnR := ⟨top 15, ("are_rising", none), "are_rising", "are_rising", ["some", "k"], ["some"], []⟩
def r8 : FnR := ⟨top 16, ("are_keys", none), "are_keys", "are_keys", ["thing", "one"], ["thing"], []⟩
def r9 : FnR := ⟨top 17, ("are_tags", none), "are_tags", "are_tags", ["thing", "pair", "key", "value"], ["thing"], []⟩
def r10 : FnR := ⟨top 18, ("is_name", none), "is_name", "is_name", ["thing"], ["thing"], []⟩
def r11 : FnR := ⟨top 19, ("is_condition", none), "is_condition", "is_condition", ["thing", "value"], ["thing"], []⟩
def r12 : FnR := ⟨top 20, ("is_picker", none), "is_picker", "is_picker", ["thing", "one"], ["thing"], []⟩
def r13 : FnR := ⟨top 32, ("is_number", none), "is_number", "is_number", ["part", "low", "high"], ["part", "low", "high"], []⟩
def r14 : FnR := ⟨top 33, ("is_one_of", none), "is_one_of", "is_one_of", ["part", "words"], ["part", "words"], []⟩
def r15 : FnR := ⟨top 34, ("is_worded", none), "is_worded", "is_worded", ["picker"], ["picker"], []⟩
def r16 : FnR := ⟨top 35, ("is_form", none), "is_form", "is_form", ["question", "word", "rest"], ["question"], []⟩
def r17 : FnR := ⟨top 36, ("within", none), "within", "within", ["question", "word"], ["question"], []⟩
def r18 : FnR := ⟨mth 37 0, ("Looker", some "__init__"), "__init__", "Looker.__init__", ["self"], ["self"], []⟩
def r19 : FnR := ⟨mth 37 1, ("Looker", some "look"), "look", "Looker.look", ["self", "question", "deep", "place", "some", "inner"], ["self", "question", "deep"], []⟩
def r20 : FnR := ⟨top 38, ("need_question", none), "need_question", "need_question", ["question", "rows"], ["question", "rows"], [("rows", .bl false)]⟩
def r21 : FnR := ⟨top 51, ("is_rows_question", none), "is_rows_question", "is_rows_question", ["thing"], ["thing"], []⟩
def r22 : FnR := ⟨top 52, ("can_be", none), "can_be", "can_be", ["kind", "thing"], ["kind", "thing"], []⟩
def r23 : FnR := ⟨top 53, ("is_called", none), "is_called", "is_called", ["deed"], ["deed"], []⟩
def r24 : FnR := ⟨top 54, ("is_deed", none), "is_deed", "is_deed", ["deed", "kind", "thing"], ["deed"], []⟩
def r25 : FnR := ⟨top 55, ("name_text", none), "name_text", "name_text", ["name", "pairs", "key", "value"], ["name"], []⟩
def r26 : FnR := ⟨top 56, ("picker_text", none), "picker_text", "picker_text", ["picker", "signs", "some", "key", "how", "values"], ["picker"], []⟩
def r27 : FnR := ⟨top 57, ("question_text", none), "question_text", "question_text", ["question", "words", "kind", "thing"], ["question"], []⟩
def r28 : FnR := ⟨top 58, ("thing_text", none), "thing_text", "thing_text", ["kind", "thing"], ["kind", "thing"], []⟩
def r29 : FnR := ⟨top 59, ("deed_text", none), "deed_text", "deed_text", ["deed", "words", "kind", "thing"], ["deed"], []⟩
def r30 : FnR := ⟨top 60, ("written", none), "written", "written", ["deeds", "number", "deed"], ["deeds"], []⟩
def r31 : FnR := ⟨top 61, ("tags_of", none), "tags_of", "tags_of", ["text", "head", "bracket", "rest"], ["text"], []⟩
def r32 : FnR := ⟨top 62, ("name_of", none), "name_of", "name_of", ["text", "word", "some", "one"], ["text"], []⟩
def r33 : FnR := ⟨top 63, ("condition_of", none), "condition_of", "condition_of", ["text", "key", "sign", "values"], ["text"], []⟩
def r34 : FnR := ⟨top 64, ("picker_of", none), "picker_of", "picker_of", ["text", "word", "some", "one"], ["text"], []⟩
def r35 : FnR := ⟨top 65, ("number_of", none), "number_of", "number_of", ["text", "figures", "sign"], ["text"], []⟩
def r36 : FnR := ⟨mth 66 0, ("Reader", some "__init__"), "__init__", "Reader.__init__", ["self", "row", "word"], ["self", "row"], []⟩
def r37 : FnR := ⟨mth 66 1, ("Reader", some "take"), "take", "Reader.take", ["self"], ["self"], []⟩
def r38 : FnR := ⟨mth 66 2, ("Reader", some "thing"), "thing", "Reader.thing", ["self", "kind", "deep", "word"], ["self", "kind", "deep"], []⟩
def r39 : FnR := ⟨mth 66 3, ("Reader", some "read_question"), "read_question", "Reader.read_question", ["self", "deep", "word", "found", "kind"], ["self", "deep"], []⟩
def r40 : FnR := ⟨mth 66 4, ("Reader", some "deed"), "deed", "Reader.deed", ["self", "word", "found", "kind"], ["self"], []⟩
def r41 : FnR := ⟨top 67, ("read", none), "read", "read", ["text", "found", "row", "line", "deed"], ["text"], []⟩
def r42 : FnR := ⟨top 69, ("_law_dice", none), "_law_dice", "_law_dice", ["_law_script", "_law_k", "_law_found", "_law_cell"], ["_law_script", "_law_k"], []⟩
def r43 : FnR := ⟨top 70, ("_law_off", none), "_law_off", "_law_off", ["_law_d", "_law_upto", "_law_found"], ["_law_d", "_law_upto"], []⟩
def r44 : FnR := ⟨top 71, ("_law_alike", none), "_law_alike", "_law_alike", ["_law_found", "_law_due", "_law_k"], ["_law_found", "_law_due"], []⟩
def r45 : FnR := ⟨top 72, ("_law_mixed", none), "_law_mixed", "_law_mixed", ["_law_d", "_law_row", "_law_left", "_law_found"], ["_law_d", "_law_row"], []⟩
def r46 : FnR := ⟨top 73, ("_law_tags", none), "_law_tags", "_law_tags", ["_law_d", "_law_found", "_law_key"], ["_law_d"], []⟩
def r47 : FnR := ⟨top 74, ("_law_name", none), "_law_name", "_law_name", ["_law_d", "_law_words"], ["_law_d", "_law_words"], []⟩
def r48 : FnR := ⟨top 75, ("_law_picker", none), "_law_picker", "_law_picker", ["_law_d", "_law_words", "_law_found", "_law_turn", "_law_key", "_law_values"], ["_law_d", "_law_words"], []⟩
def r49 : FnR := ⟨top 76, ("_law_question", none), "_law_question", "_law_question", ["_law_d", "_law_words", "_law_far", "_law_deep", "_law_kind", "_law_span", "_law_how", "_law_one", "_law_number_here", "_law_other", "_law_keys", "_law_key"], ["_law_d", "_law_words", "_law_far", "_law_deep"], []⟩
def r50 : FnR := ⟨top 77, ("_law_number", none), "_law_number", "_law_number", ["_law_d"], ["_law_d"], []⟩
def r51 : FnR := ⟨top 78, ("_law_within", none), "_law_within", "_law_within", ["_law_question_here", "_law_first", "_law_part"], ["_law_question_here"], []⟩
def r52 : FnR := ⟨top 79, ("_law_deed", none), "_law_deed", "_law_deed", ["_law_d", "_law_words", "_law_kind", "_law_word", "_law_how", "_law_first"], ["_law_d", "_law_words"], []⟩
def r53 : FnR := ⟨top 80, ("_law_name_text", none), "_law_name_text", "_law_name_text", ["_law_name_here", "_law_tags_here", "_law_key", "_law_value"], ["_law_name_here"], []⟩
def r54 : FnR := ⟨top 81, ("_law_picker_text", none), "_law_picker_text", "_law_picker_text", ["_law_picker_here", "_law_found", "_law_text", "_law_key", "_law_how", "_law_values"], ["_law_picker_here"], []⟩
def r55 : FnR := ⟨top 82, ("_law_question_text", none), "_law_question_text", "_law_question_text", ["_law_question_here", "_law_word", "_law_picker_here", "_law_inner", "_law_keys", "_law_one"], ["_law_question_here"], []⟩
def r56 : FnR := ⟨top 83, ("_law_deed_text", none), "_law_deed_text", "_law_deed_text", ["_law_deed_here", "_law_found", "_law_k"], ["_law_deed_here"], []⟩
def r57 : FnR := ⟨top 84, ("law", none), "law", "law", ["_law_script", "_law_d", "_law_deeds", "_law_four", "_law_picker_here", "_law_deep", "_law_k", "_law_ends", "_law_text", "_law_again", "_law_found", "_law_deed_here"], ["_law_script"], []⟩
def ld : LD where
  rs := [r0, r1, r2, r3, r4, r5, r6, r7, r8, r9, r10, r11, r12, r13, r14, r15, r16, r17, r18, r19, r20, r21, r22, r23, r24, r25, r26, r27, r28, r29, r30, r31, r32, r33, r34, r35, r36, r37, r38, r39, r40, r41, r42, r43, r44, r45, r46, r47, r48, r49, r50, r51, r52, r53, r54, r55, r56, r57]
  fs := fns
  meths := [((4, 0), 18), ((4, 1), 19), ((5, 0), 36), ((5, 2), 37), ((5, 3), 38), ((5, 4), 39), ((5, 5), 40)]
  initM := 0
  gvs := gvs
  subs := subs
  clsN := ["Looker", "Looker", "Looker", "Looker", "Looker", "Reader"]
  clsU := ["Looker", "Reader"]
  mkb := [false, false, false, false, true, true]
  mname := ["__init__", "look", "take", "thing", "read_question", "deed"]
  fldn := ["place", "number", "row", "many", "tokens", "at"]
  gname := ["LETTERS", "SIGNS", "MOST_WORD", "MOST_KEY", "MOST_TAGS", "MOST_QUESTIONS", "MOST_DEEP", "MOST_BACK", "MOST_WORTH", "MOST_RANK", "FOLDS", "JOINS", "GROUPS", "SIDES", "SIZES", "MOST_HELD", "HOWS", "MOST_TICK", "MOST_NUMBER", "MOST_STEP", "MOST_FIGURES", "FIGURES", "ANY", "NO_KEYS", "THINGS", "SHAPES"]
  kw := [(20, "rows")]
  tabs := [("SIZES", ["num", "at", "over", "join", "by", "where", "rank"]), ("THINGS", ["tell", "strike", "turn", "write", "wake", "rest", "silence", "lift"]), ("SHAPES", ["num", "at", "over", "join", "by", "where", "rank"])]
theorem ok0 : FnRok ld.lkn f_BadQuestion___init__ r0 := ⟨⟨rfl, rfl, rfl, by decide +kernel, rfl, by decide +kernel, by decide +kernel⟩, rfl, rfl, fun _ _ _ _ _ _ _ us hl => match us, hl with | [_, _], _ => rfl, .inl (by decide +kernel)⟩
theorem ok1 : FnRok ld.lkn f_BadDeed___init__ r1 := ⟨⟨rfl, rfl, rfl, by decide +kernel, rfl, by decide +kernel, by decide +kernel⟩, rfl, rfl, fun _ _ _ _ _ _ _ us hl => match us, hl with | [_, _], _ => rfl, .inl (by decide +kernel)⟩
theorem ok2 : FnRok ld.lkn f_BadText___init__ r2 := ⟨⟨rfl, rfl, rfl, by decide +kernel, rfl, by decide +kernel, by decide +kernel⟩, rfl, rfl, fun _ _ _ _ _ _ _ us hl => match us, hl with | [_, _], _ => rfl, .inl (by decide +kernel)⟩
theorem ok3 : FnRok ld.lkn f_is_run r3 := ⟨⟨rfl, rfl, rfl, by decide +kernel, rfl, by decide +kernel, by decide +kernel⟩, rfl, rfl, fun _ _ _ _ _ _ _ us hl => match us, hl with | [_, _, _], _ => rfl, .inl (by decide +kernel)⟩
theorem ok4 : FnRok ld.lkn f_is_word r4 := ⟨⟨rfl, rfl, rfl, by decide +kernel, rfl, by decide +kernel, by decide +kernel⟩, rfl, rfl, fun _ _ _ _ _ _ _ us hl => match us, hl with | [_], _ => rfl, .inl (by decide +kernel)⟩
theorem ok5 : FnRok ld.lkn f_is_key r5 := ⟨⟨rfl, rfl, rfl, by decide +kernel, rfl, by decide +kernel, by decide +kernel⟩, rfl, rfl, fun _ _ _ _ _ _ _ us hl => match us, hl with | [_], _ => rfl, .inl (by decide +kernel)⟩
theorem ok6 : FnRok ld.lkn f_is_value r6 := ⟨⟨rfl, rfl, rfl, by decide +kernel, rfl, by decide +kernel, by decide +kernel⟩, rfl, rfl, fun _ _ _ _ _ _ _ us hl => match us, hl with | [_], _ => rfl, .inl (by decide +kernel)⟩
theorem ok7 : FnRok ld.lkn f_are_rising r7 := ⟨⟨rfl, rfl, rfl, by decide +kernel, rfl, by decide +kernel, by decide +kernel⟩, rfl, rfl, fun _ _ _ _ _ _ _ us hl => match us, hl with | [_], _ => rfl, .inl (by decide +kernel)⟩
theorem ok8 : FnRok ld.lkn f_are_keys r8 := ⟨⟨rfl, rfl, rfl, by decide +kernel, rfl, by decide +kernel, by decide +kernel⟩, rfl, rfl, fun _ _ _ _ _ _ _ us hl => match us, hl with | [_], _ => rfl, .inl (by decide +kernel)⟩
theorem ok9 : FnRok ld.lkn f_are_tags r9 := ⟨⟨rfl, rfl, rfl, by decide +kernel, rfl, by decide +kernel, by decide +kernel⟩, rfl, rfl, fun _ _ _ _ _ _ _ us hl => match us, hl with | [_], _ => rfl, .inl (by decide +kernel)⟩
theorem ok10 : FnRok ld.lkn f_is_name r10 := ⟨⟨rfl, rfl, rfl, by decide +kernel, rfl, by decide +kernel, by decide +kernel⟩, rfl, rfl, fun _ _ _ _ _ _ _ us hl => match us, hl with | [_], _ => rfl, .inl (by decide +kernel)⟩
theorem ok11 : FnRok ld.lkn f_is_condition r11 := ⟨⟨rfl, rfl, rfl, by decide +kernel, rfl, by decide +kernel, by decide +kernel⟩, rfl, rfl, fun _ _ _ _ _ _ _ us hl => match us, hl with | [_], _ => rfl, .inl (by decide +kernel)⟩
theorem ok12 : FnRok ld.lkn f_is_picker r12 := ⟨⟨rfl, rfl, rfl, by decide +kernel, rfl, by decide +kernel, by decide +kernel⟩, rfl, rfl, fun _ _ _ _ _ _ _ us hl => match us, hl with | [_], _ => rfl, .inl (by decide +kernel)⟩
theorem ok13 : FnRok ld.lkn f_is_number r13 := ⟨⟨rfl, rfl, rfl, by decide +kernel, rfl, by decide +kernel, by decide +kernel⟩, rfl, rfl, fun _ _ _ _ _ _ _ us hl => match us, hl with | [_, _, _], _ => rfl, .inl (by decide +kernel)⟩
theorem ok14 : FnRok ld.lkn f_is_one_of r14 := ⟨⟨rfl, rfl, rfl, by decide +kernel, rfl, by decide +kernel, by decide +kernel⟩, rfl, rfl, fun _ _ _ _ _ _ _ us hl => match us, hl with | [_, _], _ => rfl, .inl (by decide +kernel)⟩
theorem ok15 : FnRok ld.lkn f_is_worded r15 := ⟨⟨rfl, rfl, rfl, by decide +kernel, rfl, by decide +kernel, by decide +kernel⟩, rfl, rfl, fun _ _ _ _ _ _ _ us hl => match us, hl with | [_], _ => rfl, .inl (by decide +kernel)⟩
theorem ok16 : FnRok ld.lkn f_is_form r16 := ⟨⟨rfl, rfl, rfl, by decide +kernel, rfl, by decide +kernel, by decide +kernel⟩, rfl, rfl, fun _ _ _ _ _ _ _ us hl => match us, hl with | [_], _ => rfl, .inl (by decide +kernel)⟩
theorem ok17 : FnRok ld.lkn f_within r17 := ⟨⟨rfl, rfl, rfl, by decide +kernel, rfl, by decide +kernel, by decide +kernel⟩, rfl, rfl, fun _ _ _ _ _ _ _ us hl => match us, hl with | [_], _ => rfl, .inl (by decide +kernel)⟩
theorem ok18 : FnRok ld.lkn f_Looker___init__ r18 := ⟨⟨rfl, rfl, rfl, by decide +kernel, rfl, by decide +kernel, by decide +kernel⟩, rfl, rfl, fun _ _ _ _ _ _ _ us hl => match us, hl with | [_], _ => rfl, .inl (by decide +kernel)⟩
theorem ok19 : FnRok ld.lkn f_Looker_look r19 := ⟨⟨rfl, rfl, rfl, by decide +kernel, rfl, by decide +kernel, by decide +kernel⟩, rfl, rfl, fun _ _ _ _ _ _ _ us hl => match us, hl with | [_, _, _], _ => rfl, .inl (by decide +kernel)⟩
theorem ok20 : FnRok ld.lkn f_need_question r20 := ⟨⟨rfl, rfl, rfl, by decide +kernel, rfl, by decide +kernel, by decide +kernel⟩, rfl, rfl, fun h => by simp [r20] at h, .inl (by decide +kernel)⟩
theorem ok21 : FnRok ld.lkn f_is_rows_question r21 := ⟨⟨rfl, rfl, rfl, by decide +kernel, rfl, by decide +kernel, by decide +kernel⟩, rfl, rfl, fun _ _ _ _ _ _ _ us hl => match us, hl with | [_], _ => rfl, .inl (by decide +kernel)⟩
theorem ok22 : FnRok ld.lkn f_can_be r22 := ⟨⟨rfl, rfl, rfl, by decide +kernel, rfl, by decide +kernel, by decide +kernel⟩, rfl, rfl, fun _ _ _ _ _ _ _ us hl => match us, hl with | [_, _], _ => rfl, .inl (by decide +kernel)⟩
theorem ok23 : FnRok ld.lkn f_is_called r23 := ⟨⟨rfl, rfl, rfl, by decide +kernel, rfl, by decide +kernel, by decide +kernel⟩, rfl, rfl, fun _ _ _ _ _ _ _ us hl => match us, hl with | [_], _ => rfl, .inl (by decide +kernel)⟩
theorem ok24 : FnRok ld.lkn f_is_deed r24 := ⟨⟨rfl, rfl, rfl, by decide +kernel, rfl, by decide +kernel, by decide +kernel⟩, rfl, rfl, fun _ _ _ _ _ _ _ us hl => match us, hl with | [_], _ => rfl, .inl (by decide +kernel)⟩
theorem ok25 : FnRok ld.lkn f_name_text r25 := ⟨⟨rfl, rfl, rfl, by decide +kernel, rfl, by decide +kernel, by decide +kernel⟩, rfl, rfl, fun _ _ _ _ _ _ _ us hl => match us, hl with | [_], _ => rfl, .inl (by decide +kernel)⟩
theorem ok26 : FnRok ld.lkn f_picker_text r26 := ⟨⟨rfl, rfl, rfl, by decide +kernel, rfl, by decide +kernel, by decide +kernel⟩, rfl, rfl, fun _ _ _ _ _ _ _ us hl => match us, hl with | [_], _ => rfl, .inl (by decide +kernel)⟩
theorem ok27 : FnRok ld.lkn f_question_text r27 := ⟨⟨rfl, rfl, rfl, by decide +kernel, rfl, by decide +kernel, by decide +kernel⟩, rfl, rfl, fun _ _ _ _ _ _ _ us hl => match us, hl with | [_], _ => rfl, .inl (by decide +kernel)⟩
theorem ok28 : FnRok ld.lkn f_thing_text r28 := ⟨⟨rfl, rfl, rfl, by decide +kernel, rfl, by decide +kernel, by decide +kernel⟩, rfl, rfl, fun _ _ _ _ _ _ _ us hl => match us, hl with | [_, _], _ => rfl, .inl (by decide +kernel)⟩
theorem ok29 : FnRok ld.lkn f_deed_text r29 := ⟨⟨rfl, rfl, rfl, by decide +kernel, rfl, by decide +kernel, by decide +kernel⟩, rfl, rfl, fun _ _ _ _ _ _ _ us hl => match us, hl with | [_], _ => rfl, .inl (by decide +kernel)⟩
theorem ok30 : FnRok ld.lkn f_written r30 := ⟨⟨rfl, rfl, rfl, by decide +kernel, rfl, by decide +kernel, by decide +kernel⟩, rfl, rfl, fun _ _ _ _ _ _ _ us hl => match us, hl with | [_], _ => rfl, .inl (by decide +kernel)⟩
theorem ok31 : FnRok ld.lkn f_tags_of r31 := ⟨⟨rfl, rfl, rfl, by decide +kernel, rfl, by decide +kernel, by decide +kernel⟩, rfl, rfl, fun _ _ _ _ _ _ _ us hl => match us, hl with | [_], _ => rfl, .inl (by decide +kernel)⟩
theorem ok32 : FnRok ld.lkn f_name_of r32 := ⟨⟨rfl, rfl, rfl, by decide +kernel, rfl, by decide +kernel, by decide +kernel⟩, rfl, rfl, fun _ _ _ _ _ _ _ us hl => match us, hl with | [_], _ => rfl, .inl (by decide +kernel)⟩
theorem ok33 : FnRok ld.lkn f_condition_of r33 := ⟨⟨rfl, rfl, rfl, by decide +kernel, rfl, by decide +kernel, by decide +kernel⟩, rfl, rfl, fun _ _ _ _ _ _ _ us hl => match us, hl with | [_], _ => rfl, .inl (by decide +kernel)⟩
theorem ok34 : FnRok ld.lkn f_picker_of r34 := ⟨⟨rfl, rfl, rfl, by decide +kernel, rfl, by decide +kernel, by decide +kernel⟩, rfl, rfl, fun _ _ _ _ _ _ _ us hl => match us, hl with | [_], _ => rfl, .inl (by decide +kernel)⟩
theorem ok35 : FnRok ld.lkn f_number_of r35 := ⟨⟨rfl, rfl, rfl, by decide +kernel, rfl, by decide +kernel, by decide +kernel⟩, rfl, rfl, fun _ _ _ _ _ _ _ us hl => match us, hl with | [_], _ => rfl, .inl (by decide +kernel)⟩
theorem ok36 : FnRok ld.lkn f_Reader___init__ r36 := ⟨⟨rfl, rfl, rfl, by decide +kernel, rfl, by decide +kernel, by decide +kernel⟩, rfl, rfl, fun _ _ _ _ _ _ _ us hl => match us, hl with | [_, _], _ => rfl, .inr ⟨by decide +kernel, by decide +kernel, by decide⟩⟩
theorem ok37 : FnRok ld.lkn f_Reader_take r37 := ⟨⟨rfl, rfl, rfl, by decide +kernel, rfl, by decide +kernel, by decide +kernel⟩, rfl, rfl, fun _ _ _ _ _ _ _ us hl => match us, hl with | [_], _ => rfl, .inl (by decide +kernel)⟩
theorem ok38 : FnRok ld.lkn f_Reader_thing r38 := ⟨⟨rfl, rfl, rfl, by decide +kernel, rfl, by decide +kernel, by decide +kernel⟩, rfl, rfl, fun _ _ _ _ _ _ _ us hl => match us, hl with | [_, _, _], _ => rfl, .inl (by decide +kernel)⟩
theorem ok39 : FnRok ld.lkn f_Reader_read_question r39 := ⟨⟨rfl, rfl, rfl, by decide +kernel, rfl, by decide +kernel, by decide +kernel⟩, rfl, rfl, fun _ _ _ _ _ _ _ us hl => match us, hl with | [_, _], _ => rfl, .inl (by decide +kernel)⟩
theorem ok40 : FnRok ld.lkn f_Reader_deed r40 := ⟨⟨rfl, rfl, rfl, by decide +kernel, rfl, by decide +kernel, by decide +kernel⟩, rfl, rfl, fun _ _ _ _ _ _ _ us hl => match us, hl with | [_], _ => rfl, .inl (by decide +kernel)⟩
theorem ok41 : FnRok ld.lkn f_read r41 := ⟨⟨rfl, rfl, rfl, by decide +kernel, rfl, by decide +kernel, by decide +kernel⟩, rfl, rfl, fun _ _ _ _ _ _ _ us hl => match us, hl with | [_], _ => rfl, .inl (by decide +kernel)⟩
theorem ok42 : FnRok ld.lkn f__law_dice r42 := ⟨⟨rfl, rfl, rfl, by decide +kernel, rfl, by decide +kernel, by decide +kernel⟩, rfl, rfl, fun _ _ _ _ _ _ _ us hl => match us, hl with | [_, _], _ => rfl, .inl (by decide +kernel)⟩
theorem ok43 : FnRok ld.lkn f__law_off r43 := ⟨⟨rfl, rfl, rfl, by decide +kernel, rfl, by decide +kernel, by decide +kernel⟩, rfl, rfl, fun _ _ _ _ _ _ _ us hl => match us, hl with | [_, _], _ => rfl, .inl (by decide +kernel)⟩
theorem ok44 : FnRok ld.lkn f__law_alike r44 := ⟨⟨rfl, rfl, rfl, by decide +kernel, rfl, by decide +kernel, by decide +kernel⟩, rfl, rfl, fun _ _ _ _ _ _ _ us hl => match us, hl with | [_, _], _ => rfl, .inl (by decide +kernel)⟩
theorem ok45 : FnRok ld.lkn f__law_mixed r45 := ⟨⟨rfl, rfl, rfl, by decide +kernel, rfl, by decide +kernel, by decide +kernel⟩, rfl, rfl, fun _ _ _ _ _ _ _ us hl => match us, hl with | [_, _], _ => rfl, .inl (by decide +kernel)⟩
theorem ok46 : FnRok ld.lkn f__law_tags r46 := ⟨⟨rfl, rfl, rfl, by decide +kernel, rfl, by decide +kernel, by decide +kernel⟩, rfl, rfl, fun _ _ _ _ _ _ _ us hl => match us, hl with | [_], _ => rfl, .inl (by decide +kernel)⟩
theorem ok47 : FnRok ld.lkn f__law_name r47 := ⟨⟨rfl, rfl, rfl, by decide +kernel, rfl, by decide +kernel, by decide +kernel⟩, rfl, rfl, fun _ _ _ _ _ _ _ us hl => match us, hl with | [_, _], _ => rfl, .inl (by decide +kernel)⟩
theorem ok48 : FnRok ld.lkn f__law_picker r48 := ⟨⟨rfl, rfl, rfl, by decide +kernel, rfl, by decide +kernel, by decide +kernel⟩, rfl, rfl, fun _ _ _ _ _ _ _ us hl => match us, hl with | [_, _], _ => rfl, .inl (by decide +kernel)⟩
theorem ok49 : FnRok ld.lkn f__law_question r49 := ⟨⟨rfl, rfl, rfl, by decide +kernel, rfl, by decide +kernel, by decide +kernel⟩, rfl, rfl, fun _ _ _ _ _ _ _ us hl => match us, hl with | [_, _, _, _], _ => rfl, .inl (by decide +kernel)⟩
theorem ok50 : FnRok ld.lkn f__law_number r50 := ⟨⟨rfl, rfl, rfl, by decide +kernel, rfl, by decide +kernel, by decide +kernel⟩, rfl, rfl, fun _ _ _ _ _ _ _ us hl => match us, hl with | [_], _ => rfl, .inl (by decide +kernel)⟩
theorem ok51 : FnRok ld.lkn f__law_within r51 := ⟨⟨rfl, rfl, rfl, by decide +kernel, rfl, by decide +kernel, by decide +kernel⟩, rfl, rfl, fun _ _ _ _ _ _ _ us hl => match us, hl with | [_], _ => rfl, .inl (by decide +kernel)⟩
theorem ok52 : FnRok ld.lkn f__law_deed r52 := ⟨⟨rfl, rfl, rfl, by decide +kernel, rfl, by decide +kernel, by decide +kernel⟩, rfl, rfl, fun _ _ _ _ _ _ _ us hl => match us, hl with | [_, _], _ => rfl, .inl (by decide +kernel)⟩
theorem ok53 : FnRok ld.lkn f__law_name_text r53 := ⟨⟨rfl, rfl, rfl, by decide +kernel, rfl, by decide +kernel, by decide +kernel⟩, rfl, rfl, fun _ _ _ _ _ _ _ us hl => match us, hl with | [_], _ => rfl, .inl (by decide +kernel)⟩
theorem ok54 : FnRok ld.lkn f__law_picker_text r54 := ⟨⟨rfl, rfl, rfl, by decide +kernel, rfl, by decide +kernel, by decide +kernel⟩, rfl, rfl, fun _ _ _ _ _ _ _ us hl => match us, hl with | [_], _ => rfl, .inl (by decide +kernel)⟩
theorem ok55 : FnRok ld.lkn f__law_question_text r55 := ⟨⟨rfl, rfl, rfl, by decide +kernel, rfl, by decide +kernel, by decide +kernel⟩, rfl, rfl, fun _ _ _ _ _ _ _ us hl => match us, hl with | [_], _ => rfl, .inl (by decide +kernel)⟩
theorem ok56 : FnRok ld.lkn f__law_deed_text r56 := ⟨⟨rfl, rfl, rfl, by decide +kernel, rfl, by decide +kernel, by decide +kernel⟩, rfl, rfl, fun _ _ _ _ _ _ _ us hl => match us, hl with | [_], _ => rfl, .inl (by decide +kernel)⟩
theorem ok57 : FnRok ld.lkn f_law r57 := ⟨⟨rfl, rfl, rfl, by decide +kernel, rfl, by decide +kernel, by decide +kernel⟩, rfl, rfl, fun _ _ _ _ _ _ _ us hl => match us, hl with | [_], _ => rfl, .inl (by decide +kernel)⟩
end K73
end T_L73
section T_H73
set_option Elab.async false
set_option linter.all false
set_option maxRecDepth 100000
set_option maxHeartbeats 0
namespace K73
open PySem PySem.Spec PyProof.Rows L2 PySem.W
abbrev R : PySem.W.OpenRow := PySem.W.OpenLaw.row PySem.Challenge.rw_tidehouse_k73_deeds_written
abbrev hk : PySem.W.Hook := He.hookX 5 ld.fa ld.fnD ld.ts [] ld.ex
def ob (s : PySem.W.SharedT) : He.AlX := He.obsX 5 ld.fa ld.fnD ld.ts [] ld.ex (HandSHeadRun.getT s)
theorem ob_eq (s : PySem.W.SharedT) : ob s = hk.obs s.abs := He.obsX_eq (HandSHeadRun.getT_eq s)
def loose0 : List PySem.Str := ["__name__", "TideError", "ValueError", "BadQuestion", "BadDeed", "BadText", "LETTERS", "SIGNS", "MOST_WORD", "MOST_KEY", "MOST_TAGS", "is_run", "is_word", "is_key", "is_value", "are_rising", "are_keys", "are_tags", "is_name", "is_condition", "is_picker", "MOST_QUESTIONS", "MOST_DEEP", "MOST_BACK", "MOST_WORTH", "MOST_RANK", "FOLDS", "JOINS", "GROUPS", "SIDES"]
def loose1 : List PySem.Str := ["SIZES", "is_number", "is_one_of", "is_worded", "is_form", "within", "Looker", "need_question", "MOST_HELD", "HOWS", "MOST_TICK", "MOST_NUMBER", "MOST_STEP", "MOST_FIGURES", "FIGURES", "ANY", "NO_KEYS", "THINGS", "SHAPES", "is_rows_question", "can_be", "is_called", "is_deed", "name_text", "picker_text", "question_text", "thing_text", "deed_text", "written", "tags_of"]
def loose2 : List PySem.Str := ["name_of", "condition_of", "picker_of", "number_of", "Reader", "read", "_law_dice", "_law_off", "_law_alike", "_law_mixed", "_law_tags", "_law_name", "_law_picker", "_law_question", "_law_number", "_law_within", "_law_deed", "_law_name_text", "_law_picker_text", "_law_question_text", "_law_deed_text"]
def loose : List PySem.Str := loose0 ++ (loose1 ++ (loose2))
theorem run_f (w : World) : HandSHeadRun.RunEq R (PySem.W.view R.prog [84]) hk ob 20000 loose (w.withFollow "special-get-raises" false) := by
  intro os
  kernel_rfl
theorem run_t (w : World) : HandSHeadRun.RunEq R (PySem.W.view R.prog [84]) hk ob 20000 loose (w.withFollow "special-get-raises" true) := by
  intro os
  kernel_rfl
theorem run (w : World) : HandSHeadRun.RunEq R (PySem.W.view R.prog [84]) hk ob 20000 loose w := byRow2 "special-get-raises" (P := fun w => HandSHeadRun.RunEq R (PySem.W.view R.prog [84]) hk ob 20000 loose w) run_f run_t w
end K73
end T_H73
section T_J73
set_option Elab.async false
set_option linter.all false
set_option maxRecDepth 100000
set_option maxHeartbeats 0
namespace K73
open PySem PySem.Spec PyProof.Rows L2 PySem.W TH
theorem allr : AllR ld.lkn ld.fs ld.rs := ⟨ok0, ok1, ok2, ok3, ok4, ok5, ok6, ok7, ok8, ok9, ok10, ok11, ok12, ok13, ok14, ok15, ok16, ok17, ok18, ok19, ok20, ok21, ok22, ok23, ok24, ok25, ok26, ok27, ok28, ok29, ok30, ok31, ok32, ok33, ok34, ok35, ok36, ok37, ok38, ok39, ok40, ok41, ok42, ok43, ok44, ok45, ok46, ok47, ok48, ok49, ok50, ok51, ok52, ok53, ok54, ok55, ok56, ok57, trivial⟩
theorem ldok : LD.Ok ld := LD.ok_of (by decide +kernel) allr.at
theorem bind_nq (kws : List (Str × V)) {K : PySem.W.Frag} {f : Addr} {fd : FuncData} (F : FunD K "need_question" "need_question" (defArgs r20.st) (defBody r20.st) (defScope r20.st) [] [("rows", .bl false)] f fd) :
    ∃ gg, KBn K fd ["question", "rows"] 1 ["rows"] gg (fun vs zs => vs ++ zs) := by
  obtain ⟨mv, h⟩ := FunD.kbinds0 (ps := ["question", "rows"]) F 1 ["rows"] [] (fun vs _ zs => vs ++ zs) (by simp) (by simp) (fun r1 _ r2 => r1.append r2)
    (fun D doc pm an cdv ct us mv ws h1 h2 h3 => match us, h1, mv, h2, ws, h3 with | [_], _, [], _, [_], _ => rfl)
  exact ⟨_, h⟩
theorem kb {K : PySem.W.Frag} (c : He.SaysD ld.fa ld.fnD K) : ∀ f x, ld.kw.lookup f = some x → ∃ gg, KBn K ((ld.lk K).fd f) ((ld.lk K).ps f) 1 [x] gg (fun vs zs => vs ++ zs) := by
  intro f x h
  have hm : (f, x) ∈ [((20 : Nat), ("rows" : Str))] := lookup_mem h
  cases List.mem_singleton.mp hm
  have F := LD.funD (d := ld) c (f := 20) (r := r20) rfl
  exact bind_nq [] F
theorem tabs {K : PySem.W.Frag} {w : World} (c : He.SaysT ld.fa ld.fnD ld.ts w K) : ∀ q ∈ ld.tabs, ∃ es n, KDict K w (He.ga K q.1) es n := by
  intro q hq
  obtain ⟨i, hi⟩ := List.getElem?_of_mem hq
  have h2 : ld.ts[i]? = some (fun K => He.ga K q.1, q.2) := by
    show (ld.tabs.map _)[i]? = _
    rw [List.getElem?_map, hi]
    rfl
  exact c.tab i h2
end K73
end T_J73
section T_W73
set_option Elab.async false
set_option linter.all false
set_option maxRecDepth 100000
set_option maxHeartbeats 0
namespace K73
open PySem PySem.Spec PyProof.Rows L2 PySem.W TH
/-- what is left: the plain law -/
def Plain : Prop := ∀ ns : List Int, ns.length ≤ 63 → callF ld.prog 60 57 [.p (.scr ns)] [] = .ok (.p (.bl true)) []
theorem lawIn : He.Fa.glo "law" ∈ ld.fa := by
  unfold LD.fa
  refine List.mem_append_right _ (List.mem_append_right _ (List.mem_append_right _ (List.mem_append_right _ (List.mem_append_right _ (List.mem_append_left _ (List.mem_map.mpr ⟨r57, ?_, rfl⟩))))))
  exact List.mem_filter.mpr ⟨List.mem_of_getElem? (i := 57) rfl, rfl⟩
theorem facts (hp : Plain) {P : Program} {w : World} {K : PySem.W.Frag} {h : Heap} {mg : Str → Option Value} {f : Addr} (X : K.In h) (G : h.Ns mainGlobals mg) (hfa : mg ("law" : Str) = some (.ref f)) (t : He.SaysT ld.fa ld.fnD ld.ts w K) (ex : ld.ex K = true) :
    ∃ (fd : FuncData) (sp : Sp), (∀ (s : Shared) (v : Value), BindsTo s fd ⟨[v], []⟩ [("_law_script", v)]) ∧
      (∀ (H : Hp) (a : Addr) (ns : List Int), ns.length ≤ 63 → SqL K H a (ns.map V.int) → sp [.ref a] H (fun v _ => v = .bl true) fun _ _ _ => False) ∧
      ∀ base : Heap, K.In base → base.Ns mainGlobals mg → FnOk P w K mg base (L2.CX P w) 62 f fd ["_law_script"] sp := by
  have c : He.SaysD ld.fa ld.fnD K := t.d
  have F := LD.funD (d := ld) c (f := 57) (r := r57) rfl
  have e : f = (ld.lk K).fa 57 := by
    have e1 := hfa.symm.trans (He.glo_ok X G (c.facts (f := .glo "law") lawIn))
    cases e1
    rfl
  have b := FunD.bindsA (ps := ["_law_script"]) F fun _ _ _ _ _ _ us hl => match us, hl with | [_], _ => rfl
  refine ⟨(ld.lk K).fd 57, SpF K w (ld.lk K).nm (callF ld.prog 60 57) 1, fun s v => b s [v] rfl, fun H a ns hl hS => ?_, fun base _ _ => ?_⟩
  · refine ⟨fun _ => a, [], [.p (.scr ns)], ⟨fun m _ h _ _ => absurd h (Nat.not_lt_zero m), fun n c hc => by simp at hc⟩, .cons (.p ?_) .nil, rfl, ?_⟩
    · rcases hS with hS | ⟨o, its, n, h1, h2, h3, h4, h5, h6⟩
      · exact .scr hS (by rintro ⟨n, hn, _⟩; cases hn)
      · exact .scrK h1 h2 h3 h4 h5 h6
    · rw [hp ns hl]
      intro ρ' H' _ _ v rv
      cases rv with
      | p r =>
        cases r
        rfl
  · subst e
    have LK := LD.link (P' := P) (base := base) ldok X G c ex (tabs t) (kb c)
    exact (all_ok LK (LD.fnd ldok c) 60 57 rfl).ok
end K73
end T_W73
section T_X73
set_option Elab.async false
set_option linter.all false
set_option maxRecDepth 100000
set_option maxHeartbeats 0
open PySem PySem.W PySem.Calls PyProof.Rows
theorem K73.holds (hp : K73.Plain) : PySem.Challenge.rw_tidehouse_k73_deeds_written.Holds := by
  w_on; o_law
  refine HandSHeadRun.head_any (r := OpenLaw.row PySem.Challenge.rw_tidehouse_k73_deeds_written) (q := view (OpenLaw.row PySem.Challenge.rw_tidehouse_k73_deeds_written).prog [84]) (H := K73.hk) (ob := K73.ob) (M := 20000) (loose := K73.loose) (d := HandSHeadRun.topDef (OpenLaw.row PySem.Challenge.rw_tidehouse_k73_deeds_written).prog 84) (kwd := []) K73.ob_eq
    (by kernel_rfl) (fun s => by kernel_rfl) K73.run (by kernel_rfl) (by kernel_rfl) (by kernel_rfl) (by rfl) (by first | assumption | decide +kernel) (by decide +kernel) ⟨rfl, rfl, rfl, rfl, rfl, by decide +kernel⟩ ?hw ?hc
  case hw => w_witness2
  case hc =>
    refine LamX.walk_ofTsE (l := PySem.Challenge.rw_tidehouse_k73_deeds_written) (n := 63) (k := 62) (x := "_law_script") (CX := fun w => L2.CX (PySem.Challenge.rw_tidehouse_k73_deeds_written).prog w) rfl (by decide) (by kernel_rfl) ⟨rfl, by decide, by decide⟩ ?F (fun w H s e s' z => ?CX)
    case CX =>
      obtain ⟨_, _, _, _, _, _, _, _, _, _, _, _, z⟩ := z
      exact z.elim
    case F =>
      intro w mg fa h Y G hmg0
      obtain ⟨K, KX, c⟩ := Y
      have hmg : mg ("law" : PySem.Str) = some (.ref fa) := by
        have e : (HandSHeadRun.topDef (OpenLaw.row PySem.Challenge.rw_tidehouse_k73_deeds_written).prog 84).name = ("law" : PySem.Str) := by kernel_rfl
        rw [← e]
        exact hmg0
      obtain ⟨fd, sp, hb, hsp, hF⟩ := K73.facts (P := (PySem.Challenge.rw_tidehouse_k73_deeds_written).prog) (w := w) hp KX G hmg c.t c.more
      exact ⟨K, KX, fd, [], sp, by simp, by simp, by simp, hb, fun H a ns hl _ _ hS => hsp H a ns hl hS, fun base k1 k2 _ => hF base k1 k2⟩
end T_X73
theorem PySem.Challenge.cw_tidehouse_k73_deeds_written_holds : PySem.Challenge.rw_tidehouse_k73_deeds_written.Holds := by
  exact K73.holds (fun ns hl => K73.plain ns hl)
