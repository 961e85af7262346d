import PyProof.Rows.All
import Wide.All
import OpenK.AllK
import Wide.FinOn
import PySem.Challenge.RW_lineworks_k64_candidates_of_tables
import HandS.ForMost
import HandS.Exc
import HandS.ExcOwn
import HandS.WordsExc
import HandS.CallSlots
import HandS.CallLocal
import HandS.Defaults
import HandS.Deep
import HandS.Flow
import HandS.More
import HandS.HeadHook3
import KE.KeyNested
import HandS.TupLen
import HandS.Conv
import HandS.DictTup
import HandS.ListItems
import HandS.TupMul
import KE.DataCmp
import KE.SortData
import HandS.TupAny
import HandS.Wide
import HandS.IsInst
import HandS.Style
import HandS.WordsDict
import HandS.Rev
import HandS.Iter
import HandS.DictComp
import HandS.SortInts
import HandS.Text
import PyProof.ReprRoads
import PyProof.FitsInt
import PyProof.StrLawsRepr
import HandS.SetBool
import HandS.Strs
import HandS.SortKw
import KE.SortKeyHeap
import KE.KMinKey
import HandS.Codes
import HandS.HeadHook4
import HandS.HeadEnd
import HandS.Head2
import KE.KStateDown
import Lean
/-! MP: a small language (the subset of Python that the program uses), its data and its evaluator. Core Lean only. -/
set_option linter.all false
namespace MP

/-! ### data -/
inductive D where
  | non | bl (b : Bool) | int (i : Int) | str (s : String) | tup (ds : List D) | lst (ds : List D)
  deriving Inhabited

mutual
/-- == of Python -/
def D.eq : D → D → Bool
  | .non, .non => true
  | .bl a, .bl b => a == b
  | .int a, .int b => a == b
  | .bl a, .int b => (if a then 1 else 0) == b
  | .int a, .bl b => a == (if b then 1 else 0)
  | .str a, .str b => a == b
  | .tup a, .tup b => D.eqs a b
  | .lst a, .lst b => D.eqs a b
  | _, _ => false
def D.eqs : List D → List D → Bool
  | [], [] => true
  | a :: as, b :: bs => D.eq a b && D.eqs as bs
  | _, _ => false
end

mutual
/-- the two can be compared, place by place -/
def D.alike : D → D → Bool
  | .non, .non => true
  | .bl _, .bl _ => true
  | .int _, .int _ => true
  | .str _, .str _ => true
  | .tup a, .tup b => D.alikes a b
  | .lst a, .lst b => D.alikes a b
  | _, _ => false
def D.alikes : List D → List D → Bool
  | [], _ => true
  | _ :: _, [] => true
  | x :: xs, y :: ys => D.alike x y && D.alikes xs ys
end
mutual
/-- the very same -/
def D.idn : D → D → Bool
  | .non, .non => true
  | .bl a, .bl b => a == b
  | .int a, .int b => a == b
  | .str a, .str b => a == b
  | .tup a, .tup b => D.idns a b
  | .lst a, .lst b => D.idns a b
  | _, _ => false
def D.idns : List D → List D → Bool
  | [], [] => true
  | a :: as, b :: bs => D.idn a b && D.idns as bs
  | _, _ => false
end
mutual
/-- more than the length of the text that shows it -/
def D.wt : D → Nat
  | .non => 4
  | .bl _ => 5
  | .int i => i.natAbs.log2 + 3
  | .str s => 10 * s.toList.length + 2
  | .tup ds => D.wts ds + 4
  | .lst ds => D.wts ds + 4
def D.wts : List D → Nat
  | [] => 0
  | d :: ds => D.wt d + 2 + D.wts ds
end
mutual
/-- no number is too great to be shown -/
def D.shw : D → Bool
  | .int i => Nat.blt i.natAbs.log2 1900
  | .tup ds => D.shws ds
  | .lst ds => D.shws ds
  | _ => true
def D.shws : List D → Bool
  | [] => true
  | d :: ds => D.shw d && D.shws ds
end
def cpsOf (s : String) : List Nat := s.toList.map Char.toNat
mutual
/-- < of Python, for what is alike -/
def D.lt : D → D → Bool
  | .bl a, .bl b => !a && b
  | .int a, .int b => decide (a < b)
  | .str a, .str b => decide (cpsOf a < cpsOf b)
  | .tup a, .tup b => D.lts a b
  | .lst a, .lst b => D.lts a b
  | _, _ => false
def D.lts : List D → List D → Bool
  | [], [] => false
  | [], _ :: _ => true
  | _ :: _, [] => false
  | x :: xs, y :: ys => if D.eq x y then D.lts xs ys else D.lt x y
end

/-- the longest list, tuple, text that the evaluator makes -/
def cap : Nat := 1000000

/-- a value: data, a cell of the store, a def of the module, the script, the text that shows data -/
inductive Vl where
  | d (x : D) | p (i : Nat) | f (g : String) | s (ds : List D) | r (x : D)
  deriving Inhabited
inductive DK where | k | t | n
  deriving DecidableEq
inductive Cell where
  | dead
  | lst (ds : List D)
  | dic (k : DK) (kvs : List (D × Vl))
  | ins (c : String) (fs : List (String × Vl))
  deriving Inhabited
abbrev St := List Cell
abbrev Env := List (Option Vl)
structure Exn where
  cls : String
  arg : D
inductive R (α : Type) where
  | ok (a : α) (S : St)
  | ex (x : Exn) (S : St)
  | no
def R.bind {α β : Type} (r : R α) (f : α → St → R β) : R β := match r with
  | .ok a S => f a S
  | .ex x S => .ex x S
  | .no => .no
@[simp] theorem ok_bind {α β : Type} (a : α) (S : St) (f : α → St → R β) : (R.ok a S).bind f = f a S := rfl
@[simp] theorem ex_bind {α β : Type} (x : Exn) (S : St) (f : α → St → R β) : (R.ex x S).bind f = .ex x S := rfl
@[simp] theorem no_bind {α β : Type} (f : α → St → R β) : (R.no : R α).bind f = .no := rfl
def R.of {α : Type} (o : Option α) (S : St) : R α := match o with
  | some a => .ok a S
  | none => .no
@[simp] theorem of_some {α : Type} (a : α) (S : St) : R.of (some a) S = .ok a S := rfl
@[simp] theorem of_none {α : Type} (S : St) : (R.of none S : R α) = .no := rfl

/-! ### what is written -/
inductive BOp where | add | sub | mul | fdiv | mod | pow | shl
  deriving DecidableEq
inductive COp where | eq | ne | lt | le | gt | ge | is_ | isnot | in_ | notin
  deriving DecidableEq
inductive Ty where | int | bool | str | list | tuple
  deriving DecidableEq
inductive Prim where
  | len | abs | int | tuple | min2 | max2 | any | all | sum | min1 | max1
  deriving DecidableEq
inductive BM where
  | append | pop | extend
  deriving DecidableEq
inductive Tg where
  | n (i : Nat)
  | t (is : List Nat)
mutual
inductive Ex where
  | var (i : Nat)
  | cst (d : D)
  | gint (x : String) (i : Int)
  | bin (o : BOp) (a b : Ex)
  | neg (a : Ex)
  | cmp (o : COp) (a b : Ex)
  | andE (a b : Ex)
  | orE (a b : Ex)
  | notE (a : Ex)
  | ite (c : Tt) (a b : Ex)
  | tup (es : Exs)
  | fz (l : Le)
  | own (l : Le)
  | dnew (k : DK)
  | ix (a b : Ex)
  | slF (a lo : Ex)
  | gdix (x : String) (e : Ex)
  | attr (a : Ex) (c f : String)
  | call (g : String) (es : Exs)
  | meth (a : Ex) (c m : String) (es : Exs)
  | make (c : String) (es : Exs)
  | callv (i : Nat) (es : Exs)
  | prim (o : Prim) (es : Exs)
  | isin (e : Ex) (ts : List Ty)
  | bm (m : BM) (a : Ex) (es : Exs)
  | frz (e : Ex)
  | ddis (kvs : List ((Option String × Int) × (Option String × Int)))
  | slT (a hi : Ex)
  | index (a b : Ex)
  | dcomp (t : Tg) (it : It) (c : Tt) (k v : Ex)
  | ddiv (ks : List (Option String × D)) (es : Exs)
  | chain (o p : COp) (a b c : Ex)
  | inG (x : String) (e : Ex)
  | starts (a b : Ex)
  | repr (e : Ex)
  | extK (mx : Bool) (g : String) (e : Ex)
  | ext2K (mx : Bool) (g : String) (a b : Ex)
  | dget (a k x : Ex)
  | reprLD (i j : Nat)
inductive Exs where
  | nil
  | cons (e : Ex) (es : Exs)
inductive Tt where
  | yes
  | and_ (a b : Tt)
  | or_ (a b : Tt)
  | not_ (a : Tt)
  | cmp (o : COp) (a b : Ex)
  | e (x : Ex)
  | chain (o p : COp) (a b c : Ex)
  | inG (x : String) (e : Ex)
inductive It where
  | seq (e : Ex)
  | rng (e : Ex)
  | enum (e : Ex)
  | rev (e : Ex)
inductive Le where
  | disp (es : Exs)
  | comp (t : Tg) (it : It) (c : Tt) (e : Ex)
  | of (e : Ex)
  | srt (e : Ex)
  | srtS (t : Tg) (it : It) (c : Tt) (e : Ex)
  | srtK (g : String) (e : Ex)
  | items (e : Ex)
end
mutual
inductive Sm where
  | asg (i : Nat) (e : Ex)
  | asgT (is : List Nat) (e : Ex)
  | asgA (a : Ex) (c f : String) (e : Ex)
  | asgI (a b e : Ex)
  | aug (i : Nat) (o : BOp) (e : Ex)
  | ex (e : Ex)
  | ret (e : Ex)
  | ifs (c : Tt) (a b : Sms)
  | for_ (dr : Bool) (t : Tg) (it : It) (b : Sms)
  | whl (c : Tt) (b : Sms)
  | pass | brk | cont | bad
  | frz (i : Nat)
inductive Sms where
  | nil
  | cons (s : Sm) (ss : Sms)
end

/-! ### operations on values -/
def ixN (n : Nat) (i : Int) : Option Nat := if 0 ≤ i then (if i < n then some i.toNat else none) else if -(n : Int) ≤ i then some (i + n).toNat else none
def atI {α : Type} (xs : List α) (i : Int) : Option α := (ixN xs.length i).bind fun j => xs[j]?
mutual
def D.dep : D → Nat
  | .tup ds => D.deps ds + 1
  | .lst ds => D.deps ds + 1
  | _ => 0
def D.deps : List D → Nat
  | [] => 0
  | d :: ds => max (D.dep d) (D.deps ds)
end
def D.flat : D → Bool
  | .tup _ => false
  | .lst _ => false
  | _ => true

/-- a value as data: data itself, a list cell's content -/
def dat (S : St) : Vl → Option D
  | .d x => some x
  | .p i => match S[i]? with
    | some (.lst ds) => some (.lst ds)
    | _ => none
  | .f _ => none
  | .s _ => none
  | .r _ => none
def seqOf (S : St) (v : Vl) : Option (List D) := match dat S v with
  | some (.lst ds) => some ds
  | some (.tup ds) => some ds
  | _ => none
def truth (S : St) : Vl → Option Bool
  | .d .non => some false
  | .d (.bl b) => some b
  | .d (.int i) => some (i != 0)
  | .d (.lst ds) => some (!ds.isEmpty)
  | .d (.tup ds) => some (!ds.isEmpty)
  | .p i => match S[i]? with
    | some (.lst ds) => some (!ds.isEmpty)
    | _ => none
  | _ => none
def small (i : Int) : Bool := Nat.blt i.natAbs.log2 64
theorem small_iff {i : Int} : small i = true ↔ -18446744073709551616 < i ∧ i < 18446744073709551616 := by
  unfold small
  rw [Nat.blt_eq]
  by_cases h : i.natAbs = 0
  · rw [h, Nat.log2_zero]; omega
  · rw [Nat.log2_lt h]
    omega
def binD : BOp → D → D → Option D
  | .add, .int a, .int b => some (.int (a + b))
  | .sub, .int a, .int b => some (.int (a - b))
  | .mul, .int a, .int b => if small a || small b then some (.int (a * b)) else none
  | .fdiv, .int a, .int b => if 0 < b ∧ Nat.blt b.natAbs.log2 99 = true then some (.int (a / b)) else none
  | .mod, .int a, .int b => if 0 < b then some (.int (a % b)) else none
  | .pow, .int a, .int b => if 0 ≤ b ∧ b ≤ 1000000 ∧ small a then some (.int (a ^ b.toNat)) else none
  | .shl, .int a, .int b => if 0 ≤ b ∧ b ≤ 1000000 ∧ small a then some (.int (a * 2 ^ b.toNat)) else none
  | .add, .tup a, .tup b => if a.length + b.length ≤ cap then some (.tup (a ++ b)) else none
  | .add, .lst a, .lst b => if a.length + b.length ≤ cap then some (.lst (a ++ b)) else none
  | .mul, .lst a, .int k => if 0 ≤ k ∧ k ≤ 1000000 ∧ a.length * k.toNat ≤ cap then some (.lst (List.replicate k.toNat a).flatten) else none
  | .mul, .tup a, .int k => if 1 ≤ k ∧ k ≤ 1000 ∧ a.length ≤ 1000 ∧ a.isEmpty = false then some (.tup (List.replicate k.toNat a).flatten) else none
  | _, _, _ => none
def binV (o : BOp) (S : St) (x y : Vl) : Option Vl := match dat S x, dat S y with
  | some a, some b => (binD o a b).map .d
  | _, _ => none
def eqD (a b : D) : Option Bool := if a.dep ≤ 60 ∧ b.dep ≤ 60 then some (D.eq a b) else none
/-- < of data -/
def ltD (a b : D) : Option Bool := match a with
  | .non => none
  | a => if a.alike b = true ∧ a.dep ≤ 60 ∧ b.dep ≤ 60 then some (D.lt a b) else none
def look (kvs : List (D × Vl)) (k : D) : Option Vl := (kvs.find? fun q => D.eq q.1 k).map (·.2)
def put (kvs : List (D × Vl)) (k : D) (v : Vl) : List (D × Vl) :=
  if kvs.any (fun q => D.eq q.1 k) then kvs.map (fun q => if D.eq q.1 k then (q.1, v) else q) else kvs ++ [(k, v)]
/-- a key of a dict of the kind: an int or a text; a tuple of such -/
def keyD : D → Bool
  | .int _ => true
  | .str _ => true
  | _ => false
mutual
/-- a part of a key that is a tuple -/
def D.nk : D → Bool
  | .non => true
  | .int _ => true
  | .str _ => true
  | .tup ds => D.nks ds
  | _ => false
def D.nks : List D → Bool
  | [] => true
  | d :: ds => D.nk d && D.nks ds
end
def DK.ok : DK → D → Bool
  | .k, d => keyD d
  | .t, .tup ds => ds.all keyD
  | .t, _ => false
  | .n, .tup ds => D.nks ds && Nat.ble (D.deps ds) 7
  | .n, _ => false
def inD (x : D) (ds : List D) : Option Bool := if (x.flat && ds.all D.flat) || decide (x.dep ≤ 60 ∧ D.deps ds ≤ 60) then some (ds.any fun y => D.eq y x) else none
/-- x in y -/
def inV (S : St) (x y : Vl) : Option Bool := match x with
  | .d k => match y with
    | .p i => match S[i]? with
      | some (.dic kd kvs) => if kd.ok k then some (kvs.any fun q => D.eq q.1 k) else none
      | some (.lst ds) => inD k ds
      | _ => none
    | .d (.lst ds) => inD k ds
    | .d (.tup ds) => if k.flat && ds.all D.flat then some (ds.any fun y => D.eq y k) else none
    | _ => none
  | _ => none
def cmpV (o : COp) (S : St) (x y : Vl) : Option Bool := match o with
  | .eq => match x, y with
    | .r a, .r b => if a.idn b then some true else none
    | x, y => match dat S x, dat S y with
      | some a, some b => eqD a b
      | _, _ => none
  | .ne => match x, y with
    | .r a, .r b => if a.idn b then some false else none
    | x, y => match dat S x, dat S y with
      | some a, some b => (eqD a b).map (!·)
      | _, _ => none
  | .lt => match x, y with
    | .d a, .d b => ltD a b
    | _, _ => none
  | .le => match x, y with
    | .d (.int a), .d (.int b) => some (decide (a ≤ b))
    | _, _ => none
  | .gt => match x, y with
    | .d (.int a), .d (.int b) => some (decide (b < a))
    | _, _ => none
  | .ge => match x, y with
    | .d (.int a), .d (.int b) => some (decide (b ≤ a))
    | _, _ => none
  | .is_ => match y with
    | .d .non => match x with
      | .d .non => some true
      | _ => some false
    | .d (.bl q) => match x with
      | .d (.bl p) => some (p == q)
      | .d .non => some false
      | _ => none
    | _ => none
  | .isnot => match y with
    | .d .non => match x with
      | .d .non => some false
      | _ => some true
    | _ => none
  | .in_ => inV S x y
  | .notin => (inV S x y).map (!·)
/-- x[y] -/
def ixV (S : St) (x y : Vl) : Option Vl := match x with
  | .p i => match S[i]? with
    | some (.lst ds) => match y with
      | .d (.int k) => (atI ds k).map .d
      | _ => none
    | some (.dic kd kvs) => match y with
      | .d k => if kd.ok k then look kvs k else none
      | _ => none
    | _ => none
  | .d (.lst ds) => match y with
    | .d (.int k) => (atI ds k).map .d
    | _ => none
  | .d (.tup ds) => match y with
    | .d (.int k) => (atI ds k).map .d
    | _ => none
  | .d (.str s) => match y with
    | .d (.int k) => if s.toList.length ≤ cap then (atI s.toList k).map fun c => .d (.str (String.ofList [c])) else none
    | _ => none
  | _ => none
/-- x[k:] -/
def slFV (S : St) (x y : Vl) : Option D := match y with
  | .d (.int k) => if 0 < k then (match dat S x with
    | some (.lst ds) => some (.lst (ds.drop k.toNat))
    | some (.tup ds) => if 0 < ds.length then some (.tup (ds.drop k.toNat)) else none
    | _ => none) else none
  | _ => none
/-- x[:k] -/
def slTV (S : St) (x y : Vl) : Option D := match y with
  | .d (.int k) => if 0 ≤ k then (match dat S x with
    | some (.lst ds) => some (.lst (ds.take k.toNat))
    | some (.str s) => if s.toList.length ≤ cap then some (.str (String.ofList (s.toList.take k.toNat))) else none
    | _ => none) else none
  | _ => none
/-- x.index(y) -/
def indexV (S : St) (x y : Vl) : Option D := match dat S x with
  | some (.lst ds) => match y with
    | .d z => if z.dep ≤ 60 ∧ D.deps ds ≤ 60 then (ds.findIdx? fun w => D.eq w z).map fun j => .int (j : Nat) else none
    | _ => none
  | _ => none
/-- a written dict of ints -/
def putAll (kvs : List ((Option String × Int) × (Option String × Int))) : List (D × Vl) := kvs.foldl (fun m q => put m (.int q.1.2) (.d (.int q.2.2))) []
/-- a written dict of data -/
def putAllV : List (D × Vl) → List (Option String × D) → List D → Option (List (D × Vl))
  | m, [], [] => some m
  | m, k :: ks, v :: vs => if keyD k.2 then putAllV (put m k.2 (.d v)) ks vs else none
  | _, _, _ => none
/-- pairs put, one after another -/
def putPairs : List (D × Vl) → List D → List (D × Vl)
  | m, [] => m
  | m, .tup [k, v] :: r => putPairs (put m k (.d v)) r
  | m, _ :: r => putPairs m r
def insI (x : Int) : List Int → List Int
  | [] => [x]
  | y :: ys => if x ≤ y then x :: y :: ys else y :: insI x ys
def sortI : List Int → List Int
  | [] => []
  | x :: xs => insI x (sortI xs)
def startsD : D → D → Option Bool
  | .str a, .str b => some (b.toList.isPrefixOf a.toList)
  | _, _ => none
def startsV (S : St) (x y : Vl) : Option D := match x, y with
  | .d a, .d b => (startsD a b).map .bl
  | _, _ => none
def attrV (S : St) (c f : String) : Vl → Option Vl
  | .p i => match S[i]? with
    | some (.ins c' fs) => if c' = c then fs.lookup f else none
    | _ => none
  | _ => none
/-- d.get(k, x) -/
def dgetV (S : St) (x y z : Vl) : Option Vl := match x with
  | .p i => match S[i]? with
    | some (.dic kd kvs) => match y with
      | .d k => if kd.ok k then some ((look kvs k).getD z) else none
      | _ => none
    | _ => none
  | _ => none
/-- the pairs of a dict, as data -/
def pairsD : List (D × Vl) → Option (List D)
  | [] => some []
  | (k, .d v) :: r => (pairsD r).map (.tup [k, v] :: ·)
  | _ :: _ => none
/-- no data that is shown has it: behind it stand a list and a dict that are shown together -/
def mark : D := .int (Int.ofNat (2 ^ 2000))
def allInt : List D → Bool
  | [] => true
  | .tup [.int _, .int _] :: r => allInt r
  | _ => false
/-- repr([x, d]), x a list of data, d a dict of ints -/
def reprLDV (S : St) (x y : Vl) : Option Vl := match dat S x with
  | some (.lst a) => match y with
    | .p j => match S[j]? with
      | some (.dic .k kvs) => match pairsD kvs with
        | some ps => if allInt ps = true ∧ D.shws a = true ∧ D.shws ps = true ∧ D.deps a ≤ 50 ∧ D.wts a + D.wts ps ≤ 1000000 then some (.r (.tup [mark, .lst a, .lst ps])) else none
        | none => none
      | _ => none
    | _ => none
  | _ => none
def bools : List D → Option (List Bool)
  | [] => some []
  | .bl b :: ds => (bools ds).map (b :: ·)
  | _ :: _ => none
def intsD : List D → Option (List Int)
  | [] => some []
  | .int b :: ds => (intsD ds).map (b :: ·)
  | _ :: _ => none
def primV (o : Prim) (S : St) (vs : List Vl) : Option D := match o with
  | .len => match vs with
    | [.p i] => match S[i]? with
      | some (.lst ds) => some (.int ds.length)
      | some (.dic _ kvs) => some (.int kvs.length)
      | _ => none
    | [.d (.lst ds)] => some (.int ds.length)
    | [.d (.tup ds)] => some (.int ds.length)
    | [.d (.str s)] => if s.toList.length ≤ cap then some (.int s.toList.length) else none
    | _ => none
  | .abs => match vs with
    | [.d (.int i)] => some (.int (if i < 0 then -i else i))
    | _ => none
  | .int => match vs with
    | [.d (.int i)] => some (.int i)
    | [.d (.bl b)] => some (.int (if b then 1 else 0))
    | _ => none
  | .tuple => match vs with
    | [v] => (seqOf S v).map .tup
    | _ => none
  | .min2 => match vs with
    | [.d (.int i), .d (.int j)] => some (.int (if j < i then j else i))
    | _ => none
  | .max2 => match vs with
    | [.d (.int i), .d (.int j)] => some (.int (if j > i then j else i))
    | _ => none
  | .any => match vs with
    | [v] => match dat S v with
      | some (.lst ds) => (bools ds).map fun bs => .bl (bs.any id)
      | _ => none
    | _ => none
  | .all => match vs with
    | [v] => match dat S v with
      | some (.lst ds) => (bools ds).map fun bs => .bl (bs.all id)
      | _ => none
    | _ => none
  | .sum => match vs with
    | [v] => match dat S v with
      | some (.lst ds) => (intsD ds).map fun bs => .int bs.sum
      | _ => none
    | _ => none
  | .min1 => match vs with
    | [v] => match dat S v with
      | some (.lst ds) => match intsD ds with
        | some (b :: bs) => some (.int (bs.foldl (fun m x => if x < m then x else m) b))
        | _ => none
      | _ => none
    | _ => none
  | .max1 => match vs with
    | [v] => match dat S v with
      | some (.lst ds) => match intsD ds with
        | some (b :: bs) => some (.int (bs.foldl (fun m x => if x > m then x else m) b))
        | _ => none
      | _ => none
    | _ => none
def tyV (S : St) (v : Vl) (t : Ty) : Option Bool := match v with
  | .d .non => some false
  | .d (.bl _) => match t with
    | .int => some true
    | .bool => some true
    | _ => some false
  | .d (.int _) => match t with
    | .int => some true
    | _ => some false
  | .d (.str _) => match t with
    | .str => some true
    | _ => some false
  | .d (.lst _) => match t with
    | .list => some true
    | _ => some false
  | .d (.tup _) => match t with
    | .tuple => some true
    | _ => some false
  | .p i => match S[i]? with
    | some (.lst _) => match t with
      | .list => some true
      | _ => some false
    | _ => none
  | .f _ => none
  | .s _ => none
  | .r _ => none
def tysV (S : St) (v : Vl) : List Ty → Option Bool
  | [] => some false
  | t :: ts => match tyV S v t with
    | some true => some true
    | some false => tysV S v ts
    | none => none
/-- may v be stored in the cell i: no cell into one that is elder than this frame -/
def okW (n0 i : Nat) : Vl → Bool
  | .p _ => decide (n0 ≤ i)
  | _ => true
/-- methods of lists -/
def bmV (m : BM) (S : St) (x : Vl) (vs : List Vl) : R Vl := match x with
  | .p i => match S[i]? with
    | some (.lst ds) => match m with
      | .append => match vs with
        | [v] => match v with
          | .d y => if ds.length < cap then .ok (.d .non) (S.set i (.lst (ds ++ [y]))) else .no
          | _ => .no
        | _ => .no
      | .pop => match vs with
        | [] => match ds.getLast? with
          | some y => .ok (.d y) (S.set i (.lst ds.dropLast))
          | none => .no
        | _ => .no
      | .extend => match vs with
        | [v] => match dat S v with
          | some (.lst es) => if ds.length + es.length ≤ cap then .ok (.d .non) (S.set i (.lst (ds ++ es))) else .no
          | _ => .no
        | _ => .no
    | _ => .no
  | _ => .no
def frzV (S : St) : Vl → R Vl
  | .p i => match S[i]? with
    | some (.lst ds) => .ok (.d (.lst ds)) (S.set i .dead)
    | _ => .no
  | _ => .no
def setsD (G : Env) : List Nat → List D → Option Env
  | [], [] => some G
  | i :: is, d :: ds => setsD (G.set i (some (.d d))) is ds
  | _, _ => none
def Tg.set (G : Env) : Tg → D → Option Env
  | .n i, d => some (G.set i (some (.d d)))
  | .t is, .tup ds => setsD G is ds
  | .t is, _ => none
/-- o[i] = v -/
def setI (n0 : Nat) (S : St) (x y v : Vl) : Option St := match x with
  | .p i => match S[i]? with
    | some (.lst ds) => match y, v with
      | .d (.int k), .d z => (ixN ds.length k).map fun j => S.set i (.lst (ds.set j z))
      | _, _ => none
    | some (.dic kd kvs) => match y with
      | .d k => if kd.ok k && okW n0 i v && decide (kvs.length < cap) then some (S.set i (.dic kd (put kvs k v))) else none
      | _ => none
    | _ => none
  | _ => none
def putF (fs : List (String × Vl)) (f : String) (v : Vl) : List (String × Vl) := match fs with
  | [] => [(f, v)]
  | q :: r => if q.1 = f then (f, v) :: r else q :: putF r f v
def setA (n0 : Nat) (S : St) (x : Vl) (c f : String) (v : Vl) : Option St := match x with
  | .p i => match S[i]? with
    | some (.ins c' fs) => if c' = c ∧ okW n0 i v = true ∧ fs.length < 900 then some (S.set i (.ins c' (putF fs f v))) else none
    | _ => none
  | _ => none

/-! ### the evaluator -/
structure Cx where
  call : Nat → String → String → List Vl → St → R Vl
  n0 : Nat
  gd : String → Option (List (String × String))
  has : String → Bool
def gdixV (C : Cx) (x : String) : Vl → Option Vl
  | .d (.str s) => match C.gd x with
    | some t => (t.lookup s).map .f
    | none => none
  | _ => none
/-- repr(x) -/
def reprV (S : St) (v : Vl) : Option Vl := match dat S v with
  | some d => (match d with
    | .tup _ => if d.shw = true ∧ d.dep ≤ 60 ∧ d.wt ≤ 10000000 then some (.r d) else none
    | .lst _ => if d.shw = true ∧ d.dep ≤ 60 ∧ d.wt ≤ 10000000 then some (.r d) else none
    | _ => none)
  | none => none
/-- is it a key of the module's table -/
def inGV (C : Cx) (x : String) : Vl → Option Bool
  | .d (.str s) => match C.gd x with
    | some t => some (t.lookup s).isSome
    | none => none
  | _ => none
/-- an instance of c that has no field m -/
def methOk (S : St) (c m : String) : Vl → Bool
  | .p i => match S[i]? with
    | some (.ins c' fs) => decide (c' = c) && (fs.lookup m).isNone
    | _ => false
  | _ => false
def isStr : Vl → Bool
  | .d (.str _) => true
  | _ => false
def isLst (S : St) : Vl → Bool
  | .p i => match S[i]? with
    | some (.lst _) => true
    | _ => false
  | _ => false
def isLd (S : St) (v : Vl) : Bool := match dat S v with
  | some (.lst _) => true
  | _ => false
def isDic (S : St) : Vl → Bool
  | .p i => match S[i]? with
    | some (.dic _ _) => true
    | _ => false
  | _ => false
/-- a comprehension's loop -/
def compL (step : D → St → R (Option D)) : List D → List D → St → R (List D)
  | acc, [], S => .ok acc S
  | acc, x :: xs, S => (step x S).bind fun o S' => match o with
    | some y => if acc.length < cap then compL step (acc ++ [y]) xs S' else .no
    | none => compL step acc xs S'
/-- the loop of a set of ints, 63 at the most -/
def setL (step : D → St → R (Option Int)) : List Int → List D → St → R (List Int)
  | acc, [], S => .ok acc S
  | acc, x :: xs, S => (step x S).bind fun o S' => match o with
    | some y => if y ∈ acc then setL step acc xs S' else if acc.length < 63 then setL step (acc ++ [y]) xs S' else .no
    | none => setL step acc xs S'
/-- the keys of a list's items -/
def keysL (step : D → St → R Vl) : List D → List D → St → R (List D)
  | acc, [], S => .ok acc S
  | acc, x :: xs, S => (step x S).bind fun v S' => match v with
    | .d k => keysL step (acc ++ [k]) xs S'
    | _ => .no
def tupK : D → Bool
  | .tup (_ :: _) => true
  | _ => false
def plK : D → Bool
  | .non => false
  | .tup _ => false
  | _ => true
/-- they may be put in order -/
def okKeys (ks : List D) : Bool := (ks.all tupK || ks.all plK) && ks.all (fun a => decide (a.dep ≤ 60) && ks.all fun b => a.alike b) && decide (ks.length ≤ cap)
def sortK (ds ks : List D) : List D := ((ds.zip ks).mergeSort fun p q => !D.lt q.2 p.2).map (·.1)
/-- is the new key better: less, or greater -/
def betK (mx : Bool) (k' k : D) : Option Bool := match k' with
  | .non => none
  | k' => if k'.alike k = true ∧ k.alike k' = true ∧ k'.dep ≤ 60 ∧ k.dep ≤ 60 then some (if mx then D.lt k k' else D.lt k' k) else none
/-- min and max by a key -/
def bestL (mx : Bool) (step : D → St → R Vl) : Option (D × D) → List D → St → R Vl
  | none, [], _ => .no
  | some q, [], S => .ok (.d q.1) S
  | cur, x :: xs, S => (step x S).bind fun v S' => match v with
    | .d k' => (match cur with
      | none => bestL mx step (some (x, k')) xs S'
      | some q => (match betK mx k' q.2 with
        | some b => bestL mx step (some (if b then (x, k') else q)) xs S'
        | none => .no))
    | _ => .no
/-- nothing raised leaves a comprehension -/
def R.nox {α : Type} : R α → R α
  | .ex _ _ => .no
  | r => r
mutual
def evE (C : Cx) : Ex → Env → St → R Vl
  | .var i, G, S => match G[i]? with
    | some (some v) => .ok v S
    | _ => .no
  | .cst d, _, S => .ok (.d d) S
  | .gint _ i, _, S => .ok (.d (.int i)) S
  | .bin o a b, G, S => (evE C a G S).bind fun x S => (evE C b G S).bind fun y S => R.of (binV o S x y) S
  | .neg a, G, S => (evE C a G S).bind fun x S => match x with
    | .d (.int i) => .ok (.d (.int (-i))) S
    | _ => .no
  | .cmp o a b, G, S => (evE C a G S).bind fun x S => (evE C b G S).bind fun y S => R.of ((cmpV o S x y).map fun b => .d (.bl b)) S
  | .andE a b, G, S => (evE C a G S).bind fun x S => (R.of (truth S x) S).bind fun t S => if t then evE C b G S else .ok x S
  | .orE a b, G, S => (evE C a G S).bind fun x S => (R.of (truth S x) S).bind fun t S => if t then .ok x S else evE C b G S
  | .notE a, G, S => (evE C a G S).bind fun x S => (R.of (truth S x) S).bind fun b S => .ok (.d (.bl (!b))) S
  | .ite c a b, G, S => (evT C c G S).bind fun t S => if t then evE C a G S else evE C b G S
  | .tup es, G, S => (evEs C es G S).bind fun vs S => match vs.mapM (fun v => match v with | .d x => some x | _ => none) with
    | some ds => if ds.length ≤ cap then .ok (.d (.tup ds)) S else .no
    | none => .no
  | .fz l, G, S => (evL C l G S).bind fun ds S => .ok (.d (.lst ds)) S
  | .own l, G, S => (evL C l G S).bind fun ds S => .ok (.p S.length) (S ++ [.lst ds])
  | .dnew k, _, S => .ok (.p S.length) (S ++ [.dic k []])
  | .ix a b, G, S => (evE C a G S).bind fun x S => (evE C b G S).bind fun y S => R.of (ixV S x y) S
  | .slF a lo, G, S => (evE C a G S).bind fun x S => (evE C lo G S).bind fun y S => R.of ((slFV S x y).map .d) S
  | .gdix x e, G, S => (evE C e G S).bind fun v S => R.of (gdixV C x v) S
  | .attr a c f, G, S => (evE C a G S).bind fun x S => R.of (attrV S c f x) S
  | .call g es, G, S => (evEs C es G S).bind fun vs S => C.call C.n0 "" g vs S
  | .meth a c m es, G, S => (evE C a G S).bind fun x S => if methOk S c m x then (evEs C es G S).bind fun vs S => C.call C.n0 c m (x :: vs) S else .no
  | .make c es, G, S => (evEs C es G S).bind fun vs S => C.call C.n0 c "" vs S
  | .callv i es, G, S => match G[i]? with
    | some (some (.f g)) => if C.has g then (evEs C es G S).bind fun vs S => C.call C.n0 "" g vs S else .no
    | _ => .no
  | .prim o es, G, S => (evEs C es G S).bind fun vs S => R.of ((primV o S vs).map .d) S
  | .isin e ts, G, S => (evE C e G S).bind fun v S => R.of ((tysV S v ts).map fun b => .d (.bl b)) S
  | .bm m a es, G, S => (evE C a G S).bind fun x S => if isLst S x then (evEs C es G S).bind fun vs S => bmV m S x vs else .no
  | .frz e, G, S => (evE C e G S).bind fun v S => frzV S v
  | .ddis kvs, _, S => .ok (.p S.length) (S ++ [.dic .k (putAll kvs)])
  | .slT a hi, G, S => (evE C a G S).bind fun x S => (evE C hi G S).bind fun y S => R.of ((slTV S x y).map .d) S
  | .index a b, G, S => (evE C a G S).bind fun x S => if isLd S x then (evE C b G S).bind fun y S => R.of ((indexV S x y).map .d) S else .no
  | .dcomp t it c k v, G, S => (evI C it G S).bind fun ds S => (compL (fun d S => match t.set G d with
    | some G' => (evT C c G' S).bind fun b S => if b then (evE C k G' S).bind fun kv S => (evE C v G' S).bind fun vv S => (match kv, vv with
      | .d x, .d y => if keyD x then .ok (some (.tup [x, y])) S else .no
      | _, _ => .no) else .ok none S
    | none => .no) [] ds S).nox.bind fun ps S => .ok (.p S.length) (S ++ [.dic .k (putPairs [] ps)])
  | .ddiv ks es, G, S => (evEs C es G S).bind fun vs S => match vs.mapM (fun v => match v with | .d x => some x | _ => none) with
    | some ds => (match putAllV [] ks ds with
      | some m => .ok (.p S.length) (S ++ [.dic .k m])
      | none => .no)
    | none => .no
  | .chain o p a b c, G, S => (evE C a G S).bind fun x S => (evE C b G S).bind fun y S => (R.of (cmpV o S x y) S).bind fun t S => if t then (evE C c G S).bind fun z S => R.of ((cmpV p S y z).map fun b => .d (.bl b)) S else .ok (.d (.bl false)) S
  | .inG x e, G, S => (evE C e G S).bind fun v S => R.of ((inGV C x v).map fun b => .d (.bl b)) S
  | .repr e, G, S => (evE C e G S).bind fun v S => R.of (reprV S v) S
  | .dget a k x, G, S => (evE C a G S).bind fun x1 S => if isDic S x1 then (evE C k G S).bind fun y S => (evE C x G S).bind fun z S => R.of (dgetV S x1 y z) S else .no
  | .reprLD i j, G, S => match G[i]?, G[j]? with
    | some (some x), some (some y) => R.of (reprLDV S x y) S
    | _, _ => .no
  | .ext2K mx g a b, G, S => (evE C a G S).bind fun x S => (evE C b G S).bind fun y S => match x, y with
    | .d d1, .d d2 => (bestL mx (fun d S => C.call C.n0 "" g [.d d] S) none [d1, d2] S).nox
    | _, _ => .no
  | .extK mx g e, G, S => (evE C e G S).bind fun v S => match v with
    | .d (.lst ds) => (bestL mx (fun d S => C.call C.n0 "" g [.d d] S) none ds S).nox
    | _ => .no
  | .starts a b, G, S => (evE C a G S).bind fun x S => if isStr x then (evE C b G S).bind fun y S => R.of ((startsV S x y).map .d) S else .no
def evEs (C : Cx) : Exs → Env → St → R (List Vl)
  | .nil, _, S => .ok [] S
  | .cons e es, G, S => (evE C e G S).bind fun v S => (evEs C es G S).bind fun vs S => .ok (v :: vs) S
def evT (C : Cx) : Tt → Env → St → R Bool
  | .yes, _, S => .ok true S
  | .and_ a b, G, S => (evT C a G S).bind fun t S => if t then evT C b G S else .ok false S
  | .or_ a b, G, S => (evT C a G S).bind fun t S => if t then .ok true S else evT C b G S
  | .not_ a, G, S => (evT C a G S).bind fun t S => .ok (!t) S
  | .cmp o a b, G, S => (evE C a G S).bind fun x S => (evE C b G S).bind fun y S => R.of (cmpV o S x y) S
  | .e x, G, S => (evE C x G S).bind fun v S => R.of (truth S v) S
  | .chain o p a b c, G, S => (evE C a G S).bind fun x S => (evE C b G S).bind fun y S => (R.of (cmpV o S x y) S).bind fun t S => if t then (evE C c G S).bind fun z S => R.of (cmpV p S y z) S else .ok false S
  | .inG x e, G, S => (evE C e G S).bind fun v S => R.of (inGV C x v) S
def evI (C : Cx) : It → Env → St → R (List D)
  | .seq e, G, S => (evE C e G S).bind fun v S => match v with
    | .d (.lst ds) => .ok ds S
    | .d (.tup ds) => .ok ds S
    | _ => .no
  | .rng e, G, S => (evE C e G S).bind fun v S => match v with
    | .d (.int n) => if -4611686018427387904 ≤ n ∧ n ≤ cap then .ok ((List.range n.toNat).map fun (i : Nat) => D.int (i : Int)) S else .no
    | _ => .no
  | .enum e, G, S => (evE C e G S).bind fun v S => match v with
    | .d (.lst ds) => .ok (ds.zipIdx.map fun q => D.tup [.int (q.2 : Int), q.1]) S
    | _ => .no
  | .rev e, G, S => (evE C e G S).bind fun v S => match v with
    | .d (.lst ds) => .ok ds.reverse S
    | .d (.tup ds) => .ok ds.reverse S
    | _ => .no
def evL (C : Cx) : Le → Env → St → R (List D)
  | .disp es, G, S => (evEs C es G S).bind fun vs S => match vs.mapM (fun v => match v with | .d x => some x | _ => none) with
    | some ds => if ds.length ≤ cap then .ok ds S else .no
    | none => .no
  | .comp t it c e, G, S => (evI C it G S).bind fun ds S => (compL (fun d S => match t.set G d with
    | some G' => (evT C c G' S).bind fun b S => if b then (evE C e G' S).bind fun v S => (match v with
      | .d y => .ok (some y) S
      | _ => .no) else .ok none S
    | none => .no) [] ds S).nox
  | .of e, G, S => (evE C e G S).bind fun v S => match v with
    | .p i => match S[i]? with
      | some (.lst ds) => .ok ds S
      | some (.dic .k kvs) => .ok (kvs.map (·.1)) S
      | some (.dic .n kvs) => .ok (kvs.map (·.1)) S
      | _ => .no
    | .d (.lst ds) => .ok ds S
    | .d (.tup ds) => .ok ds S
    | .s ds => .ok ds S
    | _ => .no
  | .srtS t it c e, G, S => (evI C it G S).bind fun ds S => (setL (fun d S => match t.set G d with
    | some G' => (evT C c G' S).bind fun b S => if b then (evE C e G' S).bind fun v S => (match v with
      | .d (.int y) => .ok (some y) S
      | _ => .no) else .ok none S
    | none => .no) [] ds S).nox.bind fun is S => .ok ((sortI is).map .int) S
  | .srtK g e, G, S => (evE C e G S).bind fun v S => match dat S v with
    | some (.lst ds) => (keysL (fun d S => C.call C.n0 "" g [.d d] S) [] ds S).nox.bind fun ks S => if okKeys ks then .ok (sortK ds ks) S else .no
    | _ => .no
  | .items e, G, S => (evE C e G S).bind fun v S => match v with
    | .p i => match S[i]? with
      | some (.dic .k kvs) => R.of (pairsD kvs) S
      | some (.dic .n kvs) => R.of (pairsD kvs) S
      | _ => .no
    | _ => .no
  | .srt e, G, S => (evE C e G S).bind fun v S => match dat S v with
    | some (.lst ds) => (match intsD ds with
      | some is => .ok ((sortI is).map .int) S
      | none => .no)
    | _ => .no
end

inductive Fl where
  | nx | rt (v : Vl) | bk | ct
/-- what a statement comes to; an exception takes the names' values with it -/
inductive Q where
  | ok (f : Fl) (G : Env) (S : St)
  | ex (x : Exn) (G : Env) (S : St)
  | no
def R.go {α : Type} (G : Env) (r : R α) (f : α → St → Q) : Q := match r with
  | .ok a S => f a S
  | .ex x S => .ex x G S
  | .no => .no
@[simp] theorem ok_go {α : Type} (G : Env) (a : α) (S : St) (f : α → St → Q) : (R.ok a S).go G f = f a S := rfl
@[simp] theorem ex_go {α : Type} (G : Env) (x : Exn) (S : St) (f : α → St → Q) : (R.ex x S : R α).go G f = .ex x G S := rfl
@[simp] theorem no_go {α : Type} (G : Env) (f : α → St → Q) : (R.no : R α).go G f = .no := rfl
/-- behind a statement: on, or out -/
def Q.next (r : Q) (f : Env → St → Q) : Q := match r with
  | .ok .nx G S => f G S
  | r => r
@[simp] theorem nx_next (G : Env) (S : St) (f : Env → St → Q) : (Q.ok .nx G S).next f = f G S := rfl
@[simp] theorem rt_next (v : Vl) (G : Env) (S : St) (f : Env → St → Q) : (Q.ok (.rt v) G S).next f = .ok (.rt v) G S := rfl
@[simp] theorem bk_next (G : Env) (S : St) (f : Env → St → Q) : (Q.ok .bk G S).next f = .ok .bk G S := rfl
@[simp] theorem ct_next (G : Env) (S : St) (f : Env → St → Q) : (Q.ok .ct G S).next f = .ok .ct G S := rfl
@[simp] theorem ex_next (x : Exn) (G : Env) (S : St) (f : Env → St → Q) : (Q.ex x G S).next f = .ex x G S := rfl
@[simp] theorem no_next (f : Env → St → Q) : Q.no.next f = .no := rfl
/-- behind a loop's turn: on, out of the loop, or out -/
def Q.turn (r : Q) (f : Env → St → Q) : Q := match r with
  | .ok .nx G S => f G S
  | .ok .ct G S => f G S
  | .ok .bk G S => .ok .nx G S
  | r => r
@[simp] theorem nx_turn (G : Env) (S : St) (f : Env → St → Q) : (Q.ok .nx G S).turn f = f G S := rfl
@[simp] theorem ct_turn (G : Env) (S : St) (f : Env → St → Q) : (Q.ok .ct G S).turn f = f G S := rfl
@[simp] theorem bk_turn (G : Env) (S : St) (f : Env → St → Q) : (Q.ok .bk G S).turn f = .ok .nx G S := rfl
@[simp] theorem rt_turn (v : Vl) (G : Env) (S : St) (f : Env → St → Q) : (Q.ok (.rt v) G S).turn f = .ok (.rt v) G S := rfl
@[simp] theorem ex_turn (x : Exn) (G : Env) (S : St) (f : Env → St → Q) : (Q.ex x G S).turn f = .ex x G S := rfl
@[simp] theorem no_turn (f : Env → St → Q) : Q.no.turn f = .no := rfl
def belowV (n : Nat) : Option Vl → Bool
  | some (.p j) => decide (j < n)
  | _ => true
/-- the names without the cells from n on -/
def cutE (n : Nat) (G : Env) : Env := G.map fun v => if belowV n v then v else none
/-- the cells from n on are let go -/
def Q.drop (n : Nat) : Q → Q
  | .ok f G S => (match f with
    | .rt v => if belowV n (some v) then .ok f (cutE n G) (S.take n) else .no
    | f => .ok f (cutE n G) (S.take n))
  | .ex x G S => .ex x (cutE n G) (S.take n)
  | .no => .no
def forL (step : D → Env → St → Q) : List D → Env → St → Q
  | [], G, S => .ok .nx G S
  | x :: xs, G, S => (step x G S).turn (forL step xs)
def whlL (test : Env → St → R Bool) (body : Env → St → Q) : Nat → Env → St → Q
  | 0, _, _ => .no
  | n + 1, G, S => (test G S).go G fun b S => if b then (body G S).turn (whlL test body n) else .ok .nx G S
def lots : Nat := 1000000000
mutual
def evS (C : Cx) : Sm → Env → St → Q
  | .asg i e, G, S => (evE C e G S).go G fun v S => .ok .nx (G.set i (some v)) S
  | .asgT is e, G, S => (evE C e G S).go G fun v S => match v with
    | .d (.tup ds) => (match setsD G is ds with
      | some G' => .ok .nx G' S
      | none => .no)
    | _ => .no
  | .asgA a c f e, G, S => (evE C e G S).go G fun v S => (evE C a G S).go G fun x S => match setA C.n0 S x c f v with
    | some S => .ok .nx G S
    | none => .no
  | .asgI a b e, G, S => (evE C e G S).go G fun v S => (evE C a G S).go G fun x S => (evE C b G S).go G fun y S => match setI C.n0 S x y v with
    | some S => .ok .nx G S
    | none => .no
  | .aug i o e, G, S => match G[i]? with
    | some (some (.d (.int x))) => (evE C e G S).go G fun y S => match y with
      | .d (.int y) => (match binD o (.int x) (.int y) with
        | some z => .ok .nx (G.set i (some (.d z))) S
        | none => .no)
      | _ => .no
    | _ => .no
  | .ex e, G, S => (evE C e G S).go G fun _ S => .ok .nx G S
  | .ret e, G, S => (evE C e G S).go G fun v S => .ok (.rt v) G S
  | .ifs c a b, G, S => (evT C c G S).go G fun t S => if t then evSs C a G S else evSs C b G S
  | .for_ dr t it b, G, S => (evI C it G S).go G fun ds S => forL (fun d G S => match t.set G d with
    | some G' => if dr then (evSs { C with n0 := S.length } b G' S).drop S.length else evSs C b G' S
    | none => .no) ds G S
  | .whl c b, G, S => whlL (evT C c) (evSs C b) lots G S
  | .pass, G, S => .ok .nx G S
  | .brk, G, S => .ok .bk G S
  | .cont, G, S => .ok .ct G S
  | .bad, _, _ => .no
  | .frz i, G, S => match G[i]? with
    | some (some v) => (frzV S v).go G fun v S => .ok .nx (G.set i (some v)) S
    | _ => .no
def evSs (C : Cx) : Sms → Env → St → Q
  | .nil, G, S => .ok .nx G S
  | .cons s ss, G, S => (evS C s G S).next (evSs C ss)
end

/-! ### defs -/
structure Df where
  cls : String
  name : String
  n : Nat
  m : Nat
  keep : Bool
  body : Sms
structure Pg where
  defs : List Df
  cls : List String
  gd : String → Option (List (String × String))
def Pg.at_ (P : Pg) (c g : String) : Option Df := P.defs.find? fun d => d.cls == c && d.name == g
def startE (m : Nat) (vs : List Vl) : Env := vs.map some ++ List.replicate (m - vs.length) none
/-- behind a body -/
def fin (keep : Bool) (n : Nat) : Q → R Vl
  | .ok f _ S => (match f with
    | .rt v => if keep then .ok v S else (match v with
      | .p _ => .no
      | v => .ok v (S.take n))
    | .nx => .ok (.d .non) (if keep then S else S.take n)
    | _ => .no)
  | .ex x _ S => .ex x (if keep then S else S.take n)
  | .no => .no
def run (P : Pg) : Nat → Nat → String → String → List Vl → St → R Vl
  | 0, _, _, _, _, _ => .no
  | k + 1, n0, c, g, vs, S =>
    if g = "" then
      (if P.cls.contains c then (run P k n0 c "__init__" (.p S.length :: vs) (S ++ [.ins c []])).bind fun v S' => match v with
        | .d .non => .ok (.p S.length) S'
        | _ => .no
      else .no)
    else match P.at_ c g with
    | some d => if vs.length = d.n then fin d.keep S.length (evSs ⟨run P k, if d.keep then n0 else S.length, P.gd, fun g => (P.at_ "" g).isSome⟩ d.body (startE d.m vs) S) else .no
    | none => .no
/-- a def that is called at the top alone -/
def runD (P : Pg) (k : Nat) (d : Df) (vs : List Vl) (S : St) : R Vl :=
  if vs.length = d.n then fin d.keep S.length (evSs ⟨run P k, if d.keep then 0 else S.length, P.gd, fun g => (P.at_ "" g).isSome⟩ d.body (startE d.m vs) S) else .no
end MP

set_option Elab.async false
set_option linter.all false
set_option maxRecDepth 100000
set_option autoImplicit false
/-! MS1: what a value of MP stands for in the abstract heap. -/
namespace MS
open PySem PySem.Spec PyProof.Rows L2
abbrev Fg := PySem.W.Frag
abbrev so (s : String) : Str := Str.ofString s

theorem so_list (s : String) : (so s).cps.toList = s.toList.map Char.toNat := by
  show ((PySem.cpsOfBytes 0 0 s.toByteArray.data.toList).toArray).toList = _
  rw [cpsOfBytes_string]
theorem char_inj {a b : Char} (h : a.toNat = b.toNat) : a = b := by
  apply Char.ext
  exact UInt32.toNat_inj.mp h
theorem map_inj {α β : Type} {f : α → β} (hf : ∀ a b, f a = f b → a = b) : ∀ {l m : List α}, l.map f = m.map f → l = m
  | [], [], _ => rfl
  | [], _ :: _, h => by cases h
  | _ :: _, [], h => by cases h
  | a :: l, b :: m, h => by
    simp only [List.map_cons, List.cons.injEq] at h
    rw [hf a b h.1, map_inj hf h.2]
theorem so_inj {s t : String} (h : so s = so t) : s = t := by
  have e : s.toList.map Char.toNat = t.toList.map Char.toNat := by rw [← so_list, ← so_list, h]
  have e2 := map_inj (fun a b => char_inj) e
  exact String.toList_inj.mp e2
theorem so_ne {s t : String} (h : ¬ s = t) : ¬ so s = so t := fun e => h (so_inj e)

/-! ### the world -/
/-- F: lists that never change again; mu: where the store's cells stand; T: what others must leave alone; ns: where the frames around begin -/
structure Wd where
  F : Addr → Prop
  mu : List Addr
  T : Addr → Prop
  ns : Nat → Prop

def LstAt (H : Hp) (F : Addr → Prop) (a : Addr) (vs : List V) : Prop := F a ∧ H a = some (.lst vs)
mutual
def RepD (H : Hp) (F : Addr → Prop) : MP.D → V → Prop
  | .non, v => v = .non
  | .bl b, v => v = .bl b
  | .int i, v => v = .int i
  | .str s, v => v = .str (so s)
  | .tup ds, v => ∃ a vs, v = .ref a ∧ H a = some (.tup vs) ∧ RepDs H F ds vs
  | .lst ds, v => ∃ a vs, v = .ref a ∧ LstAt H F a vs ∧ RepDs H F ds vs
def RepDs (H : Hp) (F : Addr → Prop) : List MP.D → List V → Prop
  | [], vs => vs = []
  | d :: ds, vs => ∃ v r, vs = v :: r ∧ RepD H F d v ∧ RepDs H F ds r
end
/-- what never changes is as it was -/
structure Keep (F F' : Addr → Prop) (H H' : Hp) : Prop where
  fz : ∀ a, F a → F' a
  hf : ∀ a o, F a → H a = some o → H' a = some o
  tp : ∀ a xs, H a = some (.tup xs) → H' a = some (.tup xs)
  fr : ∀ a o u, H a = some (.frz o u) → H' a = some (.frz o u)
theorem Keep.refl {F : Addr → Prop} {H : Hp} : Keep F F H H := ⟨fun _ h => h, fun _ _ _ h => h, fun _ _ h => h, fun _ _ _ h => h⟩
theorem Keep.trans {F F1 F2 : Addr → Prop} {H H1 H2 : Hp} (a : Keep F F1 H H1) (b : Keep F1 F2 H1 H2) : Keep F F2 H H2 :=
  ⟨fun x h => b.fz x (a.fz x h), fun x o f h => b.hf x o (a.fz x f) (a.hf x o f h), fun x xs h => b.tp x xs (a.tp x xs h), fun x o u h => b.fr x o u (a.fr x o u h)⟩
theorem LstAt.mono {F F' : Addr → Prop} {H H' : Hp} {a : Addr} {vs : List V} (k : Keep F F' H H') (h : LstAt H F a vs) : LstAt H' F' a vs := by
  obtain ⟨f, e⟩ := h
  exact ⟨k.fz _ f, k.hf _ _ f e⟩
theorem LstAt.sq {K : Fg} {F : Addr → Prop} {H : Hp} {a : Addr} {vs : List V} (h : LstAt H F a vs) : SqL K H a vs := by
  exact .inl (.inl h.2)
mutual
theorem RepD.mono {F F' : Addr → Prop} {H H' : Hp} (k : Keep F F' H H') : ∀ {d : MP.D} {v : V}, RepD H F d v → RepD H' F' d v
  | .non, _, h => h
  | .bl _, _, h => h
  | .int _, _, h => h
  | .str _, _, h => h
  | .tup ds, v, h => by
    obtain ⟨a, vs, e, ha, hr⟩ := h
    exact ⟨a, vs, e, k.tp _ _ ha, RepDs.mono k hr⟩
  | .lst ds, v, h => by
    obtain ⟨a, vs, e, ha, hr⟩ := h
    exact ⟨a, vs, e, ha.mono k, RepDs.mono k hr⟩
theorem RepDs.mono {F F' : Addr → Prop} {H H' : Hp} (k : Keep F F' H H') : ∀ {ds : List MP.D} {vs : List V}, RepDs H F ds vs → RepDs H' F' ds vs
  | [], _, h => h
  | d :: ds, vs, h => by
    obtain ⟨v, r, e, h1, h2⟩ := h
    exact ⟨v, r, e, RepD.mono k h1, RepDs.mono k h2⟩
end
section
variable {F : Addr → Prop} {H : Hp}
theorem RepDs.length : ∀ {ds : List MP.D} {vs : List V}, RepDs H F ds vs → vs.length = ds.length
  | [], _, h => by cases h; rfl
  | d :: ds, _, h => by
    obtain ⟨v, r, rfl, _, h2⟩ := h
    simp [RepDs.length h2]
theorem RepDs.get : ∀ {ds : List MP.D} {vs : List V} {i : Nat} {d : MP.D}, RepDs H F ds vs → ds[i]? = some d → ∃ v, vs[i]? = some v ∧ RepD H F d v
  | [], _, _, _, _, e => by simp at e
  | d :: ds, _, 0, _, h, e => by
    obtain ⟨v, r, rfl, h1, _⟩ := h
    simp at e
    subst e
    exact ⟨v, rfl, h1⟩
  | d :: ds, _, i + 1, x, h, e => by
    obtain ⟨v, r, rfl, _, h2⟩ := h
    obtain ⟨u, q1, q2⟩ := RepDs.get (i := i) (d := x) h2 (by simpa using e)
    exact ⟨u, by simpa using q1, q2⟩
theorem RepDs.getR : ∀ {ds : List MP.D} {vs : List V} {i : Nat} {v : V}, RepDs H F ds vs → vs[i]? = some v → ∃ d, ds[i]? = some d ∧ RepD H F d v := fun {ds vs i v} h e => by
  have hl := h.length
  obtain ⟨hi, _⟩ := List.getElem?_eq_some_iff.mp e
  obtain ⟨u, q1, q2⟩ := h.get (i := i) (d := ds[i]'(by omega)) (by simp)
  rw [e] at q1
  cases q1
  exact ⟨_, by simp, q2⟩
theorem RepDs.append : ∀ {ds es : List MP.D} {vs us : List V}, RepDs H F ds vs → RepDs H F es us → RepDs H F (ds ++ es) (vs ++ us)
  | [], _, _, _, h, g => by cases h; exact g
  | d :: ds, _, _, _, h, g => by
    obtain ⟨v, r, rfl, h1, h2⟩ := h
    exact ⟨v, _, rfl, h1, RepDs.append h2 g⟩
theorem RepDs.one {d : MP.D} {v : V} (h : RepD H F d v) : RepDs H F [d] [v] := ⟨v, [], rfl, h, rfl⟩
theorem RepDs.rep {ds : List MP.D} {vs : List V} (h : RepDs H F ds vs) : ∀ n : Nat, RepDs H F (List.replicate n ds).flatten (List.replicate n vs).flatten
  | 0 => rfl
  | n + 1 => by
    rw [List.replicate_succ, List.replicate_succ, List.flatten_cons, List.flatten_cons]
    exact h.append (RepDs.rep h n)
theorem RepDs.take : ∀ {ds : List MP.D} {vs : List V} (n : Nat), RepDs H F ds vs → RepDs H F (ds.take n) (vs.take n)
  | [], _, n, h => by cases h; simp [RepDs]
  | d :: ds, _, 0, _ => rfl
  | d :: ds, _, n + 1, h => by
    obtain ⟨v, r, rfl, h1, h2⟩ := h
    exact ⟨v, _, rfl, h1, RepDs.take n h2⟩
theorem RepDs.drop : ∀ {ds : List MP.D} {vs : List V} (n : Nat), RepDs H F ds vs → RepDs H F (ds.drop n) (vs.drop n)
  | [], _, n, h => by cases h; simp [RepDs]
  | d :: ds, vs, 0, h => h
  | d :: ds, _, n + 1, h => by
    obtain ⟨v, r, rfl, h1, h2⟩ := h
    exact RepDs.drop n h2
theorem RepDs.dropLast : ∀ {ds : List MP.D} {vs : List V}, RepDs H F ds vs → RepDs H F ds.dropLast vs.dropLast
  | [], _, h => by cases h; simp [RepDs]
  | [d], _, h => by
    obtain ⟨v, r, rfl, h1, h2⟩ := h
    cases h2
    simp [RepDs]
  | d :: e :: ds, _, h => by
    obtain ⟨v, r, rfl, h1, h2⟩ := h
    have q := RepDs.dropLast h2
    obtain ⟨u, r', rfl, _, _⟩ := h2
    exact ⟨v, _, rfl, h1, q⟩
theorem RepDs.set : ∀ {ds : List MP.D} {vs : List V} {d : MP.D} {v : V} (j : Nat), RepDs H F ds vs → RepD H F d v → RepDs H F (ds.set j d) (vs.set j v)
  | [], _, _, _, _, h, _ => by cases h; simp [RepDs]
  | d :: ds, _, _, _, 0, h, g => by
    obtain ⟨v, r, rfl, h1, h2⟩ := h
    exact ⟨_, _, rfl, g, h2⟩
  | d :: ds, _, _, _, j + 1, h, g => by
    obtain ⟨v, r, rfl, h1, h2⟩ := h
    exact ⟨_, _, rfl, h1, RepDs.set j h2 g⟩
theorem RepDs.bools : ∀ {ds : List MP.D} {vs : List V} {bs : List Bool}, RepDs H F ds vs → MP.bools ds = some bs → vs = bs.map V.bl
  | [], _, _, h, e => by cases h; cases e; rfl
  | d :: ds, _, bs, h, e => by
    obtain ⟨v, r, rfl, h1, h2⟩ := h
    cases d with
    | bl b =>
      simp only [MP.bools, Option.map_eq_some_iff] at e
      obtain ⟨cs, e1, rfl⟩ := e
      rw [RepDs.bools h2 e1]
      cases h1
      rfl
    | _ => cases e
theorem RepDs.ints : ∀ {ds : List MP.D} {vs : List V} {bs : List Int}, RepDs H F ds vs → MP.intsD ds = some bs → vs = bs.map V.int
  | [], _, _, h, e => by cases h; cases e; rfl
  | d :: ds, _, bs, h, e => by
    obtain ⟨v, r, rfl, h1, h2⟩ := h
    cases d with
    | int b =>
      simp only [MP.intsD, Option.map_eq_some_iff] at e
      obtain ⟨cs, e1, rfl⟩ := e
      rw [RepDs.ints h2 e1]
      cases h1
      rfl
    | _ => cases e
/-- the script -/
theorem RepDs.ofInts : ∀ (ns : List Int), RepDs H F (ns.map MP.D.int) (ns.map V.int)
  | [] => rfl
  | n :: ns => ⟨_, _, rfl, rfl, RepDs.ofInts ns⟩

/-! ### as the data of the library's == -/
def keyV : MP.D → Key → Prop
  | .int i, k => k = .inl i
  | .str s, k => k = .inr (so s)
  | _, _ => False
def keysV : List MP.D → List Key → Prop
  | [], ks => ks = []
  | d :: ds, ks => ∃ k r, ks = k :: r ∧ keyV d k ∧ keysV ds r
end
mutual
def pd : MP.D → PyData
  | .non => .none
  | .bl b => .bool b
  | .int i => .int i
  | .str s => .str (so s)
  | .tup ds => .tuple (pds ds)
  | .lst ds => .list (pds ds)
def pds : List MP.D → List PyData
  | [] => []
  | d :: ds => pd d :: pds ds
end
theorem char_lt (c : Char) : c.toNat < 1114112 := by
  have h := c.valid
  have e : c.toNat = c.val.toNat := rfl
  simp only [UInt32.isValidChar, Nat.isValidChar] at h
  omega
theorem so_ok (s : String) : PySem.PyData.strOk (so s) = true := by
  unfold PySem.PyData.strOk
  rw [← Array.all_toList, so_list, List.all_eq_true]
  intro n hn
  obtain ⟨c, _, rfl⟩ := List.mem_map.mp hn
  exact decide_eq_true (char_lt c)
mutual
theorem pd_lay : ∀ d : MP.D, (pd d).canLay0 = true
  | .non => rfl
  | .bl _ => rfl
  | .int _ => rfl
  | .str s => so_ok s
  | .tup ds => by simp only [pd, PyData.canLay0]; exact pds_lay ds
  | .lst ds => by simp only [pd, PyData.canLay0]; exact pds_lay ds
theorem pds_lay : ∀ ds : List MP.D, PyData.canLayAll0 (pds ds) = true
  | [] => rfl
  | d :: ds => by simp only [pds, PyData.canLayAll0, pd_lay d, pds_lay ds, Bool.and_self]
end
mutual
theorem pd_dep : ∀ d : MP.D, (pd d).depth = d.dep
  | .non => rfl
  | .bl _ => rfl
  | .int _ => rfl
  | .str _ => rfl
  | .tup ds => by simp only [pd, PyData.depth, MP.D.dep]; rw [pds_dep ds]
  | .lst ds => by simp only [pd, PyData.depth, MP.D.dep]; rw [pds_dep ds]
theorem pds_dep : ∀ ds : List MP.D, PyData.depthAll (pds ds) = MP.D.deps ds
  | [] => rfl
  | d :: ds => by simp only [pds, PyData.depthAll, MP.D.deps, pd_dep d, pds_dep ds]
end
theorem so_beq (s t : String) : (so s == so t) = (s == t) := by
  by_cases h : s = t
  · subst h
    simp
  · rw [beq_false_of_ne h, beq_false_of_ne (so_ne h)]
mutual
theorem pd_eq : ∀ a b : MP.D, PyData.eqv (pd a) (pd b) = MP.D.eq a b
  | .non, b => by cases b <;> rfl
  | .bl _, b => by cases b <;> rfl
  | .int _, b => by cases b <;> rfl
  | .str s, b => by
    cases b with
    | str t => exact so_beq s t
    | _ => rfl
  | .tup ds, b => by
    cases b with
    | tup es => simp only [pd, PyData.eqv, MP.D.eq]; exact pds_eq ds es
    | _ => rfl
  | .lst ds, b => by
    cases b with
    | lst es => simp only [pd, PyData.eqv, MP.D.eq]; exact pds_eq ds es
    | _ => rfl
theorem pds_eq : ∀ a b : List MP.D, PyData.eqvAll (pds a) (pds b) = MP.D.eqs a b
  | [], [] => rfl
  | [], _ :: _ => rfl
  | _ :: _, [] => rfl
  | a :: as, b :: bs => by simp only [pds, PyData.eqvAll, MP.D.eqs, pd_eq a b, pds_eq as bs]
end
theorem pd_shaped {d : MP.D} (h : d.dep ≤ 60) : SeqAt.shaped (pd d) = true := by
  unfold SeqAt.shaped
  rw [pd_lay, pd_dep]
  simp
  omega
mutual
theorem RepD.dp {K : Fg} {F : Addr → Prop} {H : Hp} : ∀ {d : MP.D} {v : V}, RepD H F d v → Dp K H v (pd d)
  | .non, _, h => by cases h; exact .non
  | .bl _, _, h => by cases h; exact .bl _
  | .int _, _, h => by cases h; exact .int _
  | .str _, _, h => by cases h; exact .str _
  | .tup ds, _, h => by
    obtain ⟨a, vs, rfl, ha, hr⟩ := h
    exact .tup (SqT.of ha) (RepDs.dp hr)
  | .lst ds, _, h => by
    obtain ⟨a, vs, rfl, ha, hr⟩ := h
    exact .lst ha.sq (RepDs.dp hr)
theorem RepDs.dp {K : Fg} {F : Addr → Prop} {H : Hp} : ∀ {ds : List MP.D} {vs : List V}, RepDs H F ds vs → DpAll K H vs (pds ds)
  | [], _, h => by cases h; exact .nil
  | d :: ds, _, h => by
    obtain ⟨v, r, rfl, h1, h2⟩ := h
    exact .cons (RepD.dp h1) (RepDs.dp h2)
end
theorem pds_get : ∀ {ds : List MP.D} {i : Nat} {d : MP.D}, ds[i]? = some d → (pds ds)[i]? = some (pd d)
  | [], _, _, h => by simp at h
  | x :: ds, 0, d, h => by
    simp at h
    subst h
    simp [pds]
  | x :: ds, i + 1, d, h => by
    simp only [pds, List.getElem?_cons_succ] at h ⊢
    exact pds_get h
end MS

set_option Elab.async false
set_option linter.all false
set_option maxRecDepth 100000
set_option autoImplicit false
set_option maxHeartbeats 4000000
/-! MSN: dicts whose keys are tuples of None, ints, texts and such tuples. -/
namespace MS
open PySem PySem.Spec PyProof.Rows L2
/-- the world in which the law runs -/
class TW where
  w : World
mutual
def nkOf : MP.D → NestedKey
  | .non => .none
  | .bl b => .num (if b then 1 else 0)
  | .int i => .num i
  | .str s => .text (so s)
  | .tup ds => .tup (nksOf ds)
  | .lst ds => .tup (nksOf ds)
def nksOf : List MP.D → List NestedKey
  | [] => []
  | d :: ds => nkOf d :: nksOf ds
end
mutual
theorem nk_eq : ∀ a b : MP.D, a.nk = true → b.nk = true → MP.D.eq a b = NestedKey.beq (nkOf a) (nkOf b)
  | .non, .non, _, _ => by simp [MP.D.eq, nkOf, NestedKey.beq]
  | .int a, .int b, _, _ => by
    simp only [MP.D.eq, nkOf, NestedKey.beq]
    exact Bool.beq_eq_decide_eq _ _
  | .str a, .str b, _, _ => by
    simp only [MP.D.eq, nkOf, NestedKey.beq]
    by_cases e : a = b
    · subst e
      simp
    · rw [beq_false_of_ne e, decide_eq_false (so_ne e)]
  | .tup a, .tup b, h1, h2 => by
    simp only [MP.D.nk] at h1 h2
    simp only [MP.D.eq, nkOf, NestedKey.beq]
    exact nks_eq a b h1 h2
  | .non, .int _, _, _ => by simp [MP.D.eq, nkOf, NestedKey.beq]
  | .non, .str _, _, _ => by simp [MP.D.eq, nkOf, NestedKey.beq]
  | .non, .tup _, _, _ => by simp [MP.D.eq, nkOf, NestedKey.beq]
  | .int _, .non, _, _ => by simp [MP.D.eq, nkOf, NestedKey.beq]
  | .int _, .str _, _, _ => by simp [MP.D.eq, nkOf, NestedKey.beq]
  | .int _, .tup _, _, _ => by simp [MP.D.eq, nkOf, NestedKey.beq]
  | .str _, .non, _, _ => by simp [MP.D.eq, nkOf, NestedKey.beq]
  | .str _, .int _, _, _ => by simp [MP.D.eq, nkOf, NestedKey.beq]
  | .str _, .tup _, _, _ => by simp [MP.D.eq, nkOf, NestedKey.beq]
  | .tup _, .non, _, _ => by simp [MP.D.eq, nkOf, NestedKey.beq]
  | .tup _, .int _, _, _ => by simp [MP.D.eq, nkOf, NestedKey.beq]
  | .tup _, .str _, _, _ => by simp [MP.D.eq, nkOf, NestedKey.beq]
  | .bl _, _, h, _ => by simp [MP.D.nk] at h
  | .lst _, _, h, _ => by simp [MP.D.nk] at h
  | .non, .bl _, _, h => by simp [MP.D.nk] at h
  | .non, .lst _, _, h => by simp [MP.D.nk] at h
  | .int _, .bl _, _, h => by simp [MP.D.nk] at h
  | .int _, .lst _, _, h => by simp [MP.D.nk] at h
  | .str _, .bl _, _, h => by simp [MP.D.nk] at h
  | .str _, .lst _, _, h => by simp [MP.D.nk] at h
  | .tup _, .bl _, _, h => by simp [MP.D.nk] at h
  | .tup _, .lst _, _, h => by simp [MP.D.nk] at h
theorem nks_eq : ∀ as bs : List MP.D, MP.D.nks as = true → MP.D.nks bs = true → MP.D.eqs as bs = NestedKey.beqAll (nksOf as) (nksOf bs)
  | [], [], _, _ => by simp [MP.D.eqs, nksOf, NestedKey.beqAll]
  | [], _ :: _, _, _ => by simp [MP.D.eqs, nksOf, NestedKey.beqAll]
  | _ :: _, [], _, _ => by simp [MP.D.eqs, nksOf, NestedKey.beqAll]
  | a :: as, b :: bs, h1, h2 => by
    simp only [MP.D.nks, Bool.and_eq_true] at h1 h2
    simp only [MP.D.eqs, nksOf, NestedKey.beqAll, nk_eq a b h1.1 h2.1, nks_eq as bs h1.2 h2.2]
end
mutual
theorem nk_dep : ∀ d : MP.D, d.nk = true → (nkOf d).depth = d.dep
  | .non, _ => by simp [nkOf, NestedKey.depth, MP.D.dep]
  | .int _, _ => by simp [nkOf, NestedKey.depth, MP.D.dep]
  | .str _, _ => by simp [nkOf, NestedKey.depth, MP.D.dep]
  | .tup ds, h => by
    simp only [MP.D.nk] at h
    simp only [nkOf, NestedKey.depth, MP.D.dep, nks_dep ds h]
  | .bl _, h => by simp [MP.D.nk] at h
  | .lst _, h => by simp [MP.D.nk] at h
theorem nks_dep : ∀ ds : List MP.D, MP.D.nks ds = true → NestedKey.depthAll (nksOf ds) = MP.D.deps ds
  | [], _ => by simp [nksOf, NestedKey.depthAll, MP.D.deps]
  | d :: ds, h => by
    simp only [MP.D.nks, Bool.and_eq_true] at h
    simp only [nksOf, NestedKey.depthAll, MP.D.deps, nk_dep d h.1, nks_dep ds h.2]
end
/-- a key as the dict has it -/
def keyN (d : MP.D) (k : NestedKey) : Prop := MP.DK.ok .n d = true ∧ k = nkOf d
theorem ok_n {d : MP.D} (h : MP.DK.ok .n d = true) : d.nk = true ∧ d.dep ≤ 8 := by
  cases d with
  | tup ds =>
    simp only [MP.DK.ok, Bool.and_eq_true, Nat.ble_eq] at h
    simp only [MP.D.nk, MP.D.dep]
    exact ⟨h.1, by omega⟩
  | _ => cases h
section
variable {P : Program} {w : World} {H : Hp} {h : Heap} {F : Addr → Prop}
mutual
theorem nested_of (ok : HOk P w H h) : ∀ (d : MP.D) (v : V) (u : Value), d.nk = true → RepD H F d v → RelV v u → NestedIs h (nkOf d) u
  | .non, _, _, _, r, q => by
    cases r
    cases q
    exact .none
  | .int i, _, _, _, r, q => by
    cases r
    obtain ⟨t, rfl⟩ := q
    exact .int i t
  | .str s, _, _, _, r, q => by
    cases r
    obtain ⟨t, rfl⟩ := q
    exact .text (so s) t
  | .tup ds, _, u, hn, r, q => by
    obtain ⟨a, vs, rfl, ha, hr⟩ := r
    obtain rfl : u = Value.ref a := q
    obtain ⟨_, its, rv, o, h1, h2, n, h3⟩ := (show ObjOk P w H h a (.tup vs) from ok a _ ha)
    simp only [MP.D.nk] at hn
    exact .tup h1 h2 h3 (by simpa using nesteds_of ok ds vs its hn hr rv)
  | .bl _, _, _, h, _, _ => by simp [MP.D.nk] at h
  | .lst _, _, _, h, _, _ => by simp [MP.D.nk] at h
theorem nesteds_of (ok : HOk P w H h) : ∀ (ds : List MP.D) (vs : List V) (us : List Value), MP.D.nks ds = true → RepDs H F ds vs → Vals vs us → NestedAll h (nksOf ds) us
  | [], _, _, _, r, q => by
    cases r
    cases q
    exact .nil
  | d :: ds, _, _, hn, r, q => by
    obtain ⟨v, t, rfl, r1, r2⟩ := r
    cases q with
    | cons q1 q2 =>
      simp only [MP.D.nks, Bool.and_eq_true] at hn
      exact .cons (nested_of ok d v _ hn.1 r1 q1) (nesteds_of ok ds t _ hn.2 r2 q2)
end
end
/-! ### the dict's object -/
abbrev ZN := List ((NestedKey × V) × Addr)
def EntN (w : World) (z : (NestedKey × V) × Addr) (e : DictEntry) : Prop := e.hash = z.1.1.hash w ∧ e.key = .ref z.2 ∧ RelV z.1.2 e.val
def rawN (w : World) (b : Addr) (zs : ZN) (h : Heap) : Prop := ∃ o es ep, h.get? b = some o ∧ o.ExactDict ∧ o.data = .dict es ep ∧ Paired (EntN w) zs es.toList ∧ (b == sysModules) = false ∧ zs.length ≤ sizeLine ∧ (zs.map fun z => z.1.1).Nodup
def hoN (w : World) (b : Addr) (zs : ZN) : HO := .ext (rawN w b zs)
section
variable {P : Program} {w w2 : World} {H : Hp} {h : Heap} {a b : Addr} {zs : ZN}
theorem hoN_ok (r : rawN w b zs h) : ObjOk P w2 H h b (hoN w b zs) := by
  refine ⟨r, ?_, fun h1 h2 r1 k => ?_⟩
  · obtain ⟨o, _, _, ho, _⟩ := r
    exact ⟨o, ho⟩
  · obtain ⟨o, es, ep, ho, q⟩ := r1
    exact ⟨o, es, ep, k _ ho, q⟩
theorem hoN_at (ok : HOk P w2 H h) (e : H a = some (hoN w b zs)) : a = b ∧ rawN w b zs h := by
  obtain ⟨r, ⟨oa, ha⟩, st⟩ := (show ObjOk P w2 H h a (.ext (rawN w b zs)) from ok a _ e)
  refine ⟨Classical.byContradiction fun ne => ?_, r⟩
  obtain ⟨o, es, ep, ho, hx, hd, _⟩ := id r
  have hb := Heap.get?_update_self (fun _ => ({ cls := .type "tuple", data := .seq #[] } : Obj)) ho rfl
  obtain ⟨o2, es2, ep2, ho2, hx2, _⟩ := st _ (h.update b fun _ => { cls := .type "tuple", data := .seq #[] }) r fun o3 h3 => (Heap.get?_update_other _ _ (Ne.symm ne)).trans h3
  rw [hb] at ho2
  cases ho2
  have q : Value.type "tuple" = Value.type "dict" := hx2.1
  injection q with q
  exact absurd q (by decide)
/-- its keys are what they say -/
def KsN (h : Heap) (zs : ZN) : Prop := ∀ z ∈ zs, NestedIs h z.1.1 (.ref z.2) ∧ z.1.1.depth ≤ 8
def RZ (z : (NestedKey × V) × Addr) (x : NestedKey × Addr × Value) : Prop := z.1.1 = x.1 ∧ z.2 = x.2.1 ∧ RelV z.1.2 x.2.2
theorem zs_xs {l : List DictEntry} (p : Paired (EntN w) zs l) : ∃ xs, Paired RZ zs xs ∧ l = xs.map (entryOfKey (nestedKind P w)) := by
  induction p with
  | nil => exact ⟨[], .nil, rfl⟩
  | @cons z e zs l h t ih =>
    obtain ⟨xs, r, rfl⟩ := ih
    obtain ⟨h1, h2, h3⟩ := h
    refine ⟨(z.1.1, z.2, e.val) :: xs, .cons ⟨rfl, rfl, h3⟩ r, ?_⟩
    rw [List.map_cons]
    congr 1
    obtain ⟨eh, ek, ev⟩ := e
    simp only at h1 h2
    subst h1 h2
    rfl
theorem RZ.fst {xs : List (NestedKey × Addr × Value)} (r : Paired RZ zs xs) : xs.map (·.1) = zs.map fun z => z.1.1 := by
  induction r with
  | nil => rfl
  | cons h t ih => rw [List.map_cons, List.map_cons, ih, h.1]
theorem dictN_of (r : rawN w b zs h) (kz : KsN h zs) : ∃ xs, h.DictOfH (nestedKind P w) b xs ∧ Paired RZ zs xs ∧ (b == sysModules) = false ∧ xs.length ≤ sizeLine := by
  obtain ⟨o, es, ep, ho, hx, hd, pr, hs, hl, hn⟩ := r
  obtain ⟨xs, rz, e⟩ := zs_xs (P := P) pr
  refine ⟨xs, ⟨o, es, ep, ho, hx, hd, e, fun x hx => ?_, by rw [RZ.fst rz]; exact hn⟩, rz, hs, by rw [← Paired.length rz]; exact hl⟩
  have all : ∀ {l : ZN} {m : List (NestedKey × Addr × Value)}, Paired RZ l m → KsN h l → ∀ x ∈ m, (nestedKind P w).is h x.1 x.2.1 := by
    intro l m q
    induction q with
    | nil => intro _ x hx; exact nomatch hx
    | @cons z x l m h1 t ih =>
      intro k y hy
      rcases List.mem_cons.mp hy with e | hy
      · subst e
        have := k z List.mem_cons_self
        rw [h1.1, h1.2.1] at this
        exact this
      · exact ih (fun z hz => k z (List.mem_cons_of_mem _ hz)) y hy
  exact all rz kz x hx
theorem RZ.val {xs : List (NestedKey × Addr × Value)} (r : Paired RZ zs xs) (k : NestedKey) : RelO (valV (zs.map (·.1)) k) ((atKey xs k).map (·.2)) := by
  induction r with
  | nil => exact True.intro
  | @cons z x zs xs h t ih =>
    obtain ⟨h1, _, h2⟩ := h
    rw [List.map_cons]
    by_cases e : z.1.1 = k
    · have e' : x.1 = k := h1.symm.trans e
      have b : atKey (x :: xs) k = some x.2 := by simp [atKey, List.find?_cons, e']
      rw [valV_pos e, b]; exact h2
    · have e' : ¬ x.1 = k := fun q => e (h1.trans q)
      have b : atKey (x :: xs) k = atKey xs k := by simp [atKey, List.find?_cons, e']
      rw [valV_neg e, b]; exact ih
def putZ (zs : ZN) (k : NestedKey) (v : V) (c : Addr) : ZN := if (valV (zs.map (·.1)) k).isSome then zs.map (fun z => if z.1.1 = k then ((z.1.1, v), z.2) else z) else zs ++ [((k, v), c)]
theorem putZ_fst (zs : ZN) (k : NestedKey) (v : V) (c : Addr) : (putZ zs k v c).map (·.1) = putK (zs.map (·.1)) k v := by
  unfold putZ putK
  rw [valV_any]
  by_cases e : (valV (zs.map (·.1)) k).isSome = true
  · rw [if_pos e, if_pos e, List.map_map, List.map_map]
    refine List.map_congr_left fun z _ => ?_
    simp only [Function.comp]
    split <;> rfl
  · rw [if_neg e, if_neg e, List.map_append]
    rfl
theorem RZ.put {xs : List (NestedKey × Addr × Value)} (r : Paired RZ zs xs) (k : NestedKey) {v : V} {u : Value} (c : Addr) (rv : RelV v u) : Paired RZ (putZ zs k v c) (storedH xs k c u) := by
  have e : (valV (zs.map (·.1)) k).isSome = (atKey xs k).isSome := by
    rw [(RZ.val r k).isSome_eq, Option.isSome_map]
  unfold putZ storedH
  rw [e]
  by_cases q : (atKey xs k).isSome = true
  · rw [if_pos q, if_pos q]
    clear e q
    induction r with
    | nil => exact .nil
    | @cons z x zs xs h t ih =>
      rw [List.map_cons, List.map_cons]
      refine .cons ?_ ih
      obtain ⟨h1, h2, h3⟩ := h
      unfold putAt
      by_cases e : z.1.1 = k
      · rw [if_pos e, if_pos (h1.symm.trans e)]; exact ⟨h1, h2, rv⟩
      · rw [if_neg e, if_neg (fun q => e (h1.trans q))]; exact ⟨h1, h2, h3⟩
  · rw [if_neg q, if_neg q]
    exact Paired.snoc r ⟨rfl, rfl, rv⟩
theorem rawN_of {xs : List (NestedKey × Addr × Value)} (dd : h.DictOfH (nestedKind P w) b xs) (r : Paired RZ zs xs) (hs : (b == sysModules) = false) (hl : zs.length ≤ sizeLine) : rawN w b zs h := by
  obtain ⟨o, es, ep, ho, hx, hd, he, hk, hn⟩ := dd
  refine ⟨o, es, ep, ho, hx, hd, ?_, hs, hl, by rw [← RZ.fst r]; exact hn⟩
  rw [he]
  clear he hn hl hk
  induction r with
  | nil => exact .nil
  | cons h t ih =>
    rw [List.map_cons]
    refine .cons ?_ ih
    obtain ⟨h1, h2, h3⟩ := h
    exact ⟨by rw [h1]; rfl, by rw [h2]; rfl, h3⟩
end
/-! ### what is done with it -/
/-- its keys are tracked tuples -/
def KtN (H : Hp) (zs : ZN) : Prop := ∀ z ∈ zs, ∃ (d : MP.D) (F : Addr → Prop), keyN d z.1.1 ∧ RepD H F d (.ref z.2)
section
variable {X : L2.Cx} {pins : List (Addr × Obj)} {σ : L2.St} {H : Hp} {s : Shared} {a c : Addr} {zs : ZN} {d : MP.D} {F : Addr → Prop} {A : Around} {E : Value → Shared → Prop}
theorem KtN.ks (k : KtN H zs) (I : Inv X pins σ H s) : KsN s.heap zs := fun z hz => by
  obtain ⟨d, F, ⟨h1, h2⟩, r⟩ := k z hz
  obtain ⟨n1, n2⟩ := ok_n h1
  rw [h2]
  exact ⟨nested_of I.hok d _ _ n1 r rfl, by rw [nk_dep d n1]; exact n2⟩
theorem key_is (I : Inv X pins σ H s) (hk : MP.DK.ok .n d = true) (r : RepD H F d (.ref c)) : (nestedKind X.prog X.w).is s.heap (nkOf d) c := by
  obtain ⟨n1, n2⟩ := ok_n hk
  exact ⟨nested_of I.hok d _ _ n1 r rfl, by rw [nk_dep d n1]; exact n2⟩
theorem roomN (hu : A.units + 9 < cLine) : (nestedKind X.prog X.w).room A.in1 := by show A.units + 1 + 8 < cLine; omega
theorem n_dict (I : Inv X pins σ H s) (e : ∃ b, H a = some (hoN X.w b zs)) (k : KtN H zs) : rawN X.w a zs s.heap ∧ ∃ xs, s.heap.DictOfH (nestedKind X.prog X.w) a xs ∧ Paired RZ zs xs ∧ (a == sysModules) = false ∧ xs.length ≤ sizeLine := by
  obtain ⟨b, e⟩ := e
  obtain ⟨rfl, r⟩ := hoN_at I.hok e
  exact ⟨r, dictN_of r (k.ks I)⟩
theorem n_getItem {v : V} {Q : Value → Shared → Prop} (hu : A.units + 9 < cLine) (I : Inv X pins σ H s) (e : ∃ b, H a = some (hoN X.w b zs)) (k : KtN H zs) (hk : MP.DK.ok .n d = true) (r : RepD H F d (.ref c)) (l : valV (zs.map (·.1)) (nkOf d) = some v)
    (h : ∀ w' s', Inv X pins σ H s' → RelV v w' → Q w' s') : wpAny (model X.prog X.w) A (getItem (.ref a) (.ref c)) Q E s := by
  obtain ⟨_, xs, dd, rz, hs, hl⟩ := n_dict I e k
  obtain ⟨w', hw, rw'⟩ := RelO.some_of (v := v) (o := (atKey xs (nkOf d)).map (·.2)) (by rw [← l]; exact RZ.val rz _)
  obtain ⟨p, hp, hp2⟩ := Option.map_eq_some_iff.mp hw
  refine wpAny_getItem_heap (roomN (X := X) hu) (key_is I hk r) dd hp ?_
  rw [hp2]
  exact h w' _ (I.tok _) rw'
theorem n_in {Q : Value → Shared → Prop} (hu : A.units + 9 < cLine) (I : Inv X pins σ H s) (e : ∃ b, H a = some (hoN X.w b zs)) (k : KtN H zs) (hk : MP.DK.ok .n d = true) (r : RepD H F d (.ref c))
    (h : ∀ s', Inv X pins σ H s' → Q (.bool (valV (zs.map (·.1)) (nkOf d)).isSome) s') : wpAny (model X.prog X.w) A (compareOp .In (.ref c) (.ref a)) Q E s := by
  obtain ⟨_, xs, dd, rz, hs, hl⟩ := n_dict I e k
  refine wpAny_in_heap (roomN (X := X) hu) (key_is I hk r) hs dd ?_
  have q := (RZ.val rz (nkOf d)).isSome_eq
  rw [Option.isSome_map] at q
  rw [← q]
  exact h _ (I.tok _)
theorem n_notIn {Q : Value → Shared → Prop} (hu : A.units + 9 < cLine) (I : Inv X pins σ H s) (e : ∃ b, H a = some (hoN X.w b zs)) (k : KtN H zs) (hk : MP.DK.ok .n d = true) (r : RepD H F d (.ref c))
    (h : ∀ s', Inv X pins σ H s' → Q (.bool (!(valV (zs.map (·.1)) (nkOf d)).isSome)) s') : wpAny (model X.prog X.w) A (compareOp .NotIn (.ref c) (.ref a)) Q E s := by
  obtain ⟨_, xs, dd, rz, hs, hl⟩ := n_dict I e k
  refine wpAny_notIn_heap (roomN (X := X) hu) (key_is I hk r) hs dd ?_
  have q := (RZ.val rz (nkOf d)).isSome_eq
  rw [Option.isSome_map] at q
  rw [← q]
  exact h _ (I.tok _)
theorem n_setItem {v : V} {u : Value} {Q : Unit → Shared → Prop} (hu : A.units + 9 < cLine) (I : Inv X pins σ H s) (e : ∃ b, H a = some (hoN X.w b zs)) (k : KtN H zs) (hk : MP.DK.ok .n d = true) (r : RepD H F d (.ref c)) (rv : RelV v u) (hz : zs.length < sizeLine)
    (h : ∀ s', Inv X pins σ (upd H a (hoN X.w a (putZ zs (nkOf d) v c))) s' → Q () s') : wpAny (model X.prog X.w) A (setItem (.ref a) (.ref c) u) Q E s := by
  obtain ⟨_, xs, dd, rz, hs, hl⟩ := n_dict I e k
  obtain ⟨b, e⟩ := e
  refine wpAny_setItem_heap (hsz := hl) (roomN (X := X) hu) (key_is I hk r) dd fun h' dd' hs' => h _ ?_
  have hl2 : (putZ zs (nkOf d) v c).length ≤ sizeLine := by
    unfold putZ
    split
    · rw [List.length_map]; omega
    · rw [List.length_append, List.length_singleton]; omega
  have raw := rawN_of dd' (RZ.put rz (nkOf d) c rv) hs hl2
  obtain ⟨o, _, _, ho, _⟩ := id raw
  exact d_write I (by rw [e]; exact True.intro) hs' ⟨o, ho⟩ (hoN_ok raw)
theorem n_get2 {v : V} {u : Value} {Q : Value → Shared → Prop} (hu : A.units + 9 < cLine) (I : Inv X pins σ H s) (e : ∃ b, H a = some (hoN X.w b zs)) (k : KtN H zs) (hk : MP.DK.ok .n d = true) (r : RepD H F d (.ref c)) (rv : RelV v u)
    (h : ∀ w' s', Inv X pins σ H s' → RelV ((valV (zs.map (·.1)) (nkOf d)).getD v) w' → Q w' s') : wpAny (model X.prog X.w) A (call (.builtin "dict.get") [.ref a, .ref c, u]) Q E s := by
  obtain ⟨_, xs, dd, rz, hs, hl⟩ := n_dict I e k
  refine call_meetsIn PySem.F.slot_dict_get dd.typeIs PySem.F.entry_dict_get (PySem.F.args_dict_get_3 _ _ _) (meetsH_dict_get_default (nestedKind X.prog X.w) a c hs u) ⟨roomN (X := X) hu, nkOf d, xs, key_is I hk r, dd, h _ _ (I.tok _) ?_⟩
  exact (RZ.val rz (nkOf d)).getD rv
theorem pe_dnewN {pos : Pos} : PE X (.Dict [] [] pos) (fun _ H Q => ∀ p, H p = none → Q (.ref p) (upd H p (hoN X.w p []))) := ⟨fun pins s σ H Q I h =>
  wpAny_Dict_empty ⟨.ref s.heap.objs.size, _, I.laid (a := s.heap.objs.size) (o := hoN X.w s.heap.objs.size []) (t' := s.toks) (fun _ _ q => Heap.get?_push_of_some _ q) (Nat.le_refl _)
    (hoN_ok (rawN_of (P := X.prog) (Heap.DictOfH.new s.heap) .nil (beq_eq_false_iff_ne.mpr (Ne.symm (Nat.ne_of_lt I.big))) (Nat.zero_le _))), rfl, h _ (I.hok.fresh (Nat.le_refl _))⟩⟩
/-- len(d) -/
theorem call_lenN : CallR X (.builtin "len") (fun xs H Q => ∃ (a : Addr) (zs : ZN), xs = [V.ref a] ∧ (∃ b, H a = some (hoN X.w b zs)) ∧ KtN H zs ∧ Q (.int (zs.length : Nat)) H) := by
  intro pins s σ H xs us Q I r h
  obtain ⟨a, zs, rfl, e, k, q⟩ := h
  obtain ⟨u, rfl, rx⟩ := vals1 r
  obtain rfl : u = .ref a := rx
  obtain ⟨_, xs', dd, rz, hs, hl⟩ := n_dict I e k
  have hl2 : zs.length = xs'.length := Paired.length rz
  refine call_len_dictH hs dd (by rw [sizeLine_eq] at hl; omega) ?_
  rw [← hl2]
  exact ⟨.int _, H, I.tok _, ⟨_, rfl⟩, q⟩
theorem ppget {α β : Type} {R : α → β → Prop} : ∀ {l₁ : List α} {l₂ : List β} {j : Nat} {x : β}, Paired R l₁ l₂ → l₂[j]? = some x → ∃ y, l₁[j]? = some y ∧ R y x
  | _, _, _, _, .nil, h => by cases h
  | _, _, 0, _, .cons r t, h => by
    cases h
    exact ⟨_, rfl, r⟩
  | _, _, j + 1, _, .cons r t, h => by
    obtain ⟨y, e, q⟩ := ppget (j := j) t (by simpa using h)
    exact ⟨y, by simpa using e, q⟩
/-- list(d) -/
theorem call_listN (hc : X.calm = true) : CallR X (.type "list") (fun xs H Q => ∃ (a : Addr) (zs : ZN), xs = [V.ref a] ∧ (∃ b, H a = some (hoN X.w b zs)) ∧ ∀ p, H p = none → Q (.ref p) (upd H p (.lst (zs.map fun z => V.ref z.2)))) := by
  intro pins s σ H xs us Q I r h
  obtain ⟨a, zs, rfl, ⟨b, e⟩, q⟩ := h
  obtain ⟨u, rfl, rx⟩ := r.one
  obtain rfl : u = .ref a := rx
  obtain ⟨rfl, o, es, ep, ho, hx, hdt, pr, hs, hl, hn⟩ := hoN_at I.hok e
  have l1 : es.size = zs.length := by rw [Paired.length pr, Array.length_toList]
  refine PySem.W.kdl_call (kdl_raw hs hx hdt) (I.ok.hd hc) ho (by omega) fun h' tk acc' c' kp e it => ?_
  have ea : acc'.toList = zs.map fun z => Value.ref z.2 := by
    have hl : acc'.toList.length = zs.length := by rw [Array.length_toList, it.1]; exact l1
    apply List.ext_getElem?
    intro j
    rw [List.getElem?_map]
    cases hj : acc'.toList[j]? with
    | none =>
      have h1 := List.getElem?_eq_none_iff.mp hj
      rw [List.getElem?_eq_none (by omega)]
      all_goals rfl
    | some v =>
      obtain ⟨en, hen, hv⟩ := it.2 j v (by rw [← Array.getElem?_toList]; exact hj)
      obtain ⟨z, hz, h1, h2, h3⟩ := ppget pr (by rw [Array.getElem?_toList]; exact hen)
      rw [hz, hv, h2]
      rfl
  have eb : acc'.toList = (zs.map (·.2)).map Value.ref := by rw [ea, List.map_map]; all_goals rfl
  have rv : Vals ((zs.map (·.2)).map V.ref) acc'.toList := by rw [eb]; exact vals_refs _
  rw [List.map_map] at rv
  have hz : (zs.map fun z => V.ref z.2).length ≤ sizeLine := by rw [List.length_map]; omega
  refine ⟨.ref s.heap.objs.size, _, I.laid (t' := tk) (o := .lst (zs.map fun z => V.ref z.2)) kp (Nat.le_refl _) ?_, rfl, q _ (I.hok.fresh (Nat.le_refl _))⟩
  exact ⟨hz, acc'.toList, c', rv, by rw [Array.toArray_toList]; exact e⟩
end
end MS

set_option Elab.async false
set_option linter.all false
set_option maxRecDepth 100000
set_option autoImplicit false
set_option maxHeartbeats 4000000
/-! MSN2: list(d.items()). -/
namespace MS
open PySem PySem.Spec PySem.Calls PyProof.Rows L2
section
variable {prog : Program} {w : World} {A : Around} {E : Value → Shared → Prop} {s : Shared} {r d : Addr} {es : Array DictEntry} {ep : Nat}
theorem init_raw {R : Result → Shared → Prop} (hh : A.handled = none) (hv : s.heap.IsItemsView r d) (hm : DT.Raw s.heap d es ep) (S : Addr) (hSr : S ≠ r) (hSd : d ≠ S) (hS : s.heap.get? S = some { cls := .type "list", data := .seq #[] })
    (hR : ∀ h' tk acc c as, (∀ b o, b ≠ S → s.heap.get? b = some o → h'.get? b = some o) → h'.get? S = some { cls := .type "list", dict := none, data := .seq acc c, slots := #[] } → as.length = es.size → DT.Made es S h' as →
      acc.toList = as.map Value.ref → R (.ok (.ret .none)) { s with heap := h', toks := tk }) (hn : es.size ≤ sizeLine) :
    wpAny (model prog w) A.in1 (Builtin.«list.__init__» ⟨[.ref S, .ref r], []⟩)
      (fun fin s' => match fin with | .done f => R (.ok f) s' | .again c' => c'.quiet = true ∧ codeAny (model prog w) A c' R s') (fun e s' => R (.error e) s') s := by
  show wpAny _ _ (do let old ← Builtin.List.listItems (.ref S); Builtin.List.listUpdate (.ref S) (fun _ => #[]); letGo old.toList.reverse; Builtin.List.listExtendWith (.ref S) (.ref r) .none) _ _ s
  refine wpAny_bind ?_
  unfold Builtin.List.listItems
  refine wpAny_bind (wpAny_seqItems hS rfl (wpAny_pure ?_))
  show wpAny _ _ (updateSeq S (fun _ => #[]) >>= fun _ => letGo (#[] : Array Value).toList.reverse >>= fun _ => Builtin.List.listExtendWith (.ref S) (.ref r) .none) _ _ s
  refine wpAny_bind (wpAny_updateSeq hS rfl ?_)
  have hS₂ := Heap.get?_update_self (Obj.mapSeq (fun _ => (#[] : Array Value))) hS rfl
  have oth : ∀ b o, b ≠ S → s.heap.get? b = some o → (s.heap.update S (Obj.mapSeq (fun _ => (#[] : Array Value)))).get? b = some o :=
    fun b o hb e => (Heap.get?_update_other _ _ (Ne.symm hb)).trans e
  refine wpAny_bind (wpAny_letGo ?_)
  refine DT.extI (es := es) (ep := ep) hh (let ⟨o, ho, x⟩ := hv; ⟨o, oth r o hSr.symm ho, x⟩) (hm.at' fun o e => oth d o hSd e) S hSr hSd .none _ hS₂ (fun h' tk acc c as hk hS' hl hG hacc => ?_) hn
  exact hR h' tk acc c as (fun b o hb e => hk b o hb (oth b o hb e)) hS' hl (hG.low (Nat.le_of_lt (Heap.lt_size hS₂))) hacc
theorem list_raw {Q : Value → Shared → Prop} (hh : A.handled = none) (hv : s.heap.IsItemsView r d) (hm : DT.Raw s.heap d es ep) (hn : es.size ≤ sizeLine)
    (hQ : ∀ h' tk acc c as, (∀ b o, s.heap.get? b = some o → h'.get? b = some o) → h'.get? s.heap.objs.size = some { cls := .type "list", dict := none, data := .seq acc c, slots := #[] } → as.length = es.size → DT.Made es s.heap.objs.size h' as →
      acc.toList = as.map Value.ref → Q (.ref s.heap.objs.size) { s with heap := h', toks := tk }) :
    wpAny (model prog w) A (call (.type "list") [.ref r]) Q E s := by
  refine callType_codes (Q₁ := fun obj s₁ => obj = .ref s.heap.objs.size ∧ s₁ = { s with heap := s.heap.push { cls := .type "list", data := .seq #[] } }) PySem.F.called_list (PySem.F.typeCall_list_1 _) PySem.F.entry_list_init
    (code_list_new _ ⟨rfl, rfl⟩) fun obj s₁ h₁ => ?_
  obtain ⟨rfl, rfl⟩ := h₁
  have hS : (s.heap.push { cls := .type "list", data := .seq #[] }).get? s.heap.objs.size = some { cls := .type "list", data := .seq #[] } := Heap.get?_push_size _ rfl
  have hr : r < s.heap.objs.size := let ⟨_, ho, _⟩ := hv; Heap.lt_size ho
  have hd : d < s.heap.objs.size := hm.lt
  refine ⟨⟨_, hS, rfl⟩, PySem.F.args_list_init_2 _ _, init_raw (es := es) (ep := ep) (A := A.in1) hh (let ⟨o, ho, x⟩ := hv; ⟨o, Heap.get?_push_of_some _ ho, x⟩) (hm.push _) _ (Nat.ne_of_gt hr) (Nat.ne_of_lt hd) hS (fun h' tk acc c as hk hS' hl hG hacc => ?_) hn⟩
  exact ⟨rfl, hQ h' tk acc c as (fun b o e => hk b o (Nat.ne_of_lt (Heap.lt_size e)) (Heap.get?_push_of_some _ e)) hS' hl hG hacc⟩
end
/-! ### the pairs of a dict -/
def RP (p : V × V) (e : DictEntry) : Prop := RelV p.1 e.key ∧ RelV p.2 e.val
def IsP (w : World) (H : Hp) (d : Addr) (ls : List (V × V)) : Prop := (∃ kvs : List (Key × V), H d = some (.dK kvs) ∧ ls = kvs.map fun q => (kV q.1, q.2)) ∨ ∃ (b : Addr) (zs : ZN), H d = some (hoN w b zs) ∧ ls = zs.map fun z => (V.ref z.2, z.1.2)
section
variable {X : L2.Cx} {pins : List (Addr × Obj)} {σ : L2.St} {H : Hp} {s : Shared} {d : Addr} {ls : List (V × V)}
theorem pairs_rp {P : Program} {w : World} {es : List DictEntry} {vs : List (Key × Value)} (p : Pairs (mixKind P w) es vs) : ∀ {kvs : List (Key × V)}, KV kvs vs → Paired RP (kvs.map fun q => (kV q.1, q.2)) es := by
  induction p with
  | nil =>
    intro kvs r
    cases kvs with
    | nil => exact .nil
    | cons q l => cases r
  | @cons e kv es kvs' h1 h2 h3 ih =>
    intro kvs r
    cases kvs with
    | nil => cases r
    | cons q l =>
      cases r with
      | cons r1 r2 =>
        rw [List.map_cons]
        refine .cons ⟨?_, ?_⟩ (ih r2)
        · rw [r1.1]
          exact relV_key (show keyIs kv.1 e.key = true from h1)
        · show RelV q.2 e.val
          rw [h2]
          exact r1.2
theorem isP_raw (I : Inv X pins σ H s) (h : IsP X.w H d ls) : ∃ o es ep, s.heap.get? d = some o ∧ o.ExactDict ∧ o.data = .dict es ep ∧ Paired RP ls es.toList ∧ (d == sysModules) = false ∧ es.size ≤ sizeLine := by
  rcases h with ⟨kvs, e, rfl⟩ | ⟨b, zs, e, rfl⟩
  · obtain ⟨hz, hs, vs, kv, o, es, ep, ho, hx, hd, _, pr, _⟩ := dk_of I.hok e
    have pp := pairs_rp pr kv
    refine ⟨o, es, ep, ho, hx, hd, pp, hs, ?_⟩
    have h1 := Paired.length pp
    have h2 : es.toList.length = es.size := Array.length_toList
    rw [List.length_map, h2] at h1
    omega
  · obtain ⟨rfl, o, es, ep, ho, hx, hdt, pr, hs, hl, hn⟩ := hoN_at I.hok e
    refine ⟨o, es, ep, ho, hx, hdt, ?_, hs, ?_⟩
    · clear hl hn hdt e
      generalize es.toList = l at pr
      induction pr with
      | nil => exact .nil
      | cons h t ih =>
        rw [List.map_cons]
        obtain ⟨h1, h2, h3⟩ := h
        exact .cons ⟨by rw [h2]; rfl, h3⟩ ih
    · rw [Paired.length pr, Array.length_toList] at hl
      exact hl
def putU : Hp → List Addr → List (V × V) → Hp
  | H, a :: as, p :: kvs => putU (upd H a (.tup [p.1, p.2])) as kvs
  | H, _, _ => H
theorem putU_off {b : Addr} : ∀ (as : List Addr) (kvs : List (V × V)) (H : Hp), b ∉ as → putU H as kvs b = H b
  | [], _, _, _ => rfl
  | _ :: _, [], _, _ => rfl
  | a :: as, p :: kvs, H, h => by
    show putU (upd H a (.tup [p.1, p.2])) as kvs b = H b
    rw [putU_off as kvs _ (fun z => h (List.mem_cons_of_mem _ z)), upd_ne (fun z => h (by rw [z]; exact List.mem_cons_self))]
theorem putU_at : ∀ (as : List Addr) (kvs : List (V × V)) (H : Hp), as.length = kvs.length → as.Nodup → Paired (fun (t : Addr) (p : V × V) => putU H as kvs t = some (.tup [p.1, p.2])) as kvs
  | [], [], _, _, _ => .nil
  | [], _ :: _, _, h, _ => by cases h
  | _ :: _, [], _, h, _ => by cases h
  | a :: as, p :: kvs, H, h, hn => by
    have hn' := List.nodup_cons.mp hn
    have ih := putU_at as kvs (upd H a (.tup [p.1, p.2])) (Nat.succ.inj h) hn'.2
    refine .cons ?_ ih
    show putU (upd H a (.tup [p.1, p.2])) as kvs a = some (.tup [p.1, p.2])
    rw [putU_off as kvs _ hn'.1, upd_same]
theorem laidU {h' : Heap} {tk : Nat} {es : Array DictEntry} {acc : Array Value} {c : Nat} {as : List Addr} (I : Inv X pins σ H s) (hz : es.size ≤ sizeLine) (kv : Paired RP ls es.toList)
    (hk : ∀ b o, s.heap.get? b = some o → h'.get? b = some o) (hS : h'.get? s.heap.objs.size = some { cls := .type "list", dict := none, data := .seq acc c, slots := #[] }) (hl : as.length = es.size) (hG : DT.Made es s.heap.objs.size h' as) (hacc : acc.toList = as.map Value.ref) :
    ∃ H' : Hp, (∀ b o, H b = some o → H' b = some o) ∧ H s.heap.objs.size = none ∧ (∀ t ∈ as, H t = none) ∧ s.heap.objs.size ∉ as ∧ H' s.heap.objs.size = some (.lst (as.map V.ref)) ∧ Paired (fun (t : Addr) (q : V × V) => H' t = some (.tup [q.1, q.2])) as ls ∧ Inv X pins σ H' { s with heap := h', toks := tk } := by
  have lk : ls.length = es.size := by rw [Paired.length kv, Array.length_toList]
  have hSn : s.heap.objs.size ∉ as := fun z => Nat.lt_irrefl _ (hG.above _ z)
  have nd : as.Nodup := List.Pairwise.imp (fun {a b} (h : a < b) => Nat.ne_of_lt h) hG.rise
  have new : ∀ t ∈ as, H t = none := fun t ht => I.hok.fresh (Nat.le_of_lt (hG.above t ht))
  have newS : H s.heap.objs.size = none := I.hok.fresh (Nat.le_refl _)
  have atP := putU_at as ls (upd H s.heap.objs.size (.lst (as.map V.ref))) (by omega) nd
  have off : ∀ b, b ∉ as → b ≠ s.heap.objs.size → putU (upd H s.heap.objs.size (.lst (as.map V.ref))) as ls b = H b := fun b h1 h2 => by rw [putU_off as ls _ h1, upd_ne h2]
  have low : ∀ b o, s.heap.get? b = some o → b ∉ as ∧ b ≠ s.heap.objs.size := fun b o e => ⟨fun z => absurd (Heap.lt_size e) (Nat.not_lt.mpr (Nat.le_of_lt (hG.above b z))), Nat.ne_of_lt (Heap.lt_size e)⟩
  have kp : ∀ b u, H b = some u → (putU (upd H s.heap.objs.size (.lst (as.map V.ref))) as ls) b = some u := fun b u e => by
    rw [off b (fun z => by rw [new b z] at e; cases e) (fun z => by rw [z, newS] at e; cases e)]
    exact e
  have eS : putU (upd H s.heap.objs.size (.lst (as.map V.ref))) as ls s.heap.objs.size = some (.lst (as.map V.ref)) := by rw [putU_off as ls _ hSn, upd_same]
  refine ⟨putU (upd H s.heap.objs.size (.lst (as.map V.ref))) as ls, kp, newS, new, hSn, eS, atP, ?_⟩
  refine I.call' (ch := []) rfl ⟨fun b o q _ _ _ => hk b o q, fun b o q _ _ _ => ⟨o.slots, hk b o q⟩, fun b o q n _ => ?_, fun b o q _ => ⟨o, hk b o q⟩, fun b xs q => kp b _ q, fun b o u q => kp b _ q, fun b ps q => ⟨#[], by rw [kp b _ q]; simp⟩⟩ (fun b u q => ?_) I.bare fun b z => by simp at z
  · obtain ⟨z1, z2⟩ := low b o q
    rw [off b z1 z2]
    exact n
  · by_cases hb : b ∈ as
    · obtain ⟨j, pk, e1, e2, e3⟩ := LiI.paired_ix atP hb
      rw [e3] at q
      cases q
      obtain ⟨en, f1, f3⟩ := hG.pairs j b e1
      obtain ⟨en2, g1, g2, g3⟩ := LiI.paired_get kv e2
      rw [Array.getElem?_toList, f1] at g1
      cases g1
      exact ⟨by show 2 ≤ sizeLine; decide, [en.key, en.val], .cons g2 (.cons g3 .nil), ⟨_, f3, rfl, _, rfl⟩⟩
    · by_cases hb2 : b = s.heap.objs.size
      · rw [hb2] at q ⊢
        rw [eS] at q
        cases q
        refine ⟨by rw [List.length_map]; omega, acc.toList, c, by rw [hacc]; exact LiI.vals_refs as, ?_⟩
        rw [Array.toArray_toList]
        exact hS
      · rw [off b hb hb2] at q
        exact (I.hok b u q).stay (fun d v _ y => hk d v y) (fun d y => kp d _ y) fun d xs y => kp d _ y
end
def rItU (w : World) : V → Hp → VK → Prop := fun x H Q => ∃ (d : Addr) (ls : List (V × V)), x = .ref d ∧ IsP w H d ls ∧
  ∀ (H' : Hp) (p : Addr) (ts : List Addr), (∀ b o, H b = some o → H' b = some o) → H p = none → (∀ t ∈ ts, H t = none) → p ∉ ts → H' p = some (.lst (ts.map V.ref)) → Paired (fun (t : Addr) (q : V × V) => H' t = some (.tup [q.1, q.2])) ts ls → Q (.ref p) H'
section
variable {X : L2.Cx} {e : Expr} {te : TE} {p apos cpos pos : Pos}
/-- list(e.items()) -/
theorem pe_listItU (hc : X.calm = true) (he : PE X e te) (hg : Gl X "list") (hm : X.mg "list" = none) (hv : bootBuiltins "list" = some (.type "list")) (hbase : attributeBase e "items" X.env (eval e X.env) = eval e X.env) (hline : (apos.endLine == cpos.line) = true)
    (hs : starEach [.Call (.Attribute e "items" apos) [] [] cpos] X.env = (false, eval (.Call (.Attribute e "items" apos) [] [] cpos) X.env) :: starEach [] X.env := by rfl) :
    PE X (.Call (.Name "list" p) [.Call (.Attribute e "items" apos) [] [] cpos] [] pos) (fun σ H Q => te σ H fun x H1 => rItU X.w x H1 Q) := by
  refine ⟨fun pins s σ H Q I hq => ?_⟩
  refine wpAny_Call_Name_kw (ld_blt I hg hm hv ?_)
  refine PyProof.Rows.callWith_type1 ?_ hs rfl
  rw [hs]
  show wpAny _ _ (spliced ((false, eval (.Call (.Attribute e "items" apos) [] [] cpos) X.env) :: backTo pos (starEach [] X.env))) _ _ s
  refine Calls.spliced_cons ?_
  refine wpAny_Call_method (T := "dict") (id := "dict.items") hbase rfl hline F.plainAttrs_dict F.slot_dict_items F.type_dict_items (thn (he.run pins s σ H _ I hq) fun u s1 ⟨x, H1, I1, rx, d, ls, ex, hd, q⟩ => ?_)
  subst ex
  obtain rfl : u = Value.ref d := rx
  obtain ⟨o, es, ep, ho, hx, hdt, pr, hs0, hz⟩ := isP_raw I1 hd
  have hm1 : DT.Raw s1.heap d es ep := ⟨o, ho, hx, hdt⟩
  have I2 : Inv X pins σ H1 { s1 with heap := s1.heap.push { cls := .type "dict_items", data := .fields #[.ref d] } } := I1.kept (t' := s1.toks) fun b ob q => Heap.get?_push_of_some _ q
  refine ⟨hm1.typeIs, fun b z => (by cases z; exact ⟨o, ho, hx.2.1⟩), ?_⟩
  show wpAny _ _ (callWith cpos (.builtin "dict.items") [.ref d] [] []) _ X.xe s1
  refine method_meetsIn F.slot_dict_items F.entry_dict_items rfl (PySem.evalArgs_none ⟨rfl, hm1.typeIs, F.args_dict_items_1 _, _, DT.meetsItems (es := es) (ep := ep) hs0, ⟨hm1, ?_⟩⟩)
  refine Calls.spliced_nil ?_
  refine list_raw (es := es) (ep := ep) (I1.ok.hd hc) ⟨_, Heap.get?_push_size _ rfl, rfl, rfl⟩ (hm1.push _) hz fun h' tk acc c as hk hS hl hG hacc => ?_
  obtain ⟨H', k1, k2, k3, k4, k5, k6, J⟩ := laidU (tk := tk) I2 hz pr hk hS hl hG hacc
  exact ⟨.ref _, H', J, rfl, q H' _ as k1 k2 k3 k4 k5 k6⟩
end
end MS

set_option Elab.async false
set_option linter.all false
set_option maxRecDepth 100000
set_option autoImplicit false
set_option maxHeartbeats 4000000
/-! MSM: tuple * int. -/
namespace MS
open PySem PySem.Spec PyProof.Rows L2
theorem tuple_mul1 (l : Addr) (items : Array Value) (n : Nat) (dd : Option Addr) (sl : Array (Option Value)) (u : Tok) :
    Meets (Builtin.«tuple.__mul__» ⟨[.ref l, .int 1 u], []⟩) (fun _ R s => s.heap.get? l = some { cls := .type "tuple", dict := dd, data := .seq items n, slots := sl } ∧
      R (.ok (.ret (Value.ref l))) s) :=
  .of_wp fun prog w A R s h => by
    obtain ⟨hp, g, d, tk, os⟩ := s
    obtain ⟨hl, h⟩ := h
    have f1 := AutoSeq1.idx_int
    have c0 : (decide ((1 : Int) < -(2 ^ 63)) || decide ((1 : Int) ≥ 2 ^ 63)) = false := by decide
    have c1 : (items.isEmpty || (1 : Int) == 1) = true := by rw [Bool.or_eq_true]; exact .inr rfl
    wp_walk using wpAny_loadPart' hl
    repeat (first
      | (refine wpAny_ite_false (decide_eq_false (by rw [c0]; exact Bool.false_ne_true)) ?_; wp_walk using wpAny_loadPart' hl)
      | (refine wpAny_ite_true (decide_eq_true (by rw [c1])) ?_; wp_walk using wpAny_loadPart' hl))
    exact ⟨_, rfl, h⟩
def rRep1 (K : PySem.W.Frag) : R2 := fun x y H Q => ∃ l xs, x = .ref l ∧ y = .int 1 ∧ SqT K H l xs ∧ Q (.ref l) H
section
variable {X : L2.Cx}
theorem op_rep1 : OpR X (binaryOp .Mult) (rRep1 X.K) := by
  intro pins s σ H x y v u Q I rx ry h
  obtain ⟨l, xs, rfl, rfl, hT, q⟩ := h
  cases rx
  obtain ⟨t, rfl⟩ := ry
  obtain ⟨its, r, ⟨⟨cls, dd, data, sl⟩, ho, hc, n, hd⟩, hs⟩ := I.tuple hT
  simp only at hc hd
  subst hc hd
  refine wpAny_binaryOp_repeat_ref (T := "tuple") (U := "int") (by decide) ⟨_, ho, rfl⟩ (fun s' => typeIs_int s' 1 t) noFill_tuple_mul F.fills_int_mul F.slot_int_rmul repeat_tuple F.slot_int_index.lookup
    (call_meets F.slot_int_rmul (typeIs_int s 1 t) F.entry_int_rmul (F.args_int_rmul_2 _ _) (int_rmul_tuple 1 t l its.toArray n dd sl)
      ⟨ho, rfl, ⟨_, ho, rfl⟩, call_meets F.slot_tuple_mul ⟨_, ho, rfl⟩ F.entry_tuple_mul (F.args_tuple_mul_2 _ _) (tuple_mul1 l its.toArray n dd sl t) ⟨ho, ?_⟩⟩)
  exact ⟨.ref l, H, I, rfl, q⟩
end
end MS

set_option Elab.async false
set_option linter.all false
set_option maxRecDepth 100000
set_option autoImplicit false
/-! MS2: the store and the abstract heap. -/
namespace MS
open PySem PySem.Spec PyProof.Rows L2
variable [TW]

/-- what data is shown as: a list and a dict together, behind the mark -/
def pairP : MP.D → PyData × PyData
  | .tup [k, v] => (pd k, pd v)
  | d => (pd d, pd d)
def pdr : MP.D → PyData
  | .tup [.int m, a, .lst ps] => if m.natAbs.log2 < 1900 then pd (.tup [.int m, a, .lst ps]) else .list [pd a, .dict (ps.map pairP)]
  | d => pd d
theorem pdr_eq : ∀ d : MP.D, d.shw = true → pdr d = pd d := by
  intro d h
  unfold pdr
  split
  · rename_i m a ps
    rw [if_pos]
    simp only [MP.D.shw, MP.D.shws, Bool.and_eq_true, Nat.blt_eq] at h
    exact h.1
  · rfl
def RepV (K : Fg) (H : Hp) (W : Wd) : MP.Vl → V → Prop
  | .d x, v => RepD H W.F x v
  | .p i, v => ∃ a, W.mu[i]? = some a ∧ v = .ref a
  | .f g, v => v = .ref (He.ga K (so g))
  | .s ds, v => ∃ a vs, v = .ref a ∧ ((∃ o, H a = some (.frz o (.lst vs))) ∨ ∃ (o : Obj) (its : Array Value) (n : Nat), K.lookup a = some o ∧ o.cls = .type "list" ∧ o.dict = none ∧ o.data = .seq its n ∧ its.size ≤ sizeLine ∧ Vals vs its.toList) ∧ RepDs H W.F ds vs
  | .r d, v => v = .str (PyData.shown (pdr d))
def RepVs (K : Fg) (H : Hp) (W : Wd) : List MP.Vl → List V → Prop
  | [], vs => vs = []
  | x :: xs, vs => ∃ v r, vs = v :: r ∧ RepV K H W x v ∧ RepVs K H W xs r
structure Le (H : Hp) (W : Wd) (H' : Hp) (W' : Wd) : Prop where
  kp : Keep W.F W'.F H H'
  mu : ∀ (i : Nat) (a : Addr), W.mu[i]? = some a → W'.mu[i]? = some a
  tt : ∀ a, W.T a → W'.T a
  ht : ∀ a o, W.T a → H a = some o → H' a = some o
  nn : ∀ n, W.ns n → W'.ns n
theorem Le.refl {H : Hp} {W : Wd} : Le H W H W := ⟨.refl, fun _ _ h => h, fun _ h => h, fun _ _ _ h => h, fun _ h => h⟩
theorem Le.trans {H H1 H2 : Hp} {W W1 W2 : Wd} (a : Le H W H1 W1) (b : Le H1 W1 H2 W2) : Le H W H2 W2 := ⟨a.kp.trans b.kp, fun i x h => b.mu i x (a.mu i x h), fun x h => b.tt x (a.tt x h), fun x o t h => b.ht x o (a.tt x t) (a.ht x o t h), fun n h => b.nn n (a.nn n h)⟩
section
variable {K : Fg} {H H' : Hp} {W W' : Wd}
theorem RepV.mono (l : Le H W H' W') : ∀ {x : MP.Vl} {v : V}, RepV K H W x v → RepV K H' W' x v
  | .d _, _, h => RepD.mono l.kp h
  | .p i, v, h => by
    obtain ⟨a, h1, h2⟩ := h
    exact ⟨a, l.mu i a h1, h2⟩
  | .f _, _, h => h
  | .s ds, _, h => by
    obtain ⟨a, vs, e, h1, h2⟩ := h
    refine ⟨a, vs, e, h1.imp (fun ⟨o, z⟩ => ⟨o, l.kp.fr a o _ z⟩) id, RepDs.mono l.kp h2⟩
  | .r _, _, h => h
theorem RepVs.mono (l : Le H W H' W') : ∀ {xs : List MP.Vl} {vs : List V}, RepVs K H W xs vs → RepVs K H' W' xs vs
  | [], _, h => h
  | x :: xs, _, h => by
    obtain ⟨v, r, e, h1, h2⟩ := h
    exact ⟨v, r, e, h1.mono l, RepVs.mono l h2⟩
theorem RepVs.length : ∀ {xs : List MP.Vl} {vs : List V}, RepVs K H W xs vs → vs.length = xs.length
  | [], _, h => by cases h; rfl
  | x :: xs, _, h => by
    obtain ⟨v, r, rfl, _, h2⟩ := h
    simp [RepVs.length h2]
theorem RepVs.get : ∀ {xs : List MP.Vl} {vs : List V} {i : Nat} {x : MP.Vl}, RepVs K H W xs vs → xs[i]? = some x → ∃ v, vs[i]? = some v ∧ RepV K H W x v
  | [], _, _, _, _, e => by simp at e
  | y :: xs, _, 0, _, h, e => by
    obtain ⟨v, r, rfl, h1, _⟩ := h
    simp at e
    subst e
    exact ⟨v, rfl, h1⟩
  | y :: xs, _, i + 1, x, h, e => by
    obtain ⟨v, r, rfl, _, h2⟩ := h
    obtain ⟨u, q1, q2⟩ := RepVs.get (i := i) (x := x) h2 (by simpa using e)
    exact ⟨u, by simpa using q1, q2⟩

/-! ### dicts -/
section
variable {κ : Type} (R : MP.D → κ → Prop)
def Kvs (K : Fg) (H : Hp) (W : Wd) : List (MP.D × MP.Vl) → List (κ × V) → Prop
  | [], ks => ks = []
  | q :: r, ks => ∃ k v t, ks = (k, v) :: t ∧ R q.1 k ∧ RepV K H W q.2 v ∧ Kvs K H W r t
variable {R}
theorem Kvs.mono (l : Le H W H' W') : ∀ {qs : List (MP.D × MP.Vl)} {ks : List (κ × V)}, Kvs R K H W qs ks → Kvs R K H' W' qs ks
  | [], _, h => h
  | q :: r, _, h => by
    obtain ⟨k, v, t, e, h1, h2, h3⟩ := h
    exact ⟨k, v, t, e, h1, h2.mono l, Kvs.mono l h3⟩
theorem Kvs.length : ∀ {qs : List (MP.D × MP.Vl)} {ks : List (κ × V)}, Kvs R K H W qs ks → ks.length = qs.length
  | [], _, h => by cases h; rfl
  | q :: r, _, h => by
    obtain ⟨k, v, t, rfl, _, _, h2⟩ := h
    simp [Kvs.length h2]
variable [DecidableEq κ]
/-- the keys are told apart alike -/
def Apart (R : MP.D → κ → Prop) : Prop := ∀ a b k l, R a k → R b l → MP.D.eq a b = decide (k = l)
theorem Kvs.look (ap : Apart R) {d : MP.D} {k : κ} (hk : R d k) : ∀ {qs : List (MP.D × MP.Vl)} {ks : List (κ × V)}, Kvs R K H W qs ks →
    match MP.look qs d with
    | some x => ∃ v, valV ks k = some v ∧ RepV K H W x v
    | none => valV ks k = none
  | [], _, h => by cases h; rfl
  | q :: r, _, h => by
    obtain ⟨l, v, t, rfl, h1, h2, h3⟩ := h
    have ih := Kvs.look ap hk h3
    have e := ap _ _ _ _ h1 hk
    unfold MP.look at ih ⊢
    by_cases c : l = k
    · rw [decide_eq_true c] at e
      rw [List.find?_cons, e]
      exact ⟨v, valV_pos c, h2⟩
    · rw [decide_eq_false c] at e
      rw [List.find?_cons, e]
      simp only
      have e2 : valV ((l, v) :: t) k = valV t k := valV_neg c
      rw [e2]
      exact ih
theorem Kvs.any (ap : Apart R) {d : MP.D} {k : κ} (hk : R d k) : ∀ {qs : List (MP.D × MP.Vl)} {ks : List (κ × V)}, Kvs R K H W qs ks → (qs.any fun q => MP.D.eq q.1 d) = ks.any fun q => decide (q.1 = k)
  | [], _, h => by cases h; rfl
  | q :: r, _, h => by
    obtain ⟨l, v, t, rfl, h1, h2, h3⟩ := h
    rw [List.any_cons, List.any_cons, Kvs.any ap hk h3, ap _ _ _ _ h1 hk]
theorem Kvs.repl (ap : Apart R) {d : MP.D} {k : κ} {x : MP.Vl} {u : V} (hk : R d k) (hx : RepV K H W x u) : ∀ {qs : List (MP.D × MP.Vl)} {ks : List (κ × V)}, Kvs R K H W qs ks →
    Kvs R K H W (qs.map fun q => if MP.D.eq q.1 d then (q.1, x) else q) (ks.map fun q => if q.1 = k then (q.1, u) else q)
  | [], _, h => by cases h; rfl
  | q :: r, _, h => by
    obtain ⟨l, v, t, rfl, h1, h2, h3⟩ := h
    have ih := Kvs.repl ap hk hx h3
    have e := ap _ _ _ _ h1 hk
    rw [List.map_cons, List.map_cons]
    by_cases c : l = k
    · rw [decide_eq_true c] at e
      rw [if_pos e, if_pos c]
      exact ⟨l, u, _, rfl, h1, hx, ih⟩
    · rw [decide_eq_false c] at e
      rw [if_neg (by rw [e]; decide), if_neg c]
      exact ⟨l, v, _, rfl, h1, h2, ih⟩
theorem Kvs.append : ∀ {qs ps : List (MP.D × MP.Vl)} {ks ls : List (κ × V)}, Kvs R K H W qs ks → Kvs R K H W ps ls → Kvs R K H W (qs ++ ps) (ks ++ ls)
  | [], _, _, _, h, g => by cases h; exact g
  | q :: r, _, _, _, h, g => by
    obtain ⟨l, v, t, rfl, h1, h2, h3⟩ := h
    exact ⟨l, v, _, rfl, h1, h2, Kvs.append h3 g⟩
theorem Kvs.put (ap : Apart R) {d : MP.D} {k : κ} {x : MP.Vl} {u : V} (hk : R d k) (hx : RepV K H W x u) {qs : List (MP.D × MP.Vl)} {ks : List (κ × V)} (h : Kvs R K H W qs ks) : Kvs R K H W (MP.put qs d x) (putK ks k u) := by
  unfold MP.put putK
  rw [h.any ap hk]
  by_cases c : (ks.any fun q => decide (q.1 = k)) = true
  · rw [if_pos c, if_pos c]
    exact h.repl ap hk hx
  · rw [if_neg c, if_neg c]
    exact h.append ⟨k, u, [], rfl, hk, hx, rfl⟩
end
/-- a tuple's keys -/
def keyT : MP.D → List Key → Prop
  | .tup ds, k => keysV ds k
  | _, _ => False
theorem keyV_apart : Apart keyV := by
  intro a b k l h1 h2
  cases a <;> cases b <;> first | exact h1.elim | exact h2.elim | skip
  · cases h1; cases h2
    simp only [MP.D.eq, Sum.inl.injEq]
    exact (Bool.beq_eq_decide_eq _ _)
  · cases h1; cases h2
    simp [MP.D.eq]
  · cases h1; cases h2
    simp [MP.D.eq]
  · rename_i s t
    cases h1; cases h2
    simp only [MP.D.eq, Sum.inr.injEq]
    by_cases e : s = t
    · subst e
      simp
    · rw [beq_false_of_ne e, decide_eq_false (so_ne e)]
theorem keysV_apart : ∀ (as bs : List MP.D) (k l : List Key), keysV as k → keysV bs l → MP.D.eqs as bs = decide (k = l)
  | [], [], k, l, h1, h2 => by cases h1; cases h2; simp [MP.D.eqs]
  | [], b :: bs, k, l, h1, h2 => by
    obtain ⟨x, r, rfl, _, _⟩ := h2
    cases h1
    simp [MP.D.eqs]
  | a :: as, [], k, l, h1, h2 => by
    obtain ⟨x, r, rfl, _, _⟩ := h1
    cases h2
    simp [MP.D.eqs]
  | a :: as, b :: bs, k, l, h1, h2 => by
    obtain ⟨x, r, rfl, h3, h4⟩ := h1
    obtain ⟨y, t, rfl, h5, h6⟩ := h2
    simp only [MP.D.eqs, keyV_apart a b x y h3 h5, keysV_apart as bs r t h4 h6, List.cons.injEq, Bool.decide_and]
theorem keyT_apart : Apart keyT := by
  intro a b k l h1 h2
  cases a <;> first | exact h1.elim | skip
  cases b <;> first | exact h2.elim | skip
  simp only [MP.D.eq]
  exact keysV_apart _ _ _ _ h1 h2
/-- a key and its value -/
theorem keyV_of {F : Addr → Prop} : ∀ {d : MP.D} {v : V}, MP.keyD d = true → RepD H F d v → ∃ k, keyV d k ∧ v = kV k
  | .int i, _, _, h => by cases h; exact ⟨.inl i, rfl, rfl⟩
  | .str s, _, _, h => by cases h; exact ⟨.inr (so s), rfl, rfl⟩
  | .non, _, h, _ => by cases h
  | .bl _, _, h, _ => by cases h
  | .tup _, _, h, _ => by cases h
  | .lst _, _, h, _ => by cases h
theorem keysV_of {F : Addr → Prop} : ∀ {ds : List MP.D} {vs : List V}, ds.all MP.keyD = true → RepDs H F ds vs → ∃ k, keysV ds k ∧ vs = k.map kV
  | [], _, _, h => by cases h; exact ⟨[], rfl, rfl⟩
  | d :: ds, _, a, h => by
    obtain ⟨v, r, rfl, h1, h2⟩ := h
    rw [List.all_cons, Bool.and_eq_true] at a
    obtain ⟨k, k1, rfl⟩ := keyV_of a.1 h1
    obtain ⟨ks, k2, rfl⟩ := keysV_of a.2 h2
    exact ⟨k :: ks, ⟨k, ks, rfl, k1, k2⟩, rfl⟩
/-- the keys as data -/
theorem Kvs.keysK {F : Addr → Prop} : ∀ {qs : List (MP.D × MP.Vl)} {ks : List (Key × V)}, Kvs keyV K H W qs ks → RepDs H F (qs.map (·.1)) (ks.map fun q => kV q.1)
  | [], _, h => by cases h; rfl
  | q :: r, _, h => by
    obtain ⟨l, v, t, rfl, h1, h2, h3⟩ := h
    refine ⟨_, _, rfl, ?_, Kvs.keysK h3⟩
    obtain ⟨d, x⟩ := q
    cases d with
    | int i =>
      have e : l = .inl i := h1
      subst e
      rfl
    | str i =>
      have e : l = .inr (so i) := h1
      subst e
      rfl
    | _ => exact h1.elim

/-! ### instances -/
def Flds (K : Fg) (H : Hp) (W : Wd) : List (String × MP.Vl) → List (Str × V) → Prop
  | [], hs => hs = []
  | q :: r, hs => ∃ v t, hs = (so q.1, v) :: t ∧ RepV K H W q.2 v ∧ Flds K H W r t
theorem Flds.mono (l : Le H W H' W') : ∀ {qs : List (String × MP.Vl)} {hs : List (Str × V)}, Flds K H W qs hs → Flds K H' W' qs hs
  | [], _, h => h
  | q :: r, _, h => by
    obtain ⟨v, t, e, h2, h3⟩ := h
    exact ⟨v, t, e, h2.mono l, Flds.mono l h3⟩
theorem Flds.length : ∀ {qs : List (String × MP.Vl)} {hs : List (Str × V)}, Flds K H W qs hs → hs.length = qs.length
  | [], _, h => by cases h; rfl
  | q :: r, _, h => by
    obtain ⟨v, t, rfl, _, h2⟩ := h
    simp [Flds.length h2]
theorem Flds.look {f : String} : ∀ {qs : List (String × MP.Vl)} {hs : List (Str × V)}, Flds K H W qs hs →
    match qs.lookup f with
    | some x => ∃ v, hs.lookup (so f) = some v ∧ RepV K H W x v
    | none => hs.lookup (so f) = none
  | [], _, h => by cases h; rfl
  | q :: r, _, h => by
    obtain ⟨v, t, rfl, h2, h3⟩ := h
    have ih := Flds.look (f := f) h3
    obtain ⟨g, x⟩ := q
    simp only [List.lookup_cons]
    by_cases c : f = g
    · subst c
      simp only [beq_self_eq_true]
      exact ⟨v, rfl, h2⟩
    · rw [beq_false_of_ne c, beq_false_of_ne (so_ne c)]
      exact ih
theorem Flds.put {f : String} {x : MP.Vl} {u : V} (hx : RepV K H W x u) : ∀ {qs : List (String × MP.Vl)} {hs : List (Str × V)}, Flds K H W qs hs → Flds K H W (MP.putF qs f x) (putF (so f) u hs)
  | [], _, h => by cases h; exact ⟨u, [], rfl, hx, rfl⟩
  | q :: r, _, h => by
    obtain ⟨v, t, rfl, h2, h3⟩ := h
    have ih := Flds.put (f := f) hx h3
    unfold MP.putF putF
    by_cases c : q.1 = f
    · subst c
      rw [if_pos rfl]
      simp only [if_pos]
      exact ⟨u, t, rfl, hx, h3⟩
    · rw [if_neg c]
      simp only [if_neg (so_ne c)]
      exact ⟨v, _, rfl, h2, ih⟩

/-! ### the store -/
def CellIs (K : Fg) (H : Hp) (W : Wd) : MP.Cell → Option HO → Prop
  | .dead, _ => True
  | .lst ds, o => ∃ vs, o = some (.lst vs) ∧ RepDs H W.F ds vs
  | .dic .k kvs, o => ∃ ks, o = some (.dK ks) ∧ Kvs keyV K H W kvs ks
  | .dic .t kvs, o => ∃ ks, o = some (.dT ks) ∧ Kvs keyT K H W kvs ks
  | .dic .n kvs, o => ∃ b zs, o = some (hoN TW.w b zs) ∧ Kvs keyN K H W kvs (zs.map (·.1)) ∧ RepDs H W.F (kvs.map (·.1)) (zs.map fun z => V.ref z.2)
  | .ins c fs, o => ∃ dx hs, o = some (.ins (He.ga K (so c)) dx hs) ∧ Flds K H W fs hs
theorem CellIs.mono (l : Le H W H' W') : ∀ {c : MP.Cell} {o : Option HO}, CellIs K H W c o → CellIs K H' W' c o
  | .dead, _, _ => True.intro
  | .lst ds, o, h => by
    obtain ⟨vs, e, h⟩ := h
    exact ⟨vs, e, RepDs.mono l.kp h⟩
  | .dic .k kvs, o, h => by
    obtain ⟨vs, e, h⟩ := h
    exact ⟨vs, e, h.mono l⟩
  | .dic .t kvs, o, h => by
    obtain ⟨vs, e, h⟩ := h
    exact ⟨vs, e, h.mono l⟩
  | .dic .n kvs, o, h => by
    obtain ⟨b, zs, e, h, h2⟩ := h
    exact ⟨b, zs, e, h.mono l, RepDs.mono l.kp h2⟩
  | .ins c fs, o, h => by
    obtain ⟨dx, vs, e, h⟩ := h
    exact ⟨dx, vs, e, h.mono l⟩
/-- a live cell's object: tracked, and one that may change -/
theorem CellIs.mut {c : MP.Cell} {o : Option HO} (h : CellIs K H W c o) (nd : c ≠ .dead) : ∃ u, o = some u ∧ (∀ xs, u ≠ .tup xs) ∧ ∀ ob w, u ≠ .frz ob w := by
  cases c with
  | dead => exact absurd rfl nd
  | lst ds =>
    obtain ⟨vs, rfl, _⟩ := h
    exact ⟨_, rfl, fun _ => by simp, fun _ _ => by simp⟩
  | dic k kvs =>
    cases k with
    | k =>
      obtain ⟨vs, rfl, _⟩ := h
      exact ⟨_, rfl, fun _ => by simp, fun _ _ => by simp⟩
    | t =>
      obtain ⟨vs, rfl, _⟩ := h
      exact ⟨_, rfl, fun _ => by simp, fun _ _ => by simp⟩
    | n =>
      obtain ⟨b, zs, rfl, _⟩ := h
      exact ⟨_, rfl, fun _ => by simp [hoN], fun _ _ => by simp [hoN]⟩
  | ins c fs =>
    obtain ⟨dx, vs, rfl, _⟩ := h
    exact ⟨_, rfl, fun _ => by simp, fun _ _ => by simp⟩
def bel (n : Nat) (c : MP.Cell) : Prop := match c with
  | .dic _ kvs => ∀ q ∈ kvs, MP.belowV n (some q.2) = true
  | .ins _ fs => ∀ q ∈ fs, MP.belowV n (some q.2) = true
  | _ => True
theorem belowV_mono {n m : Nat} (h : n ≤ m) : ∀ {x : Option MP.Vl}, MP.belowV n x = true → MP.belowV m x = true
  | some (.p j), e => by
    have e1 : j < n := of_decide_eq_true e
    exact decide_eq_true (Nat.lt_of_lt_of_le e1 h)
  | some (.d _), _ => rfl
  | some (.f _), _ => rfl
  | some (.s _), _ => rfl
  | some (.r _), _ => rfl
  | none, _ => rfl
theorem bel_mono {n m : Nat} (h : n ≤ m) : ∀ {c : MP.Cell}, bel n c → bel m c
  | .dead, _ => True.intro
  | .lst _, _ => True.intro
  | .dic _ _, e => fun q hq => belowV_mono h (e q hq)
  | .ins _ _, e => fun q hq => belowV_mono h (e q hq)
structure Good (K : Fg) (n0 : Nat) (H : Hp) (W : Wd) (S : MP.St) : Prop where
  len : W.mu.length = S.length
  le0 : n0 ≤ S.length
  cell : ∀ (i : Nat) (c : MP.Cell) (a : Addr), S[i]? = some c → W.mu[i]? = some a → CellIs K H W c (H a)
  live : ∀ (i : Nat) (c : MP.Cell) (a : Addr), S[i]? = some c → c ≠ .dead → W.mu[i]? = some a → ¬ W.F a
  inj : ∀ (i j : Nat) (a : Addr) (c c' : MP.Cell), S[i]? = some c → c ≠ .dead → S[j]? = some c' → c' ≠ .dead → W.mu[i]? = some a → W.mu[j]? = some a → i = j
  fobj : ∀ a, W.F a → ∃ vs, H a = some (.lst vs)
  tobj : ∀ a, W.T a → (∃ o, H a = some o) ∧ ¬ W.F a
  tmu : ∀ (i : Nat) (c : MP.Cell) (a : Addr), S[i]? = some c → c ≠ .dead → W.mu[i]? = some a → ¬ W.T a
  cl : ∀ (i : Nat) (c : MP.Cell), S[i]? = some c → bel S.length c
  nle : ∀ n, W.ns n → n ≤ n0
  cl0 : ∀ (n i : Nat) (c : MP.Cell), n = n0 ∨ W.ns n → i < n → S[i]? = some c → bel n c
variable {n0 : Nat} {S : MP.St}
theorem Good.at_ (g : Good K n0 H W S) {i : Nat} {c : MP.Cell} (h : S[i]? = some c) : ∃ a, W.mu[i]? = some a ∧ CellIs K H W c (H a) := by
  obtain ⟨hi, _⟩ := List.getElem?_eq_some_iff.mp h
  have e : W.mu[i]? = some (W.mu[i]'(by rw [g.len]; exact hi)) := by simp
  exact ⟨_, e, g.cell i c _ h e⟩
theorem Good.below (g : Good K n0 H W S) {x : MP.Vl} {v : V} (h : RepV K H W x v) : MP.belowV S.length (some x) = true := by
  cases x with
  | p i =>
    obtain ⟨a, e, _⟩ := h
    obtain ⟨hi, _⟩ := List.getElem?_eq_some_iff.mp e
    rw [g.len] at hi
    exact decide_eq_true hi
  | _ => rfl
/-- a new object that is no cell and not in F (a tuple) -/
theorem Good.new (g : Good K n0 H W S) {p : Addr} {o : HO} (hp : H p = none) : Good K n0 (upd H p o) W S ∧ Le H W (upd H p o) W := by
  have l : Le H W (upd H p o) W := ⟨⟨fun _ h => h, fun a o' _ e => by rw [upd_ne (ne_of_none e hp)]; exact e, fun a xs e => by rw [upd_ne (ne_of_none e hp)]; exact e, fun a o u e => by rw [upd_ne (ne_of_none e hp)]; exact e⟩, fun _ _ h => h, fun _ h => h,
    fun a o' _ e => by rw [upd_ne (ne_of_none e hp)]; exact e, fun _ h => h⟩
  refine ⟨⟨g.len, g.le0, fun i c a h1 h2 => ?_, g.live, g.inj, fun a h => ?_, fun a h => ?_, g.tmu, g.cl, g.nle, g.cl0⟩, l⟩
  · by_cases hd : c = .dead
    · subst hd
      exact True.intro
    · have q := g.cell i c a h1 h2
      obtain ⟨u, e, _⟩ := q.mut hd
      rw [upd_ne (ne_of_none e hp)]
      exact q.mono l
  · obtain ⟨vs, e⟩ := g.fobj a h
    exact ⟨vs, by rw [upd_ne (ne_of_none e hp)]; exact e⟩
  · obtain ⟨⟨u, e⟩, nf⟩ := g.tobj a h
    exact ⟨⟨u, by rw [upd_ne (ne_of_none e hp)]; exact e⟩, nf⟩
/-- stands alone: no list of F, no cell, left alone by nobody -/
structure Alone (W : Wd) (S : MP.St) (p : Addr) : Prop where
  f : ¬ W.F p
  t : ¬ W.T p
  m : ∀ (i : Nat) (c : MP.Cell), S[i]? = some c → c ≠ .dead → W.mu[i]? ≠ some p
/-- a fresh address stands alone -/
theorem Good.fresh (g : Good K n0 H W S) {p : Addr} (hp : H p = none) : Alone W S p := by
  refine ⟨fun h => ?_, fun h => ?_, fun i c h1 h2 h3 => ?_⟩
  · obtain ⟨vs, e⟩ := g.fobj p h
    rw [hp] at e
    cases e
  · obtain ⟨⟨u, e⟩, _⟩ := g.tobj p h
    rw [hp] at e
    cases e
  · obtain ⟨u, e, _⟩ := (g.cell i c p h1 h3).mut h2
    rw [hp] at e
    cases e
/-- a list that stands alone is put to those that never change -/
theorem Good.toF (g : Good K n0 H W S) {p : Addr} {vs : List V} (hp : H p = some (.lst vs)) (hn : Alone W S p) :
    Good K n0 H ⟨fun a => W.F a ∨ a = p, W.mu, W.T, W.ns⟩ S ∧ Le H W H ⟨fun a => W.F a ∨ a = p, W.mu, W.T, W.ns⟩ := by
  have l : Le H W H ⟨fun a => W.F a ∨ a = p, W.mu, W.T, W.ns⟩ := ⟨⟨fun _ h => .inl h, fun _ _ _ h => h, fun _ _ h => h, fun _ _ _ h => h⟩, fun _ _ h => h, fun _ h => h, fun _ _ _ h => h, fun _ h => h⟩
  refine ⟨⟨g.len, g.le0, fun i c a h1 h2 => (g.cell i c a h1 h2).mono l, fun i c a h1 h2 h3 h4 => ?_, g.inj, fun a h => ?_, fun a h => ⟨(g.tobj a h).1, fun z => ?_⟩, g.tmu, g.cl, g.nle, g.cl0⟩, l⟩
  · rcases h4 with h4 | h4
    · exact g.live i c a h1 h2 h3 h4
    · subst h4
      exact hn.m i c h1 h2 h3
  · rcases h with h | h
    · exact g.fobj a h
    · subst h
      exact ⟨vs, hp⟩
  · rcases z with z | z
    · exact (g.tobj a h).2 z
    · subst z
      exact hn.t h
theorem get_snoc {α : Type} {l : List α} {x y : α} {i : Nat} (h : (l ++ [x])[i]? = some y) : l[i]? = some y ∨ (i = l.length ∧ y = x) := by
  by_cases hi : i < l.length
  · rw [List.getElem?_append_left hi] at h
    exact .inl h
  · rw [List.getElem?_append_right (Nat.le_of_not_lt hi)] at h
    cases q : i - l.length with
    | zero =>
      rw [q] at h
      simp at h
      exact .inr ⟨by omega, h.symm⟩
    | succ n =>
      rw [q] at h
      simp at h
theorem get_snoc_old {α : Type} {l : List α} {x y : α} {i : Nat} (h : l[i]? = some y) : (l ++ [x])[i]? = some y := by
  obtain ⟨hi, _⟩ := List.getElem?_eq_some_iff.mp h
  rw [List.getElem?_append_left hi]
  exact h
theorem get_snoc_new {α : Type} {l : List α} {x : α} : (l ++ [x])[l.length]? = some x := by
  rw [List.getElem?_append_right (Nat.le_refl _), Nat.sub_self]
  rfl
/-- an object that stands alone becomes a cell -/
theorem Good.toCell (g : Good K n0 H W S) {p : Addr} {c : MP.Cell} {o : HO} (hp : H p = some o) (hc : CellIs K H W c (some o)) (hb : bel (S.length + 1) c) (hn : Alone W S p) :
    Good K n0 H ⟨W.F, W.mu ++ [p], W.T, W.ns⟩ (S ++ [c]) ∧ Le H W H ⟨W.F, W.mu ++ [p], W.T, W.ns⟩ ∧ (W.mu ++ [p])[S.length]? = some p := by
  have l : Le H W H ⟨W.F, W.mu ++ [p], W.T, W.ns⟩ := ⟨.refl, fun i a h => get_snoc_old h, fun _ h => h, fun _ _ _ h => h, fun _ h => h⟩
  have e0 : (W.mu ++ [p])[S.length]? = some p := by rw [← g.len]; exact get_snoc_new
  have key : ∀ (i : Nat) (c' : MP.Cell) (a : Addr), (S ++ [c])[i]? = some c' → (W.mu ++ [p])[i]? = some a → (S[i]? = some c' ∧ W.mu[i]? = some a) ∨ (i = S.length ∧ c' = c ∧ a = p) := fun i c' a h1 h2 => by
    rcases get_snoc h1 with h1 | ⟨h1, h1'⟩
    · obtain ⟨hi, _⟩ := List.getElem?_eq_some_iff.mp h1
      rcases get_snoc h2 with h2 | ⟨h2, _⟩
      · exact .inl ⟨h1, h2⟩
      · rw [g.len] at h2; omega
    · subst h1
      rw [e0] at h2
      cases h2
      exact .inr ⟨rfl, h1', rfl⟩
  refine ⟨⟨by simp [g.len], by simp; have := g.le0; omega, fun i c' a h1 h2 => ?_, fun i c' a h1 hd h2 => ?_, fun i j a c1 c2 h1 d1 h2 d2 m1 m2 => ?_, g.fobj, g.tobj, fun i c' a h1 hd h2 => ?_, fun i c' h => ?_, g.nle, fun n i c' hn' hi h => ?_⟩, l, e0⟩
  · rcases key i c' a h1 h2 with ⟨h1, h2⟩ | ⟨rfl, rfl, rfl⟩
    · exact (g.cell i c' a h1 h2).mono l
    · rw [hp]; exact hc.mono l
  · rcases key i c' a h1 h2 with ⟨h1, h2⟩ | ⟨rfl, rfl, rfl⟩
    · exact g.live i c' a h1 hd h2
    · exact hn.f
  · have q1 := key i c1 a h1 m1
    have q2 := key j c2 a h2 m2
    rcases q1 with ⟨a1, a2⟩ | ⟨a1, a2, a3⟩
    · rcases q2 with ⟨b1, b2⟩ | ⟨b1, b2, b3⟩
      · exact g.inj i j a c1 c2 a1 d1 b1 d2 a2 b2
      · rw [b3] at a2
        exact absurd a2 (hn.m i c1 a1 d1)
    · rcases q2 with ⟨b1, b2⟩ | ⟨b1, b2, b3⟩
      · rw [a3] at b2
        exact absurd b2 (hn.m j c2 b1 d2)
      · rw [a1, b1]
  · rcases key i c' a h1 h2 with ⟨h1, h2⟩ | ⟨rfl, rfl, rfl⟩
    · exact g.tmu i c' a h1 hd h2
    · exact hn.t
  · rw [List.length_append]
    rcases get_snoc h with h | ⟨rfl, rfl⟩
    · exact bel_mono (Nat.le_succ _) (g.cl i c' h)
    · exact hb
  · rcases get_snoc h with h | ⟨rfl, rfl⟩
    · exact g.cl0 n i c' hn' hi h
    · have := g.le0
      have : n ≤ n0 := hn'.elim (fun z => by omega) (g.nle n)
      omega
/-- what is left alone beside -/
theorem Good.more (g : Good K n0 H W S) {p : Addr} {o : HO} (hp : H p = some o) (hn : Alone W S p) : Good K n0 H ⟨W.F, W.mu, fun a => W.T a ∨ a = p, W.ns⟩ S := by
  have l : Le H W H ⟨W.F, W.mu, fun a => W.T a ∨ a = p, W.ns⟩ := ⟨.refl, fun _ _ h => h, fun _ h => .inl h, fun _ _ _ h => h, fun _ h => h⟩
  refine ⟨g.len, g.le0, fun i c a h1 h2 => (g.cell i c a h1 h2).mono l, g.live, g.inj, g.fobj, fun a h => ?_, fun i c a h1 h2 h3 h4 => ?_, g.cl, g.nle, g.cl0⟩
  · rcases h with h | h
    · exact g.tobj a h
    · rw [h]
      exact ⟨⟨o, hp⟩, hn.f⟩
  · rcases h4 with h4 | h4
    · exact g.tmu i c a h1 h2 h3 h4
    · rw [h4] at h3
      exact hn.m i c h1 h2 h3
/-- less is left alone -/
theorem Good.less (g : Good K n0 H W S) {T : Addr → Prop} (h : ∀ a, T a → W.T a) : Good K n0 H ⟨W.F, W.mu, T, W.ns⟩ S := by
  have re : ∀ {x : MP.Vl} {v : V}, RepV K H W x v → RepV K H ⟨W.F, W.mu, T, W.ns⟩ x v := fun {x v} r => by cases x <;> exact r
  have kv : ∀ {κ : Type} {R : MP.D → κ → Prop} (qs : List (MP.D × MP.Vl)) (ks : List (κ × V)), Kvs R K H W qs ks → Kvs R K H ⟨W.F, W.mu, T, W.ns⟩ qs ks := by
    intro κ R qs
    induction qs with
    | nil => intro ks h; exact h
    | cons q r ih =>
      intro ks h
      obtain ⟨k, v, t, e, h1, h2, h3⟩ := h
      exact ⟨k, v, t, e, h1, re h2, ih t h3⟩
  have fl : ∀ (qs : List (String × MP.Vl)) (ks : List (Str × V)), Flds K H W qs ks → Flds K H ⟨W.F, W.mu, T, W.ns⟩ qs ks := by
    intro qs
    induction qs with
    | nil => intro ks h; exact h
    | cons q r ih =>
      intro ks h
      obtain ⟨v, t, e, h2, h3⟩ := h
      exact ⟨v, t, e, re h2, ih t h3⟩
  refine ⟨g.len, g.le0, fun i c a h1 h2 => ?_, g.live, g.inj, g.fobj, fun a q => g.tobj a (h a q), fun i c a h1 h2 h3 h4 => g.tmu i c a h1 h2 h3 (h a h4), g.cl, g.nle, g.cl0⟩
  have q := g.cell i c a h1 h2
  cases c with
  | dead => exact True.intro
  | lst ds => exact q
  | dic k kvs =>
    cases k
    · obtain ⟨ks, e, q⟩ := q
      exact ⟨ks, e, kv _ _ q⟩
    · obtain ⟨ks, e, q⟩ := q
      exact ⟨ks, e, kv _ _ q⟩
    · obtain ⟨b, zs, e, q, q2⟩ := q
      exact ⟨b, zs, e, kv _ _ q, q2⟩
  | ins c fs =>
    obtain ⟨dx, hs, e, q⟩ := q
    exact ⟨dx, hs, e, fl _ _ q⟩
/-- a cell is written -/
theorem Good.write (g : Good K n0 H W S) {i : Nat} {a : Addr} {c c' : MP.Cell} {o : HO} (h : S[i]? = some c) (hd : c ≠ .dead) (ha : W.mu[i]? = some a)
    (hc : Le H W (upd H a o) W → CellIs K (upd H a o) W c' (some o)) (hb : bel S.length c') (hb0 : ∀ n, n ≤ n0 → i < n → bel n c → bel n c') : Good K n0 (upd H a o) W (S.set i c') ∧ Le H W (upd H a o) W := by
  obtain ⟨u, e, nt, nf⟩ := (g.cell i c a h ha).mut hd
  have hi : i < S.length := (List.getElem?_eq_some_iff.mp h).1
  have nF := g.live i c a h hd ha
  have nT := g.tmu i c a h hd ha
  have l : Le H W (upd H a o) W := by
    refine ⟨⟨fun _ h => h, fun b o' f e' => ?_, fun b xs e' => ?_, fun b ob w e' => ?_⟩, fun _ _ h => h, fun _ h => h, fun b o' f e' => by rw [upd_ne (fun z => by rw [z] at f; exact nT f)]; exact e', fun _ h => h⟩
    · rw [upd_ne (fun z => by rw [z] at f; exact nF f)]; exact e'
    · refine (upd_ne fun z => ?_).trans e'
      subst z; rw [e] at e'; exact nt xs (Option.some.inj e')
    · refine (upd_ne fun z => ?_).trans e'
      subst z; rw [e] at e'; exact nf ob w (Option.some.inj e')
  have key : ∀ (j : Nat) (d : MP.Cell), (S.set i c')[j]? = some d → (j = i ∧ d = c') ∨ (j ≠ i ∧ S[j]? = some d) := fun j d hj => by
    by_cases q : j = i
    · subst q
      rw [List.getElem?_set_self hi] at hj
      cases hj
      exact .inl ⟨rfl, rfl⟩
    · rw [List.getElem?_set_ne (Ne.symm q)] at hj
      exact .inr ⟨q, hj⟩
  have liv : ∀ (j : Nat) (d : MP.Cell), (S.set i c')[j]? = some d → d ≠ .dead → ∃ d', S[j]? = some d' ∧ d' ≠ .dead := fun j d hj nd => by
    rcases key j d hj with ⟨rfl, rfl⟩ | ⟨_, q⟩
    · exact ⟨c, h, hd⟩
    · exact ⟨d, q, nd⟩
  refine ⟨⟨by simp [g.len], by simp [g.le0], fun j d b h1 h2 => ?_, fun j d b h1 nd h2 => ?_, fun j k b d d' h1 n1 h2 n2 m1 m2 => ?_, fun b f => ?_, fun b f => ⟨let ⟨⟨u, e'⟩, _⟩ := g.tobj b f; ⟨u, by rw [upd_ne (fun z => by rw [z] at f; exact nT f)]; exact e'⟩, (g.tobj b f).2⟩, fun j d b h1 nd h2 => ?_, fun j d h1 => ?_, g.nle, fun n j d hn hj h1 => ?_⟩, l⟩
  · rcases key j d h1 with ⟨rfl, rfl⟩ | ⟨q, h1⟩
    · rw [ha] at h2
      cases h2
      rw [upd_same]
      exact hc l
    · by_cases nd : d = .dead
      · subst nd
        exact True.intro
      · have nb : b ≠ a := fun z => by
          subst z
          exact q (g.inj j i b d c h1 nd h hd h2 ha)
        rw [upd_ne nb]
        exact (g.cell j d b h1 h2).mono l
  · obtain ⟨d', e1, e2⟩ := liv j d h1 nd
    exact g.live j d' b e1 e2 h2
  · obtain ⟨e, e1, e2⟩ := liv j d h1 n1
    obtain ⟨e', e3, e4⟩ := liv k d' h2 n2
    exact g.inj j k b e e' e1 e2 e3 e4 m1 m2
  · obtain ⟨vs, e'⟩ := g.fobj b f
    exact ⟨vs, by rw [upd_ne (fun z => by rw [z] at f; exact nF f)]; exact e'⟩
  · obtain ⟨d', e1, e2⟩ := liv j d h1 nd
    exact g.tmu j d' b e1 e2 h2
  · rw [List.length_set]
    rcases key j d h1 with ⟨rfl, rfl⟩ | ⟨_, h1⟩
    · exact hb
    · exact g.cl j d h1
  · have hle : n ≤ n0 := hn.elim (fun z => by omega) (g.nle n)
    rcases key j d h1 with ⟨rfl, rfl⟩ | ⟨_, h1⟩
    · exact hb0 n hle hj (g.cl0 n j c hn hj h)
    · exact g.cl0 n j d hn hj h1
/-- a cell is let go -/
theorem Good.kill (g : Good K n0 H W S) (i : Nat) : Good K n0 H W (S.set i .dead) := by
  have key : ∀ (j : Nat) (d : MP.Cell), (S.set i .dead)[j]? = some d → d = .dead ∨ S[j]? = some d := fun j d hj => by
    by_cases q : j = i
    · subst q
      by_cases hi : j < S.length
      · rw [List.getElem?_set_self hi] at hj
        cases hj
        exact .inl rfl
      · rw [List.getElem?_eq_none (by simp; omega)] at hj
        cases hj
    · rw [List.getElem?_set_ne (Ne.symm q)] at hj
      exact .inr hj
  refine ⟨by simp [g.len], by simp [g.le0], fun j d b h1 h2 => ?_, fun j d b h1 nd h2 => ?_, fun j k b d d' h1 n1 h2 n2 m1 m2 => ?_, g.fobj, g.tobj, fun j d b h1 nd h2 => g.tmu j d b ((key j d h1).resolve_left nd) nd h2, fun j d h1 => ?_, g.nle, fun n j d hn hj h1 => ?_⟩
  · rcases key j d h1 with rfl | h1
    · exact True.intro
    · exact g.cell j d b h1 h2
  · exact g.live j d b ((key j d h1).resolve_left nd) nd h2
  · exact g.inj j k b d d' ((key j d h1).resolve_left n1) n1 ((key k d' h2).resolve_left n2) n2 m1 m2
  · rw [List.length_set]
    rcases key j d h1 with rfl | h1
    · exact True.intro
    · exact g.cl j d h1
  · rcases key j d h1 with rfl | h1
    · exact True.intro
    · exact g.cl0 n j d hn hj h1
/-- a frame within -/
theorem Good.inner (g : Good K n0 H W S) : Good K S.length H ⟨W.F, W.mu, W.T, fun n => W.ns n ∨ n = n0⟩ S ∧ Le H W H ⟨W.F, W.mu, W.T, fun n => W.ns n ∨ n = n0⟩ := by
  have l : Le H W H ⟨W.F, W.mu, W.T, fun n => W.ns n ∨ n = n0⟩ := ⟨.refl, fun _ _ h => h, fun _ h => h, fun _ _ _ h => h, fun _ h => .inl h⟩
  refine ⟨⟨g.len, Nat.le_refl _, fun i c a h1 h2 => (g.cell i c a h1 h2).mono l, g.live, g.inj, g.fobj, g.tobj, g.tmu, g.cl, fun n hn => ?_, fun n i c hn hi h => ?_⟩, l⟩
  · rcases hn with hn | hn
    · exact Nat.le_trans (g.nle n hn) g.le0
    · rw [hn]; exact g.le0
  · rcases hn with hn | hn | hn
    · rw [hn]; exact g.cl i c h
    · exact g.cl0 n i c (.inr hn) hi h
    · exact g.cl0 n i c (.inl hn) hi h
/-- the cells from n on are let go -/
theorem Good.cut {n : Nat} {ns : Nat → Prop} (g : Good K n H W S) (hn : W.ns n0) (h0 : ∀ m, ns m → W.ns m ∧ m ≤ n0) : Good K n0 H ⟨W.F, W.mu.take n, W.T, ns⟩ (S.take n) := by
  have key : ∀ {α : Type} (l : List α) (j : Nat) (d : α), (l.take n)[j]? = some d → j < n ∧ l[j]? = some d := fun l j d hj => by
    rw [List.getElem?_take] at hj
    by_cases q : j < n
    · rw [if_pos q] at hj
      exact ⟨q, hj⟩
    · rw [if_neg q] at hj
      cases hj
  have hl : (S.take n).length = n := by rw [List.length_take]; have := g.le0; omega
  have re : ∀ x v, MP.belowV n (some x) = true → RepV K H W x v → RepV K H ⟨W.F, W.mu.take n, W.T, ns⟩ x v := fun x v hb h => by
    cases x with
    | p j =>
      obtain ⟨a, e, ev⟩ := h
      have hj : j < n := of_decide_eq_true hb
      exact ⟨a, by show (W.mu.take n)[j]? = some a; rw [List.getElem?_take, if_pos hj]; exact e, ev⟩
    | _ => exact h
  have rc : ∀ c o, bel n c → CellIs K H W c o → CellIs K H ⟨W.F, W.mu.take n, W.T, ns⟩ c o := fun c o hb h => by
    have kv : ∀ {κ : Type} {R : MP.D → κ → Prop} (qs : List (MP.D × MP.Vl)) (ks : List (κ × V)), (∀ q ∈ qs, MP.belowV n (some q.2) = true) → Kvs R K H W qs ks → Kvs R K H ⟨W.F, W.mu.take n, W.T, ns⟩ qs ks := by
      intro κ R qs
      induction qs with
      | nil => intro ks _ h; exact h
      | cons q r ih =>
        intro ks hb h
        obtain ⟨k, v, t, e, h1, h2, h3⟩ := h
        exact ⟨k, v, t, e, h1, re _ _ (hb q List.mem_cons_self) h2, ih t (fun z hz => hb z (List.mem_cons_of_mem _ hz)) h3⟩
    have fl : ∀ (qs : List (String × MP.Vl)) (ks : List (Str × V)), (∀ q ∈ qs, MP.belowV n (some q.2) = true) → Flds K H W qs ks → Flds K H ⟨W.F, W.mu.take n, W.T, ns⟩ qs ks := by
      intro qs
      induction qs with
      | nil => intro ks _ h; exact h
      | cons q r ih =>
        intro ks hb h
        obtain ⟨v, t, e, h2, h3⟩ := h
        exact ⟨v, t, e, re _ _ (hb q List.mem_cons_self) h2, ih t (fun z hz => hb z (List.mem_cons_of_mem _ hz)) h3⟩
    cases c with
    | dead => exact True.intro
    | lst ds => exact h
    | dic k kvs =>
      cases k
      · obtain ⟨ks, e, h⟩ := h
        exact ⟨ks, e, kv _ _ hb h⟩
      · obtain ⟨ks, e, h⟩ := h
        exact ⟨ks, e, kv _ _ hb h⟩
      · obtain ⟨b, zs, e, h, h2⟩ := h
        exact ⟨b, zs, e, kv _ _ hb h, h2⟩
    | ins c fs =>
      obtain ⟨dx, hs, e, h⟩ := h
      exact ⟨dx, hs, e, fl _ _ hb h⟩
  refine ⟨by show (W.mu.take n).length = _; rw [hl, List.length_take, g.len]; have := g.le0; omega, by rw [hl]; exact g.nle n0 hn, fun j d b h1 h2 => ?_, fun j d b h1 nd h2 => ?_, fun j k b d d' h1 n1 h2 n2 m1 m2 => ?_, g.fobj, g.tobj, fun j d b h1 nd h2 => g.tmu j d b (key S j d h1).2 nd (key W.mu j b h2).2, fun j d h1 => ?_, fun m hm => (h0 m hm).2, fun m j d hm hj h1 => ?_⟩
  · obtain ⟨hj, h1⟩ := key S j d h1
    obtain ⟨_, h2⟩ := key W.mu j b h2
    exact rc d _ (g.cl0 n j d (.inl rfl) hj h1) (g.cell j d b h1 h2)
  · obtain ⟨hj, h1⟩ := key S j d h1
    obtain ⟨_, h2⟩ := key W.mu j b h2
    exact g.live j d b h1 nd h2
  · exact g.inj j k b d d' (key S j d h1).2 n1 (key S k d' h2).2 n2 (key W.mu j b m1).2 (key W.mu k b m2).2
  · obtain ⟨hj, h1⟩ := key S j d h1
    rw [hl]
    exact g.cl0 n j d (.inl rfl) hj h1
  · refine g.cl0 m j d (.inr ?_) hj (key S j d h1).2
    rcases hm with hm | hm
    · rw [hm]; exact hn
    · exact (h0 m hm).1
end
end MS

set_option Elab.async false
set_option linter.all false
set_option maxRecDepth 100000
set_option autoImplicit false
/-! MSO: the order of data. -/
namespace MS
open PySem PySem.Spec PyProof.Rows L2
mutual
theorem pd_alike : ∀ a b : MP.D, PySem.W.alike (pd a) (pd b) = MP.D.alike a b
  | .non, b => by cases b <;> simp [pd, PySem.W.alike, MP.D.alike]
  | .bl _, b => by cases b <;> simp [pd, PySem.W.alike, MP.D.alike]
  | .int _, b => by cases b <;> simp [pd, PySem.W.alike, MP.D.alike]
  | .str _, b => by cases b <;> simp [pd, PySem.W.alike, MP.D.alike]
  | .tup xs, b => by cases b <;> simp [pd, PySem.W.alike, MP.D.alike, pds_alike xs]
  | .lst xs, b => by cases b <;> simp [pd, PySem.W.alike, MP.D.alike, pds_alike xs]
theorem pds_alike : ∀ a b : List MP.D, PySem.W.alikeAll (pds a) (pds b) = MP.D.alikes a b
  | [], b => by simp [pds, PySem.W.alikeAll, MP.D.alikes]
  | x :: xs, [] => by simp [pds, PySem.W.alikeAll, MP.D.alikes]
  | x :: xs, y :: ys => by simp [pds, PySem.W.alikeAll, MP.D.alikes, pd_alike x y, pds_alike xs ys]
end
theorem so_cps (s : String) : (so s).cps.toList = MP.cpsOf s := so_list s
mutual
theorem pd_lt : ∀ a b : MP.D, MP.D.alike a b = true → PySem.W.dataLt (pd a) (pd b) = MP.D.lt a b
  | .non, b, h => by
    cases b <;> first | (simp [MP.D.alike] at h; done) | skip
    simp only [pd, MP.D.lt]
    exact PyProof.Rows.lex_irrefl _
  | .bl x, b, h => by
    cases b <;> first | (simp [MP.D.alike] at h; done) | skip
    rename_i y
    simp only [pd, MP.D.lt, PySem.W.dataLt_bool]
    cases x <;> cases y <;> rfl
  | .int x, b, h => by
    cases b <;> first | (simp [MP.D.alike] at h; done) | skip
    simp only [pd, MP.D.lt, PySem.W.dataLt_int]
  | .str x, b, h => by
    cases b <;> first | (simp [MP.D.alike] at h; done) | skip
    simp only [pd, MP.D.lt, PySem.W.dataLt_str, so_cps]
  | .tup xs, b, h => by
    cases b <;> first | (simp [MP.D.alike] at h; done) | skip
    rename_i ys
    simp only [MP.D.alike] at h
    simp only [pd, MP.D.lt, PySem.W.dataLt_tuple]
    exact pds_lt xs ys h
  | .lst xs, b, h => by
    cases b <;> first | (simp [MP.D.alike] at h; done) | skip
    rename_i ys
    simp only [MP.D.alike] at h
    simp only [pd, MP.D.lt, PySem.W.dataLt_list]
    exact pds_lt xs ys h
theorem pds_lt : ∀ a b : List MP.D, MP.D.alikes a b = true → PyProof.Rows.lexLt itemOrd (PySem.W.keyToksAll (pds a)) (PySem.W.keyToksAll (pds b)) = MP.D.lts a b
  | [], [], _ => PyProof.Rows.lex_irrefl _
  | [], y :: ys, _ => by
    simp only [pds, MP.D.lts]
    rfl
  | x :: xs, [], _ => by
    simp only [pds, MP.D.lts]
    rfl
  | x :: xs, y :: ys, h => by
    simp only [MP.D.alikes, Bool.and_eq_true] at h
    simp only [pds, MP.D.lts]
    rw [PySem.W.dataLt_cons (by rw [pd_alike]; exact h.1), pd_eq, pds_lt xs ys h.2, pd_lt x y h.1]
end
end MS

set_option Elab.async false
set_option linter.all false
set_option maxRecDepth 100000
set_option autoImplicit false
/-! MS3: readings of expressions by the evaluator; the operators by values. -/
namespace MS
open PySem PySem.Spec PyProof.Rows L2
variable [TW]

/-! ### weakest preconditions over R -/
abbrev Post := MP.Exn → MP.Env → MP.St → Wd → Hp → Prop
/-- what a result is to bring: v stands for x (Rel), then Q -/
def wpK {α β : Type} (K : Fg) (n0 : Nat) (P : Post) (H : Hp) (W : Wd) (G : MP.Env) (r : MP.R α) (Rel : Hp → Wd → MP.St → α → β → Prop) (Q : β → Hp → Prop) : Prop := match r with
  | .ok x S => ∀ v H' W', Le H W H' W' → Good K n0 H' W' S → Rel H' W' S x v → Q v H'
  | .ex x S => ∀ H' W', Le H W H' W' → Good K n0 H' W' S → P x G S W' H'
  | .no => False
section
variable {α β γ δ : Type} {K : Fg} {n0 : Nat} {P : Post} {H H' : Hp} {W W' : Wd} {G : MP.Env}
theorem wpK.mono {r : MP.R α} {Rel : Hp → Wd → MP.St → α → β → Prop} {Q : β → Hp → Prop} (h : wpK K n0 P H W G r Rel Q) (l : Le H W H' W') : wpK K n0 P H' W' G r Rel Q := by
  cases r with
  | ok x S => exact fun v H1 W1 l1 => h v H1 W1 (l.trans l1)
  | ex x S => exact fun H1 W1 l1 => h H1 W1 (l.trans l1)
  | no => exact h
theorem wpK.bind {r : MP.R α} {f : α → MP.St → MP.R γ} {Rel1 : Hp → Wd → MP.St → α → β → Prop} {Rel2 : Hp → Wd → MP.St → γ → δ → Prop} {Q : δ → Hp → Prop} {Q1 : β → Hp → Prop} (h : wpK K n0 P H W G (r.bind f) Rel2 Q)
    (k : ∀ x S v H1 W1, Le H W H1 W1 → Good K n0 H1 W1 S → Rel1 H1 W1 S x v → wpK K n0 P H1 W1 G (f x S) Rel2 Q → Q1 v H1) : wpK K n0 P H W G r Rel1 Q1 := by
  cases r with
  | ok x S => exact fun v H1 W1 l1 g1 r1 => k x S v H1 W1 l1 g1 r1 (wpK.mono (r := f x S) h l1)
  | ex x S => exact h
  | no => exact h
end
/-- names' values -/
def EnvR (K : Fg) (H : Hp) (W : Wd) (G : MP.Env) (σ : L2.St) : Prop := G.length ≤ σ.length ∧ ∀ (i : Nat) (x : MP.Vl), G[i]? = some (some x) → ∃ v, σ[i]? = some (some v) ∧ RepV K H W x v
theorem EnvR.mono {K : Fg} {H H' : Hp} {W W' : Wd} {G : MP.Env} {σ : L2.St} (h : EnvR K H W G σ) (l : Le H W H' W') : EnvR K H' W' G σ :=
  ⟨h.1, fun i x e => let ⟨v, e1, r⟩ := h.2 i x e; ⟨v, e1, r.mono l⟩⟩
theorem EnvR.set {K : Fg} {H : Hp} {W : Wd} {G : MP.Env} {σ : L2.St} (h : EnvR K H W G σ) (i : Nat) {x : MP.Vl} {v : V} (r : RepV K H W x v) : EnvR K H W (G.set i (some x)) (σ.set i (some v)) := by
  refine ⟨by simpa using h.1, fun j y e => ?_⟩
  by_cases q : j = i
  · subst q
    obtain ⟨hj, _⟩ := List.getElem?_eq_some_iff.mp e
    rw [List.length_set] at hj
    rw [List.getElem?_set_self hj] at e
    cases e
    exact ⟨v, List.getElem?_set_self (Nat.lt_of_lt_of_le hj h.1), r⟩
  · rw [List.getElem?_set_ne (Ne.symm q)] at e
    obtain ⟨u, e1, r1⟩ := h.2 j y e
    exact ⟨u, by rw [List.getElem?_set_ne (Ne.symm q)]; exact e1, r1⟩

abbrev relE (K : Fg) : Hp → Wd → MP.St → MP.Vl → V → Prop := fun H W _ x v => RepV K H W x v
abbrev relA (K : Fg) : Hp → Wd → MP.St → List MP.Vl → List V → Prop := fun H W _ x v => RepVs K H W x v
abbrev relB : Hp → Wd → MP.St → Bool → Bool → Prop := fun _ _ _ x v => v = x
/-- a new list, no cell yet -/
def relL : Hp → Wd → MP.St → List MP.D → V → Prop := fun H W S ds v => ∃ p vs, v = .ref p ∧ H p = some (.lst vs) ∧ RepDs H W.F ds vs ∧ Alone W S p
section
variable (K : Fg) (C : MP.Cx) (P : Post)
def tR {α β : Type} (r : MP.Env → MP.St → MP.R α) (Rel : Hp → Wd → MP.St → α → β → Prop) : L2.St → Hp → (β → Hp → Prop) → Prop := fun σ H Q => ∃ G S W, EnvR K H W G σ ∧ Good K C.n0 H W S ∧ wpK K C.n0 P H W G (r G S) Rel Q
abbrev tE (e : MP.Ex) : TE := tR K C P (MP.evE C e) (relE K)
abbrev tEs (e : MP.Exs) : TA := tR K C P (MP.evEs C e) (relA K)
abbrev tT (e : MP.Tt) : TT := tR K C P (MP.evT C e) relB
abbrev tL (e : MP.Le) : TE := tR K C P (MP.evL C e) relL
end
theorem PE.imp {X : L2.Cx} {e : Expr} {t t' : TE} (h : PE X e t) (k : ∀ σ H Q, t' σ H Q → t σ H Q) : PE X e t' := ⟨fun pins s σ H Q I q => h.run pins s σ H Q I (k σ H Q q)⟩
theorem PT.imp {X : L2.Cx} {e : Expr} {t t' : TT} (h : PT X e t) (k : ∀ σ H Q, t' σ H Q → t σ H Q) : PT X e t' := ⟨fun pins s σ H Q I q => h.run pins s σ H Q I (k σ H Q q)⟩
theorem PA.imp {X : L2.Cx} {e : List Expr} {t t' : TA} (h : PA X e t) (k : ∀ σ H Q, t' σ H Q → t σ H Q) : PA X e t' := ⟨fun pos pins s σ H Q I q => h.run pos pins s σ H Q I (k σ H Q q)⟩
theorem PS.imp {X : L2.Cx} {e : Stmt} {t t' : TS} (h : PS X e t) (k : ∀ D σ H, t' D σ H → t D σ H) : PS X e t' := ⟨fun pins s σ H D I q => h.run pins s σ H D I (k D σ H q)⟩
theorem PSs.imp {X : L2.Cx} {e : List Stmt} {t t' : TS} (h : PSs X e t) (k : ∀ D σ H, t' D σ H → t D σ H) : PSs X e t' := ⟨fun pins s σ H D I q => h.run pins s σ H D I (k D σ H q)⟩
section
variable {α α' β β' γ δ : Type} {K : Fg} {C : MP.Cx} {P : Post} {σ : L2.St} {H H' : Hp} {W W' : Wd} {G : MP.Env}
/-- a part is read, then the rest -/
theorem tR.part {r1 : MP.Env → MP.St → MP.R α'} {Rel1 : Hp → Wd → MP.St → α' → β' → Prop} {S : MP.St} {f : α' → MP.St → MP.R γ} {Rel2 : Hp → Wd → MP.St → γ → δ → Prop} {Q : δ → Hp → Prop} {Q1 : β' → Hp → Prop}
    (hG : EnvR K H W G σ) (hS : Good K C.n0 H W S) (h : wpK K C.n0 P H W G ((r1 G S).bind f) Rel2 Q)
    (k : ∀ x S v H1 W1, Le H W H1 W1 → EnvR K H1 W1 G σ → Good K C.n0 H1 W1 S → Rel1 H1 W1 S x v → wpK K C.n0 P H1 W1 G (f x S) Rel2 Q → Q1 v H1) : tR K C P r1 Rel1 σ H Q1 :=
  ⟨G, S, W, hG, hS, h.bind fun x S v H1 W1 l g r q => k x S v H1 W1 l (hG.mono l) g r q⟩
end

/-! ### data at a value -/
section
variable {K : Fg} {n0 : Nat} {H : Hp} {W : Wd} {S : MP.St}
theorem Good.dat (g : Good K n0 H W S) {x : MP.Vl} {v : V} {d : MP.D} (r : RepV K H W x v) (h : MP.dat S x = some d) : Dp K H v (pd d) := by
  cases x with
  | d y =>
    cases h
    exact RepD.dp r
  | p i =>
    obtain ⟨a, e, rfl⟩ := r
    simp only [MP.dat] at h
    split at h
    · rename_i ds hc
      cases h
      obtain ⟨vs, e2, r2⟩ := g.cell i _ a hc e
      exact .lst (SqL.of e2) (RepDs.dp r2)
    · cases h
  | f _ => cases h
  | s _ => cases h
  | r _ => cases h
/-- a list or a tuple that may be read -/
theorem Good.seq (g : Good K n0 H W S) {x : MP.Vl} {v : V} {ds : List MP.D} (r : RepV K H W x v) (h : MP.seqOf S x = some ds) : ∃ p vs, v = .ref p ∧ (SqL K H p vs ∨ SqT K H p vs) ∧ RepDs H W.F ds vs := by
  unfold MP.seqOf at h
  cases x with
  | d y =>
    simp only [MP.dat] at h
    cases y with
    | lst es =>
      cases h
      obtain ⟨a, vs, rfl, h1, h2⟩ := r
      exact ⟨a, vs, rfl, .inl h1.sq, h2⟩
    | tup es =>
      cases h
      obtain ⟨a, vs, rfl, h1, h2⟩ := r
      exact ⟨a, vs, rfl, .inr (SqT.of h1), h2⟩
    | _ => cases h
  | p i =>
    obtain ⟨a, e, rfl⟩ := r
    simp only [MP.dat] at h
    split at h
    · rename_i z hc
      split at hc
      · rename_i es hc2
        cases hc
        cases h
        obtain ⟨vs, e2, r2⟩ := g.cell i _ a hc2 e
        exact ⟨a, vs, rfl, .inl (SqL.of e2), r2⟩
      · cases hc
    · rename_i z hc
      split at hc
      · cases hc
      · cases hc
    · cases h
  | f _ => cases h
  | s _ => cases h
  | r _ => cases h
/-- a list -/
theorem LstAt.rd {F : Addr → Prop} {H : Hp} {a : Addr} {vs : List V} (h : LstAt H F a vs) : Rd H a (.lst vs) := by
  exact .inl h.2
theorem Good.lst (g : Good K n0 H W S) {x : MP.Vl} {v : V} {ds : List MP.D} (r : RepV K H W x v) (h : MP.dat S x = some (.lst ds)) : ∃ p vs, v = .ref p ∧ Rd H p (.lst vs) ∧ RepDs H W.F ds vs := by
  cases x with
  | d y =>
    cases h
    obtain ⟨a, vs, rfl, h1, h2⟩ := r
    exact ⟨a, vs, rfl, h1.rd, h2⟩
  | p i =>
    obtain ⟨a, e, rfl⟩ := r
    simp only [MP.dat] at h
    split at h
    · rename_i es hc2
      cases h
      obtain ⟨vs, e2, r2⟩ := g.cell i _ a hc2 e
      exact ⟨a, vs, rfl, .inl e2, r2⟩
    · cases h
  | f _ => cases h
  | s _ => cases h
  | r _ => cases h
theorem Good.own (g : Good K n0 H W S) {x : MP.Vl} {v : V} {ds : List MP.D} (r : RepV K H W x v) (h : MP.dat S x = some (.lst ds)) : ∃ p vs, v = .ref p ∧ H p = some (.lst vs) ∧ RepDs H W.F ds vs := by
  cases x with
  | d y =>
    cases h
    obtain ⟨a, vs, rfl, h1, h2⟩ := r
    exact ⟨a, vs, rfl, h1.2, h2⟩
  | p i =>
    obtain ⟨a, e, rfl⟩ := r
    simp only [MP.dat] at h
    split at h
    · rename_i es hc2
      cases h
      obtain ⟨vs, e2, r2⟩ := g.cell i _ a hc2 e
      exact ⟨a, vs, rfl, e2, r2⟩
    · cases h
  | f _ => cases h
  | s _ => cases h
  | r _ => cases h
theorem Good.tup (g : Good K n0 H W S) {x : MP.Vl} {v : V} {ds : List MP.D} (r : RepV K H W x v) (h : MP.dat S x = some (.tup ds)) : ∃ p vs, v = .ref p ∧ H p = some (.tup vs) ∧ RepDs H W.F ds vs := by
  cases x with
  | d y =>
    cases h
    obtain ⟨a, vs, rfl, h1, h2⟩ := r
    exact ⟨a, vs, rfl, h1, h2⟩
  | p i =>
    simp only [MP.dat] at h
    split at h <;> cases h
  | f _ => cases h
  | s _ => cases h
  | r _ => cases h
theorem cap_le {n : Nat} (h : n ≤ MP.cap) : n ≤ sizeLine := Nat.le_trans h (by decide)
theorem cap_lt {n : Nat} (h : n < MP.cap) : n < sizeLine := Nat.lt_of_lt_of_le h (by decide)
theorem small_ok {i : Int} (h : MP.small i = true) : -(2 ^ 64) < i ∧ i < 2 ^ 64 := by
  have h1 := MP.small_iff.mp h
  omega
end

/-! ### operators by values -/
/-- the reading of an operator whose value the evaluator tells -/
def rV (K : Fg) (n0 : Nat) (f : MP.St → MP.Vl → MP.Vl → Option MP.Vl) : R2 := fun x y H Q => ∃ S W a b, Good K n0 H W S ∧ RepV K H W a x ∧ RepV K H W b y ∧ ∃ c, f S a b = some c ∧ ∀ v H' W', Le H W H' W' → Good K n0 H' W' S → RepV K H' W' c v → Q v H'
theorem rV.of {K : Fg} {n0 : Nat} {f : MP.St → MP.Vl → MP.Vl → Option MP.Vl} {P : Post} {H : Hp} {W : Wd} {G : MP.Env} {S : MP.St} {a b : MP.Vl} {x y : V} {Q : VK} (g : Good K n0 H W S) (ra : RepV K H W a x) (rb : RepV K H W b y)
    (h : wpK K n0 P H W G (MP.R.of (f S a b) S) (relE K) Q) : rV K n0 f x y H Q := by
  refine ⟨S, W, a, b, g, ra, rb, ?_⟩
  cases e : f S a b with
  | none => rw [e] at h; exact h.elim
  | some c => rw [e] at h; exact ⟨c, rfl, h⟩
theorem OpR.by {X : L2.Cx} {f : Value → Value → Sem Value} {r r' : R2} (h : OpR X f r) (k : ∀ x y H Q, r' x y H Q → r x y H Q) : OpR X f r' := fun pins s σ H x y v u Q I rx ry q => h pins s σ H x y v u Q I rx ry (k x y H Q q)
section
variable {X : L2.Cx} {n0 : Nat}
theorem binV_some {o : MP.BOp} {S : MP.St} {a b : MP.Vl} {c : MP.Vl} (h : MP.binV o S a b = some c) : ∃ x y z, MP.dat S a = some x ∧ MP.dat S b = some y ∧ MP.binD o x y = some z ∧ c = .d z := by
  unfold MP.binV at h
  split at h
  · rename_i x y h1 h2
    simp only [Option.map_eq_some_iff] at h
    obtain ⟨z, h3, rfl⟩ := h
    exact ⟨x, y, z, h1, h2, h3, rfl⟩
  · cases h
theorem dat_int {S : MP.St} {a : MP.Vl} {i : Int} (h : MP.dat S a = some (.int i)) : a = .d (.int i) := by
  cases a with
  | d y => cases h; rfl
  | p i =>
    simp only [MP.dat] at h
    split at h <;> cases h
  | f _ => cases h
  | s _ => cases h
  | r _ => cases h
theorem Inv_lstR {pins : List (Addr × Obj)} {σ : L2.St} {H : Hp} {s : Shared} {l : Addr} {xs : List V} (I : Inv X pins σ H s) (h : Rd H l (.lst xs)) :
    xs.length ≤ sizeLine ∧ ∃ (its : List Value) (n : Nat), Vals xs its ∧ xs.length = its.length ∧ s.heap.get? l = some { cls := .type "list", data := .seq its.toArray n } := by
  obtain ⟨z, its, n, r, e⟩ := h.ok I.hok
  exact ⟨z, its, n, r, r.length, e⟩
def rCatR : R2 := fun x y H Q => ∃ l b xs zs, x = .ref l ∧ y = .ref b ∧ Rd H l (.lst xs) ∧ Rd H b (.lst zs) ∧ xs.length + zs.length ≤ sizeLine ∧ ∀ p, H p = none → Q (.ref p) (upd H p (.lst (xs ++ zs)))
theorem op_catR : OpR X (binaryOp .Add) rCatR := by
  intro pins s σ H x y v u Q I rx ry h
  obtain ⟨l, b, xs, zs, rfl, rfl, hH, hB, hz, q⟩ := h
  cases rx
  cases ry
  obtain ⟨z, its, n, r, hl, e⟩ := Inv_lstR I hH
  obtain ⟨z2, its2, n2, r2, hl2, e2⟩ := Inv_lstR I hB
  refine PySem.P.add_list e e2 ?_ (by rw [List.size_toArray, List.size_toArray]; omega)
  have ea : its.toArray ++ its2.toArray = (its ++ its2).toArray := by simp
  rw [ea]
  exact ⟨.ref _, _, I.lnew (t' := s.toks) (r.append r2) (by rw [List.length_append]; omega), rfl, q _ I.fresh⟩
/-- a new list that never changes -/
theorem newF {K : Fg} {n0 : Nat} {H : Hp} {W : Wd} {S : MP.St} (g : Good K n0 H W S) {p : Addr} {vs : List V} {ds : List MP.D} (hp : H p = none) (r : RepDs H W.F ds vs) {Q : VK}
    (k : ∀ v H' W', Le H W H' W' → Good K n0 H' W' S → RepV K H' W' (.d (.lst ds)) v → Q v H') : Q (.ref p) (upd H p (.lst vs)) := by
  obtain ⟨g1, l1⟩ := g.new (o := .lst vs) hp
  obtain ⟨g2, l2⟩ := g1.toF (p := p) (vs := vs) upd_same (g.fresh hp)
  exact k _ _ _ (l1.trans l2) g2 ⟨p, vs, rfl, ⟨.inr rfl, upd_same⟩, RepDs.mono (l1.trans l2).kp r⟩
theorem newT {K : Fg} {n0 : Nat} {H : Hp} {W : Wd} {S : MP.St} (g : Good K n0 H W S) {p : Addr} {vs : List V} {ds : List MP.D} (hp : H p = none) (r : RepDs H W.F ds vs) {Q : VK}
    (k : ∀ v H' W', Le H W H' W' → Good K n0 H' W' S → RepV K H' W' (.d (.tup ds)) v → Q v H') : Q (.ref p) (upd H p (.tup vs)) := by
  obtain ⟨g1, l1⟩ := g.new (o := .tup vs) hp
  exact k _ _ _ l1 g1 ⟨p, vs, rfl, upd_same, RepDs.mono l1.kp r⟩
theorem op_addV : OpR X (binaryOp .Add) (rV X.K n0 (MP.binV .add)) := by
  refine OpR.by (op_add.or (op_catA.or op_catR)) fun x y H Q h => ?_
  obtain ⟨S, W, a, b, g, ra, rb, c, e, k⟩ := h
  obtain ⟨d1, d2, d3, e1, e2, e3, rfl⟩ := binV_some e
  cases d1 with
  | int i =>
    cases d2 with
    | int j =>
      cases e3
      cases dat_int e1
      cases dat_int e2
      cases ra
      cases rb
      exact .inl ⟨i, j, rfl, rfl, k _ H W .refl g rfl⟩
    | _ => cases e3
  | tup xs =>
    cases d2 with
    | tup ys =>
      obtain ⟨p, vs, rfl, hp, r1⟩ := g.tup ra e1
      obtain ⟨q, us, rfl, hq, r2⟩ := g.tup rb e2
      simp only [MP.binD] at e3
      split at e3
      · rename_i hz
        cases e3
        have hl : vs.length + us.length ≤ sizeLine := by rw [r1.length, r2.length]; exact cap_le hz
        refine .inr (.inl ⟨p, q, vs, us, rfl, rfl, SqT.of hp, SqT.of hq, hl, fun z => ?_, fun _ z => ?_, fun _ _ t ht => newT g ht (r1.append r2) k⟩)
        · subst z
          have z2 : xs = [] := List.length_eq_zero_iff.mp (r1.length.symm)
          subst z2
          exact k _ H W .refl g ⟨q, us, rfl, hq, r2⟩
        · subst z
          have z2 : ys = [] := List.length_eq_zero_iff.mp (r2.length.symm)
          subst z2
          refine k _ H W .refl g ⟨p, vs, rfl, hp, ?_⟩
          rw [List.append_nil]
          exact r1
      · cases e3
    | _ => cases e3
  | lst xs =>
    cases d2 with
    | lst ys =>
      obtain ⟨p, vs, rfl, hp, r1⟩ := g.lst ra e1
      obtain ⟨q, us, rfl, hq, r2⟩ := g.lst rb e2
      simp only [MP.binD] at e3
      split at e3
      · rename_i hz
        cases e3
        have hl : vs.length + us.length ≤ sizeLine := by rw [r1.length, r2.length]; exact cap_le hz
        exact .inr (.inr ⟨p, q, vs, us, rfl, rfl, hp, hq, hl, fun t ht => newF g ht (r1.append r2) k⟩)
      · cases e3
    | _ => cases e3
  | _ => cases e3
/-- an operator of two ints -/
theorem op_int {o : MP.BOp} {f : Value → Value → Sem Value} {Cd : Int → Int → Prop} {fn : Int → Int → Int} (h : OpR X f (rI Cd fun i j => .int (fn i j)))
    (hc : ∀ d1 d2 d3, MP.binD o d1 d2 = some d3 → ∃ i j, d1 = .int i ∧ d2 = .int j ∧ d3 = .int (fn i j) ∧ Cd i j) : OpR X f (rV X.K n0 (MP.binV o)) := by
  refine OpR.by h fun x y H Q h => ?_
  obtain ⟨S, W, a, b, g, ra, rb, c, e, k⟩ := h
  obtain ⟨d1, d2, d3, e1, e2, e3, rfl⟩ := binV_some e
  obtain ⟨i, j, rfl, rfl, rfl, hcd⟩ := hc _ _ _ e3
  cases dat_int e1
  cases dat_int e2
  cases ra
  cases rb
  exact ⟨i, j, rfl, rfl, hcd, k _ H W .refl g rfl⟩
theorem op_subV : OpR X (binaryOp .Sub) (rV X.K n0 (MP.binV .sub)) := by
  refine op_int (Cd := fun _ _ => True) (fn := fun i j => i - j) (OpR.by op_sub fun x y H Q ⟨i, j, h1, h2, _, h3⟩ => ⟨i, j, h1, h2, h3⟩) fun d1 d2 d3 h => ?_
  cases d1 <;> cases d2 <;> simp only [MP.binD] at h <;> first | cases h | skip
  exact ⟨_, _, rfl, rfl, rfl, True.intro⟩
theorem op_mulV : OpR X (binaryOp .Mult) (rV X.K n0 (MP.binV .mul)) := by
  refine OpR.by ((op_mul.or op_rep).or (op_repT.or op_rep1)) fun x y H Q h => ?_
  obtain ⟨S, W, a, b, g, ra, rb, c, e, k⟩ := h
  obtain ⟨d1, d2, d3, e1, e2, e3, rfl⟩ := binV_some e
  cases d1 with
  | int i =>
    cases d2 with
    | int j =>
      simp only [MP.binD] at e3
      split at e3
      · rename_i hs
        cases e3
        cases dat_int e1
        cases dat_int e2
        cases ra
        cases rb
        refine .inl (.inl ⟨i, j, rfl, rfl, ?_, k _ H W .refl g rfl⟩)
        rw [Bool.or_eq_true] at hs
        rcases hs with hs | hs
        · exact .inl (small_ok hs)
        · exact .inr (small_ok hs)
      · cases e3
    | _ => cases e3
  | lst xs =>
    cases d2 with
    | int j =>
      obtain ⟨p, vs, rfl, hp, r1⟩ := g.own ra e1
      simp only [MP.binD] at e3
      split at e3
      · rename_i hz
        cases e3
        cases dat_int e2
        cases rb
        exact .inl (.inr ⟨p, j, vs, rfl, rfl, hp, by omega, by omega, by rw [r1.length]; exact cap_le hz.2.2, fun t ht => newF g ht (r1.rep _) k⟩)
      · cases e3
    | _ => cases e3
  | tup xs =>
    cases d2 with
    | int j =>
      obtain ⟨p, vs, rfl, hp, r1⟩ := g.tup ra e1
      simp only [MP.binD] at e3
      split at e3
      · rename_i hz
        obtain ⟨z1, z2, z3, z4⟩ := hz
        cases e3
        cases dat_int e2
        cases rb
        by_cases hj : j = 1
        · subst hj
          have e4 : (List.replicate (1 : Int).toNat xs).flatten = xs := by simp
          rw [e4] at k
          exact .inr (.inr ⟨p, vs, rfl, rfl, SqT.of hp, k _ H W .refl g ⟨p, vs, rfl, hp, r1⟩⟩)
        · refine .inr (.inl ⟨p, j, vs, rfl, rfl, SqT.of hp, ?_, by omega, z2, by rw [r1.length]; exact z3, fun t ht => newT g ht (r1.rep _) k⟩)
          intro z
          have := r1.length
          rw [z] at this
          cases xs with
          | nil => cases z4
          | cons => simp at this
      · cases e3
    | _ => cases e3
  | _ => cases e3
theorem op_fdivV : OpR X (binaryOp .FloorDiv) (rV X.K n0 (MP.binV .fdiv)) := by
  refine op_int (fn := fun i j => i / j) op_fdivW fun d1 d2 d3 h => ?_
  cases d1 <;> cases d2 <;> simp only [MP.binD] at h <;> first | cases h | skip
  rename_i i j
  split at h
  · rename_i hs
    cases h
    refine ⟨_, _, rfl, rfl, rfl, wide_div (b := 100) hs.1 ?_ (by decide) (by decide)⟩
    have h2 := hs.2
    rw [Nat.blt_eq, Nat.log2_lt (by omega)] at h2
    exact Nat.lt_of_lt_of_le h2 (by decide)
  · cases h
theorem op_modV : OpR X (binaryOp .Mod) (rV X.K n0 (MP.binV .mod)) := by
  refine op_int (fn := fun i j => i % j) op_mod fun d1 d2 d3 h => ?_
  cases d1 <;> cases d2 <;> simp only [MP.binD] at h <;> first | cases h | skip
  split at h
  · rename_i hs
    cases h
    exact ⟨_, _, rfl, rfl, rfl, hs⟩
  · cases h
theorem small_nat {i : Int} (h : MP.small i = true) : i.natAbs < 2 ^ 64 := by
  have h1 := small_ok h
  have e : (2 : Nat) ^ 64 = 18446744073709551616 := by decide
  rw [e]
  omega
theorem op_powV : OpR X (binaryOp .Pow) (rV X.K n0 (MP.binV .pow)) := by
  refine op_int (fn := fun i j => i ^ j.toNat) op_pow fun d1 d2 d3 h => ?_
  cases d1 <;> cases d2 <;> simp only [MP.binD] at h <;> first | cases h | skip
  split at h
  · rename_i hs
    cases h
    exact ⟨_, _, rfl, rfl, rfl, hs.1, hs.2.1, small_nat hs.2.2⟩
  · cases h
theorem op_shlV : OpR X (binaryOp .LShift) (rV X.K n0 (MP.binV .shl)) := by
  refine op_int (fn := fun i j => i * 2 ^ j.toNat) op_shl fun d1 d2 d3 h => ?_
  cases d1 <;> cases d2 <;> simp only [MP.binD] at h <;> first | cases h | skip
  split at h
  · rename_i hs
    cases h
    exact ⟨_, _, rfl, rfl, rfl, hs.1, hs.2.1, small_nat hs.2.2⟩
  · cases h
def bop : MP.BOp → Operator
  | .add => .Add
  | .sub => .Sub
  | .mul => .Mult
  | .fdiv => .FloorDiv
  | .mod => .Mod
  | .pow => .Pow
  | .shl => .LShift
theorem op_bin (o : MP.BOp) : OpR X (binaryOp (bop o)) (rV X.K n0 (MP.binV o)) := by
  cases o
  · exact op_addV
  · exact op_subV
  · exact op_mulV
  · exact op_fdivV
  · exact op_modV
  · exact op_powV
  · exact op_shlV

/-! ### comparisons -/
/-- a comparison's reading -/
def rB (K : Fg) (n0 : Nat) (o : MP.COp) : R2 := fun x y H Q => ∃ S W a b, Good K n0 H W S ∧ RepV K H W a x ∧ RepV K H W b y ∧ ∃ c, MP.cmpV o S a b = some c ∧ Q (.bl c) H
theorem eqD_some {a b : MP.D} {c : Bool} (h : MP.eqD a b = some c) : a.dep ≤ 60 ∧ b.dep ≤ 60 ∧ c = MP.D.eq a b := by
  unfold MP.eqD at h
  split at h
  · rename_i hd
    cases h
    exact ⟨hd.1, hd.2, rfl⟩
  · cases h
mutual
theorem idn_eq : ∀ {a b : MP.D}, a.idn b = true → a = b
  | .non, b, h => by cases b <;> first | rfl | (simp [MP.D.idn] at h; done)
  | .bl x, b, h => by cases b <;> first | (simp [MP.D.idn] at h; done) | (simp [MP.D.idn] at h; rw [h])
  | .int x, b, h => by cases b <;> first | (simp [MP.D.idn] at h; done) | (simp [MP.D.idn] at h; rw [h])
  | .str x, b, h => by cases b <;> first | (simp [MP.D.idn] at h; done) | (simp [MP.D.idn] at h; rw [h])
  | .tup x, b, h => by
    cases b <;> first | (simp [MP.D.idn] at h; done) | skip
    simp only [MP.D.idn] at h
    rw [idns_eq h]
  | .lst x, b, h => by
    cases b <;> first | (simp [MP.D.idn] at h; done) | skip
    simp only [MP.D.idn] at h
    rw [idns_eq h]
theorem idns_eq : ∀ {a b : List MP.D}, MP.D.idns a b = true → a = b
  | [], [], _ => rfl
  | [], _ :: _, h => by simp [MP.D.idns] at h
  | _ :: _, [], h => by simp [MP.D.idns] at h
  | x :: xs, y :: ys, h => by
    simp only [MP.D.idns, Bool.and_eq_true] at h
    rw [idn_eq h.1, idns_eq h.2]
end
theorem op_eqV (hu : X.A.units + 64 < cLine) : OpR X (compareOp .Eq) (rB X.K n0 .eq) := by
  refine OpR.by (op_eq.or (op_eqD hu)) fun x y H Q h => ?_
  obtain ⟨S, W, a, b, g, ra, rb, c, e, k⟩ := h
  simp only [MP.cmpV] at e
  split at e
  · split at e
    · rename_i hi
      cases e
      cases idn_eq hi
      cases ra
      cases rb
      exact .inl ⟨rfl, by rw [decide_eq_true rfl]; exact k⟩
    · cases e
  · split at e
    · rename_i d1 d2 e1 e2
      obtain ⟨h1, h2, rfl⟩ := eqD_some e
      refine .inr ⟨pd d1, pd d2, g.dat ra e1, g.dat rb e2, pd_shaped h1, pd_shaped h2, ?_⟩
      rw [pd_eq]
      exact k
    · cases e
theorem op_neV (hu : X.A.units + 64 < cLine) : OpR X (compareOp .NotEq) (rB X.K n0 .ne) := by
  refine OpR.by (op_ne.or (op_neD hu)) fun x y H Q h => ?_
  obtain ⟨S, W, a, b, g, ra, rb, c, e, k⟩ := h
  simp only [MP.cmpV] at e
  split at e
  · split at e
    · rename_i hi
      cases e
      cases idn_eq hi
      cases ra
      cases rb
      exact .inl ⟨rfl, by rw [decide_eq_true rfl]; exact k⟩
    · cases e
  · split at e
    · rename_i d1 d2 e1 e2
      simp only [Option.map_eq_some_iff] at e
      obtain ⟨c', e, rfl⟩ := e
      obtain ⟨h1, h2, rfl⟩ := eqD_some e
      refine .inr ⟨pd d1, pd d2, g.dat ra e1, g.dat rb e2, pd_shaped h1, pd_shaped h2, ?_⟩
      rw [pd_eq]
      exact k
    · cases e
theorem op_cmpI {o : MP.COp} {f : Value → Value → Sem Value} {fn : Int → Int → Bool} (h : OpR X f (rI0 fun i j => .bl (fn i j)))
    (hc : ∀ S a b c, MP.cmpV o S a b = some c → ∃ i j, a = .d (.int i) ∧ b = .d (.int j) ∧ c = fn i j) : OpR X f (rB X.K n0 o) := by
  refine OpR.by h fun x y H Q h => ?_
  obtain ⟨S, W, a, b, g, ra, rb, c, e, k⟩ := h
  obtain ⟨i, j, rfl, rfl, rfl⟩ := hc _ _ _ _ e
  cases ra
  cases rb
  exact ⟨i, j, rfl, rfl, k⟩
theorem ltD_some {a b : MP.D} {c : Bool} (h : MP.ltD a b = some c) : a ≠ .non ∧ a.alike b = true ∧ a.dep ≤ 60 ∧ b.dep ≤ 60 ∧ c = MP.D.lt a b := by
  have key : ∀ {o : Option Bool}, (o = if a.alike b = true ∧ a.dep ≤ 60 ∧ b.dep ≤ 60 then some (MP.D.lt a b) else none) → o = some c → a.alike b = true ∧ a.dep ≤ 60 ∧ b.dep ≤ 60 ∧ c = MP.D.lt a b := fun {o} e1 e2 => by
    subst e1
    split at e2
    · rename_i hh
      cases e2
      exact ⟨hh.1, hh.2.1, hh.2.2, rfl⟩
    · cases e2
  cases a with
  | non => cases h
  | _ => exact ⟨by simp, key rfl h⟩
theorem op_ltV (hu : X.A.units + 64 < cLine) : OpR X (compareOp .Lt) (rB X.K n0 .lt) := by
  intro pins s σ H x y v u Q I rx ry h
  obtain ⟨S, W, a, b, g, ra, rb, c, e, k⟩ := h
  simp only [MP.cmpV] at e
  split at e
  · rename_i d1 d2
    obtain ⟨h0, h1, h2, h3, rfl⟩ := ltD_some e
    obtain ⟨as, r1⟩ := Dp.reads I _ x v (g.dat ra rfl) rx
    obtain ⟨bs, r2⟩ := Dp.reads I _ y u (g.dat rb rfl) ry
    refine PySem.W.lt_data r1 r2 (by rw [pd_alike]; exact h1) (fun z => h0 (by cases d1 <;> first | rfl | cases z)) (by rw [pd_dep, pd_dep]; omega) ?_
    rw [pd_lt _ _ h1]
    exact ⟨.bl _, H, I, rfl, k⟩
  · cases e
theorem op_leV : OpR X (compareOp .LtE) (rB X.K n0 .le) := op_cmpI op_le fun S a b c h => by
  simp only [MP.cmpV] at h
  split at h
  · cases h; exact ⟨_, _, rfl, rfl, rfl⟩
  · cases h
theorem op_gtV : OpR X (compareOp .Gt) (rB X.K n0 .gt) := op_cmpI op_gt fun S a b c h => by
  simp only [MP.cmpV] at h
  split at h
  · cases h; exact ⟨_, _, rfl, rfl, rfl⟩
  · cases h
theorem op_geV : OpR X (compareOp .GtE) (rB X.K n0 .ge) := op_cmpI op_ge fun S a b c h => by
  simp only [MP.cmpV] at h
  split at h
  · cases h; exact ⟨_, _, rfl, rfl, rfl⟩
  · cases h
def isNon : MP.Vl → Bool
  | .d .non => true
  | _ => false
theorem repV_non {K : Fg} {H : Hp} {W : Wd} {a : MP.Vl} {x : V} (r : RepV K H W a x) : decide (x = .non) = isNon a := by
  cases a with
  | d y =>
    cases y with
    | non => cases r; rfl
    | bl _ => cases r; rfl
    | int _ => cases r; rfl
    | str _ => cases r; rfl
    | tup ds => obtain ⟨_, _, rfl, _⟩ := r; rfl
    | lst ds => obtain ⟨_, _, rfl, _⟩ := r; rfl
  | p i => obtain ⟨_, _, rfl⟩ := r; rfl
  | f g => cases r; rfl
  | s g => obtain ⟨_, _, rfl, _⟩ := r; rfl
  | r g => obtain ⟨_, _, rfl, _⟩ := r; rfl
/-- what `is` tells -/
def isQ : MP.Vl → MP.Vl → Option Bool
  | a, .d .non => some (isNon a)
  | .d (.bl p), .d (.bl q) => some (p == q)
  | .d .non, .d (.bl _) => some false
  | _, _ => none
theorem isV_is {S : MP.St} {a b : MP.Vl} {c : Bool} (h : MP.cmpV .is_ S a b = some c) : isQ a b = some c := by
  simp only [MP.cmpV] at h
  split at h
  · cases a with
    | d y => cases y <;> exact h
    | p i => exact h
    | f g => exact h
    | s g => exact h
    | r g => exact h
  · cases a with
    | d y => cases y <;> first | exact h | cases h
    | p i => cases h
    | f g => cases h
    | s g => cases h
    | r g => cases h
  · cases h
theorem isnotV_is {S : MP.St} {a b : MP.Vl} {c : Bool} (h : MP.cmpV .isnot S a b = some c) : b = .d .non ∧ c = !isNon a := by
  simp only [MP.cmpV] at h
  split at h
  · refine ⟨rfl, ?_⟩
    cases a with
    | d y => cases y <;> cases h <;> rfl
    | p i => cases h; rfl
    | f g => cases h; rfl
    | s g => cases h; rfl
    | r g => cases h; rfl
  · cases h
/-- x is True, x is False, x None or a truth value -/
def rIsB2 : R2 := fun x y H Q => ∃ q, y = .bl q ∧ ((∃ p, x = .bl p ∧ Q (.bl (p == q)) H) ∨ (x = .non ∧ Q (.bl false) H))
theorem op_isB2 : OpR X (compareOp .Is) rIsB2 := by
  intro pins s σ H x y v u Q I rx ry h
  obtain ⟨q, rfl, h⟩ := h
  cases (show u = Value.bool q from ry)
  rcases h with ⟨p, rfl, h⟩ | ⟨rfl, h⟩
  · cases (show v = Value.bool p from rx)
    by_cases e : p = q
    · subst e
      exact wpAny_is_self rfl ⟨.bl true, H, I, rfl, by simpa using h⟩
    · exact wpAny_is_other rfl (fun z => e (Value.bool.inj z)) ⟨.bl false, H, I, rfl, by rw [beq_false_of_ne e] at h; exact h⟩
  · cases (show v = Value.none from rx)
    exact wpAny_is_other rfl (fun z => by cases z) ⟨.bl false, H, I, rfl, h⟩
theorem op_isV : OpR X (compareOp .Is) (rB X.K n0 .is_) := by
  refine OpR.by (op_isN.or op_isB2) fun x y H Q h => ?_
  obtain ⟨S, W, a, b, g, ra, rb, c, e, k⟩ := h
  have e := isV_is e
  unfold isQ at e
  split at e
  · cases e
    cases rb
    refine .inl ⟨rfl, ?_⟩
    rw [repV_non ra]
    exact k
  · cases e
    cases rb
    cases ra
    exact .inr ⟨_, rfl, .inl ⟨_, rfl, k⟩⟩
  · cases e
    cases rb
    cases ra
    exact .inr ⟨_, rfl, .inr ⟨rfl, k⟩⟩
  · cases e
theorem op_isnotV : OpR X (compareOp .IsNot) (rB X.K n0 .isnot) := by
  refine OpR.by op_notN fun x y H Q h => ?_
  obtain ⟨S, W, a, b, g, ra, rb, c, e, k⟩ := h
  obtain ⟨rfl, rfl⟩ := isnotV_is e
  cases rb
  refine ⟨rfl, ?_⟩
  rw [repV_non ra]
  exact k
/-! ### in -/
def rDIn (neg : Bool) : R2 := fun x y H Q => ∃ a o, y = .ref a ∧ DGet H a x o ∧ Q (.bl (if neg then !o.isSome else o.isSome)) H
theorem op_dIn (hu : X.A.units + 1 < cLine) : OpR X (compareOp .In) (rDIn false) := by
  intro pins s σ H x y v u Q I rx ry h
  obtain ⟨a, o, rfl, g, q⟩ := h
  obtain rfl : u = Value.ref a := ry
  exact d_in hu I g rx fun s3 I3 => ⟨.bl o.isSome, H, I3, rfl, q⟩
theorem op_dNotIn (hu : X.A.units + 1 < cLine) : OpR X (compareOp .NotIn) (rDIn true) := by
  intro pins s σ H x y v u Q I rx ry h
  obtain ⟨a, o, rfl, g, q⟩ := h
  obtain rfl : u = Value.ref a := ry
  exact d_notIn hu I g rx fun s3 I3 => ⟨.bl (!o.isSome), H, I3, rfl, q⟩
theorem flat_of {F : Addr → Prop} {H : Hp} {d : MP.D} {v : V} (h : d.flat = true) (r : RepD H F d v) : flatV v = true := by
  cases d <;> first | (cases r; rfl) | cases h
theorem flats_of {F : Addr → Prop} {H : Hp} : ∀ {ds : List MP.D} {vs : List V}, ds.all MP.D.flat = true → RepDs H F ds vs → vs.all flatV = true
  | [], _, _, r => by cases r; rfl
  | d :: ds, _, h, r => by
    obtain ⟨v, t, rfl, r1, r2⟩ := r
    rw [List.all_cons, Bool.and_eq_true] at h
    rw [List.all_cons, flat_of h.1 r1, flats_of h.2 r2]
    rfl
theorem flat_eq {F : Addr → Prop} {H : Hp} {a b : MP.D} {v u : V} (ha : a.flat = true) (hb : b.flat = true) (r : RepD H F a v) (q : RepD H F b u) : eqV v u = MP.D.eq a b := by
  cases a <;> cases b <;> first | exact absurd ha Bool.false_ne_true | exact absurd hb Bool.false_ne_true | (cases r; cases q; first | rfl | exact so_beq _ _)
theorem flat_any {F : Addr → Prop} {H : Hp} {a : MP.D} {v : V} (ha : a.flat = true) (r : RepD H F a v) : ∀ {ds : List MP.D} {vs : List V}, ds.all MP.D.flat = true → RepDs H F ds vs → inV v vs = ds.any fun y => MP.D.eq y a
  | [], _, _, q => by cases q; rfl
  | d :: ds, _, h, q => by
    obtain ⟨u, t, rfl, r1, r2⟩ := q
    rw [List.all_cons, Bool.and_eq_true] at h
    have ih := flat_any ha r h.2 r2
    unfold inV at ih ⊢
    rw [List.any_cons, List.any_cons, ih, flat_eq h.1 ha r1 r]
def rInDn (K : Fg) (neg : Bool) : R2 := fun x y H Q => ∃ d ds, Dp K H x d ∧ Dp K H y (.list ds) ∧ SeqAt.shaped d = true ∧ SeqAt.shaped (.list ds) = true ∧ Q (.bl (if neg then !ds.any fun z => PyData.eqv z d else ds.any fun z => PyData.eqv z d)) H
mutual
theorem flat_dep : ∀ {d : MP.D}, d.flat = true → d.dep = 0
  | .non, _ => by simp [MP.D.dep]
  | .bl _, _ => by simp [MP.D.dep]
  | .int _, _ => by simp [MP.D.dep]
  | .str _, _ => by simp [MP.D.dep]
  | .tup _, h => by cases h
  | .lst _, h => by cases h
end
theorem flats_dep : ∀ {ds : List MP.D}, ds.all MP.D.flat = true → MP.D.deps ds = 0
  | [], _ => by simp [MP.D.deps]
  | d :: ds, h => by
    rw [List.all_cons, Bool.and_eq_true] at h
    simp [MP.D.deps, flat_dep h.1, flats_dep h.2]
theorem inD_some {a : MP.D} {ds : List MP.D} {c : Bool} (h : MP.inD a ds = some c) : a.dep ≤ 60 ∧ MP.D.deps ds ≤ 60 ∧ c = ds.any fun y => MP.D.eq y a := by
  unfold MP.inD at h
  split at h
  · rename_i hd
    cases h
    rw [Bool.or_eq_true] at hd
    rcases hd with hd | hd
    · rw [Bool.and_eq_true] at hd
      rw [flat_dep hd.1, flats_dep hd.2]
      exact ⟨by omega, by omega, rfl⟩
    · have := of_decide_eq_true hd
      exact ⟨this.1, this.2, rfl⟩
  · cases h
theorem pds_any (a : MP.D) : ∀ ds : List MP.D, ((pds ds).any fun z => PyData.eqv z (pd a)) = ds.any fun y => MP.D.eq y a
  | [] => rfl
  | d :: ds => by simp only [pds, List.any_cons, pd_eq, pds_any a ds]
theorem pds_shaped {ds : List MP.D} (h : MP.D.deps ds ≤ 60) : SeqAt.shaped (.list (pds ds)) = true := by
  have e : (PyData.list (pds ds)) = pd (.lst ds) := by simp only [pd]
  unfold SeqAt.shaped
  have e2 : (MP.D.lst ds).dep = MP.D.deps ds + 1 := by simp [MP.D.dep]
  rw [e, pd_lay, pd_dep, e2, Bool.true_and]
  exact decide_eq_true (by omega)
theorem inD_read {K : Fg} {n0 : Nat} {H : Hp} {W : Wd} {S : MP.St} {a : MP.D} {b : MP.Vl} {ds : List MP.D} {x y : V} {c : Bool} (g : Good K n0 H W S) (ra : RepV K H W (.d a) x) (rb : RepV K H W b y) (hb : MP.dat S b = some (.lst ds))
    (h : MP.inD a ds = some c) (neg : Bool) {Q : VK} (k : Q (.bl (if neg then !c else c)) H) : rInDn K neg x y H Q := by
  obtain ⟨h1, h2, rfl⟩ := inD_some h
  refine ⟨pd a, pds ds, g.dat ra rfl, ?_, pd_shaped h1, pds_shaped h2, ?_⟩
  · have z := g.dat rb hb
    simp only [pd] at z
    exact z
  · rw [pds_any]
    exact k
theorem keyN_apart : Apart keyN := by
  intro a b k l h1 h2
  obtain ⟨a1, rfl⟩ := h1
  obtain ⟨b1, rfl⟩ := h2
  rw [NestedKey.decide_eq]
  exact nk_eq a b (ok_n a1).1 (ok_n b1).1
theorem kt_of {K : Fg} {H : Hp} {W : Wd} : ∀ {kvs : List (MP.D × MP.Vl)} {zs : ZN}, Kvs keyN K H W kvs (zs.map (·.1)) → RepDs H W.F (kvs.map (·.1)) (zs.map fun z => V.ref z.2) → KtN H zs
  | [], [], _, _ => fun z hz => by cases hz
  | [], _ :: _, h, _ => by cases h
  | _ :: _, [], h, _ => by
    obtain ⟨_, _, _, e, _⟩ := h
    cases e
  | q :: r, z :: zs, h, g => by
    obtain ⟨k, v, t, e, h1, h2, h3⟩ := h
    obtain ⟨u, t2, e2, g1, g2⟩ := g
    obtain ⟨⟨k0, v0⟩, c0⟩ := z
    rw [List.map_cons] at e e2
    cases e
    cases e2
    intro y hy
    rcases List.mem_cons.mp hy with rfl | hy
    · exact ⟨q.1, W.F, h1, g1⟩
    · exact kt_of h3 g2 y hy
def rNIn (w : World) (neg : Bool) : R2 := fun x y H Q => ∃ (a c : Addr) (zs : ZN) (d : MP.D) (F : Addr → Prop), y = .ref a ∧ x = .ref c ∧ (∃ b, H a = some (hoN w b zs)) ∧ KtN H zs ∧ MP.DK.ok .n d = true ∧ RepD H F d (.ref c) ∧ Q (.bl (if neg then !(valV (zs.map (·.1)) (nkOf d)).isSome else (valV (zs.map (·.1)) (nkOf d)).isSome)) H
theorem op_nIn (hu : X.A.units + 9 < cLine) : OpR X (compareOp .In) (rNIn X.w false) := by
  intro pins s σ H x y v u Q I rx ry h
  obtain ⟨a, c, zs, d, F, rfl, rfl, e, kt, hk, r, q⟩ := h
  obtain rfl : u = Value.ref a := ry
  obtain rfl : v = Value.ref c := rx
  exact n_in hu I e kt hk r fun s3 I3 => ⟨.bl _, H, I3, rfl, q⟩
theorem op_nNotIn (hu : X.A.units + 9 < cLine) : OpR X (compareOp .NotIn) (rNIn X.w true) := by
  intro pins s σ H x y v u Q I rx ry h
  obtain ⟨a, c, zs, d, F, rfl, rfl, e, kt, hk, r, q⟩ := h
  obtain rfl : u = Value.ref a := ry
  obtain rfl : v = Value.ref c := rx
  exact n_notIn hu I e kt hk r fun s3 I3 => ⟨.bl _, H, I3, rfl, q⟩
theorem inV_read {K : Fg} {n0 : Nat} {H : Hp} {W : Wd} {S : MP.St} {a b : MP.Vl} {x y : V} {c : Bool} (g : Good K n0 H W S) (ra : RepV K H W a x) (rb : RepV K H W b y) (h : MP.inV S a b = some c) (neg : Bool) {Q : VK} (k : Q (.bl (if neg then !c else c)) H) :
    (rDIn neg x y H Q ∨ rInDn K neg x y H Q ∨ rIn K neg x y H Q) ∨ rNIn TW.w neg x y H Q := by
  cases a with
  | d k' =>
    cases b with
    | p i =>
      obtain ⟨p, ep, rfl⟩ := id rb
      simp only [MP.inV] at h
      split at h
      · rename_i kd kvs hc
        split at h
        · rename_i hk
          cases h
          have ci := g.cell i _ p hc ep
          cases kd with
          | k =>
            refine .inl (.inl ?_)
            obtain ⟨ks, e1, kv⟩ := ci
            obtain ⟨ky, h1, rfl⟩ := keyV_of hk ra
            refine ⟨p, _, rfl, DGet.k e1, ?_⟩
            rw [kv.any keyV_apart h1, valV_any] at k
            exact k
          | t =>
            refine .inl (.inl ?_)
            obtain ⟨ks, e1, kv⟩ := ci
            cases k' with
            | tup ds =>
              obtain ⟨q, vs, rfl, hq, hr⟩ := ra
              obtain ⟨ky, h1, rfl⟩ := keysV_of (F := W.F) (H := H) hk hr
              refine ⟨p, _, rfl, DGet.t e1 hq, ?_⟩
              rw [kv.any keyT_apart (show keyT (.tup ds) ky from h1), valV_any] at k
              exact k
            | _ => cases hk
          | n =>
            obtain ⟨b0, zs, e1, kv, ka⟩ := ci
            cases k' with
            | tup ds =>
              obtain ⟨q, vs, rfl, hq, hr⟩ := id ra
              refine .inr ⟨p, q, zs, .tup ds, W.F, rfl, rfl, ⟨b0, e1⟩, kt_of kv ka, hk, ra, ?_⟩
              rw [kv.any keyN_apart (show keyN (.tup ds) _ from ⟨hk, rfl⟩), valV_any] at k
              exact k
            | _ => cases hk
        · cases h
      · rename_i ds hc
        have hd : MP.dat S (.p i) = some (.lst ds) := by simp only [MP.dat, hc]
        exact .inl (.inr (.inl (inD_read g ra rb hd h neg k)))
      · cases h
    | d z =>
      cases z with
      | lst ds => exact .inl (.inr (.inl (inD_read g ra rb rfl h neg k)))
      | tup ds =>
        simp only [MP.inV] at h
        split at h
        · rename_i hf
          cases h
          rw [Bool.and_eq_true] at hf
          obtain ⟨p, vs, rfl, hp, hr⟩ := rb
          refine .inl (.inr (.inr ⟨p, vs, rfl, .inr (SqT.of hp), flat_of hf.1 ra, flats_of hf.2 hr, ?_⟩))
          rw [flat_any hf.1 ra hf.2 hr]
          exact k
        · cases h
      | _ => cases h
    | f _ => cases h
    | s _ => cases h
    | r _ => cases h
  | p _ => cases h
  | f _ => cases h
  | s _ => cases h
  | r _ => cases h
theorem op_inV (hw : X.w = TW.w) (hu : X.A.units + 65 < cLine) : OpR X (compareOp .In) (rB X.K n0 .in_) := by
  have h2 : OpR X (compareOp .In) (rInDn X.K false) := op_inD hu
  refine OpR.by (((op_dIn (by omega)).or (h2.or op_in_seq)).or (op_nIn (by omega))) fun x y H Q h => ?_
  obtain ⟨S, W, a, b, g, ra, rb, c, e, k⟩ := h
  rw [hw]
  exact inV_read g ra rb e false k
theorem op_notinV (hw : X.w = TW.w) (hu : X.A.units + 65 < cLine) : OpR X (compareOp .NotIn) (rB X.K n0 .notin) := by
  have h2 : OpR X (compareOp .NotIn) (rInDn X.K true) := op_notInD hu
  refine OpR.by (((op_dNotIn (by omega)).or (h2.or op_notIn_seq)).or (op_nNotIn (by omega))) fun x y H Q h => ?_
  obtain ⟨S, W, a, b, g, ra, rb, c, e, k⟩ := h
  simp only [MP.cmpV, Option.map_eq_some_iff] at e
  obtain ⟨c', e, rfl⟩ := e
  rw [hw]
  exact inV_read g ra rb e true k
def cop : MP.COp → CmpOp
  | .eq => .Eq
  | .ne => .NotEq
  | .lt => .Lt
  | .le => .LtE
  | .gt => .Gt
  | .ge => .GtE
  | .is_ => .Is
  | .isnot => .IsNot
  | .in_ => .In
  | .notin => .NotIn
theorem op_cmp (hw : X.w = TW.w) (hu : X.A.units + 65 < cLine) (o : MP.COp) : OpR X (compareOp (cop o)) (rB X.K n0 o) := by
  cases o
  · exact op_eqV (by omega)
  · exact op_neV (by omega)
  · exact op_ltV (by omega)
  · exact op_leV
  · exact op_gtV
  · exact op_geV
  · exact op_isV
  · exact op_isnotV
  · exact op_inV hw hu
  · exact op_notinV hw hu

/-! ### subscripts -/
theorem IxR.by {r r' : R2} (h : IxR X r) (k : ∀ x y H Q, r' x y H Q → r x y H Q) : IxR X r' := fun value slice pins s σ H x y v u Q I rx ry q => h value slice pins s σ H x y v u Q I rx ry (k x y H Q q)
def rDIx : R2 := fun x y H Q => ∃ a v, x = .ref a ∧ DGet H a y (some v) ∧ Q v H
theorem ix_dct (hu : X.A.units + 1 < cLine) : IxR X rDIx := by
  intro value slice pins s σ H x y v u Q I rx ry h hs
  obtain ⟨a, w, rfl, g, q⟩ := h
  obtain rfl : v = Value.ref a := rx
  exact tail_any (dict_typeIs I g) PySem.F.slot_dict_getitem.lookup (d_getItem hu I g ry fun w' s3 I3 rw' => ⟨w, H, I3, rw', q⟩) hs
def rNIx (w : World) : R2 := fun x y H Q => ∃ (a c : Addr) (zs : ZN) (d : MP.D) (F : Addr → Prop) (v : V), x = .ref a ∧ y = .ref c ∧ (∃ b, H a = some (hoN w b zs)) ∧ KtN H zs ∧ MP.DK.ok .n d = true ∧ RepD H F d (.ref c) ∧ valV (zs.map (·.1)) (nkOf d) = some v ∧ Q v H
theorem ix_n (hu : X.A.units + 9 < cLine) : IxR X (rNIx X.w) := by
  intro value slice pins s σ H x y v u Q I rx ry h hs
  obtain ⟨a, c, zs, d, F, w, rfl, rfl, e, kt, hk, r, hv, q⟩ := h
  obtain rfl : v = Value.ref a := rx
  obtain rfl : u = Value.ref c := ry
  obtain ⟨_, xs, dd, _, _, _⟩ := n_dict I e kt
  exact tail_any dd.typeIs PySem.F.slot_dict_getitem.lookup (n_getItem hu I e kt hk r hv fun w' s3 I3 rw' => ⟨w, H, I3, rw', q⟩) hs
theorem ixN_eq (n : Nat) (i : Int) : MP.ixN n i = L2.ixN n i := rfl
theorem at_rep {H : Hp} {F : Addr → Prop} {ds : List MP.D} {vs : List V} {i : Int} {d : MP.D} (r : RepDs H F ds vs) (h : MP.atI ds i = some d) : ∃ v, L2.atI vs i = some v ∧ RepD H F d v := by
  unfold MP.atI at h
  unfold L2.atI
  rw [r.length, ← ixN_eq]
  cases e : MP.ixN ds.length i with
  | none => rw [e] at h; cases h
  | some j =>
    rw [e] at h
    exact r.get h
theorem ix_V (hw : X.w = TW.w) (hu : X.A.units + 9 < cLine) : IxR X (rV X.K n0 MP.ixV) := by
  refine IxR.by (ix_list.or (ix_tup.or ((ix_dct (by omega)).or (ix_str.or (ix_n hu))))) fun x y H Q h => ?_
  rw [hw]
  obtain ⟨S, W, a, b, g, ra, rb, c, e, k⟩ := h
  cases a with
  | p i =>
    obtain ⟨p, ep, rfl⟩ := ra
    simp only [MP.ixV] at e
    split at e
    · rename_i ds hc
      split at e
      · simp only [Option.map_eq_some_iff] at e
        obtain ⟨d, e1, rfl⟩ := e
        cases rb
        obtain ⟨vs, e2, r2⟩ := g.cell i _ p hc ep
        obtain ⟨v, h1, h2⟩ := at_rep r2 e1
        exact .inl ⟨p, vs, _, v, rfl, rfl, SqL.of e2, h1, k v H W .refl g h2⟩
      · cases e
    · rename_i kd kvs hc
      split at e
      · rename_i k'
        split at e
        · rename_i hk
          have ci := g.cell i _ p hc ep
          cases kd with
          | k =>
            refine .inr (.inr (.inl ?_))
            obtain ⟨ks, e1, kv⟩ := ci
            obtain ⟨ky, h1, rfl⟩ := keyV_of (F := W.F) (H := H) hk rb
            have z := kv.look keyV_apart h1
            rw [e] at z
            obtain ⟨v, z1, z2⟩ := z
            refine ⟨p, v, rfl, ?_, k v H W .refl g z2⟩
            rw [← z1]
            exact DGet.k e1
          | t =>
            refine .inr (.inr (.inl ?_))
            obtain ⟨ks, e1, kv⟩ := ci
            cases k' with
            | tup ds =>
              obtain ⟨q, vs, rfl, hq, hr⟩ := rb
              obtain ⟨ky, h1, rfl⟩ := keysV_of (F := W.F) (H := H) hk hr
              have z := kv.look keyT_apart (show keyT (.tup ds) ky from h1)
              rw [e] at z
              obtain ⟨v, z1, z2⟩ := z
              refine ⟨p, v, rfl, ?_, k v H W .refl g z2⟩
              rw [← z1]
              exact DGet.t e1 hq
            | _ => cases hk
          | n =>
            obtain ⟨b0, zs, e1, kv, ka⟩ := ci
            cases k' with
            | tup ds =>
              obtain ⟨q, vs, rfl, hq, hr⟩ := id rb
              have z := kv.look keyN_apart (show keyN (.tup ds) _ from ⟨hk, rfl⟩)
              rw [e] at z
              obtain ⟨v, z1, z2⟩ := z
              exact .inr (.inr (.inr (.inr ⟨p, q, zs, .tup ds, W.F, v, rfl, rfl, ⟨b0, e1⟩, kt_of kv ka, hk, rb, z1, k v H W .refl g z2⟩)))
            | _ => cases hk
        · cases e
      · cases e
    · cases e
  | d z =>
    cases z with
    | lst ds =>
      simp only [MP.ixV] at e
      split at e
      · simp only [Option.map_eq_some_iff] at e
        obtain ⟨d, e1, rfl⟩ := e
        cases rb
        obtain ⟨p, vs, rfl, e2, r2⟩ := ra
        obtain ⟨v, h1, h2⟩ := at_rep r2 e1
        exact .inl ⟨p, vs, _, v, rfl, rfl, e2.sq, h1, k v H W .refl g h2⟩
      · cases e
    | tup ds =>
      simp only [MP.ixV] at e
      split at e
      · simp only [Option.map_eq_some_iff] at e
        obtain ⟨d, e1, rfl⟩ := e
        cases rb
        obtain ⟨p, vs, rfl, e2, r2⟩ := ra
        obtain ⟨v, h1, h2⟩ := at_rep r2 e1
        exact .inr (.inl ⟨p, vs, _, v, rfl, rfl, SqT.of e2, h1, k v H W .refl g h2⟩)
      · cases e
    | str t =>
      simp only [MP.ixV] at e
      split at e
      · rename_i k'
        split at e
        · rename_i hz
          simp only [Option.map_eq_some_iff] at e
          obtain ⟨ch, e1, rfl⟩ := e
          cases rb
          obtain rfl : x = V.str (so t) := ra
          refine .inr (.inr (.inr (.inl ⟨so t, k', ch.toNat, rfl, rfl, ?_, ?_, k _ H W .refl g ?_⟩)))
          · have h1 := congrArg List.length (so_list t)
            rw [List.length_map, Array.length_toList] at h1
            show (so t).cps.size ≤ sizeLine
            rw [h1, sizeLine_eq]
            exact Nat.le_trans hz (by decide)
          · rw [so_list]
            unfold MP.atI at e1
            unfold L2.atI
            rw [List.length_map]
            rw [← ixN_eq]
            cases hx : MP.ixN t.toList.length k' with
            | none => rw [hx] at e1; cases e1
            | some j =>
              rw [hx] at e1
              have e1 : t.toList[j]? = some ch := e1
              show (t.toList.map Char.toNat)[j]? = _
              rw [List.getElem?_map, e1]
              rfl
          · show V.str ⟨#[ch.toNat]⟩ = V.str (so (String.ofList [ch]))
            congr 1
            have h1 := so_list (String.ofList [ch])
            rw [String.toList_ofList] at h1
            have h2 : (so (String.ofList [ch])).cps = #[ch.toNat] := Array.toList_inj.mp h1
            cases hs : so (String.ofList [ch])
            rw [hs] at h2
            cases h2
            rfl
        · cases e
      · cases e
    | _ => cases e
  | f _ => cases e
  | s _ => cases e
  | r _ => cases e

/-! ### truth -/
theorem truth_tru {K : Fg} {n0 : Nat} {H : Hp} {W : Wd} {S : MP.St} {a : MP.Vl} {x : V} {b : Bool} (g : Good K n0 H W S) (r : RepV K H W a x) (h : MP.truth S a = some b) : TruV K x H b := by
  cases a with
  | d z =>
    cases z with
    | non => cases r; cases h; rfl
    | bl _ => cases r; cases h; rfl
    | int _ => cases r; cases h; rfl
    | str s => cases h
    | lst ds =>
      obtain ⟨p, vs, rfl, e2, r2⟩ := r
      cases h
      refine .inl ⟨vs, e2.sq, ?_⟩
      have := r2.length
      cases ds <;> cases vs <;> first | rfl | simp at this
    | tup ds =>
      obtain ⟨p, vs, rfl, e2, r2⟩ := r
      cases h
      refine .inr (.inl ⟨vs, SqT.of e2, ?_⟩)
      have := r2.length
      cases ds <;> cases vs <;> first | rfl | simp at this
  | p i =>
    obtain ⟨p, ep, rfl⟩ := r
    simp only [MP.truth] at h
    split at h
    · rename_i ds hc
      cases h
      obtain ⟨vs, e2, r2⟩ := g.cell i _ p hc ep
      refine .inl ⟨vs, SqL.of e2, ?_⟩
      have := r2.length
      cases ds <;> cases vs <;> first | rfl | simp at this
    · cases h
  | f _ => cases h
  | s _ => cases h
  | r _ => cases h
end
end MS

set_option Elab.async false
set_option linter.all false
set_option maxRecDepth 100000
set_option autoImplicit false
/-! MS4: the written expressions against MP's: shapes, the program's facts, calls. -/
namespace MS
open PySem PySem.Spec PyProof.Rows L2
variable [TW]

/-! ### shapes -/
def nst : Expr → Bool
  | .Starred _ _ => false
  | _ => true
theorem nst_star {e : Expr} {es : List Expr} {env : Env} (h : nst e = true) : starEach (e :: es) env = (false, eval e env) :: starEach es env := by
  cases e <;> first | rfl | exact absurd h Bool.false_ne_true
theorem nst_any {env : Env} {pos : Pos} : ∀ {es : List Expr}, es.all nst = true → (backTo pos (starEach es env)).any (·.1) = false
  | [], _ => rfl
  | e :: es, h => by
    rw [List.all_cons, Bool.and_eq_true] at h
    rw [nst_star h.1]
    have ih := nst_any (env := env) (pos := pos) h.2
    show (false || (backTo pos (starEach es env)).any (·.1)) = false
    rw [ih]
    rfl
/-- what a method is called of, what a field is read of -/
def plainO : Expr → Bool
  | .Name _ _ => true
  | .Attribute _ _ _ => true
  | .Subscript _ _ _ => true
  | _ => false
theorem plainO_base {o : Expr} {f : Str} {env : Env} (h : plainO o = true) : attributeBase o f env (eval o env) = eval o env := by
  cases o <;> first | rfl | exact absurd h Bool.false_ne_true
/-- no slice, no comprehension, no set -/
def plainI : Expr → Bool
  | .Slice _ _ _ _ => false
  | _ => true
theorem plainI_ix {i : Expr} (h : plainI i = true) : PlainIx i := by
  intro o j
  cases i <;> first | rfl | exact absurd h Bool.false_ne_true
def noComp : Expr → Bool
  | .ListComp _ _ _ _ => false
  | .SetComp _ _ _ _ => false
  | .DictComp _ _ _ _ _ => false
  | _ => true
theorem noComp_swaps {e : Expr} {t : Option Expr} {n : Nat} {env : Env} (h : noComp e = true) : swapsWith e t n env = pure false := by
  cases e <;> first | rfl | exact absurd h Bool.false_ne_true
/-- an expression whose truth is asked of its value -/
def plainT : Expr → Bool
  | .UnaryOp _ _ _ => false
  | .BoolOp _ _ _ => false
  | .IfExp _ _ _ _ => false
  | .Compare _ _ _ _ => false
  | _ => true
theorem plainT_true {a : Expr} {env : Env} (h : plainT a = true) : ∀ whole, isTrue a env whole = (do let v ← whole; standAt a.pos; holding [v] (truthy v)) := by
  intro whole
  cases a <;> first | rfl | exact absurd h Bool.false_ne_true
def noSet : Expr → Bool
  | .Set _ _ _ => false
  | _ => true
theorem noSet_mark {op : CmpOp} {b : Expr} (h : noSet b = true) : behindInMarks op b = false := by
  cases b <;> first | rfl | exact absurd h Bool.false_ne_true
theorem noSet_fold {e : Expr} {env : Env} (h : noSet e = true) : ∀ x, foldedSetIterable e env x = pure x := by
  intro x
  cases e <;> first | rfl | exact absurd h Bool.false_ne_true

/-! ### the program as the head tells it -/
structure Hd where
  P : MP.Pg
  gis : List (String × Int)
  free : List String
  attrs : List (String × String)
  tabs : List (String × List (String × String))
  top : Bool
def dAd (K : Fg) (d : MP.Df) : Addr := if d.cls = "" then He.ga K (so d.name) else He.ma K (He.ga K (so d.cls)) (so d.name)
/-- an exception as MP has it -/
def ExnR (K : Fg) (x : MP.Exn) (cls : Value) (dd : Option Addr) : Prop := cls = .ref (He.ga K (so x.cls)) ∧ dd = none
/-- what a def of the text promises: what the evaluator tells -/
def spR (K : Fg) (n0 : Nat) (r : MP.R MP.Vl) (H : Hp) (W : Wd) (Q : VK) (E : XK) : Prop := match r with
  | .ok x S' => ∀ v H' W', Le H W H' W' → Good K n0 H' W' S' → RepV K H' W' x v → Q v H'
  | .ex x S' => ∀ cls dd H' W', Le H W H' W' → Good K n0 H' W' S' → ExnR K x cls dd → E cls dd H'
  | .no => False
def spD (K : Fg) (P : MP.Pg) (k : Nat) (d : MP.Df) : Sp := fun vs H Q E => ∃ n0 xs S W, xs.length = d.n ∧ RepVs K H W xs vs ∧ Good K n0 H W S ∧ spR K n0 (MP.run P k n0 d.cls d.name xs S) H W Q E
structure Tx (K : Fg) (w : World) (mg : Str → Option Value) (h : Hd) : Prop where
  tw : w = TW.w
  gis : ∀ q ∈ h.gis, ∃ t, mg (so q.1) = some (.int q.2 t)
  free : ∀ x ∈ h.free, mg (so x) = none
  fn : ∀ d ∈ h.P.defs, d.cls = "" → mg (so d.name) = some (.ref (He.ga K (so d.name)))
  mth : ∀ d ∈ h.P.defs, d.cls ≠ "" → Meth K (He.ga K (so d.cls)) (so d.name) (dAd K d)
  cls : ∀ c ∈ h.P.cls, Cls K (He.ga K (so c)) ∧ mg (so c) = some (.ref (He.ga K (so c))) ∧ Mk K (He.ga K (so c)) (He.ma K (He.ga K (so c)) (so "__init__"))
  noat : ∀ q ∈ h.attrs, NoAttr K (He.ga K (so q.1)) (so q.2)
  tab : ∀ t ∈ h.tabs, mg (so t.1) = some (.ref (He.ga K (so t.1))) ∧ (∀ q ∈ t.2, KDct K w (He.ga K (so t.1)) (so q.1) (.ref (He.ga K (so q.2)))) ∧ h.P.gd t.1 = some t.2 ∧ ∃ es n, KDict K w (He.ga K (so t.1)) es n ∧ ∀ z : Str, (∀ q ∈ t.2, so q.1 ≠ z) → PySem.W.nsIn K (He.ga K (so t.1)) z = some none
structure Fns (P : Program) (w : World) (K : Fg) (mg : Str → Option Value) (base : Heap) (h : Hd) (k : Nat) : Prop where
  ok : ∀ d ∈ h.P.defs, ∃ fd ps, FnOk P w K mg base (L2.CX P w) k (dAd K d) fd ps (spD K h.P k d) ∧ Binds K fd ps [] ∧ PySem.W.keepIn K (.ref (dAd K d)) = true
/-- the wish about exceptions -/
def WI (K : Fg) (C : MP.Cx) (P : Post) : WX := fun cls d σ H => ∃ x G S W, ExnR K x cls d ∧ EnvR K H W G σ ∧ Good K C.n0 H W S ∧ P x G S W H
structure XOk (h : Hd) (k : Nat) (X : L2.Cx) (C : MP.Cx) (P : Post) (sc : Scope) : Prop where
  tx : Tx X.K X.w X.mg h
  fns : Fns X.prog X.w X.K X.mg X.base h k
  fnp : ∀ j, j < k → Fns X.prog X.w X.K X.mg X.base h j
  sc : X.env.scope = sc
  nd : X.N.Nodup
  calm : X.calm = true
  room : Room k X.A
  room2 : Room k X.A.in1.in1
  tk : Takes X (WI X.K C P)
  C : C = ⟨MP.run h.P k, C.n0, h.P.gd, fun g => (h.P.at_ "" g).isSome⟩
  gu : h.top = true → X.A.guards = some []
section
variable {h : Hd} {k : Nat} {X : L2.Cx} {C : MP.Cx} {P : Post} {sc : Scope}
theorem XOk.hu (x : XOk h k X C P sc) : X.A.units + 65 < cLine := by have := x.room.un; omega
def glob (sc : Scope) (x : Str) : Bool := decide (sc.names.lookup x = some .globalImplicit) && !(x == ("__debug__" : Str)) && !(x == ("__name__" : Str))
theorem glob_gl (x : XOk h k X C P sc) {y : Str} (g : glob sc y = true) : Gl X y ∧ (y == ("__debug__" : Str)) = false ∧ y ≠ "__name__" := by
  unfold glob at g
  simp only [Bool.and_eq_true, Bool.not_eq_true'] at g
  refine ⟨?_, g.1.2, fun e => ?_⟩
  · show X.env.scope.names.lookup y = some .globalImplicit
    rw [x.sc]
    exact of_decide_eq_true g.1.1
  · rw [e] at g
    exact absurd g.2 (by decide)
def vis (sc : Scope) (x : Str) : Bool := (decide (sc.names.lookup x = some .local) || decide (sc.names.lookup x = some .cell) || decide (sc.names.lookup x = some .free)) && !(x == ("__debug__" : Str)) && !(x == ("__classdict__" : Str))
theorem vis_vis (x : XOk h k X C P sc) {y : Str} (g : vis sc y = true) : Vis X.env.scope y ∧ (y == ("__debug__" : Str)) = false ∧ (y == ("__classdict__" : Str)) = false := by
  unfold vis at g
  simp only [Bool.and_eq_true, Bool.not_eq_true', Bool.or_eq_true] at g
  refine ⟨?_, g.1.2, g.2⟩
  rw [x.sc]
  rcases g.1.1 with (e | e) | e
  · exact .inl (of_decide_eq_true e)
  · exact .inr (.inl (of_decide_eq_true e))
  · exact .inr (.inr (of_decide_eq_true e))

/-! ### leaves -/
theorem ie_var {i : Nat} {y : Str} {pos : Pos} (x : XOk h k X C P sc) (hN : X.N[i]? = some y) (hv : vis sc y = true) : PE X (.Name y pos) (tE X.K C P (.var i)) := by
  obtain ⟨h1, h2, h3⟩ := vis_vis x hv
  refine PE.imp (pe_var hN h1 h2 h3) fun σ H Q ⟨G, S, W, hG, hS, q⟩ => ?_
  simp only [MP.evE] at q
  split at q
  · rename_i v e
    obtain ⟨u, e1, r⟩ := hG.2 i v e
    exact ⟨u, e1, q u H W .refl hS r⟩
  · exact q.elim
def cstV : MP.D → Const → Bool
  | .non, .none => true
  | .bl a, .bool b => a == b
  | .int i, .int j => i == j
  | .str s, .str t => so s == t
  | _, _ => false
theorem ie_cst {d : MP.D} {c : Const} {j : Nat} {pos : Pos} (hc : cstV d c = true) : PE X (.Constant c j pos) (tE X.K C P (.cst d)) := by
  have key : ∀ {v : V}, PE X (.Constant c j pos) (tC v) → (∀ H F, RepD H F d v) → PE X (.Constant c j pos) (tE X.K C P (.cst d)) := fun {v} p r =>
    PE.imp p fun σ H Q ⟨G, S, W, hG, hS, q⟩ => q v H W .refl hS (r H W.F)
  cases d <;> cases c <;> first | exact absurd hc Bool.false_ne_true | skip
  · exact key pe_non fun _ _ => rfl
  · have e := eq_of_beq hc
    subst e
    exact key pe_bl fun _ _ => rfl
  · have e := eq_of_beq hc
    subst e
    exact key pe_int fun _ _ => rfl
  · have e := eq_of_beq hc
    subst e
    exact key pe_str fun _ _ => rfl
theorem ie_gint {y : String} {i : Int} {pos : Pos} (x : XOk h k X C P sc) (hm : (y, i) ∈ h.gis) (hg : glob sc (so y) = true) : PE X (.Name (so y) pos) (tE X.K C P (.gint y i)) := by
  obtain ⟨h1, h2, _⟩ := glob_gl x hg
  obtain ⟨t, e⟩ := x.tx.gis _ hm
  exact PE.imp (pe_glob (v := .int i) h1 e ⟨t, rfl⟩ h2) fun σ H Q ⟨G, S, W, hG, hS, q⟩ => q (.int i) H W .refl hS rfl

/-! ### operators -/
section
variable {a b c : Expr} {ea eb ec : MP.Ex} {pos : Pos}
theorem ie_bin {o : MP.BOp} (ha : PE X a (tE X.K C P ea)) (hb : PE X b (tE X.K C P eb)) : PE X (.BinOp a (bop o) b pos) (tE X.K C P (.bin o ea eb)) := by
  refine PE.imp (pe_op (op_bin (n0 := C.n0) o) ha hb) fun σ H Q ⟨G, S, W, hG, hS, q⟩ => ?_
  simp only [MP.evE] at q
  exact tR.part hG hS q fun y S1 v H1 W1 l1 g1 s1 r1 q1 => tR.part g1 s1 q1 fun z S2 u H2 W2 l2 g2 s2 r2 q2 => rV.of s2 (r1.mono l2) r2 q2
theorem ie_neg (ha : PE X a (tE X.K C P ea)) : PE X (.UnaryOp .USub a pos) (tE X.K C P (.neg ea)) := by
  refine PE.imp (pe_un un_neg ha) fun σ H Q ⟨G, S, W, hG, hS, q⟩ => ?_
  simp only [MP.evE] at q
  refine tR.part hG hS q fun y S1 v H1 W1 l1 g1 s1 r1 q1 => ?_
  split at q1
  · cases r1
    exact ⟨_, rfl, q1 _ H1 W1 .refl s1 rfl⟩
  · exact q1.elim
theorem rB.of {K : Fg} {o : MP.COp} {H : Hp} {W : Wd} {G : MP.Env} {S : MP.St} {a b : MP.Vl} {x y : V} {Q : VK} {n0 : Nat} (g : Good K n0 H W S) (ra : RepV K H W a x) (rb : RepV K H W b y)
    (h : wpK K n0 P H W G (MP.R.of ((MP.cmpV o S a b).map fun b => .d (.bl b)) S) (relE K) Q) : rB K n0 o x y H Q := by
  refine ⟨S, W, a, b, g, ra, rb, ?_⟩
  cases e : MP.cmpV o S a b with
  | none => rw [e] at h; exact h.elim
  | some c => rw [e] at h; exact ⟨c, rfl, h _ H W .refl g rfl⟩
theorem ie_cmp {o : MP.COp} (x : XOk h k X C P sc) (ha : PE X a (tE X.K C P ea)) (hb : PE X b (tE X.K C P eb)) (hn : noSet b = true) : PE X (.Compare a [cop o] [b] pos) (tE X.K C P (.cmp o ea eb)) := by
  refine PE.imp (pe_cmpR (op_cmp (n0 := C.n0) x.tx.tw x.hu o) ha hb (noSet_mark hn)) fun σ H Q ⟨G, S, W, hG, hS, q⟩ => ?_
  simp only [MP.evE] at q
  exact tR.part hG hS q fun y S1 v H1 W1 l1 g1 s1 r1 q1 => tR.part g1 s1 q1 fun z S2 u H2 W2 l2 g2 s2 r2 q2 => rB.of s2 (r1.mono l2) r2 q2
theorem truth_of {H : Hp} {W : Wd} {G : MP.Env} {S : MP.St} {y : MP.Vl} {v : V} {γ δ : Type} {f : Bool → MP.St → MP.R γ} {Rel : Hp → Wd → MP.St → γ → δ → Prop} {Q : δ → Hp → Prop} (g : Good X.K C.n0 H W S) (r : RepV X.K H W y v)
    (q : wpK X.K C.n0 P H W G ((MP.R.of (MP.truth S y) S).bind f) Rel Q) : ∃ t, TruV X.K v H t ∧ wpK X.K C.n0 P H W G (f t S) Rel Q := by
  cases e : MP.truth S y with
  | none => rw [e] at q; exact q.elim
  | some t => rw [e] at q; exact ⟨t, truth_tru g r e, q⟩
theorem ie_and {rest : List Expr} (ha : PE X a (tE X.K C P ea)) (hb : PE X (.BoolOp .And (b :: rest) pos) (tE X.K C P eb)) : PE X (.BoolOp .And (a :: b :: rest) pos) (tE X.K C P (.andE ea eb)) := by
  refine PE.imp (pe_andT ha hb) fun σ H Q ⟨G, S, W, hG, hS, q⟩ => ?_
  simp only [MP.evE] at q
  refine tR.part hG hS q fun y S1 v H1 W1 l1 g1 s1 r1 q1 => ?_
  obtain ⟨t, ht, q2⟩ := truth_of s1 r1 q1
  refine ⟨t, ht, ?_⟩
  cases t with
  | true => exact ⟨G, S1, W1, g1, s1, q2⟩
  | false => exact q2 v H1 W1 .refl s1 r1
theorem ie_or {rest : List Expr} (ha : PE X a (tE X.K C P ea)) (hb : PE X (.BoolOp .Or (b :: rest) pos) (tE X.K C P eb)) : PE X (.BoolOp .Or (a :: b :: rest) pos) (tE X.K C P (.orE ea eb)) := by
  refine PE.imp (pe_orT ha hb) fun σ H Q ⟨G, S, W, hG, hS, q⟩ => ?_
  simp only [MP.evE] at q
  refine tR.part hG hS q fun y S1 v H1 W1 l1 g1 s1 r1 q1 => ?_
  obtain ⟨t, ht, q2⟩ := truth_of s1 r1 q1
  refine ⟨t, ht, ?_⟩
  cases t with
  | true => exact q2 v H1 W1 .refl s1 r1
  | false => exact ⟨G, S1, W1, g1, s1, q2⟩
theorem ie_not (ha : PE X a (tE X.K C P ea)) : PE X (.UnaryOp .Not a pos) (tE X.K C P (.notE ea)) := by
  refine PE.imp (pe_notT ha) fun σ H Q ⟨G, S, W, hG, hS, q⟩ => ?_
  simp only [MP.evE] at q
  refine tR.part hG hS q fun y S1 v H1 W1 l1 g1 s1 r1 q1 => ?_
  obtain ⟨t, ht, q2⟩ := truth_of s1 r1 q1
  exact ⟨t, ht, q2 _ H1 W1 .refl s1 rfl⟩
theorem ie_ite {tc : MP.Tt} (hc : PT X c (tT X.K C P tc)) (ha : PE X a (tE X.K C P ea)) (hb : PE X b (tE X.K C P eb)) : PE X (.IfExp c a b pos) (tE X.K C P (.ite tc ea eb)) := by
  refine PE.imp (pe_ifExp hc ha hb) fun σ H Q ⟨G, S, W, hG, hS, q⟩ => ?_
  simp only [MP.evE] at q
  refine tR.part hG hS q fun y S1 v H1 W1 l1 g1 s1 r1 q1 => ?_
  have e : v = y := r1
  subst e
  cases v with
  | true => exact ⟨G, S1, W1, g1, s1, q1⟩
  | false => exact ⟨G, S1, W1, g1, s1, q1⟩
theorem ie_ix (x : XOk h k X C P sc) (ha : PE X a (tE X.K C P ea)) (hb : PE X b (tE X.K C P eb)) (hp : plainI b = true) : PE X (.Subscript a b pos) (tE X.K C P (.ix ea eb)) := by
  refine PE.imp (pe_ix (ix_V (n0 := C.n0) x.tx.tw (by have := x.hu; omega)) ha hb (plainI_ix hp)) fun σ H Q ⟨G, S, W, hG, hS, q⟩ => ?_
  simp only [MP.evE] at q
  exact tR.part hG hS q fun y S1 v H1 W1 l1 g1 s1 r1 q1 => tR.part g1 s1 q1 fun z S2 u H2 W2 l2 g2 s2 r2 q2 => rV.of s2 (r1.mono l2) r2 q2

/-! ### tests -/
theorem it_and {ta tb : MP.Tt} {rest : List Expr} (ha : PT X a (tT X.K C P ta)) (hb : PW X (.BoolOp .And (b :: rest) pos) (tT X.K C P tb)) : PW X (.BoolOp .And (a :: b :: rest) pos) (tT X.K C P (.and_ ta tb)) := by
  refine ⟨fun wh pins s σ H Q I ⟨G, S, W, hG, hS, q⟩ => (pw_and ha hb).run wh pins s σ H Q I ?_⟩
  simp only [MP.evT] at q
  refine tR.part hG hS q fun y S1 v H1 W1 l1 g1 s1 r1 q1 => ?_
  have e : v = y := r1
  subst e
  cases v with
  | true => exact ⟨G, S1, W1, g1, s1, q1⟩
  | false => exact q1 _ H1 W1 .refl s1 rfl
theorem it_or {ta tb : MP.Tt} {rest : List Expr} (ha : PT X a (tT X.K C P ta)) (hb : PW X (.BoolOp .Or (b :: rest) pos) (tT X.K C P tb)) : PW X (.BoolOp .Or (a :: b :: rest) pos) (tT X.K C P (.or_ ta tb)) := by
  refine ⟨fun wh pins s σ H Q I ⟨G, S, W, hG, hS, q⟩ => (pw_or ha hb).run wh pins s σ H Q I ?_⟩
  simp only [MP.evT] at q
  refine tR.part hG hS q fun y S1 v H1 W1 l1 g1 s1 r1 q1 => ?_
  have e : v = y := r1
  subst e
  cases v with
  | true => exact q1 _ H1 W1 .refl s1 rfl
  | false => exact ⟨G, S1, W1, g1, s1, q1⟩
theorem it_not {ta : MP.Tt} (ha : PT X a (tT X.K C P ta)) : PT X (.UnaryOp .Not a pos) (tT X.K C P (.not_ ta)) := by
  refine PT.imp (pt_not ha) fun σ H Q ⟨G, S, W, hG, hS, q⟩ => ?_
  simp only [MP.evT] at q
  refine tR.part hG hS q fun y S1 v H1 W1 l1 g1 s1 r1 q1 => ?_
  have e : v = y := r1
  subst e
  exact q1 _ H1 W1 .refl s1 rfl
theorem it_cmp {o : MP.COp} (x : XOk h k X C P sc) (ha : PE X a (tE X.K C P ea)) (hb : PE X b (tE X.K C P eb)) (hn : noSet b = true) : PT X (.Compare a [cop o] [b] pos) (tT X.K C P (.cmp o ea eb)) := by
  refine PT.imp (pt_cmpR (op_cmp (n0 := C.n0) x.tx.tw x.hu o) ha hb (noSet_mark hn)) fun σ H Q ⟨G, S, W, hG, hS, q⟩ => ?_
  simp only [MP.evT] at q
  refine tR.part hG hS q fun y S1 v H1 W1 l1 g1 s1 r1 q1 => tR.part g1 s1 q1 fun z S2 u H2 W2 l2 g2 s2 r2 q2 => ?_
  refine ⟨S2, W2, y, z, s2, r1.mono l2, r2, ?_⟩
  cases e : MP.cmpV o S2 y z with
  | none => rw [e] at q2; exact q2.elim
  | some c => rw [e] at q2; exact ⟨c, rfl, c, rfl, q2 _ H2 W2 .refl s2 rfl⟩
theorem it_e (ha : PE X a (tE X.K C P ea)) (hp : plainT a = true) : PT X a (tT X.K C P (.e ea)) := by
  refine PT.imp (pt_truth ha (plainT_true hp)) fun σ H Q ⟨G, S, W, hG, hS, q⟩ => ?_
  simp only [MP.evT] at q
  refine tR.part hG hS q fun y S1 v H1 W1 l1 g1 s1 r1 q1 => ?_
  cases e : MP.truth S1 y with
  | none => rw [e] at q1; exact q1.elim
  | some t => rw [e] at q1; exact ⟨t, truth_tru s1 r1 e, q1 _ H1 W1 .refl s1 rfl⟩

/-! ### argument lists -/
theorem ia_nil : PA X [] (tEs X.K C P .nil) := PA.imp pa_nil fun σ H Q ⟨G, S, W, hG, hS, q⟩ => q [] H W .refl hS rfl
theorem ia_cons {es : List Expr} {ees : MP.Exs} (ha : PE X a (tE X.K C P ea)) (hr : PA X es (tEs X.K C P ees)) (hs : nst a = true) : PA X (a :: es) (tEs X.K C P (.cons ea ees)) := by
  refine PA.imp (pa_cons ha hr (nst_star hs)) fun σ H Q ⟨G, S, W, hG, hS, q⟩ => ?_
  simp only [MP.evEs] at q
  exact tR.part hG hS q fun y S1 v H1 W1 l1 g1 s1 r1 q1 => tR.part g1 s1 q1 fun z S2 u H2 W2 l2 g2 s2 r2 q2 => q2 _ H2 W2 .refl s2 ⟨v, u, rfl, r1.mono l2, r2⟩
theorem mapM_rep {K : Fg} {H : Hp} {W : Wd} : ∀ {vs : List MP.Vl} {us : List V} {ds : List MP.D}, RepVs K H W vs us → vs.mapM (fun v => match v with | .d x => some x | _ => none) = some ds → RepDs H W.F ds us
  | [], us, ds, r, e => by
    cases r
    simp at e
    subst e
    rfl
  | v :: vs, us, ds, r, e => by
    obtain ⟨u, t, rfl, r1, r2⟩ := r
    rw [List.mapM_cons] at e
    cases v with
    | d x =>
      simp only [Option.pure_def, Option.bind_eq_bind, Option.bind_some, Option.bind_eq_some_iff] at e
      obtain ⟨ds', e1, e2⟩ := e
      cases e2
      exact ⟨u, t, rfl, r1, mapM_rep r2 e1⟩
    | p i => simp at e
    | f g => simp at e
    | s g => simp at e
    | r g => simp at e
theorem ie_tup {es : List Expr} {ees : MP.Exs} {n : Nat} (ha : PA X es (tEs X.K C P ees)) : PE X (.Tuple es n pos) (tE X.K C P (.tup ees)) := by
  refine PE.imp (pe_tup ha) fun σ H Q ⟨G, S, W, hG, hS, q⟩ => ?_
  simp only [MP.evE] at q
  refine tR.part hG hS q fun vs S1 us H1 W1 l1 g1 s1 r1 q1 => ?_
  split at q1
  · rename_i ds e
    split at q1
    · rename_i hz
      have r := mapM_rep r1 e
      exact ⟨by rw [r.length]; exact cap_le hz, fun p hp => newT s1 hp r q1⟩
    · exact q1.elim
  · exact q1.elim
/-! ### new lists -/
theorem il_disp {es : List Expr} {ees : MP.Exs} (ha : PA X es (tEs X.K C P ees)) : PE X (.List es pos) (tL X.K C P (.disp ees)) := by
  refine PE.imp (pe_lst ha) fun σ H Q ⟨G, S, W, hG, hS, q⟩ => ?_
  simp only [MP.evL] at q
  refine tR.part hG hS q fun vs S1 us H1 W1 l1 g1 s1 r1 q1 => ?_
  split at q1
  · rename_i ds e
    split at q1
    · rename_i hz
      have r := mapM_rep r1 e
      refine ⟨by rw [r.length]; exact cap_le hz, fun p hp => ?_⟩
      obtain ⟨g, l⟩ := s1.new (o := .lst us) hp
      exact q1 _ _ W1 l g ⟨p, us, rfl, upd_same, RepDs.mono l.kp r, s1.fresh hp⟩
    · exact q1.elim
  · exact q1.elim
theorem ie_fz {el : MP.Le} (ha : PE X a (tL X.K C P el)) : PE X a (tE X.K C P (.fz el)) := by
  refine PE.imp ha fun σ H Q ⟨G, S, W, hG, hS, q⟩ => ?_
  simp only [MP.evE] at q
  refine tR.part hG hS q fun ds S1 v H1 W1 l1 g1 s1 r1 q1 => ?_
  obtain ⟨p, us, rfl, e, r, al⟩ := r1
  obtain ⟨g, l⟩ := s1.toF e al
  exact q1 _ H1 _ l g ⟨p, us, rfl, ⟨.inr rfl, e⟩, RepDs.mono l.kp r⟩
theorem ie_own {el : MP.Le} (ha : PE X a (tL X.K C P el)) : PE X a (tE X.K C P (.own el)) := by
  refine PE.imp ha fun σ H Q ⟨G, S, W, hG, hS, q⟩ => ?_
  simp only [MP.evE] at q
  refine tR.part hG hS q fun ds S1 v H1 W1 l1 g1 s1 r1 q1 => ?_
  obtain ⟨p, us, rfl, e, r, al⟩ := r1
  obtain ⟨g, l, e2⟩ := s1.toCell (c := .lst ds) e ⟨us, rfl, r⟩ True.intro al
  exact q1 _ H1 _ l g ⟨p, e2, rfl⟩
theorem ie_dnew {dk : MP.DK} (x : XOk h k X C P sc) : PE X (.Dict [] [] pos) (tE X.K C P (.dnew dk)) := by
  cases dk with
  | k =>
    refine PE.imp pe_dnewK fun σ H Q ⟨G, S, W, hG, hS, q⟩ p hp => ?_
    obtain ⟨g, l⟩ := hS.new (o := .dK []) hp
    obtain ⟨g2, l2, e2⟩ := g.toCell (c := .dic .k []) upd_same ⟨[], rfl, rfl⟩ (fun z hz => absurd hz List.not_mem_nil) (hS.fresh hp)
    exact q _ _ _ (l.trans l2) g2 ⟨p, e2, rfl⟩
  | t =>
    refine PE.imp pe_dnewT fun σ H Q ⟨G, S, W, hG, hS, q⟩ p hp => ?_
    obtain ⟨g, l⟩ := hS.new (o := .dT []) hp
    obtain ⟨g2, l2, e2⟩ := g.toCell (c := .dic .t []) upd_same ⟨[], rfl, rfl⟩ (fun z hz => absurd hz List.not_mem_nil) (hS.fresh hp)
    exact q _ _ _ (l.trans l2) g2 ⟨p, e2, rfl⟩
  | n =>
    refine PE.imp pe_dnewN fun σ H Q ⟨G, S, W, hG, hS, q⟩ p hp => ?_
    rw [x.tx.tw]
    obtain ⟨g, l⟩ := hS.new (o := hoN TW.w p []) hp
    obtain ⟨g2, l2, e2⟩ := g.toCell (c := .dic .n []) upd_same ⟨p, [], rfl, rfl, rfl⟩ (fun z hz => absurd hz List.not_mem_nil) (hS.fresh hp)
    exact q _ _ _ (l.trans l2) g2 ⟨p, e2, rfl⟩
end
end
end MS

set_option Elab.async false
set_option linter.all false
set_option maxRecDepth 100000
set_option autoImplicit false
/-! MS5: calls. -/
namespace MS
open PySem PySem.Spec PyProof.Rows L2
variable [TW]

/-! ### the layer's rules, what is raised wished for at the caller's slots -/
section
variable {X : L2.Cx} {CX : CXT} {k : Nat} {f Cl : Addr} {fd : FuncData} {ps : List Str} {sp : Sp} {dvs : List V} {ds : List Value} {E : L2.St → XK} {x m : Str} {p pos apos : Pos} {e o : Expr} {es : List Expr} {ta : TE} {t : TA}
theorem pe_callSD0 (F : FnOk X.prog X.w X.K X.mg X.base CX k f fd ps sp) (hr : Room k X.A) (hg : Gl X x) (hm : X.mg x = some (.ref f)) (hk : PySem.W.keepIn X.K (.ref f) = true) (hb : Binds X.K fd ps ds) (hd : Vals dvs ds) (hx : ∀ σ, PassesAt CX X σ (E σ))
    (hdb : (x == ("__debug__" : Str)) = false) : PE X (.Call (.Name x p) [] [] pos) (tCallSD sp dvs E tNil) := by
  refine ⟨fun pins s σ H Q I h => ?_⟩
  refine wpAny_Call_Name_kw (ld_glob I hg hm ?_ hdb)
  exact PySem.W.callWith_K0 I.kIn hk (run_fnSD (us := []) F hr hb hd (hx σ) I .nil h)
def tMethSD (C : Addr) (m : Str) (sp : Sp) (dvs : List V) (E : L2.St → XK) (ta : TE) (t : TA) : TE := fun σ H Q => ta σ H fun x H1 => ∃ a dx fs, x = .ref a ∧ H1 a = some (.ins C dx fs) ∧ fs.lookup m = none ∧
  t σ H1 fun vs H2 => sp (x :: (vs ++ dvs)) H2 Q (E σ)
theorem pe_methSD {pl : Sem Bool} (he : PE X o ta) (c : Cls X.K Cl) (hm : Meth X.K Cl m f) (F : FnOk X.prog X.w X.K X.mg X.base CX k f fd ps sp) (hr : Room k X.A) (hb : Binds X.K fd ps ds) (hd : Vals dvs ds) (hx : ∀ σ, PassesAt CX X σ (E σ)) (ha : PA X (e :: es) t)
    (hst : starEach (e :: es) X.env = (false, eval e X.env) :: starEach es X.env) (hpl : (backTo pos (starEach es X.env)).any (·.1) = false)
    (ht : eval (.Call (.Attribute o m apos) (e :: es) [] pos) X.env = (do
      let ov ← eval o X.env
      standAt apos.atName
      let (f, first) ← holding [ov] (getMethod ov m pl)
      callWith pos f first (backTo pos (starEach (e :: es) X.env)) (backToKw pos (keywordEach [] X.env)))) :
    PE X (.Call (.Attribute o m apos) (e :: es) [] pos) (tMethSD Cl m sp dvs E ta t) := by
  refine ⟨fun pins s σ H Q I h => ?_⟩
  refine PySem.W.methodCall_KW (pl := pl) (thn (he.run pins s σ H _ I h) fun u s1 ⟨x, H1, I1, rx, a, dx, fs, ex, ea, l, q⟩ => ?_) ht
  subst ex
  obtain rfl : u = Value.ref a := rx
  refine getmeth_ok I1 ea c hm l ?_
  refine PySem.W.callWith_K (first := [.ref a]) (h₀ := X.base) I.ok.mod.kin hm.kp (thn (ha.run pos pins s1 σ H1 _ I1 q) fun us s2 ⟨vs, H2, I2, r, q2⟩ => ⟨I2.kIn, ?_⟩) hst hpl
  exact run_fnSD (us := .ref a :: us) (vs := .ref a :: vs) F hr hb hd (hx σ) I2 (.cons rfl r) q2
theorem pe_methSD0 {pl : Sem Bool} (he : PE X o ta) (c : Cls X.K Cl) (hm : Meth X.K Cl m f) (F : FnOk X.prog X.w X.K X.mg X.base CX k f fd ps sp) (hr : Room k X.A) (hb : Binds X.K fd ps ds) (hd : Vals dvs ds) (hx : ∀ σ, PassesAt CX X σ (E σ))
    (ht : eval (.Call (.Attribute o m apos) [] [] pos) X.env = (do
      let ov ← eval o X.env
      standAt apos.atName
      let (f, first) ← holding [ov] (getMethod ov m pl)
      callWith pos f first (backTo pos (starEach [] X.env)) (backToKw pos (keywordEach [] X.env)))) :
    PE X (.Call (.Attribute o m apos) [] [] pos) (tMethSD Cl m sp dvs E ta tNil) := by
  refine ⟨fun pins s σ H Q I h => ?_⟩
  refine PySem.W.methodCall_KW (pl := pl) (thn (he.run pins s σ H _ I h) fun u s1 ⟨x, H1, I1, rx, a, dx, fs, ex, ea, l, q⟩ => ?_) ht
  subst ex
  obtain rfl : u = Value.ref a := rx
  refine getmeth_ok I1 ea c hm l ?_
  exact PySem.W.callWith_K0 (first := [.ref a]) I1.kIn hm.kp (run_fnSD (us := [.ref a]) (vs := [.ref a]) F hr hb hd (hx σ) I1 (.cons rfl .nil) q)
def tMakeSD (C : Addr) (sp : Sp) (dvs : List V) (E : L2.St → XK) (t : TA) : TE := fun σ H Q => t σ H fun vs H1 => ∀ x dx, H1 x = none → H1 dx = none → dx ≠ x →
  sp (.ref x :: (vs ++ dvs)) (upd (upd H1 dx (.own x)) x (.ins C dx [])) (fun v H2 => v = .non ∧ Q (.ref x) H2) (E σ)
theorem run_makeSD {pins : List (Addr × Obj)} {σ : L2.St} {H : Hp} {s : Shared} {Q : VK} {us : List Value} {vs : List V} (M : Mk X.K Cl f) (F : FnOk X.prog X.w X.K X.mg X.base CX k f fd ps sp) (hr : Room (k + 1) X.A) (hb : Binds X.K fd ps ds) (hd : Vals dvs ds)
    (hx : PassesAt CX X σ (E σ)) (I : Inv X pins σ H s) (r : Vals vs us)
    (h : ∀ x dx, H x = none → H dx = none → dx ≠ x → sp (.ref x :: (vs ++ dvs)) (upd (upd H dx (.own x)) x (.ins Cl dx [])) (fun v H2 => v = .non ∧ Q (.ref x) H2) (E σ)) :
    wpAny (model X.prog X.w) X.A (call (.ref Cl) us) (EP X pins σ Q) X.xe s := by
  have hq := h (s.heap.objs.size + 1) s.heap.objs.size (I.hok.fresh (Nat.le_succ _)) (I.hok.fresh (Nat.le_refl _)) (Nat.ne_of_lt (Nat.lt_succ_self _))
  have I2 := Inv.made (C := Cl) I
  have r2 : Vals (V.ref (s.heap.objs.size + 1) :: (vs ++ dvs)) (Value.ref (s.heap.objs.size + 1) :: (us ++ ds)) := .cons rfl (r.append hd)
  have hl : (Value.ref (s.heap.objs.size + 1) :: us ++ ds).length = ps.length := by
    have e := r2.length
    rw [F.len _ _ _ _ hq] at e
    exact e.symm
  refine wpAny_call (make_map (f := f) I.kIn M.makes M.init (beq_iff_eq.mp M.fn) (codeAny_mono (F.run _ X.stack _ _ ⟨Value.ref (s.heap.objs.size + 1) :: us, []⟩ (Value.ref (s.heap.objs.size + 1) :: (us ++ ds)) _ _ (E σ) (hr.make Cl us [])
    (I2.env0.make Cl us []) (hb _ (Value.ref (s.heap.objs.size + 1) :: us) I2.kIn hl) r2 hq) fun r s' hq' => ?_))
  cases r with
  | error e => exact hx pins _ _ e s' I2 hq'
  | ok fl =>
    cases fl with
    | ret u =>
      obtain ⟨v, H', I3, rv, ev, q3⟩ := I2.after hq'
      subst ev
      exact ⟨rv, ⟨V.ref (s.heap.objs.size + 1), H', I3, rfl, q3⟩⟩
    | next => exact False.elim hq'
    | brk => exact False.elim hq'
    | cont => exact False.elim hq'
theorem pe_makeSD (M : Mk X.K Cl f) (F : FnOk X.prog X.w X.K X.mg X.base CX k f fd ps sp) (hr : Room (k + 1) X.A) (hg : Gl X x) (hm : X.mg x = some (.ref Cl)) (hb : Binds X.K fd ps ds) (hd : Vals dvs ds) (hx : ∀ σ, PassesAt CX X σ (E σ))
    (ha : PA X (e :: es) t) (hdb : (x == ("__debug__" : Str)) = false) (he : starEach (e :: es) X.env = (false, eval e X.env) :: starEach es X.env) (hpl : (backTo pos (starEach es X.env)).any (·.1) = false) :
    PE X (.Call (.Name x p) (e :: es) [] pos) (tMakeSD Cl sp dvs E t) := by
  refine ⟨fun pins s σ H Q I h => ?_⟩
  refine wpAny_Call_Name_kw (ld_glob I hg hm ?_ hdb)
  refine PySem.W.callWith_K (h₀ := X.base) I.ok.mod.kin M.kp (thn (ha.run pos pins s σ H _ I h) fun us s1 ⟨vs, H1, I1, r, q⟩ => ⟨I1.kIn, ?_⟩) he hpl
  exact run_makeSD M F hr hb hd (hx σ) I1 r q
theorem pe_makeSD0 (M : Mk X.K Cl f) (F : FnOk X.prog X.w X.K X.mg X.base CX k f fd ps sp) (hr : Room (k + 1) X.A) (hg : Gl X x) (hm : X.mg x = some (.ref Cl)) (hb : Binds X.K fd ps ds) (hd : Vals dvs ds) (hx : ∀ σ, PassesAt CX X σ (E σ))
    (hdb : (x == ("__debug__" : Str)) = false) : PE X (.Call (.Name x p) [] [] pos) (tMakeSD Cl sp dvs E tNil) := by
  refine ⟨fun pins s σ H Q I h => ?_⟩
  refine wpAny_Call_Name_kw (ld_glob I hg hm ?_ hdb)
  exact PySem.W.callWith_K0 I.kIn M.kp (run_makeSD (us := []) M F hr hb hd (hx σ) I .nil h)
def tCallLSD (i : Nat) (f : Addr) (sp : Sp) (dvs : List V) (E : L2.St → XK) (t : TA) : TE := fun σ H Q => σ[i]? = some (some (.ref f)) ∧ t σ H fun vs H1 => sp (vs ++ dvs) H1 Q (E σ)
theorem pe_callLSD {i : Nat} (F : FnOk X.prog X.w X.K X.mg X.base CX k f fd ps sp) (hr : Room k X.A) (hN : X.N[i]? = some x) (hv : Vis X.env.scope x) (hk : PySem.W.keepIn X.K (.ref f) = true) (hb : Binds X.K fd ps ds) (hd : Vals dvs ds) (hx : ∀ σ, PassesAt CX X σ (E σ)) (ha : PA X (e :: es) t)
    (hdb : (x == ("__debug__" : Str)) = false) (hcd : (x == ("__classdict__" : Str)) = false)
    (he : starEach (e :: es) X.env = (false, eval e X.env) :: starEach es X.env) (hpl : (backTo pos (starEach es X.env)).any (·.1) = false) : PE X (.Call (.Name x p) (e :: es) [] pos) (tCallLSD i f sp dvs E t) := by
  refine ⟨fun pins s σ H Q I h => ?_⟩
  obtain ⟨hs, ht⟩ := h
  refine wpAny_Call_Name_kw (thn ((pe_var (pos := p) hN hv hdb hcd).run pins s σ H (fun v H1 => v = .ref f ∧ H1 = H) I ⟨.ref f, hs, rfl, rfl⟩) fun u s1 ⟨v, H1, I1, r1, q1⟩ => ?_)
  obtain ⟨rfl, rfl⟩ := q1
  cases r1
  refine PySem.W.callWith_K (h₀ := X.base) I.ok.mod.kin hk (thn (ha.run pos pins s1 σ _ _ I1 ht) fun us s2 ⟨vs, H2, I2, r, q⟩ => ⟨I2.kIn, ?_⟩) he hpl
  exact run_fnSD F hr hb hd (hx σ) I2 r q
end

section
variable {h : Hd} {k : Nat} {X : L2.Cx} {C : MP.Cx} {P : Post} {sc : Scope}
/-- what a call's wish is here -/
abbrev EW (X : L2.Cx) (C : MP.Cx) (P : Post) : L2.St → XK := WE (WI X.K C P)
theorem XOk.pass (x : XOk h k X C P sc) : ∀ σ, PassesAt (L2.CX X.prog X.w) X σ (EW X C P σ) := fun σ => passAt x.tk σ
theorem XOk.call (x : XOk h k X C P sc) : C.call = MP.run h.P k := congrArg MP.Cx.call x.C
theorem at_some {P : MP.Pg} {c g : String} {d : MP.Df} (e : P.at_ c g = some d) : d ∈ P.defs ∧ d.cls = c ∧ d.name = g := by
  have h1 := List.mem_of_find?_eq_some e
  have h2 := List.find?_some e
  rw [Bool.and_eq_true] at h2
  exact ⟨h1, eq_of_beq h2.1, eq_of_beq h2.2⟩
theorem run_len {P : MP.Pg} {k n0 : Nat} {c g : String} {d : MP.Df} {xs : List MP.Vl} {S : MP.St} (e : P.at_ c g = some d) (hg : g ≠ "") (hn : xs.length ≠ d.n) : MP.run P k n0 c g xs S = .no := by
  cases k with
  | zero => rfl
  | succ k =>
    unfold MP.run
    rw [if_neg hg, e]
    exact if_neg hn
/-- the evaluator's call is the promise -/
theorem spD_of {d : MP.Df} {σ : L2.St} {H : Hp} {W : Wd} {G : MP.Env} {S : MP.St} {c g : String} {xs : List MP.Vl} {vs : List V} {Q : VK} (x : XOk h k X C P sc) (e : h.P.at_ c g = some d) (hg : g ≠ "") (hG : EnvR X.K H W G σ) (hS : Good X.K C.n0 H W S) (r : RepVs X.K H W xs vs)
    (q : wpK X.K C.n0 P H W G (C.call C.n0 c g xs S) (relE X.K) Q) : spD X.K h.P k d vs H Q (EW X C P σ) := by
  obtain ⟨_, ec, eg⟩ := at_some e
  rw [x.call] at q
  by_cases hn : xs.length = d.n
  · refine ⟨C.n0, xs, S, W, hn, r, hS, ?_⟩
    rw [ec, eg]
    cases er : MP.run h.P k C.n0 c g xs S with
    | ok y S' => rw [er] at q; exact q
    | ex y S' =>
      rw [er] at q
      intro cls dd H' W' l g' hx
      exact ⟨y, G, S', W', hx, hG.mono l, g', q H' W' l g'⟩
    | no => rw [er] at q; exact q.elim
  · rw [run_len e hg hn] at q
    exact q.elim
theorem app_nil {sp : Sp} {vs : List V} {H : Hp} {Q : VK} {E : XK} (h : sp vs H Q E) : sp (vs ++ []) H Q E := by
  rw [List.append_nil]
  exact h
section
variable {a : Expr} {es : List Expr} {ea : MP.Ex} {ees : MP.Exs} {p pos apos : Pos}
theorem ie_call {g : String} {d : MP.Df} (x : XOk h k X C P sc) (ha : PA X es (tEs X.K C P ees)) (hz : es = [] → ees = .nil) (hs : es.all nst = true) (e : h.P.at_ "" g = some d) (hg : g ≠ "") (hgl : glob sc (so g) = true) : PE X (.Call (.Name (so g) p) es [] pos) (tE X.K C P (.call g ees)) := by
  obtain ⟨hd, ec, eg⟩ := at_some e
  obtain ⟨fd, ps, F, hb, hk⟩ := x.fns.ok d hd
  obtain ⟨g1, g2, _⟩ := glob_gl x hgl
  have em : X.mg (so g) = some (.ref (dAd X.K d)) := by
    have := x.tx.fn d hd ec
    rw [eg] at this
    unfold dAd
    rw [if_pos ec, eg]
    exact this
  cases es with
  | nil =>
    obtain rfl := hz rfl
    refine PE.imp (pe_callSD0 (E := EW X C P) F x.room g1 em hk hb .nil x.pass g2) fun σ H Q ⟨G, S, W, hG, hS, q⟩ => ?_
    simp only [MP.evE, MP.evEs, MP.ok_bind] at q
    exact spD_of (xs := []) (vs := []) x e hg hG hS rfl q
  | cons b bs =>
    rw [List.all_cons, Bool.and_eq_true] at hs
    refine PE.imp (pe_callSD (E := EW X C P) F x.room g1 em hk hb .nil x.pass ha g2 (nst_star hs.1) (nst_any hs.2)) fun σ H Q ⟨G, S, W, hG, hS, q⟩ => ?_
    simp only [MP.evE] at q
    exact tR.part hG hS q fun xs S1 vs H1 W1 l1 g1 s1 r1 q1 => app_nil (spD_of x e hg g1 s1 r1 q1)
theorem nst_form {env : Env} {pos : Pos} : ∀ {es : List Expr}, es.all nst = true → (backTo pos (starEach es env)).all (fun x => !x.1) = true
  | [], _ => rfl
  | e :: es, h => by
    rw [List.all_cons, Bool.and_eq_true] at h
    rw [nst_star h.1]
    have ih := nst_form (env := env) (pos := pos) h.2
    show (true && (backTo pos (starEach es env)).all (fun x => !x.1)) = true
    rw [ih]
    rfl
theorem eval_meth {o : Expr} {m : Str} {apos pos : Pos} {es : List Expr} {env : Env} (hb : attributeBase o m env (eval o env) = eval o env) (hs : es.all nst = true) (hn : es.length < 20) (hl : (apos.endLine == pos.line) = true) :
    eval (.Call (.Attribute o m apos) es [] pos) env = (do
      let ov ← eval o env
      standAt apos.atName
      let (f, first) ← holding [ov] (getMethod ov m (do return (← importBound o env).getD true))
      callWith pos f first (backTo pos (starEach es env)) (backToKw pos (keywordEach [] env))) := by
  have hf : methodCallForm (es.length + ([] : List Keyword).length) (backTo pos (starEach es env)) (backToKw pos (keywordEach [] env)) = true := by
    unfold methodCallForm
    rw [nst_form hs]
    show (true && true && decide (es.length + 0 + 0 < 30)) = true
    rw [decide_eq_true (by omega)]
    rfl
  show (do
    let ov ← attributeBase o m env (eval o env)
    standAt apos.atName
    methodCall o m apos pos env ov (es.length + ([] : List Keyword).length) (backTo pos (starEach es env)) (backToKw pos (keywordEach [] env))) = _
  rw [hb]
  unfold methodCall calleeOf methodCallPos
  rw [hf, hl]
  rfl
theorem methOk_ins {K : Fg} {H : Hp} {W : Wd} {S : MP.St} {n0 : Nat} {c m : String} {y : MP.Vl} {v : V} (g : Good K n0 H W S) (r : RepV K H W y v) (e : MP.methOk S c m y = true) : ∃ a dx hs, v = .ref a ∧ H a = some (.ins (He.ga K (so c)) dx hs) ∧ hs.lookup (so m) = none := by
  cases y with
  | p i =>
    obtain ⟨a, ea, rfl⟩ := r
    simp only [MP.methOk] at e
    split at e
    · rename_i c' fs hc
      rw [Bool.and_eq_true] at e
      have e1 := of_decide_eq_true e.1
      subst e1
      obtain ⟨dx, hs, e2, fl⟩ := g.cell i _ a hc ea
      have z := fl.look (f := m)
      cases e3 : fs.lookup m with
      | some w => rw [e3] at e; exact absurd e.2 Bool.false_ne_true
      | none =>
        rw [e3] at z
        exact ⟨a, dx, hs, rfl, e2, z⟩
    · exact absurd e Bool.false_ne_true
  | d _ => exact absurd e Bool.false_ne_true
  | f _ => exact absurd e Bool.false_ne_true
  | s _ => exact absurd e Bool.false_ne_true
  | r _ => exact absurd e Bool.false_ne_true
theorem ie_meth {c m : String} {d : MP.Df} (x : XOk h k X C P sc) (ho : PE X a (tE X.K C P ea)) (ha : PA X es (tEs X.K C P ees)) (hz : es = [] → ees = .nil) (hs : es.all nst = true) (e : h.P.at_ c m = some d) (hg : m ≠ "") (hc : c ≠ "") (hcl : c ∈ h.P.cls) (hp : plainO a = true) (hn : es.length < 20) (hl : (apos.endLine == pos.line) = true) :
    PE X (.Call (.Attribute a (so m) apos) es [] pos) (tE X.K C P (.meth ea c m ees)) := by
  obtain ⟨hd, ec, eg⟩ := at_some e
  obtain ⟨fd, ps, F, hb, hk⟩ := x.fns.ok d hd
  obtain ⟨cl, _, _⟩ := x.tx.cls c hcl
  have mt : Meth X.K (He.ga X.K (so c)) (so m) (dAd X.K d) := by
    have := x.tx.mth d hd (by rw [ec]; exact hc)
    rw [ec, eg] at this
    exact this
  cases es with
  | nil =>
    obtain rfl := hz rfl
    · refine PE.imp (pe_methSD0 (E := EW X C P) ho cl mt F x.room hb .nil x.pass (eval_meth (plainO_base hp) rfl (by decide) hl)) fun σ H Q ⟨G, S, W, hG, hS, q⟩ => ?_
      simp only [MP.evE] at q
      refine tR.part hG hS q fun y S1 v H1 W1 l1 g1 s1 r1 q1 => ?_
      split at q1
      · rename_i hm
        obtain ⟨b, dx, hs', rfl, e2, e3⟩ := methOk_ins s1 r1 hm
        refine ⟨b, dx, hs', rfl, e2, e3, ?_⟩
        simp only [MP.evEs, MP.ok_bind] at q1
        exact spD_of (xs := [y]) (vs := [.ref b]) x e hg g1 s1 ⟨_, _, rfl, r1, rfl⟩ q1
      · exact q1.elim
  | cons b bs =>
    rw [List.all_cons, Bool.and_eq_true] at hs
    · refine PE.imp (pe_methSD (E := EW X C P) ho cl mt F x.room hb .nil x.pass ha (nst_star hs.1) (nst_any hs.2) (eval_meth (plainO_base hp) (by rw [List.all_cons, hs.1, hs.2]; rfl) hn hl)) fun σ H Q ⟨G, S, W, hG, hS, q⟩ => ?_
      simp only [MP.evE] at q
      refine tR.part hG hS q fun y S1 v H1 W1 l1 g1 s1 r1 q1 => ?_
      split at q1
      · rename_i hm
        obtain ⟨b, dx, hs', rfl, e2, e3⟩ := methOk_ins s1 r1 hm
        refine ⟨b, dx, hs', rfl, e2, e3, ?_⟩
        exact tR.part g1 s1 q1 fun xs S2 vs H2 W2 l2 g2 s2 r2 q2 => by
          rw [List.append_nil]
          exact spD_of (xs := y :: xs) (vs := .ref b :: vs) x e hg g2 s2 ⟨_, _, rfl, r1.mono l2, r2⟩ q2
      · exact q1.elim
/-- the evaluator's new instance -/
theorem make_of {j : Nat} {d : MP.Df} {σ : L2.St} {H : Hp} {W : Wd} {G : MP.Env} {S : MP.St} {c : String} {xs : List MP.Vl} {vs : List V} {Q : VK} (x : XOk h (j + 1) X C P sc) (e : h.P.at_ c "__init__" = some d) (hG : EnvR X.K H W G σ) (hS : Good X.K C.n0 H W S) (r : RepVs X.K H W xs vs)
    (q : wpK X.K C.n0 P H W G (C.call C.n0 c "" xs S) (relE X.K) Q) (y dx : Addr) (hy : H y = none) (hdx : H dx = none) (ne : dx ≠ y) :
    spD X.K h.P j d (.ref y :: (vs ++ [])) (upd (upd H dx (.own y)) y (.ins (He.ga X.K (so c)) dx [])) (fun v H2 => v = .non ∧ Q (.ref y) H2) (EW X C P σ) := by
  obtain ⟨_, ec, eg⟩ := at_some e
  rw [List.append_nil]
  rw [x.call] at q
  unfold MP.run at q
  rw [if_pos rfl] at q
  split at q
  · obtain ⟨g1, l1⟩ := hS.new (o := .own y) hdx
    have hy1 : upd H dx (.own y) y = none := by rw [upd_ne (Ne.symm ne)]; exact hy
    obtain ⟨g2, l2⟩ := g1.new (o := .ins (He.ga X.K (so c)) dx []) hy1
    obtain ⟨g3, l3, e3⟩ := g2.toCell (c := .ins c []) upd_same ⟨dx, [], rfl, rfl⟩ (fun z hz => absurd hz List.not_mem_nil) (g1.fresh hy1)
    have l := (l1.trans l2).trans l3
    have r3 : RepV X.K (upd (upd H dx (.own y)) y (.ins (He.ga X.K (so c)) dx [])) ⟨W.F, W.mu ++ [y], W.T, W.ns⟩ (.p S.length) (.ref y) := ⟨y, e3, rfl⟩
    by_cases hn : (MP.Vl.p S.length :: xs).length = d.n
    · refine ⟨C.n0, _, _, _, hn, ⟨_, _, rfl, r3, r.mono l⟩, g3, ?_⟩
      rw [ec, eg]
      cases er : MP.run h.P j C.n0 c "__init__" (.p S.length :: xs) (S ++ [.ins c []]) with
      | ok z S' =>
        rw [er] at q
        intro v H' W' l' g' rv
        simp only [MP.ok_bind] at q
        split at q
        · refine ⟨rv, q _ H' W' (l.trans l') g' ?_⟩
          exact r3.mono l'
        · exact q.elim
      | ex z S' =>
        rw [er] at q
        intro cls dd H' W' l' g' hx
        exact ⟨z, G, S', W', hx, hG.mono (l.trans l'), g', q H' W' (l.trans l') g'⟩
      | no => rw [er] at q; exact q.elim
    · rw [run_len e (by decide) hn] at q
      exact q.elim
  · exact q.elim
theorem ie_make {c : String} {d : MP.Df} (x : XOk h k X C P sc) (ha : PA X es (tEs X.K C P ees)) (hz : es = [] → ees = .nil) (hs : es.all nst = true) (e : h.P.at_ c "__init__" = some d) (hc : c ≠ "") (hcl : c ∈ h.P.cls) (hgl : glob sc (so c) = true) :
    PE X (.Call (.Name (so c) p) es [] pos) (tE X.K C P (.make c ees)) := by
  cases k with
  | zero =>
    have e0 : ∀ xs S, C.call C.n0 c "" xs S = .no := fun xs S => by rw [x.call]; rfl
    cases es with
    | nil =>
      obtain rfl := hz rfl
      refine ⟨fun pins s σ H Q I ⟨G, S, W, hG, hS, q⟩ => ?_⟩
      simp only [MP.evE, MP.evEs, MP.ok_bind, e0] at q
      exact q.elim
    | cons b bs =>
      obtain ⟨hd, ec, eg⟩ := at_some e
      obtain ⟨fd, ps, F, hb, hk⟩ := x.fns.ok d hd
      obtain ⟨g1, g2, _⟩ := glob_gl x hgl
      obtain ⟨cl, em, mk⟩ := x.tx.cls c hcl
      rw [List.all_cons, Bool.and_eq_true] at hs
      refine PE.imp (pe_callSD (sp := fun _ _ _ _ => False) (dvs := []) (ds := []) (E := EW X C P) (fd := fd) (ps := ps) ⟨fun _ _ _ _ z => z.elim, fun _ _ _ _ _ _ _ _ _ _ _ _ _ z => z.elim⟩ x.room g1 em mk.kp hb .nil x.pass ha g2 (nst_star hs.1) (nst_any hs.2)) fun σ H Q ⟨G, S, W, hG, hS, q⟩ => ?_
      simp only [MP.evE] at q
      refine tR.part hG hS q fun xs S1 vs H1 W1 l1 g1 s1 r1 q1 => ?_
      rw [e0] at q1
      exact q1.elim
  | succ j =>
    obtain ⟨hd, ec, eg⟩ := at_some e
    obtain ⟨fd, ps, F, hb, hk⟩ := (x.fnp j (Nat.lt_succ_self j)).ok d hd
    obtain ⟨g1, g2, _⟩ := glob_gl x hgl
    obtain ⟨cl, em, mk⟩ := x.tx.cls c hcl
    have ea : dAd X.K d = He.ma X.K (He.ga X.K (so c)) (so "__init__") := by
      unfold dAd
      rw [if_neg (by rw [ec]; exact hc), ec, eg]
    rw [ea] at F
    cases es with
    | nil =>
      obtain rfl := hz rfl
      refine PE.imp (pe_makeSD0 (E := EW X C P) mk F x.room g1 em hb .nil x.pass g2) fun σ H Q ⟨G, S, W, hG, hS, q⟩ => ?_
      simp only [MP.evE, MP.evEs, MP.ok_bind] at q
      intro y dx hy hdx ne
      exact make_of (xs := []) (vs := []) x e hG hS rfl q y dx hy hdx ne
    | cons b bs =>
      rw [List.all_cons, Bool.and_eq_true] at hs
      refine PE.imp (pe_makeSD (E := EW X C P) mk F x.room g1 em hb .nil x.pass ha g2 (nst_star hs.1) (nst_any hs.2)) fun σ H Q ⟨G, S, W, hG, hS, q⟩ => ?_
      simp only [MP.evE] at q
      exact tR.part hG hS q fun xs S1 vs H1 W1 l1 g1 s1 r1 q1 y dx hy hdx ne => make_of x e g1 s1 r1 q1 y dx hy hdx ne
/-- a local name that holds a def -/
theorem ie_callv {i : Nat} {y : Str} (x : XOk h k X C P sc) (ha : PA X es (tEs X.K C P ees)) (hz : es ≠ []) (hs : es.all nst = true) (hN : X.N[i]? = some y) (hv : vis sc y = true) (hd : ∀ d ∈ h.P.defs, d.name ≠ "") :
    PE X (.Call (.Name y p) es [] pos) (tE X.K C P (.callv i ees)) := by
  obtain ⟨v1, v2, v3⟩ := vis_vis x hv
  cases es with
  | nil => exact absurd rfl hz
  | cons b bs =>
    rw [List.all_cons, Bool.and_eq_true] at hs
    refine ⟨fun pins s σ H Q I ⟨G, S, W, hG, hS, q⟩ => ?_⟩
    simp only [MP.evE] at q
    split at q
    · rename_i g eg
      obtain ⟨v, e1, r⟩ := hG.2 i _ eg
      have eh : C.has g = (h.P.at_ "" g).isSome := by rw [congrArg MP.Cx.has x.C]
      rw [eh] at q
      cases e : h.P.at_ "" g with
      | none =>
        rw [e] at q
        exact q.elim
      | some d =>
        rw [e] at q
        obtain ⟨hm, ec, en⟩ := at_some e
        have hg : g ≠ "" := by rw [← en]; exact hd d hm
        obtain ⟨fd, ps, F, hb, hk⟩ := x.fns.ok d hm
        have er : v = .ref (dAd X.K d) := by
          unfold dAd
          rw [if_pos ec, en]
          exact r
        refine (pe_callLSD (E := EW X C P) (i := i) F x.room hN v1 hk hb .nil x.pass ha v2 v3 (nst_star hs.1) (nst_any hs.2)).run pins s σ H Q I ⟨by rw [← er]; exact e1, ?_⟩
        exact tR.part hG hS q fun xs S1 vs H1 W1 l1 g1 s1 r1 q1 => app_nil (spD_of x e hg g1 s1 r1 q1)
    · exact q.elim
theorem mem_look {α : Type} {s : String} {y : α} : ∀ {l : List (String × α)}, l.lookup s = some y → (s, y) ∈ l
  | [], e => by cases e
  | (t, z) :: r, e => by
    rw [List.lookup_cons] at e
    by_cases q : s = t
    · subst q
      simp only [beq_self_eq_true] at e
      cases e
      exact List.mem_cons_self
    · rw [beq_false_of_ne q] at e
      exact List.mem_cons_of_mem _ (mem_look e)
/-! ### fields, written tables -/
theorem ie_attr {c f : String} (x : XOk h k X C P sc) (ho : PE X a (tE X.K C P ea)) (hcl : c ∈ h.P.cls) (hf : (c, f) ∈ h.attrs) (hp : plainO a = true) : PE X (.Attribute a (so f) pos) (tE X.K C P (.attr ea c f)) := by
  refine PE.imp (pe_fld ho (plainO_base hp)) fun σ H Q ⟨G, S, W, hG, hS, q⟩ => ?_
  simp only [MP.evE] at q
  refine tR.part hG hS q fun y S1 v H1 W1 l1 g1 s1 r1 q1 => ?_
  cases y with
  | p i =>
    obtain ⟨b, eb, rfl⟩ := r1
    simp only [MP.attrV] at q1
    split at q1
    · rename_i c' fs hc
      split at q1
      · rename_i ec
        subst ec
        obtain ⟨dx, hs, e2, fl⟩ := s1.cell i _ b hc eb
        have z := fl.look (f := f)
        cases e3 : fs.lookup f with
        | none => rw [e3] at q1; exact q1.elim
        | some w =>
          rw [e3] at z q1
          obtain ⟨u, z1, z2⟩ := z
          exact ⟨b, _, dx, hs, u, rfl, e2, (x.tx.cls _ hcl).1, x.tx.noat _ hf, z1, q1 u H1 W1 .refl s1 z2⟩
      · exact q1.elim
    · exact q1.elim
  | d _ => exact q1.elim
  | f _ => exact q1.elim
  | s _ => exact q1.elim
  | r _ => exact q1.elim
theorem ie_gdix {t : String} {kvs : List (String × String)} (x : XOk h k X C P sc) (ho : PE X a (tE X.K C P ea)) (hm : (t, kvs) ∈ h.tabs) (hgl : glob sc (so t) = true) (hp : plainI a = true) : PE X (.Subscript (.Name (so t) p) a pos) (tE X.K C P (.gdix t ea)) := by
  obtain ⟨g1, g2, _⟩ := glob_gl x hgl
  obtain ⟨em, ev, eg, _⟩ := x.tx.tab _ hm
  refine PE.imp (pe_ix ix_kdict (pe_glob (v := .ref (He.ga X.K (so t))) g1 em rfl g2) ho (plainI_ix hp)) fun σ H Q ⟨G, S, W, hG, hS, q⟩ => ?_
  simp only [MP.evE] at q
  show tE X.K C P ea σ H _
  refine tR.part hG hS q fun y S1 v H1 W1 l1 g1 s1 r1 q1 => ?_
  have egd : C.gd t = some kvs := by rw [congrArg MP.Cx.gd x.C]; exact eg
  cases y with
  | d z =>
    cases z with
    | str s =>
      simp only [MP.gdixV, egd] at q1
      cases el : kvs.lookup s with
      | none => rw [el] at q1; exact q1.elim
      | some g =>
        rw [el] at q1
        cases r1
        refine ⟨He.ga X.K (so t), so s, .ref (He.ga X.K (so g)), rfl, rfl, ev (s, g) (mem_look el), q1 _ H1 W1 .refl s1 rfl⟩
    | _ => exact q1.elim
  | p _ => exact q1.elim
  | f _ => exact q1.elim
  | s _ => exact q1.elim
  | r _ => exact q1.elim

/-! ### built-in functions -/
theorem bltn (x : XOk h k X C P sc) {y : String} (hm : y ∈ h.free) (hgl : glob sc (so y) = true) : Gl X (so y) ∧ X.mg (so y) = none ∧ so y ≠ "__name__" ∧ (so y == ("__debug__" : Str)) = false := by
  obtain ⟨g1, g2, g3⟩ := glob_gl x hgl
  exact ⟨g1, x.tx.free y hm, g3, g2⟩
/-- the reading of a built-in function whose value the evaluator tells -/
def rP (K : Fg) (n0 : Nat) (o : MP.Prim) : List V → Hp → VK → Prop := fun vs H Q => ∃ S W xs, Good K n0 H W S ∧ RepVs K H W xs vs ∧ ∃ d, MP.primV o S xs = some d ∧ ∀ v H' W', Le H W H' W' → Good K n0 H' W' S → RepV K H' W' (.d d) v → Q v H'
theorem CallR.by {f : Value} {r r' : List V → Hp → VK → Prop} (h : CallR X f r) (k : ∀ vs H Q, r' vs H Q → r vs H Q) : CallR X f r' := fun pins s σ H vs us Q I rv q => h pins s σ H vs us Q I rv (k vs H Q q)
theorem one_of {K : Fg} {H : Hp} {W : Wd} {y : MP.Vl} {vs : List V} (r : RepVs K H W [y] vs) : ∃ v, vs = [v] ∧ RepV K H W y v := by
  obtain ⟨v, t, rfl, r1, r2⟩ := r
  cases r2
  exact ⟨v, rfl, r1⟩
theorem two_of {K : Fg} {H : Hp} {W : Wd} {y z : MP.Vl} {vs : List V} (r : RepVs K H W [y, z] vs) : ∃ v u, vs = [v, u] ∧ RepV K H W y v ∧ RepV K H W z u := by
  obtain ⟨v, t, rfl, r1, r2⟩ := r
  obtain ⟨u, t, rfl, r2, r3⟩ := r2
  cases r3
  exact ⟨v, u, rfl, r1, r2⟩
theorem cr_len (hw : X.w = TW.w) : CallR X (.builtin "len") (rP X.K C.n0 .len) := by
  refine CallR.by (CallR.or call_len_seq (CallR.or call_lenD (CallR.or call_len_dT (CallR.or call_len_str call_lenN)))) fun vs H Q ⟨S, W, xs, g, r, d, e, kk⟩ => ?_
  rw [hw]
  simp only [MP.primV] at e
  split at e
  · obtain ⟨v, rfl, rr⟩ := one_of r
    obtain ⟨b, eb, rfl⟩ := id rr
    rename_i i _
    cases hc : S[i]? with
    | none => simp only [hc] at e; cases e
    | some c =>
      have ci := g.cell i _ b hc eb
      cases c with
      | lst ds =>
        simp only [hc] at e
        cases e
        obtain ⟨ws, e2, r2⟩ := ci
        refine .inl ⟨b, ws, rfl, .inl (SqL.of e2), kk _ H W .refl g ?_⟩
        show V.int _ = V.int _
        rw [r2.length]
      | dic kd kvs =>
        simp only [hc] at e
        cases e
        cases kd with
        | k =>
          obtain ⟨ws, e2, r2⟩ := ci
          refine .inr (.inl ⟨b, ws, rfl, e2, kk _ H W .refl g ?_⟩)
          show V.int _ = V.int _
          rw [r2.length]
        | t =>
          obtain ⟨ws, e2, r2⟩ := ci
          refine .inr (.inr (.inl ⟨b, ws, rfl, e2, kk _ H W .refl g ?_⟩))
          show V.int _ = V.int _
          rw [r2.length]
        | n =>
          obtain ⟨b0, zs, e1, kv, ka⟩ := ci
          refine .inr (.inr (.inr (.inr ⟨b, zs, rfl, ⟨b0, e1⟩, kt_of kv ka, kk _ H W .refl g ?_⟩)))
          show V.int _ = V.int _
          have := kv.length
          rw [List.length_map] at this
          rw [this]
      | _ => simp only [hc] at e; cases e
  · obtain ⟨v, rfl, rr⟩ := one_of r
    cases e
    obtain ⟨b, ws, rfl, e2, r2⟩ := rr
    refine .inl ⟨b, ws, rfl, .inl e2.sq, kk _ H W .refl g ?_⟩
    show V.int _ = V.int _
    rw [r2.length]
  · obtain ⟨v, rfl, rr⟩ := one_of r
    cases e
    obtain ⟨b, ws, rfl, e2, r2⟩ := rr
    refine .inl ⟨b, ws, rfl, .inr (SqT.of e2), kk _ H W .refl g ?_⟩
    show V.int _ = V.int _
    rw [r2.length]
  · obtain ⟨v, rfl, rr⟩ := one_of r
    rename_i s _
    split at e
    · rename_i hl
      cases e
      cases rr
      have e1 : (so s).length = s.toList.length := by
        have := congrArg List.length (so_list s)
        rw [List.length_map] at this
        exact this
      refine .inr (.inr (.inr (.inl ⟨so s, rfl, by rw [e1]; exact cap_le hl, kk _ H W .refl g ?_⟩)))
      show V.int _ = V.int _
      rw [e1]
    · cases e
  · cases e
theorem cr_abs : CallR X (.builtin "abs") (rP X.K C.n0 .abs) := by
  refine CallR.by call_abs fun vs H Q ⟨S, W, xs, g, r, d, e, kk⟩ => ?_
  simp only [MP.primV] at e
  split at e
  · obtain ⟨v, rfl, rr⟩ := one_of r
    cases e
    cases rr
    exact ⟨_, rfl, kk _ H W .refl g rfl⟩
  · cases e
theorem cr_int : CallR X (.type "int") (rP X.K C.n0 .int) := by
  refine CallR.by call_int1 fun vs H Q ⟨S, W, xs, g, r, d, e, kk⟩ => ?_
  simp only [MP.primV] at e
  split at e
  · obtain ⟨v, rfl, rr⟩ := one_of r
    cases e
    cases rr
    exact .inl ⟨_, rfl, kk _ H W .refl g rfl⟩
  · obtain ⟨v, rfl, rr⟩ := one_of r
    cases e
    cases rr
    exact .inr ⟨_, rfl, kk _ H W .refl g rfl⟩
  · cases e
theorem cr_min2 (hc : X.calm = true) : CallR X (.builtin "min") (rP X.K C.n0 .min2) := by
  refine CallR.by (call_min2 hc) fun vs H Q ⟨S, W, xs, g, r, d, e, kk⟩ => ?_
  simp only [MP.primV] at e
  split at e
  · obtain ⟨v, u, rfl, r1, r2⟩ := two_of r
    cases e
    cases r1
    cases r2
    exact ⟨_, _, rfl, kk _ H W .refl g rfl⟩
  · cases e
theorem cr_max2 (hc : X.calm = true) : CallR X (.builtin "max") (rP X.K C.n0 .max2) := by
  refine CallR.by (call_max2 hc) fun vs H Q ⟨S, W, xs, g, r, d, e, kk⟩ => ?_
  simp only [MP.primV] at e
  split at e
  · obtain ⟨v, u, rfl, r1, r2⟩ := two_of r
    cases e
    cases r1
    cases r2
    exact ⟨_, _, rfl, kk _ H W .refl g rfl⟩
  · cases e
theorem cr_anyV (hc : X.calm = true) : CallR X (.builtin "any") (rP X.K C.n0 .any) := by
  refine CallR.by (cr_any hc) fun vs H Q ⟨S, W, xs, g, r, d, e, kk⟩ => ?_
  simp only [MP.primV] at e
  split at e
  · obtain ⟨v, rfl, rr⟩ := one_of r
    split at e
    · rename_i ds hd
      simp only [Option.map_eq_some_iff] at e
      obtain ⟨bs, eb, rfl⟩ := e
      obtain ⟨b, ws, rfl, e2, r2⟩ := g.lst rr hd
      have e3 := r2.bools eb
      subst e3
      exact ⟨b, bs, rfl, .inl e2, kk _ H W .refl g rfl⟩
    · cases e
  · cases e
theorem cr_allV (hc : X.calm = true) : CallR X (.builtin "all") (rP X.K C.n0 .all) := by
  refine CallR.by (cr_all hc) fun vs H Q ⟨S, W, xs, g, r, d, e, kk⟩ => ?_
  simp only [MP.primV] at e
  split at e
  · obtain ⟨v, rfl, rr⟩ := one_of r
    split at e
    · rename_i ds hd
      simp only [Option.map_eq_some_iff] at e
      obtain ⟨bs, eb, rfl⟩ := e
      obtain ⟨b, ws, rfl, e2, r2⟩ := g.lst rr hd
      have e3 := r2.bools eb
      subst e3
      exact ⟨b, bs, rfl, .inl e2, kk _ H W .refl g rfl⟩
    · cases e
  · cases e
theorem cr_sumV (hc : X.calm = true) : CallR X (.builtin "sum") (rP X.K C.n0 .sum) := by
  refine CallR.by (cr_sum hc) fun vs H Q ⟨S, W, xs, g, r, d, e, kk⟩ => ?_
  simp only [MP.primV] at e
  split at e
  · obtain ⟨v, rfl, rr⟩ := one_of r
    split at e
    · rename_i ds hd
      simp only [Option.map_eq_some_iff] at e
      obtain ⟨bs, eb, rfl⟩ := e
      obtain ⟨b, ws, rfl, e2, r2⟩ := g.lst rr hd
      have e3 := r2.ints eb
      subst e3
      exact ⟨b, bs, rfl, .inl e2, kk _ H W .refl g rfl⟩
    · cases e
  · cases e
theorem fold_min : ∀ (bs : List Int) (b : Int), (bs.foldl (fun m x => if x < m then x else m) b = b ∨ bs.foldl (fun m x => if x < m then x else m) b ∈ bs) ∧ bs.foldl (fun m x => if x < m then x else m) b ≤ b ∧ ∀ y ∈ bs, bs.foldl (fun m x => if x < m then x else m) b ≤ y
  | [], b => ⟨.inl rfl, Int.le_refl _, fun y h => by cases h⟩
  | x :: bs, b => by
    obtain ⟨h1, h2, h3⟩ := fold_min bs (if x < b then x else b)
    rw [List.foldl_cons]
    generalize bs.foldl (fun m x => if x < m then x else m) (if x < b then x else b) = m at *
    refine ⟨?_, ?_, fun y hy => ?_⟩
    · rcases h1 with h1 | h1
      · by_cases c : x < b
        · rw [if_pos c] at h1
          exact .inr (by rw [h1]; exact List.mem_cons_self)
        · rw [if_neg c] at h1
          exact .inl h1
      · exact .inr (List.mem_cons_of_mem _ h1)
    · split at h2 <;> omega
    · rcases List.mem_cons.mp hy with rfl | hy
      · split at h2 <;> omega
      · exact h3 y hy
theorem fold_max : ∀ (bs : List Int) (b : Int), (bs.foldl (fun m x => if x > m then x else m) b = b ∨ bs.foldl (fun m x => if x > m then x else m) b ∈ bs) ∧ b ≤ bs.foldl (fun m x => if x > m then x else m) b ∧ ∀ y ∈ bs, y ≤ bs.foldl (fun m x => if x > m then x else m) b
  | [], b => ⟨.inl rfl, Int.le_refl _, fun y h => by cases h⟩
  | x :: bs, b => by
    obtain ⟨h1, h2, h3⟩ := fold_max bs (if x > b then x else b)
    rw [List.foldl_cons]
    generalize bs.foldl (fun m x => if x > m then x else m) (if x > b then x else b) = m at *
    refine ⟨?_, ?_, fun y hy => ?_⟩
    · rcases h1 with h1 | h1
      · by_cases c : x > b
        · rw [if_pos c] at h1
          exact .inr (by rw [h1]; exact List.mem_cons_self)
        · rw [if_neg c] at h1
          exact .inl h1
      · exact .inr (List.mem_cons_of_mem _ h1)
    · split at h2 <;> omega
    · rcases List.mem_cons.mp hy with rfl | hy
      · split at h2 <;> omega
      · exact h3 y hy
theorem cr_min1 (hc : X.calm = true) : CallR X (.builtin "min") (rP X.K C.n0 .min1) := by
  refine CallR.by (cr_min hc) fun vs H Q ⟨S, W, xs, g, r, d, e, kk⟩ => ?_
  simp only [MP.primV] at e
  split at e
  · obtain ⟨v, rfl, rr⟩ := one_of r
    split at e
    · rename_i ds hd
      split at e
      · rename_i b bs eb
        cases e
        obtain ⟨q, ws, rfl, e2, r2⟩ := g.lst rr hd
        have e3 := r2.ints eb
        subst e3
        obtain ⟨h1, h2, h3⟩ := fold_min bs b
        refine ⟨q, b :: bs, rfl, .inl e2, by simp, fun m hm hl => ?_⟩
        have : m = bs.foldl (fun m x => if x < m then x else m) b := by
          have l1 : m ≤ bs.foldl (fun m x => if x < m then x else m) b := by
            rcases h1 with h1 | h1
            · rw [h1]; exact hl b List.mem_cons_self
            · exact hl _ (List.mem_cons_of_mem _ h1)
          have l2 : bs.foldl (fun m x => if x < m then x else m) b ≤ m := by
            rcases List.mem_cons.mp hm with rfl | hm
            · exact h2
            · exact h3 m hm
          omega
        rw [this]
        exact kk _ H W .refl g rfl
      · cases e
    · cases e
  · cases e
theorem cr_max1 (hc : X.calm = true) : CallR X (.builtin "max") (rP X.K C.n0 .max1) := by
  refine CallR.by (cr_max hc) fun vs H Q ⟨S, W, xs, g, r, d, e, kk⟩ => ?_
  simp only [MP.primV] at e
  split at e
  · obtain ⟨v, rfl, rr⟩ := one_of r
    split at e
    · rename_i ds hd
      split at e
      · rename_i b bs eb
        cases e
        obtain ⟨q, ws, rfl, e2, r2⟩ := g.lst rr hd
        have e3 := r2.ints eb
        subst e3
        obtain ⟨h1, h2, h3⟩ := fold_max bs b
        refine ⟨q, b :: bs, rfl, .inl e2, by simp, fun m hm hl => ?_⟩
        have : m = bs.foldl (fun m x => if x > m then x else m) b := by
          have l1 : bs.foldl (fun m x => if x > m then x else m) b ≤ m := by
            rcases h1 with h1 | h1
            · rw [h1]; exact hl b List.mem_cons_self
            · exact hl _ (List.mem_cons_of_mem _ h1)
          have l2 : m ≤ bs.foldl (fun m x => if x > m then x else m) b := by
            rcases List.mem_cons.mp hm with rfl | hm
            · exact h2
            · exact h3 m hm
          omega
        rw [this]
        exact kk _ H W .refl g rfl
      · cases e
    · cases e
  · cases e
theorem cr_tuple : CallR X (.type "tuple") (rP X.K C.n0 .tuple) := by
  refine CallR.by call_tuple_of fun vs H Q ⟨S, W, xs, g, r, d, e, kk⟩ => ?_
  simp only [MP.primV] at e
  split at e
  · obtain ⟨v, rfl, rr⟩ := one_of r
    simp only [Option.map_eq_some_iff] at e
    obtain ⟨ds, ed, rfl⟩ := e
    unfold MP.seqOf at ed
    split at ed
    · rename_i es hd
      cases ed
      obtain ⟨b, ws, rfl, e2, r2⟩ := g.lst rr hd
      exact ⟨b, ws, rfl, .inl ⟨.inl e2, fun l hl => newT g hl r2 kk⟩⟩
    · rename_i es hd
      cases ed
      obtain ⟨b, ws, rfl, e2, r2⟩ := g.tup rr hd
      exact ⟨b, ws, rfl, .inr ⟨SqT.of e2, kk _ H W .refl g ⟨b, ws, rfl, e2, r2⟩⟩⟩
    · cases ed
  · cases e
/-- the Python name of a built-in function -/
def pnm : MP.Prim → String
  | .len => "len"
  | .abs => "abs"
  | .int => "int"
  | .tuple => "tuple"
  | .min2 => "min"
  | .max2 => "max"
  | .any => "any"
  | .all => "all"
  | .sum => "sum"
  | .min1 => "min"
  | .max1 => "max"
theorem prim_of {o : MP.Prim} {σ : L2.St} {H : Hp} {Q : VK} (q : tE X.K C P (.prim o ees) σ H Q) : tEs X.K C P ees σ H fun vs H1 => rP X.K C.n0 o vs H1 Q := by
  obtain ⟨G, S, W, hG, hS, q⟩ := q
  simp only [MP.evE] at q
  refine tR.part hG hS q fun xs S1 vs H1 W1 l1 g1 s1 r1 q1 => ?_
  cases e : MP.primV o S1 xs with
  | none => rw [e] at q1; exact q1.elim
  | some d => rw [e] at q1; exact ⟨S1, W1, xs, s1, r1, d, e, q1⟩
theorem ie_prim {o : MP.Prim} (x : XOk h k X C P sc) (ha : PA X es (tEs X.K C P ees)) (hz : es ≠ []) (hs : es.all nst = true) (hm : pnm o ∈ h.free) (hgl : glob sc (so (pnm o)) = true) : PE X (.Call (.Name (so (pnm o)) p) es [] pos) (tE X.K C P (.prim o ees)) := by
  obtain ⟨b1, b2, b3, b4⟩ := bltn x hm hgl
  cases es with
  | nil => exact absurd rfl hz
  | cons b bs =>
    rw [List.all_cons, Bool.and_eq_true] at hs
    have h1 := nst_star (es := bs) (env := X.env) hs.1
    have h2 := nst_any (env := X.env) (pos := pos) hs.2
    have fin : ∀ (σ : L2.St) (H : Hp) (Q : VK), tE X.K C P (.prim o ees) σ H Q → tCB (rP X.K C.n0 o) (tEs X.K C P ees) σ H Q := fun σ H Q q => prim_of q
    cases o with
    | len => exact PE.imp (pe_callB (cr_len x.tx.tw) b1 b2 PySem.boot_len ha b3 b4 h1 h2) fin
    | abs => exact PE.imp (pe_callB cr_abs b1 b2 (by decide +kernel) ha b3 b4 h1 h2) fin
    | int => exact PE.imp (pe_callTy cr_int b1 b2 (by decide +kernel) ha b3 b4 h1 h2) fin
    | tuple => exact PE.imp (pe_callTy cr_tuple b1 b2 (by decide +kernel) ha b3 b4 h1 h2) fin
    | min2 => exact PE.imp (pe_callB (cr_min2 x.calm) b1 b2 (by decide +kernel) ha b3 b4 h1 h2) fin
    | max2 => exact PE.imp (pe_callB (cr_max2 x.calm) b1 b2 (by decide +kernel) ha b3 b4 h1 h2) fin
    | any => exact PE.imp (pe_callB (cr_anyV x.calm) b1 b2 (by decide +kernel) ha b3 b4 h1 h2) fin
    | all => exact PE.imp (pe_callB (cr_allV x.calm) b1 b2 (by decide +kernel) ha b3 b4 h1 h2) fin
    | sum => exact PE.imp (pe_callB (cr_sumV x.calm) b1 b2 (by decide +kernel) ha b3 b4 h1 h2) fin
    | min1 => exact PE.imp (pe_callB (cr_min1 x.calm) b1 b2 (by decide +kernel) ha b3 b4 h1 h2) fin
    | max1 => exact PE.imp (pe_callB (cr_max1 x.calm) b1 b2 (by decide +kernel) ha b3 b4 h1 h2) fin
/-- list(e) -/
theorem il_of (x : XOk h k X C P sc) (ha : PE X a (tE X.K C P ea)) (hs : nst a = true) (hm : "list" ∈ h.free) (hgl : glob sc (so "list") = true) : PE X (.Call (.Name (so "list") p) [a] [] pos) (tL X.K C P (.of ea)) := by
  obtain ⟨b1, b2, b3, b4⟩ := bltn x hm hgl
  refine PE.imp (pe_callTy (CallR.or (CallR.or call_list_of (call_listD x.calm)) (call_listN x.calm)) b1 b2 boot_list (pa_cons ha pa_nil (nst_star hs)) b3 b4 (nst_star hs) rfl) fun σ H Q ⟨G, S, W, hG, hS, q⟩ => ?_
  rw [x.tx.tw]
  simp only [MP.evL] at q
  show tE X.K C P ea σ H _
  refine tR.part hG hS q fun y S1 v H1 W1 l1 g1 s1 r1 q1 => ?_
  have fin : ∀ {us : List V} {ds : List MP.D} (l : Addr), H1 l = none → RepDs H1 W1.F ds us → wpK X.K C.n0 P H1 W1 G (.ok ds S1) relL Q → Q (.ref l) (upd H1 l (.lst us)) := fun {us ds} l hl r q => by
    obtain ⟨g, ll⟩ := s1.new (o := .lst us) hl
    exact q _ _ W1 ll g ⟨l, us, rfl, upd_same, RepDs.mono ll.kp r, s1.fresh hl⟩
  cases y with
  | p i =>
    obtain ⟨b, eb, rfl⟩ := id r1
    cases hc : S1[i]? with
    | none => simp only [hc] at q1; exact q1.elim
    | some c =>
      have ci := s1.cell i _ b hc eb
      cases c with
      | lst ds =>
        simp only [hc] at q1
        obtain ⟨ws, e2, r2⟩ := ci
        exact .inl (.inl ⟨b, ws, rfl, .inl (SqL.of e2), fun l hl => fin l hl r2 q1⟩)
      | dic kd kvs =>
        cases kd with
        | k =>
          simp only [hc] at q1
          obtain ⟨ws, e2, r2⟩ := ci
          exact .inl (.inr ⟨b, ws, rfl, .inl e2, fun l hl => fin l hl r2.keysK q1⟩)
        | t => simp only [hc] at q1; exact q1.elim
        | n =>
          simp only [hc] at q1
          obtain ⟨b0, zs, e1, kv, ka⟩ := ci
          exact .inr ⟨b, zs, rfl, ⟨b0, e1⟩, fun l hl => fin l hl ka q1⟩
      | _ => simp only [hc] at q1; exact q1.elim
  | d z =>
    cases z with
    | lst ds =>
      obtain ⟨b, ws, rfl, e2, r2⟩ := r1
      exact .inl (.inl ⟨b, ws, rfl, .inl e2.sq, fun l hl => fin l hl r2 q1⟩)
    | tup ds =>
      obtain ⟨b, ws, rfl, e2, r2⟩ := r1
      exact .inl (.inl ⟨b, ws, rfl, .inr (SqT.of e2), fun l hl => fin l hl r2 q1⟩)
    | _ => exact q1.elim
  | f _ => exact q1.elim
  | r _ => exact q1.elim
  | s ds =>
    obtain ⟨b, ws, rfl, e2, r2⟩ := r1
    exact .inl (.inl ⟨b, ws, rfl, .inl (e2.elim (fun ⟨o, z⟩ => .inl (.inr ⟨o, z⟩)) .inr), fun l hl => fin l hl r2 q1⟩)
end
end
end MS

set_option Elab.async false
set_option linter.all false
set_option maxRecDepth 100000
set_option autoImplicit false
/-! MS6: isinstance, methods of lists, slices, what is walked, comprehensions. -/
namespace MS
open PySem PySem.Spec PyProof.Rows L2
variable [TW]

def tyN : MP.Ty → String
  | .int => "int"
  | .bool => "bool"
  | .str => "str"
  | .list => "list"
  | .tuple => "tuple"
def tyName (S : MP.St) : MP.Vl → Option String
  | .d .non => some "NoneType"
  | .d (.bl _) => some "bool"
  | .d (.int _) => some "int"
  | .d (.str _) => some "str"
  | .d (.lst _) => some "list"
  | .d (.tup _) => some "tuple"
  | .p i => match S[i]? with
    | some (.lst _) => some "list"
    | _ => none
  | .f _ => none
  | .s _ => none
  | .r _ => none
def kitT : List (String × MP.Ty × Bool) := ["NoneType", "bool", "int", "str", "list", "tuple"].flatMap fun a => [(a, .int, a == "int" || a == "bool"), (a, .bool, a == "bool"), (a, .str, a == "str"), (a, .list, a == "list"), (a, .tuple, a == "tuple")]
theorem kit_all : (kitT.all fun q => decide (kitB q.1 (tyN q.2.1) = some q.2.2)) = true := by decide +kernel
theorem kit_at {a : String} {t : MP.Ty} {b : Bool} (h : (a, t, b) ∈ kitT) : kitB a (tyN t) = some b := of_decide_eq_true (List.all_eq_true.mp kit_all (a, t, b) h)
theorem tyV_kit {S : MP.St} {y : MP.Vl} {t : MP.Ty} {b : Bool} (h : MP.tyV S y t = some b) : ∃ T, tyName S y = some T ∧ kitB T (tyN t) = some b := by
  cases y with
  | d z => cases z <;> cases t <;> simp only [MP.tyV, Option.some.injEq] at h <;> subst h <;> exact ⟨_, rfl, kit_at (by decide)⟩
  | p i =>
    simp only [MP.tyV] at h
    split at h
    · rename_i ds hc
      refine ⟨"list", by simp only [tyName, hc], ?_⟩
      cases t <;> simp only [Option.some.injEq] at h <;> subst h <;> exact kit_at (by decide)
    · cases h
  | f _ => cases h
  | s _ => cases h
  | r _ => cases h
theorem tyName_x {K : Fg} {n0 : Nat} {H : Hp} {W : Wd} {S : MP.St} {y : MP.Vl} {v : V} {T : String} (g : Good K n0 H W S) (r : RepV K H W y v) (h : tyName S y = some T) : TyX K H v (.type T) := by
  cases y with
  | d z =>
    cases z with
    | non => cases r; cases h; exact .base .non
    | bl _ => cases r; cases h; exact .base (.bl _)
    | int _ => cases r; cases h; exact .base (.int _)
    | str _ => cases r; cases h; exact .base (.str _)
    | lst ds =>
      obtain ⟨a, vs, rfl, e, _⟩ := r
      cases h
      exact .base (.lst e.2)
    | tup ds =>
      obtain ⟨a, vs, rfl, e, _⟩ := r
      cases h
      exact .base (.tup e)
  | p i =>
    obtain ⟨a, ea, rfl⟩ := r
    simp only [tyName] at h
    split at h
    · rename_i ds hc
      cases h
      obtain ⟨vs, e, _⟩ := g.cell i _ a hc ea
      exact .base (.lst e)
    · cases h
  | f _ => cases h
  | s _ => cases h
  | r _ => cases h
theorem tysV_kit {K : Fg} {S : MP.St} {y : MP.Vl} {T : String} (hT : tyName S y = some T) : ∀ {ts : List MP.Ty} {b : Bool}, MP.tysV S y ts = some b → PySem.W.kitAny K (.type T) (ts.map fun t => .type (tyN t)) = some b
  | [], b, h => by cases h; exact kitAny_nil
  | t :: ts, b, h => by
    simp only [MP.tysV] at h
    split at h
    · rename_i e
      cases h
      obtain ⟨T', e1, e2⟩ := tyV_kit e
      rw [hT] at e1
      cases e1
      exact kitAny_cons (kit_ty e2) (fun z => by cases z) (fun _ => rfl)
    · rename_i e
      obtain ⟨T', e1, e2⟩ := tyV_kit e
      rw [hT] at e1
      cases e1
      exact kitAny_cons (kit_ty e2) (fun _ => tysV_kit hT h) (fun z => by cases z)
    · cases h
section
variable {h : Hd} {k : Nat} {X : L2.Cx} {C : MP.Cx} {P : Post} {sc : Scope}
section
variable {a b : Expr} {es : List Expr} {ea eb : MP.Ex} {ees : MP.Exs} {p pos apos : Pos}
theorem boot_ty (t : MP.Ty) : bootBuiltins (so (tyN t)) = some (.type (tyN t)) := by
  cases t
  · exact boot_int
  · exact boot_bool
  · exact boot_str
  · exact boot_list
  · exact boot_tuple
theorem pe_ty (x : XOk h k X C P sc) {t : MP.Ty} (hm : tyN t ∈ h.free) (hgl : glob sc (so (tyN t)) = true) : PE X (.Name (so (tyN t)) p) (tC (.ty (tyN t))) := by
  obtain ⟨b1, b2, b3, b4⟩ := bltn x hm hgl
  exact pe_bltn b1 b2 (boot_ty t) rfl b3 b4
/-- the written classes of an isinstance -/
def tysOk (h : Hd) (sc : Scope) : List MP.Ty → List Expr → Bool
  | [], [] => true
  | t :: ts, .Name y _ :: es => decide (y = so (tyN t)) && h.free.contains (tyN t) && glob sc (so (tyN t)) && tysOk h sc ts es
  | _, _ => false
theorem pa_tys (x : XOk h k X C P sc) : ∀ {ts : List MP.Ty} {es : List Expr}, tysOk h sc ts es = true → PA X es (fun _ H Q => Q (ts.map fun t => .ty (tyN t)) H)
  | [], [], _ => pa_nil
  | [], _ :: _, e => by cases e
  | t :: ts, [], e => by cases e
  | t :: ts, c :: es, e => by
    cases c with
    | Name y py =>
      simp only [tysOk, Bool.and_eq_true, decide_eq_true_eq] at e
      obtain ⟨⟨⟨rfl, e1⟩, e2⟩, e3⟩ := e
      exact PA.imp (pa_cons (pe_ty x (by simpa using e1) e2) (pa_tys x e3) rfl) fun σ H Q q => q
    | _ => cases e
theorem paired_ty : ∀ ts : List MP.Ty, Paired ClsV (ts.map fun t => V.ty (tyN t)) (ts.map fun t => Value.type (tyN t))
  | [] => .nil
  | t :: ts => .cons (.ty _) (paired_ty ts)
theorem ie_isin1 {t : MP.Ty} (x : XOk h k X C P sc) (ha : PE X a (tE X.K C P ea)) (hs : nst a = true) (hm : "isinstance" ∈ h.free) (hgl : glob sc (so "isinstance") = true) (e : tysOk h sc [t] [b] = true) :
    PE X (.Call (.Name (so "isinstance") p) [a, b] [] pos) (tE X.K C P (.isin ea [t])) := by
  obtain ⟨b1, b2, b3, b4⟩ := bltn x hm hgl
  have hb : nst b = true := by cases b <;> first | rfl | cases e
  refine PE.imp (pe_callB call_isi b1 b2 PyProof.Rows.boot_isinstance (pa_cons ha (pa_tys x e) (nst_star hs)) b3 b4 (nst_star hs) (nst_any (es := [b]) (by rw [List.all_cons, hb]; rfl))) fun σ H Q ⟨G, S, W, hG, hS, q⟩ => ?_
  simp only [MP.evE] at q
  show tE X.K C P ea σ H _
  refine tR.part hG hS q fun y S1 v H1 W1 l1 g1 s1 r1 q1 => ?_
  cases er : MP.tysV S1 y [t] with
  | none => rw [er] at q1; exact q1.elim
  | some c =>
    rw [er] at q1
    simp only [MP.tysV] at er
    cases et : MP.tyV S1 y t with
    | none => rw [et] at er; cases er
    | some c2 =>
      have ec : c2 = c := by rw [et] at er; cases c2 <;> simpa using er
      subst ec
      obtain ⟨T, e1, e2⟩ := tyV_kit et
      exact ⟨v, .ty (tyN t), .type T, .type (tyN t), c2, rfl, .ty _, tyName_x s1 r1 e1, kit_ty e2, q1 _ H1 W1 .refl s1 rfl⟩
theorem tysV_name {S : MP.St} {y : MP.Vl} {ts : List MP.Ty} {c : Bool} (hne : ts ≠ []) (h : MP.tysV S y ts = some c) : ∃ T, tyName S y = some T := by
  cases ts with
  | nil => exact absurd rfl hne
  | cons t ts =>
    simp only [MP.tysV] at h
    cases et : MP.tyV S y t with
    | none => rw [et] at h; cases h
    | some b => exact ⟨_, (tyV_kit et).choose_spec.1⟩
theorem ie_isin {ts : List MP.Ty} {n : Nat} {tpos : Pos} (x : XOk h k X C P sc) (ha : PE X a (tE X.K C P ea)) (hs : nst a = true) (hm : "isinstance" ∈ h.free) (hgl : glob sc (so "isinstance") = true) (e : tysOk h sc ts es = true) (hne : ts ≠ []) (hl : ts.length < 100) :
    PE X (.Call (.Name (so "isinstance") p) [a, .Tuple es n tpos] [] pos) (tE X.K C P (.isin ea ts)) := by
  obtain ⟨b1, b2, b3, b4⟩ := bltn x hm hgl
  refine PE.imp (pe_callB call_isiT b1 b2 PyProof.Rows.boot_isinstance (pa_cons ha (pa_cons (pe_tup (pa_tys x e)) pa_nil rfl) (nst_star hs)) b3 b4 (nst_star hs) rfl) fun σ H Q ⟨G, S, W, hG, hS, q⟩ => ?_
  simp only [MP.evE] at q
  show tE X.K C P ea σ H _
  refine tR.part hG hS q fun y S1 v H1 W1 l1 g1 s1 r1 q1 => ?_
  refine ⟨by rw [List.length_map]; exact Nat.le_trans (Nat.le_of_lt hl) (by decide), fun tp ht => ?_⟩
  cases er : MP.tysV S1 y ts with
  | none => rw [er] at q1; exact q1.elim
  | some c =>
    rw [er] at q1
    obtain ⟨T, eT⟩ := tysV_name hne er
    obtain ⟨g2, l2⟩ := s1.new (o := .tup (ts.map fun t => V.ty (tyN t))) ht
    exact ⟨v, tp, _, .type T, _, c, rfl, upd_same, paired_ty ts, tyName_x g2 (r1.mono l2) eT, tysV_kit eT er, q1 _ _ W1 l2 g2 rfl⟩

/-! ### methods of lists -/
theorem mt_extendR : MtM X "list.extend" (fun x vs H Q => ∃ l b xs zs, x = .ref l ∧ vs = [.ref b] ∧ H l = some (.lst xs) ∧ Rd H b (.lst zs) ∧ xs.length + zs.length ≤ sizeLine ∧ Q .non (upd H l (.lst (xs ++ zs)))) := by
  intro pins s σ H x vs v us Q I rx rv h
  obtain ⟨l, b, xs, zs, rfl, rfl, hH, hB, hz, q⟩ := h
  cases rx
  obtain ⟨u, rfl, ru⟩ := rv.one
  cases ru
  obtain ⟨z, its, n, r, hl, e⟩ := I.lstM hH
  obtain ⟨z2, its2, n2, r2, hl2, e2⟩ := Inv_lstR I hB
  have hsz : its.toArray.size + its2.toArray.size ≤ sizeLine := by rw [List.size_toArray, List.size_toArray]; omega
  have hlong : ¬ (!its.toArray.isEmpty && Builtin.List.listTooLong (its.toArray.size + its2.toArray.size)) = true := by
    rw [notLongL hsz, Bool.and_false]
    exact Bool.false_ne_true
  refine call_meets PySem.F.slot_list_extend ⟨_, e, rfl⟩ PySem.F.entry_list_extend (PySem.F.args_list_extend_2 _ _)
    (AutoSeq1.list_extend_list_list_0 l its.toArray n b its2.toArray n2 hlong (by rw [List.size_toArray]; omega) (by omega)) ⟨e, e2, ?_⟩
  refine ⟨.non, _, I.lset (its' := its ++ its2) hH e (by simp) (r.append r2) ?_, rfl, q⟩
  rw [List.length_append]
  omega
theorem isLst_ty {K : Fg} {n0 : Nat} {H : Hp} {W : Wd} {S : MP.St} {y : MP.Vl} {v : V} (g : Good K n0 H W S) (r : RepV K H W y v) (e : MP.isLst S y = true) : L2.tyV K "list" v H := by
  cases y with
  | p i =>
    obtain ⟨a, ea, rfl⟩ := r
    simp only [MP.isLst] at e
    split at e
    · rename_i ds hc
      obtain ⟨vs, e2, _⟩ := g.cell i _ a hc ea
      exact .inl ⟨rfl, vs, SqL.of e2⟩
    · cases e
  | d _ => cases e
  | f _ => cases e
  | s _ => cases e
  | r _ => cases e
theorem few1 {e : Expr} {env : Env} {pos : Pos} (hs : nst e = true) : ((backTo pos (starEach [e] env)).all (fun x => !x.1) && (backToKw pos (keywordEach [] env)).all (fun x => x.1.isSome)
      && decide ([e].length + ([] : List Keyword).length + (if ([] : List Keyword).isEmpty then 0 else 1) < 30)) = true := by
  rw [nst_form (es := [e]) (by rw [List.all_cons, hs]; rfl)]
  rfl
theorem bmV_lst {m : MP.BM} {S : MP.St} {y : MP.Vl} {xs : List MP.Vl} {n0 : Nat} {H : Hp} {W : Wd} {G : MP.Env} {Q : VK} (q : wpK X.K n0 P H W G (MP.bmV m S y xs) (relE X.K) Q) : ∃ i ds, y = .p i ∧ S[i]? = some (.lst ds) := by
  cases y with
  | p i =>
    cases hc : S[i]? with
    | none => simp only [MP.bmV, hc] at q; exact q.elim
    | some c =>
      cases c with
      | lst ds => exact ⟨i, ds, rfl, hc⟩
      | _ => simp only [MP.bmV, hc] at q; exact q.elim
  | d _ => exact q.elim
  | f _ => exact q.elim
  | s _ => exact q.elim
  | r _ => exact q.elim
theorem ie_append (ho : PE X a (tE X.K C P ea)) (hb : PE X b (tE X.K C P eb)) (hp : plainO a = true) (hs : nst b = true) (hl : (apos.endLine == pos.line) = true) :
    PE X (.Call (.Attribute a (so "append") apos) [b] [] pos) (tE X.K C P (.bm .append ea (.cons eb .nil))) := by
  refine PE.imp (pe_bm PySem.F.plainAttrs_list PySem.F.slot_list_append PySem.F.type_list_append mt_append ho (ia_cons hb ia_nil hs) (plainO_base hp) (few1 hs) hl (nst_star hs) rfl) fun σ H Q ⟨G, S, W, hG, hS, q⟩ => ?_
  rw [MP.evE] at q
  refine tR.part hG hS q fun y S1 v H1 W1 l1 g1 s1 r1 q1 => ?_
  split at q1
  · rename_i hi
    refine ⟨isLst_ty s1 r1 hi, ?_⟩
    refine tR.part g1 s1 q1 fun xs S2 vs H2 W2 l2 g2 s2 r2 q2 => ?_
    obtain ⟨i, ds, rfl, hc⟩ := bmV_lst q2
    obtain ⟨l, el, rfl⟩ := r1.mono l2
    obtain ⟨ws, e2, r3⟩ := s2.cell i _ l hc el
    simp only [MP.bmV, hc] at q2
    split at q2
    · rename_i w
      split at q2
      · rename_i z
        split at q2
        · rename_i hz
          obtain ⟨u, rfl, ru⟩ := one_of r2
          obtain ⟨g3, l3⟩ := s2.write (c' := .lst (ds ++ [z])) (o := .lst (ws ++ [u])) hc (by simp) el (fun l => ⟨_, rfl, RepDs.mono l.kp (r3.append (RepDs.one ru))⟩) True.intro (fun _ _ _ _ => True.intro)
          exact ⟨l, ws, u, rfl, rfl, e2, by rw [r3.length]; exact cap_lt hz, q2 _ _ W2 l3 g3 rfl⟩
        · exact q2.elim
      · exact q2.elim
    · exact q2.elim
  · exact q1.elim
theorem ie_extend (ho : PE X a (tE X.K C P ea)) (hb : PE X b (tE X.K C P eb)) (hp : plainO a = true) (hs : nst b = true) (hl : (apos.endLine == pos.line) = true) :
    PE X (.Call (.Attribute a (so "extend") apos) [b] [] pos) (tE X.K C P (.bm .extend ea (.cons eb .nil))) := by
  refine PE.imp (pe_bm PySem.F.plainAttrs_list PySem.F.slot_list_extend PySem.F.type_list_extend mt_extendR ho (ia_cons hb ia_nil hs) (plainO_base hp) (few1 hs) hl (nst_star hs) rfl) fun σ H Q ⟨G, S, W, hG, hS, q⟩ => ?_
  rw [MP.evE] at q
  refine tR.part hG hS q fun y S1 v H1 W1 l1 g1 s1 r1 q1 => ?_
  split at q1
  · rename_i hi
    refine ⟨isLst_ty s1 r1 hi, ?_⟩
    refine tR.part g1 s1 q1 fun xs S2 vs H2 W2 l2 g2 s2 r2 q2 => ?_
    obtain ⟨i, ds, rfl, hc⟩ := bmV_lst q2
    obtain ⟨l, el, rfl⟩ := r1.mono l2
    obtain ⟨ws, e2, r3⟩ := s2.cell i _ l hc el
    simp only [MP.bmV, hc] at q2
    split at q2
    · rename_i w
      split at q2
      · rename_i zs hd
        split at q2
        · rename_i hz
          obtain ⟨u, rfl, ru⟩ := one_of r2
          obtain ⟨b, us, rfl, e4, r4⟩ := s2.lst ru hd
          obtain ⟨g3, l3⟩ := s2.write (c' := .lst (ds ++ zs)) (o := .lst (ws ++ us)) hc (by simp) el (fun l => ⟨_, rfl, RepDs.mono l.kp (r3.append r4)⟩) True.intro (fun _ _ _ _ => True.intro)
          exact ⟨l, b, ws, us, rfl, rfl, e2, e4, by rw [r3.length, r4.length]; exact cap_le hz, q2 _ _ W2 l3 g3 rfl⟩
        · exact q2.elim
      · exact q2.elim
    · exact q2.elim
  · exact q1.elim
theorem ie_pop (ho : PE X a (tE X.K C P ea)) (hp : plainO a = true) (hl : (apos.endLine == pos.line) = true) :
    PE X (.Call (.Attribute a (so "pop") apos) [] [] pos) (tE X.K C P (.bm .pop ea .nil)) := by
  refine PE.imp (pe_bm0 PySem.F.plainAttrs_list PySem.F.slot_list_pop PySem.F.type_list_pop mt_pop ho (plainO_base hp) hl) fun σ H Q ⟨G, S, W, hG, hS, q⟩ => ?_
  rw [MP.evE] at q
  refine tR.part hG hS q fun y S1 v H1 W1 l1 g1 s1 r1 q1 => ?_
  split at q1
  · rename_i hi
    refine ⟨isLst_ty s1 r1 hi, ?_⟩
    simp only [MP.evEs, MP.ok_bind] at q1
    obtain ⟨i, ds, rfl, hc⟩ := bmV_lst q1
    obtain ⟨l, el, rfl⟩ := r1
    obtain ⟨ws, e2, r3⟩ := s1.cell i _ l hc el
    simp only [MP.bmV, hc] at q1
    split at q1
    · rename_i z hz
      rw [List.getLast?_eq_getElem?] at hz
      obtain ⟨u, e4, r4⟩ := r3.get hz
      obtain ⟨g3, l3⟩ := s1.write (c' := .lst ds.dropLast) (o := .lst ws.dropLast) hc (by simp) el (fun l => ⟨_, rfl, RepDs.mono l.kp r3.dropLast⟩) True.intro (fun _ _ _ _ => True.intro)
      exact ⟨l, ws, u, rfl, rfl, e2, by rw [r3.length]; exact e4, q1 _ _ W1 l3 g3 (RepD.mono l3.kp r4)⟩
    · exact q1.elim
  · exact q1.elim
theorem frzV_of {n0 : Nat} {H : Hp} {W : Wd} {G : MP.Env} {S : MP.St} {y : MP.Vl} {v : V} {γ δ : Type} {Rel : Hp → Wd → MP.St → γ → δ → Prop} {Q : δ → Hp → Prop} {R : Prop} {f : MP.Vl → MP.St → MP.R γ} (g : Good X.K n0 H W S) (r : RepV X.K H W y v)
    (q : wpK X.K n0 P H W G ((MP.frzV S y).bind f) Rel Q) (kk : ∀ (W2 : Wd) (S2 : MP.St) (z : MP.Vl), Le H W H W2 → Good X.K n0 H W2 S2 → RepV X.K H W2 z v → wpK X.K n0 P H W2 G (f z S2) Rel Q → R) : R := by
  cases y with
  | p i =>
    obtain ⟨a, ea, rfl⟩ := r
    simp only [MP.frzV] at q
    cases hc : S[i]? with
    | none => simp only [hc] at q; exact q.elim
    | some c =>
      cases c with
      | lst ds =>
        simp only [hc, MP.ok_bind] at q
        obtain ⟨vs, e, rr⟩ := g.cell i _ a hc ea
        have hi : i < S.length := (List.getElem?_eq_some_iff.mp hc).1
        have al : Alone W (S.set i .dead) a := by
          refine ⟨g.live i _ a hc (by simp) ea, g.tmu i _ a hc (by simp) ea, fun j c' h1 h2 h3 => ?_⟩
          by_cases ej : j = i
          · subst ej
            rw [List.getElem?_set_self hi] at h1
            cases h1
            exact h2 rfl
          · rw [List.getElem?_set_ne (Ne.symm ej)] at h1
            exact ej (g.inj j i a c' _ h1 h2 hc (by simp) h3 ea)
        obtain ⟨g2, l2⟩ := (g.kill i).toF e al
        exact kk _ _ _ l2 g2 (show RepV X.K H _ (.d (.lst ds)) (.ref a) from ⟨a, vs, rfl, ⟨.inr rfl, e⟩, RepDs.mono l2.kp rr⟩) (wpK.mono q l2)
      | _ => simp only [hc] at q; exact q.elim
  | d _ => exact q.elim
  | f _ => exact q.elim
  | s _ => exact q.elim
  | r _ => exact q.elim
theorem bind_ok {α : Type} (r : MP.R α) : r.bind (fun a S => .ok a S) = r := by cases r <;> rfl
theorem ie_frz (ho : PE X a (tE X.K C P ea)) : PE X a (tE X.K C P (.frz ea)) := by
  refine PE.imp ho fun σ H Q ⟨G, S, W, hG, hS, q⟩ => ?_
  simp only [MP.evE] at q
  refine tR.part hG hS q fun y S1 v H1 W1 l1 g1 s1 r1 q1 => ?_
  rw [← bind_ok (MP.frzV S1 y)] at q1
  exact frzV_of s1 r1 q1 fun W2 S2 z l g r q => q v H1 W2 .refl g r
/-! ### slices -/
theorem cutV_drop (xs : List V) {n : Int} (hn : 0 < n) : cutV xs (some n) none = xs.drop n.toNat := by
  obtain ⟨m, rfl⟩ := Int.eq_ofNat_of_zero_le (Int.le_of_lt hn)
  unfold cutV
  rw [HT.sIx_nat, HT.sIx_none]
  rw [Int.toNat_natCast]
  by_cases h : m ≤ xs.length
  · rw [Nat.min_eq_left h, List.take_of_length_le (by rw [List.length_drop]; omega)]
  · rw [Nat.min_eq_right (by omega), Nat.sub_self, List.take_zero, List.drop_eq_nil_of_le (by omega)]
theorem ie_slF {p2 : Pos} (ho : PE X a (tE X.K C P ea)) (hb : PE X b (tE X.K C P eb)) : PE X (.Subscript a (.Slice (some b) none none p2) pos) (tE X.K C P (.slF ea eb)) := by
  refine PE.imp (pe_slice (sl_list.or sl_tupA) ho (po_some hb) po_none) fun σ H Q ⟨G, S, W, hG, hS, q⟩ => ?_
  simp only [MP.evE] at q
  refine tR.part hG hS q fun y S1 v H1 W1 l1 g1 s1 r1 q1 => ?_
  show tE X.K C P eb σ H1 _
  refine tR.part g1 s1 q1 fun z S2 u H2 W2 l2 g2 s2 r2 q2 => ?_
  cases z with
  | d w =>
    cases w with
    | int n =>
      cases r2
      simp only [MP.slFV] at q2
      by_cases hn : 0 < n
      · rw [if_pos hn] at q2
        refine ⟨n, rfl, ?_⟩
        split at q2
        · rename_i ds hd
          obtain ⟨b, us, rfl, e4, r4⟩ := s2.lst (r1.mono l2) hd
          refine .inl ⟨b, us, rfl, .inl e4, fun t ht => ?_⟩
          rw [cutV_drop us hn]
          exact newF s2 ht (r4.drop _) q2
        · rename_i ds hd
          obtain ⟨b, us, rfl, e4, r4⟩ := s2.tup (r1.mono l2) hd
          split at q2
          · rename_i hz
            refine .inr ⟨b, us, rfl, SqT.of e4, fun z => ?_, fun _ t ht => ?_⟩
            · have hl := r4.length
              obtain ⟨m, rfl⟩ := Int.eq_ofNat_of_zero_le (Int.le_of_lt hn)
              rw [HT.sIx_nat] at z
              omega
            · rw [cutV_drop us hn]
              exact newT s2 ht (r4.drop _) q2
          · exact q2.elim
        · exact q2.elim
      · rw [if_neg hn] at q2
        exact q2.elim
    | _ => exact q2.elim
  | p _ => exact q2.elim
  | f _ => exact q2.elim
  | s _ => exact q2.elim
  | r _ => exact q2.elim
theorem cutV_take (xs : List V) {n : Int} (hn : 0 ≤ n) : cutV xs none (some n) = xs.take n.toNat := by
  obtain ⟨m, rfl⟩ := Int.eq_ofNat_of_zero_le hn
  unfold cutV
  rw [HT.sIx_nat, HT.sIx_none, Int.toNat_natCast, List.drop_zero, Nat.sub_zero]
  by_cases h : m ≤ xs.length
  · rw [Nat.min_eq_left h]
  · rw [Nat.min_eq_right (by omega), List.take_length, List.take_of_length_le (by omega)]
theorem str_of_cps {x y : Str} (h : x.cps.toList = y.cps.toList) : x = y := by
  cases x
  cases y
  congr 1
  exact Array.toList_inj.mp h
theorem cutS_take (s : String) {n : Int} (hn : 0 ≤ n) : cutS (so s) none (some n) = so (String.ofList (s.toList.take n.toNat)) := by
  obtain ⟨m, rfl⟩ := Int.eq_ofNat_of_zero_le hn
  apply str_of_cps
  rw [so_list]
  unfold cutS
  have e1 : (so s).length = s.toList.length := by
    have := congrArg List.length (so_list s)
    rw [List.length_map] at this
    exact this
  simp only [HT.sIx_none, HT.sIx_nat, e1, so_list, List.drop_zero, Nat.sub_zero, Int.toNat_natCast, String.toList_ofList, List.map_take]
  by_cases h : m ≤ s.toList.length
  · rw [Nat.min_eq_left h]
  · rw [Nat.min_eq_right (by omega), List.take_of_length_le (by simp), List.take_of_length_le (by simp; omega)]
theorem ie_slT {p2 : Pos} (ho : PE X a (tE X.K C P ea)) (hb : PE X b (tE X.K C P eb)) : PE X (.Subscript a (.Slice none (some b) none p2) pos) (tE X.K C P (.slT ea eb)) := by
  refine PE.imp (pe_slice (sl_list.or sl_str) ho po_none (po_some hb)) fun σ H Q ⟨G, S, W, hG, hS, q⟩ => ?_
  simp only [MP.evE] at q
  refine tR.part hG hS q fun y S1 v H1 W1 l1 g1 s1 r1 q1 => ?_
  show tE X.K C P eb σ H1 _
  refine tR.part g1 s1 q1 fun z S2 u H2 W2 l2 g2 s2 r2 q2 => ?_
  cases z with
  | d w =>
    cases w with
    | int n =>
      cases r2
      simp only [MP.slTV] at q2
      by_cases hn : 0 ≤ n
      · rw [if_pos hn] at q2
        refine ⟨n, rfl, ?_⟩
        split at q2
        · rename_i ds hd
          obtain ⟨b, us, rfl, e4, r4⟩ := s2.lst (r1.mono l2) hd
          refine .inl ⟨b, us, rfl, .inl e4, fun t ht => ?_⟩
          rw [cutV_take us hn]
          exact newF s2 ht (RepDs.take _ r4) q2
        · rename_i s hd
          have ey : y = .d (.str s) := by
            cases y with
            | d w => cases hd; rfl
            | p i =>
              simp only [MP.dat] at hd
              split at hd <;> cases hd
            | f _ => cases hd
            | s _ => cases hd
            | r _ => cases hd
          subst ey
          cases r1
          split at q2
          · rename_i hl
            have e1 : (so s).length = s.toList.length := by
              have := congrArg List.length (so_list s)
              rw [List.length_map] at this
              exact this
            refine .inr ⟨so s, rfl, by rw [e1]; exact cap_le hl, ?_⟩
            rw [cutS_take s hn]
            exact q2 _ H2 W2 .refl s2 rfl
          · exact q2.elim
        · exact q2.elim
      · rw [if_neg hn] at q2
        exact q2.elim
    | _ => exact q2.elim
  | p _ => exact q2.elim
  | f _ => exact q2.elim
  | s _ => exact q2.elim
  | r _ => exact q2.elim
theorem isLd_ty {K : Fg} {n0 : Nat} {H : Hp} {W : Wd} {S : MP.St} {y : MP.Vl} {v : V} (g : Good K n0 H W S) (r : RepV K H W y v) (e : MP.isLd S y = true) : L2.tyV K "list" v H := by
  unfold MP.isLd at e
  split at e
  · rename_i ds hd
    obtain ⟨b, us, rfl, e4, r4⟩ := g.lst r hd
    exact .inl ⟨rfl, us, .inl e4⟩
  · cases e
theorem ie_index (x : XOk h k X C P sc) (ho : PE X a (tE X.K C P ea)) (hb : PE X b (tE X.K C P eb)) (hp : plainO a = true) (hs : nst b = true) (hl : (apos.endLine == pos.line) = true) :
    PE X (.Call (.Attribute a (so "index") apos) [b] [] pos) (tE X.K C P (.index ea eb)) := by
  refine PE.imp (pe_bm PySem.F.plainAttrs_list PySem.F.slot_list_index PySem.F.type_list_index (mt_indexD x.hu) ho (ia_cons hb ia_nil hs) (plainO_base hp) (few1 hs) hl (nst_star hs) rfl) fun σ H Q ⟨G, S, W, hG, hS, q⟩ => ?_
  rw [MP.evE] at q
  refine tR.part hG hS q fun y S1 v H1 W1 l1 g1 s1 r1 q1 => ?_
  split at q1
  · rename_i hi
    refine ⟨isLd_ty s1 r1 hi, ?_⟩
    show tEs X.K C P (.cons eb .nil) σ H1 _
    have q1' : wpK X.K C.n0 P H1 W1 G ((MP.evEs C (.cons eb .nil) G S1).bind fun vs S => match vs with
      | [z] => MP.R.of ((MP.indexV S y z).map .d) S
      | _ => .no) (relE X.K) Q := by
      simp only [MP.evEs]
      cases er : MP.evE C eb G S1 with
      | ok z S' => rw [er] at q1; exact q1
      | ex z S' => rw [er] at q1; exact q1
      | no => rw [er] at q1; exact q1
    refine tR.part g1 s1 q1' fun zs S2 us H2 W2 l2 g2 s2 r2 q2 => ?_
    split at q2
    · rename_i z
      obtain ⟨u, rfl, ru⟩ := one_of r2
      unfold MP.indexV at q2
      split at q2
      · rename_i ds hd
        split at q2
        · rename_i z
          split at q2
          · rename_i hz
            cases ef : ds.findIdx? (fun w => MP.D.eq w z) with
            | none => rw [ef] at q2; exact q2.elim
            | some j =>
              rw [ef] at q2
              obtain ⟨p, ws, ev, e4, r4⟩ := s2.lst (r1.mono l2) hd
              have hD := s2.dat (r1.mono l2) hd
              rw [ev] at hD
              obtain ⟨hj, hj1, hj2⟩ := List.findIdx?_eq_some_iff_getElem.mp ef
              simp only [pd] at hD
              refine ⟨p, u, pd z, pds ds, j, pd (ds[j]'hj), ev, rfl, hD, s2.dat ru rfl, pds_shaped hz.2, pd_shaped hz.1, pds_get (List.getElem?_eq_getElem hj), by rw [pd_eq]; exact hj1, fun m z' hm hz' => ?_, q2 _ H2 W2 .refl s2 rfl⟩
              have hml : m < ds.length := by omega
              rw [pds_get (List.getElem?_eq_getElem hml)] at hz'
              cases hz'
              rw [pd_eq]
              have := hj2 m hm
              simpa using this
          · exact q2.elim
        · exact q2.elim
      · exact q2.elim
    · exact q2.elim
  · exact q1.elim
/-! ### written dicts of ints -/
/-- a written int: a constant, a global name -/
def ckI0 (h : Hd) (sc : Scope) (q : Option String × Int) : Expr → Bool
  | .Constant (.int j) _ _ => decide (q = (none, j))
  | .Name y _ => (match q.1 with
    | some g => decide (y = so g) && decide ((g, q.2) ∈ h.gis) && glob sc (so g)
    | none => false)
  | _ => false
def ckKV (h : Hd) (sc : Scope) : List ((Option String × Int) × (Option String × Int)) → List (Option Expr) → List Expr → Bool
  | [], [], [] => true
  | q :: qs, some a :: ks, b :: vs => ckI0 h sc q.1 a && ckI0 h sc q.2 b && ckKV h sc qs ks vs
  | _, _, _ => false
theorem pe_i0 (x : XOk h k X C P sc) {q : Option String × Int} {e : Expr} (hc : ckI0 h sc q e = true) : PE X e (tC (.int q.2)) := by
  unfold ckI0 at hc
  split at hc
  · have := of_decide_eq_true hc
    subst this
    exact pe_int
  · split at hc
    · rename_i g eg
      simp only [Bool.and_eq_true, decide_eq_true_eq] at hc
      obtain ⟨⟨rfl, h1⟩, h2⟩ := hc
      obtain ⟨g1, g2, _⟩ := glob_gl x h2
      obtain ⟨t, e⟩ := x.tx.gis _ h1
      exact pe_glob (v := .int q.2) g1 e ⟨t, rfl⟩ g2
    · cases hc
  · cases hc
theorem pps_kv (x : XOk h k X C P sc) : ∀ {qs : List ((Option String × Int) × (Option String × Int))} {ks : List (Option Expr)} {vs : List Expr}, ckKV h sc qs ks vs = true → PPs X pos ks vs (qs.map fun q => (tC (.int q.1.2), tC (.int q.2.2))) ∧ ks.all (·.isSome) = true ∧ ks.length = vs.length ∧ ks.length = qs.length
  | [], [], [], _ => ⟨pps_nil, rfl, rfl, rfl⟩
  | q :: qs, some a :: ks, b :: vs, hc => by
    simp only [ckKV, Bool.and_eq_true] at hc
    obtain ⟨h1, h2, h3, h4⟩ := pps_kv x hc.2
    exact ⟨pps_cons (pe_i0 x hc.1.1) (pe_i0 x hc.1.2) h1, by rw [List.all_cons, h2]; rfl, by simp [h3], by simp [h4]⟩
  | [], [], _ :: _, hc => by cases hc
  | [], _ :: _, _, hc => by cases hc
  | _ :: _, [], _, hc => by cases hc
  | _ :: _, none :: _, _, hc => by cases hc
  | _ :: _, some _ :: _, [], hc => by cases hc
theorem pairs_kv {σ : L2.St} {H : Hp} : ∀ {qs : List ((Option String × Int) × (Option String × Int))} {Q : List (V × V) → Hp → Prop}, Q (qs.map fun q => (V.int q.1.2, V.int q.2.2)) H → tPairs (qs.map fun q => (tC (.int q.1.2), tC (.int q.2.2))) σ H Q
  | [], _, h => h
  | q :: qs, Q, h => pairs_kv (qs := qs) (Q := fun ps H3 => Q ((V.int q.1.2, V.int q.2.2) :: ps) H3) h
theorem kvs_all {K : Fg} {H : Hp} {W : Wd} : ∀ (qs : List ((Option String × Int) × (Option String × Int))) (m : List (MP.D × MP.Vl)) (ks : List (Key × V)), Kvs keyV K H W m ks → Kvs keyV K H W (qs.foldl (fun m q => MP.put m (.int q.1.2) (.d (.int q.2.2))) m) (mergeK ks (qs.map fun q => ((.inl q.1.2 : Key), V.int q.2.2)))
  | [], _, _, h => h
  | q :: qs, m, ks, h => kvs_all qs _ _ (h.put keyV_apart (d := .int q.1.2) (k := .inl q.1.2) rfl (x := .d (.int q.2.2)) (u := .int q.2.2) rfl)
theorem put_bel {n : Nat} : ∀ (qs : List ((Option String × Int) × (Option String × Int))) (m : List (MP.D × MP.Vl)), (∀ q ∈ m, MP.belowV n (some q.2) = true) → ∀ q ∈ qs.foldl (fun m q => MP.put m (.int q.1.2) (.d (.int q.2.2))) m, MP.belowV n (some q.2) = true
  | [], _, h => h
  | r :: qs, m, h => put_bel qs _ fun q hq => by
    have hq : q ∈ MP.put m (.int r.1.2) (.d (.int r.2.2)) := hq
    unfold MP.put at hq
    split at hq
    · obtain ⟨z, hz, e⟩ := List.mem_map.mp hq
      split at e
      · rw [← e]; rfl
      · rw [← e]; exact h z hz
    · rcases List.mem_append.mp hq with hq | hq
      · exact h q hq
      · rw [List.mem_singleton.mp hq]; rfl
theorem ie_ddis (x : XOk h k X C P sc) {qs : List ((Option String × Int) × (Option String × Int))} {ks : List (Option Expr)} {vs : List Expr} (hc : ckKV h sc qs ks vs = true) (h0 : qs ≠ []) (h15 : qs.length ≤ 15) : PE X (.Dict ks vs pos) (tE X.K C P (.ddis qs)) := by
  obtain ⟨h1, h2, h3, h4⟩ := pps_kv (pos := pos) x hc
  refine PE.imp (pe_disp h1 h2 h3 (fun z => h0 (by rw [z] at h4; exact List.length_eq_zero_iff.mp h4.symm)) (by omega)) fun σ H Q ⟨G, S, W, hG, hS, q⟩ p hp => pairs_kv ⟨upd_same, qs.map fun q => ((.inl q.1.2 : Key), V.int q.2.2), by rw [List.map_map]; rfl, by rw [List.length_map]; exact h15, ?_⟩
  simp only [MP.evE] at q
  have e : upd (upd H p (.dK [])) p (.dK (mergeK [] (qs.map fun q => ((.inl q.1.2 : Key), V.int q.2.2)))) = upd H p (.dK (mergeK [] (qs.map fun q => ((.inl q.1.2 : Key), V.int q.2.2)))) := by
    funext z
    by_cases hz : z = p
    · subst hz; rw [upd_same, upd_same]
    · rw [upd_ne hz, upd_ne hz, upd_ne hz]
  rw [e]
  obtain ⟨g, l⟩ := hS.new (o := .dK (mergeK [] (qs.map fun q => ((.inl q.1.2 : Key), V.int q.2.2)))) hp
  obtain ⟨g2, l2, e2⟩ := g.toCell (c := .dic .k (MP.putAll qs)) upd_same ⟨_, rfl, kvs_all qs [] [] rfl⟩ (put_bel qs [] fun z hz => absurd hz List.not_mem_nil) (hS.fresh hp)
  exact q _ _ _ (l.trans l2) g2 ⟨p, e2, rfl⟩
end
end
end MS

set_option Elab.async false
set_option linter.all false
set_option maxRecDepth 100000
set_option autoImplicit false
/-! MS7: what is walked, targets, comprehensions. -/
namespace MS
open PySem PySem.Spec PyProof.Rows L2
variable [TW]

/-! ### an object that stands alone changes -/
section
variable {K : Fg} {H : Hp} {W : Wd} {n0 : Nat} {S : MP.St}
theorem le_alter {p : Addr} {vs : List V} {o : HO} (hp : H p = some (.lst vs)) (nF : ¬ W.F p) (nT : ¬ W.T p) : Le H W (upd H p o) W := by
  refine ⟨⟨fun _ h => h, fun a o' f e => by rw [upd_ne (fun z => by rw [z] at f; exact nF f)]; exact e, fun a xs e => ?_, fun a ob u e => ?_⟩, fun _ _ h => h, fun _ h => h, fun a o' t e => by rw [upd_ne (fun z => by rw [z] at t; exact nT t)]; exact e, fun _ h => h⟩
  · rw [upd_ne (fun z => by rw [z, hp] at e; cases e)]; exact e
  · rw [upd_ne (fun z => by rw [z, hp] at e; cases e)]; exact e
theorem Good.alter (g : Good K n0 H W S) {p : Addr} {vs us : List V} (hp : H p = some (.lst vs)) (al : Alone W S p) : Good K n0 (upd H p (.lst us)) W S := by
  have l : Le H W (upd H p (.lst us)) W := le_alter hp al.f al.t
  refine ⟨g.len, g.le0, fun i c a h1 h2 => ?_, g.live, g.inj, fun a h => ?_, fun a h => ⟨?_, (g.tobj a h).2⟩, g.tmu, g.cl, g.nle, g.cl0⟩
  · by_cases hd : c = .dead
    · subst hd
      exact True.intro
    · have ne : a ≠ p := fun z => by rw [z] at h2; exact al.m i c h1 hd h2
      rw [upd_ne ne]
      exact (g.cell i c a h1 h2).mono l
  · obtain ⟨ws, e⟩ := g.fobj a h
    exact ⟨ws, by rw [upd_ne (fun z => by rw [z] at h; exact al.f h)]; exact e⟩
  · obtain ⟨⟨u, e⟩, _⟩ := g.tobj a h
    exact ⟨u, by rw [upd_ne (fun z => by rw [z] at h; exact al.t h)]; exact e⟩
/-- .. one that is left alone by all others -/
theorem Good.poke (g : Good K n0 H W S) {p : Addr} {vs us : List V} (hp : H p = some (.lst vs)) (hT : W.T p) : Good K n0 (upd H p (.lst us)) W S := by
  have g1 := g.less (T := fun a => W.T a ∧ a ≠ p) (fun a q => q.1)
  have al : Alone ⟨W.F, W.mu, fun a => W.T a ∧ a ≠ p, W.ns⟩ S p := ⟨(g.tobj p hT).2, fun q => q.2 rfl, fun i c h1 h2 h3 => g.tmu i c p h1 h2 h3 hT⟩
  have g2 := g1.alter (us := us) hp al
  have g3 := g2.more (p := p) upd_same al
  refine g3.less fun a q => ?_
  by_cases e : a = p
  · exact .inr e
  · exact .inl ⟨q, e⟩
theorem keep_poke {p : Addr} {vs us : List V} (hp : H p = some (.lst vs)) (nF : ¬ W.F p) : Keep W.F W.F H (upd H p (.lst us)) :=
  (le_alter (W := ⟨W.F, W.mu, fun _ => False, W.ns⟩) hp nF (fun z => z)).kp
theorem Le.poke {H1 : Hp} {W1 : Wd} {p : Addr} {o : HO} (l : Le H1 W1 H W) (hp : H1 p = none) : Le H1 W1 (upd H p o) W :=
  ⟨⟨l.kp.fz, fun a o' f e => by rw [upd_ne (ne_of_none e hp)]; exact l.kp.hf a o' f e, fun a xs e => by rw [upd_ne (ne_of_none e hp)]; exact l.kp.tp a xs e, fun a ob u e => by rw [upd_ne (ne_of_none e hp)]; exact l.kp.fr a ob u e⟩,
    l.mu, l.tt, fun a o' t e => by rw [upd_ne (ne_of_none e hp)]; exact l.ht a o' t e, l.nn⟩
end

/-! ### what is walked -/
/-- J gives the items ds, one after another, whatever else happens -/
def Walks (K : Fg) (n0 : Nat) (J : It) (ds : List MP.D) (H : Hp) (W : Wd) : Prop := ∀ (H1 : Hp) (W1 : Wd), Le H W H1 W1 → (∀ i, ds.length ≤ i → J.stop i H1) ∧ (∀ i, i < ds.length → J.go i H1) ∧
  ∀ (i : Nat) (x : V) (H2 : Hp), i < ds.length → J.yld i H1 x H2 → ∀ S, Good K n0 H1 W1 S → ∃ d, ds[i]? = some d ∧ Le H1 W1 H2 W1 ∧ Good K n0 H2 W1 S ∧ RepD H2 W1.F d x
abbrev relI (K : Fg) (n0 : Nat) : Hp → Wd → MP.St → List MP.D → It → Prop := fun H W _ ds J => Walks K n0 J ds H W
abbrev tI (K : Fg) (C : MP.Cx) (P : Post) (e : MP.It) : TI := tR K C P (MP.evI C e) (relI K C.n0)
theorem PI.imp {X : L2.Cx} {tg e : Expr} {t t' : TI} (h : PI X tg e t) (k : ∀ σ H R, t' σ H R → t σ H R) : PI X tg e t' := ⟨fun pins s σ H R I q => h.run pins s σ H R I (k σ H R q)⟩
def iSeq (K : Fg) (tl : TE) : TI := fun σ H R => tl σ H fun x H1 => ∃ a, x = .ref a ∧ ((∃ xs, SqL K H1 a xs ∧ R (Itl K a) H1) ∨ ∃ xs, SqT K H1 a xs ∧ R (Itt K a) H1)
theorem pi_seq {X : L2.Cx} {tg l : Expr} {tl : TE} (hl : PE X l tl) : PI X tg l (iSeq X.K tl) := by
  refine ⟨fun pins s σ H R I h => ?_⟩
  refine thn (hl.run pins s σ H _ I h) fun v s1 ⟨x, H1, I1, r1, q1⟩ => ?_
  obtain ⟨a, e, q1⟩ := q1
  subst e
  cases r1
  rcases q1 with ⟨xs, hq, q⟩ | ⟨xs, hq, q⟩
  · obtain ⟨its, rv, p, hz⟩ := I1.list hq
    refine wpAny_pyIter_list p.isList ?_
    refine ⟨s1.heap.objs.size, [s1.heap.objs.size], _, _, H1, rfl, I1.kept (t' := s1.toks) fun b o e => Heap.get?_push_of_some _ e, turn_list a _, ⟨_, Heap.get?_push_size _ rfl, rfl, rfl⟩, fun b hb => ?_, q⟩
    have e : b = s1.heap.objs.size := by simpa using hb
    subst e
    exact I1.fpOk (Nat.le_refl _) (I1.hok.fresh (Nat.le_refl _))
  · obtain ⟨its, rv, p, hz⟩ := I1.tuple hq
    refine wpAny_pyIter_tuple (show s1.heap.IsTuple a its.toArray from p) ?_
    refine ⟨s1.heap.objs.size, [s1.heap.objs.size], _, _, H1, rfl, I1.kept (t' := s1.toks) fun b o e => Heap.get?_push_of_some _ e, turn_tuple a _, ⟨_, Heap.get?_push_size _ rfl, rfl, rfl⟩, fun b hb => ?_, q⟩
    have e : b = s1.heap.objs.size := by simpa using hb
    subst e
    exact I1.fpOk (Nat.le_refl _) (I1.hok.fresh (Nat.le_refl _))
section
variable {K : Fg} {n0 : Nat} {H : Hp} {W : Wd}
theorem walks_l {a : Addr} {vs : List V} {ds : List MP.D} (h : LstAt H W.F a vs) (r : RepDs H W.F ds vs) : Walks K n0 (Itl K a) ds H W := by
  intro H1 W1 l
  have e : SqL K H1 a vs := (h.mono l.kp).sq
  refine ⟨fun i hi => ⟨vs, e, by rw [r.length]; exact hi⟩, fun i hi => ?_, fun i x H2 hi y S g => ?_⟩
  · obtain ⟨v, q, _⟩ := r.get (i := i) (List.getElem?_eq_getElem hi)
    exact ⟨vs, v, e, q⟩
  · obtain ⟨rfl, y⟩ := y
    obtain ⟨d, q1, q2⟩ := r.getR (y vs e)
    exact ⟨d, q1, .refl, g, RepD.mono l.kp q2⟩
theorem walks_t {a : Addr} {vs : List V} {ds : List MP.D} (h : H a = some (.tup vs)) (r : RepDs H W.F ds vs) : Walks K n0 (Itt K a) ds H W := by
  intro H1 W1 l
  have e : SqT K H1 a vs := SqT.of (l.kp.tp _ _ h)
  refine ⟨fun i hi => ⟨vs, e, by rw [r.length]; exact hi⟩, fun i hi => ?_, fun i x H2 hi y S g => ?_⟩
  · obtain ⟨v, q, _⟩ := r.get (i := i) (List.getElem?_eq_getElem hi)
    exact ⟨vs, v, e, q⟩
  · obtain ⟨rfl, y⟩ := y
    obtain ⟨d, q1, q2⟩ := r.getR (y vs e)
    exact ⟨d, q1, .refl, g, RepD.mono l.kp q2⟩
theorem walks_r {n : Nat} : Walks K n0 (Itr 0 n) ((List.range n).map fun (i : Nat) => MP.D.int (i : Int)) H W := by
  intro H1 W1 l
  refine ⟨fun i hi => (show n ≤ i by simpa using hi), fun i hi => (show i < n by simpa using hi), fun i x H2 hi y S g => ?_⟩
  obtain ⟨rfl, rfl⟩ := y
  have hi : i < n := by simpa using hi
  refine ⟨.int (i : Int), by simp [hi], .refl, g, ?_⟩
  show V.int (0 + (i : Int)) = V.int (i : Int)
  rw [Int.zero_add]
end
section
variable {h : Hd} {k : Nat} {X : L2.Cx} {C : MP.Cx} {P : Post} {sc : Scope} {a tg : Expr} {ea : MP.Ex} {p pos : Pos}
theorem ii_seq (ha : PE X a (tE X.K C P ea)) : PI X tg a (tI X.K C P (.seq ea)) := by
  refine PI.imp (pi_seq ha) fun σ H R ⟨G, S, W, hG, hS, q⟩ => ?_
  simp only [MP.evI] at q
  refine tR.part hG hS q fun y S1 v H1 W1 l1 g1 s1 r1 q1 => ?_
  split at q1
  · obtain ⟨b, vs, rfl, e, r⟩ := r1
    exact ⟨b, rfl, .inl ⟨vs, e.sq, q1 _ H1 W1 .refl s1 (walks_l e r)⟩⟩
  · obtain ⟨b, vs, rfl, e, r⟩ := r1
    exact ⟨b, rfl, .inr ⟨vs, SqT.of e, q1 _ H1 W1 .refl s1 (walks_t e r)⟩⟩
  · exact q1.elim
theorem ii_rng (x : XOk h k X C P sc) (ha : PE X a (tE X.K C P ea)) (hs : nst a = true) (hm : "range" ∈ h.free) (hgl : glob sc (so "range") = true) : PI X tg (.Call (.Name (so "range") p) [a] [] pos) (tI X.K C P (.rng ea)) := by
  obtain ⟨b1, b2, b3, b4⟩ := bltn x hm hgl
  refine PI.imp (pi_range1 b1 b2 (pa_cons ha pa_nil (nst_star hs)) (nst_star hs)) fun σ H R ⟨G, S, W, hG, hS, q⟩ => ?_
  simp only [MP.evI] at q
  show tE X.K C P ea σ H _
  refine tR.part hG hS q fun y S1 v H1 W1 l1 g1 s1 r1 q1 => ?_
  split at q1
  · rename_i n
    split at q1
    · rename_i hn
      cases r1
      have hc : (MP.cap : Int) < 2 ^ 62 := by decide
      refine ⟨n, rfl, by omega, by omega, q1 _ H1 W1 .refl s1 walks_r⟩
    · exact q1.elim
  · exact q1.elim
end

/-! ### targets -/
def EnvX (K : Fg) (H : Hp) (W : Wd) (A : List Nat) (G : MP.Env) (σ : L2.St) : Prop := G.length ≤ σ.length ∧ ∀ (i : Nat) (x : MP.Vl), i ∉ A → G[i]? = some (some x) → ∃ v, σ[i]? = some (some v) ∧ RepV K H W x v
theorem EnvX.nil {K : Fg} {H : Hp} {W : Wd} {G : MP.Env} {σ : L2.St} (h : EnvX K H W [] G σ) : EnvR K H W G σ := ⟨h.1, fun i x => h.2 i x List.not_mem_nil⟩
theorem EnvR.x {K : Fg} {H : Hp} {W : Wd} {G : MP.Env} {σ : L2.St} (h : EnvR K H W G σ) (A : List Nat) : EnvX K H W A G σ := ⟨h.1, fun i x _ => h.2 i x⟩
theorem EnvX.set {K : Fg} {H : Hp} {W : Wd} {A : List Nat} {i : Nat} {G : MP.Env} {σ : L2.St} {x : MP.Vl} {v : V} (h : EnvX K H W (i :: A) G σ) (r : RepV K H W x v) : EnvX K H W A (G.set i (some x)) (σ.set i (some v)) := by
  refine ⟨by simpa using h.1, fun j y hj e => ?_⟩
  by_cases q : j = i
  · subst q
    obtain ⟨hj, _⟩ := List.getElem?_eq_some_iff.mp e
    rw [List.length_set] at hj
    rw [List.getElem?_set_self hj] at e
    cases e
    exact ⟨v, List.getElem?_set_self (Nat.lt_of_lt_of_le hj h.1), r⟩
  · rw [List.getElem?_set_ne (Ne.symm q)] at e
    obtain ⟨u, e1, r1⟩ := h.2 j y (by simp [q, hj]) e
    exact ⟨u, by rw [List.getElem?_set_ne (Ne.symm q)]; exact e1, r1⟩
theorem wipe_get {σ : L2.St} : ∀ (vs : List Nat) (i : Nat), i ∉ vs → (wipe σ vs)[i]? = σ[i]?
  | [], _, _ => rfl
  | v :: vs, i, h => by
    simp only [List.mem_cons, not_or] at h
    unfold wipe
    rw [List.getElem?_set_ne (Ne.symm h.1)]
    exact wipe_get vs i h.2
theorem wipe_in {σ : L2.St} : ∀ (vs : List Nat) (i : Nat), i ∈ vs → i < σ.length → (wipe σ vs)[i]? = some none
  | [], _, h, _ => absurd h List.not_mem_nil
  | v :: vs, i, h, hl => by
    unfold wipe
    by_cases q : i = v
    · subst q
      exact List.getElem?_set_self (by rw [wipe_length]; exact hl)
    · rw [List.getElem?_set_ne (Ne.symm q)]
      exact wipe_in vs i ((List.mem_cons.mp h).resolve_left q) hl
theorem wipe_same {σ τ : L2.St} {vs : List Nat} (hl : τ.length = σ.length) (h : ∀ i, i ∉ vs → τ[i]? = (wipe σ vs)[i]?) : wipe τ vs = wipe σ vs := by
  apply List.ext_getElem?
  intro i
  by_cases q : i ∈ vs
  · by_cases hi : i < σ.length
    · rw [wipe_in vs i q hi, wipe_in vs i q (by omega)]
    · rw [List.getElem?_eq_none (by rw [wipe_length]; omega), List.getElem?_eq_none (by rw [wipe_length]; omega)]
  · rw [wipe_get vs i q, h i q]
def gNs : List Nat → TGs
  | [] => gNil
  | i :: is => gCons (gName i) (gNs is)
def gTg (K : Fg) : MP.Tg → TG
  | .n i => gName i
  | .t is => gTup K is.length (gNs is)
def tgs : MP.Tg → List Nat
  | .n i => [i]
  | .t is => is
theorem gNs_run {K : Fg} {H : Hp} {W : Wd} {Q : L2.St → Hp → Prop} : ∀ {is : List Nat} {ds : List MP.D} {vs : List V} {G G' : MP.Env} {σ : L2.St}, EnvX K H W is G σ → RepDs H W.F ds vs → MP.setsD G is ds = some G' →
    (∀ σ' : L2.St, EnvR K H W G' σ' → (∀ j, j ∉ is → σ'[j]? = σ[j]?) → σ'.length = σ.length → Q σ' H) → gNs is vs σ H Q
  | [], [], vs, G, G', σ, e, r, hs, k => by
    cases r
    cases hs
    exact ⟨rfl, k σ e.nil (fun _ _ => rfl) rfl⟩
  | [], _ :: _, _, _, _, _, _, _, hs, _ => by cases hs
  | _ :: _, [], _, _, _, _, _, _, hs, _ => by cases hs
  | i :: is, d :: ds, vs, G, G', σ, e, r, hs, k => by
    obtain ⟨v, t, rfl, r1, r2⟩ := r
    refine ⟨v, t, rfl, gNs_run (e.set (x := .d d) r1) r2 hs fun σ' e' o l => k σ' e' (fun j hj => ?_) (by rw [l, List.length_set])⟩
    simp only [List.mem_cons, not_or] at hj
    rw [o j hj.2, List.getElem?_set_ne (Ne.symm hj.1)]
theorem gTg_run {K : Fg} {H : Hp} {W : Wd} {Q : L2.St → Hp → Prop} {t : MP.Tg} {d : MP.D} {v : V} {G G' : MP.Env} {σ : L2.St} (e : EnvX K H W (tgs t) G σ) (r : RepD H W.F d v) (hs : t.set G d = some G')
    (k : ∀ σ' : L2.St, EnvR K H W G' σ' → (∀ j, j ∉ tgs t → σ'[j]? = σ[j]?) → σ'.length = σ.length → Q σ' H) : gTg K t v σ H Q := by
  cases t with
  | n i =>
    cases hs
    exact k _ (e.set (x := .d d) r).nil (fun j hj => by rw [List.getElem?_set_ne (by simpa using Ne.symm (by simpa [tgs] using hj))]) (by rw [List.length_set])
  | t is =>
    cases d with
    | tup ds =>
      obtain ⟨a, vs, rfl, ha, hr⟩ := r
      have hl : ∀ (is : List Nat) (ds : List MP.D) (G : MP.Env), MP.setsD G is ds = some G' → is.length = ds.length := by
        intro is
        induction is with
        | nil => intro ds G h; cases ds <;> first | rfl | cases h
        | cons i is ih => intro ds G h; cases ds <;> first | cases h | (simp only [List.length_cons]; rw [ih _ _ h])
      exact ⟨a, vs, rfl, SqT.of ha, by rw [hr.length, hl _ _ _ hs], gNs_run e hr hs k⟩
    | _ => cases hs
/-- names as targets -/
def tgNames (N : List Str) (loc : Str → Bool) : List Nat → List Expr → Bool
  | [], [] => true
  | i :: is, .Name y _ :: es => decide (N[i]? = some y) && loc y && tgNames N loc is es
  | _, _ => false
def tgOk (N : List Str) (loc : Str → Bool) : MP.Tg → Expr → Bool
  | .n i, .Name y _ => decide (N[i]? = some y) && loc y
  | .t is, .Tuple es _ _ => tgNames N loc is es
  | _, _ => false
section
variable {X : L2.Cx} {loc : Str → Bool}
theorem assignEach_len : ∀ {is : List Nat} {es : List Expr} {N : List Str} {env : Env}, tgNames N loc is es = true → (assignEach es env).length = is.length ∧ (assignEach es env).findIdx? (·.1) = none
  | [], [], _, _, _ => ⟨rfl, rfl⟩
  | [], _ :: _, _, _, h => by cases h
  | _ :: _, [], _, _, h => by cases h
  | i :: is, e :: es, N, env, h => by
    cases e with
    | Name y p =>
      simp only [tgNames, Bool.and_eq_true] at h
      obtain ⟨h1, h2⟩ := assignEach_len (env := env) h.2
      have e : assignEach (.Name y p :: es) env = (false, assign (.Name y p) env) :: assignEach es env := rfl
      rw [e, List.length_cons, List.length_cons, h1]
      refine ⟨rfl, ?_⟩
      rw [List.findIdx?_cons]
      simp [h2]
    | _ => cases h
theorem pgs_names (hN : X.N.Nodup) (hl : ∀ y, loc y = true → Loc X.env.scope y ∧ (X.fn y = true ∨ X.env.scope.names.lookup y = some .local)) : ∀ {is : List Nat} {es : List Expr}, tgNames X.N loc is es = true → PGs X es (gNs is)
  | [], [], _ => pgs_nil
  | [], _ :: _, h => by cases h
  | _ :: _, [], h => by cases h
  | i :: is, e :: es, h => by
    cases e with
    | Name y p =>
      simp only [tgNames, Bool.and_eq_true] at h
      obtain ⟨⟨h1, h2⟩, h3⟩ := h
      obtain ⟨l1, l2⟩ := hl y h2
      exact pgs_cons (pg_name hN (of_decide_eq_true h1) l1 l2) (pgs_names hN hl h3) rfl
    | _ => cases h
theorem pg_tg {t : MP.Tg} {e : Expr} (hc : X.calm = true) (hN : X.N.Nodup) (hl : ∀ y, loc y = true → Loc X.env.scope y ∧ (X.fn y = true ∨ X.env.scope.names.lookup y = some .local)) (h : tgOk X.N loc t e = true) : PG X e (gTg X.K t) := by
  cases t with
  | n i =>
    cases e with
    | Name y p =>
      simp only [tgOk, Bool.and_eq_true] at h
      obtain ⟨l1, l2⟩ := hl y h.2
      exact pg_name hN (of_decide_eq_true h.1) l1 l2
    | _ => cases h
  | t is =>
    cases e with
    | Tuple es n p =>
      obtain ⟨h1, h2⟩ := assignEach_len (env := X.env) h
      exact pg_tup hc (pgs_names hN hl h) h1 h2
    | _ => cases h
end

/-! ### comprehensions -/
def noP : Post := fun _ _ _ _ _ => False
theorem nox_bind {α β γ : Type} {K : Fg} {n0 : Nat} {P : Post} {H : Hp} {W : Wd} {G : MP.Env} {r : MP.R α} {f : α → MP.St → MP.R β} {Rel : Hp → Wd → MP.St → β → γ → Prop} {Q : γ → Hp → Prop} (q : wpK K n0 P H W G ((r.bind f).nox) Rel Q) :
    ∃ a S, r = .ok a S ∧ wpK K n0 P H W G ((f a S).nox) Rel Q := by
  cases r with
  | ok a S => exact ⟨a, S, rfl, q⟩
  | ex x S => exact q.elim
  | no => exact q.elim
section
variable {h : Hd} {k : Nat} {X : L2.Cx} {C : MP.Cx} {P : Post} {sc : Scope}
/-- the turn of a comprehension -/
def stepC (C : MP.Cx) (t : MP.Tg) (c : MP.Tt) (e : MP.Ex) (G : MP.Env) : MP.D → MP.St → MP.R (Option MP.D) := fun d S => match t.set G d with
    | some G' => (MP.evT C c G' S).bind fun b S => if b then (MP.evE C e G' S).bind fun v S => (match v with
      | .d y => .ok (some y) S
      | _ => .no) else .ok none S
    | none => .no
theorem stepC_ok {t : MP.Tg} {c : MP.Tt} {e : MP.Ex} {G : MP.Env} {d : MP.D} {S S' : MP.St} {o : Option MP.D} (hs : stepC C t c e G d S = .ok o S') :
    ∃ G' b S1, t.set G d = some G' ∧ MP.evT C c G' S = .ok b S1 ∧ ((b = false ∧ o = none ∧ S' = S1) ∨ (b = true ∧ ∃ y, o = some y ∧ MP.evE C e G' S1 = .ok (.d y) S')) := by
  unfold stepC at hs
  cases e1 : t.set G d with
  | none => rw [e1] at hs; cases hs
  | some G' =>
    rw [e1] at hs
    simp only at hs
    cases e2 : MP.evT C c G' S with
    | ok b S1 =>
      rw [e2] at hs
      simp only [MP.ok_bind] at hs
      refine ⟨G', b, S1, rfl, e2, ?_⟩
      cases b with
      | false => cases hs; exact .inl ⟨rfl, rfl, rfl⟩
      | true =>
        rw [if_pos rfl] at hs
        cases e3 : MP.evE C e G' S1 with
        | ok v S2 =>
          rw [e3] at hs
          simp only [MP.ok_bind] at hs
          cases v with
          | d y => cases hs; exact .inr ⟨rfl, y, rfl, rfl⟩
          | _ => cases hs
        | ex _ _ => rw [e3] at hs; cases hs
        | no => rw [e3] at hs; cases hs
    | ex _ _ => rw [e2] at hs; cases hs
    | no => rw [e2] at hs; cases hs
theorem comp_read {t : MP.Tg} {it : MP.It} {c : MP.Tt} {e : MP.Ex} {σ : L2.St} {H : Hp} {Q : VK} (q : tL X.K C P (.comp t it c e) σ H Q) : tLc (tI X.K C P it) (gTg X.K t) (tT X.K C noP c) (tE X.K C noP e) (tgs t) σ H Q := by
  obtain ⟨G, S, W, hG, hS, q⟩ := q
  simp only [MP.evL] at q
  refine tR.part hG hS q fun ds S1 J H1 W1 l1 g1 s1 r1 q1 => ?_
  have q1 : wpK X.K C.n0 P H1 W1 G ((MP.compL (stepC C t c e G) [] ds S1).nox) relL Q := q1
  intro D hD
  have alD := s1.fresh hD
  let Iv : Nat → Hp → Prop := fun i H' => i ≤ ds.length ∧ ∃ acc accD S' W', W'.T D ∧ Le H1 W1 H' W' ∧ Good X.K C.n0 H' W' S' ∧ H' D = some (.lst acc) ∧ RepDs H' W'.F accD acc ∧ wpK X.K C.n0 P H1 W1 G ((MP.compL (stepC C t c e G) accD (ds.drop i) S').nox) relL Q
  refine ⟨fun i m H' => m = ds.length - i ∧ Iv i H', ⟨ds.length, rfl, Nat.zero_le _, [], [], S1, ⟨W1.F, W1.mu, fun a => W1.T a ∨ a = D, W1.ns⟩, .inr rfl, ?_, ?_, upd_same, rfl, by rw [List.drop_zero]; exact q1⟩, ?_⟩
  · obtain ⟨_, l⟩ := s1.new (o := .lst []) hD
    exact ⟨l.kp, l.mu, fun _ q => .inl q, l.ht, fun _ q => q⟩
  · obtain ⟨g, _⟩ := s1.new (o := .lst []) hD
    exact g.more upd_same alD
  · rintro i m H' ⟨rfl, hi, acc, accD, S', W', hT, l', g', eD, rD, qD⟩
    obtain ⟨w1, w2, w3⟩ := r1 H' W' l'
    by_cases hlt : i < ds.length
    · refine .inr ⟨w2 i hlt, fun H'' => Iv (i + 1) H'', fun H'' p => ⟨ds.length - (i + 1), by omega, rfl, p⟩, fun x H2 y => ?_⟩
      obtain ⟨d, ed, l2, g2, r2⟩ := w3 i x H2 hlt y S' g'
      have edr : ds.drop i = d :: ds.drop (i + 1) := by
        have e1 : ds[i] = d := by rw [List.getElem?_eq_getElem hlt] at ed; exact Option.some.inj ed
        rw [List.drop_eq_getElem_cons hlt, e1]
      rw [edr] at qD
      obtain ⟨o, S2, es, q2⟩ := nox_bind (show wpK X.K C.n0 P H1 W1 G (((stepC C t c e G d S').bind _).nox) relL Q from qD)
      obtain ⟨G', b, Sb, eG, eT, hb⟩ := stepC_ok es
      have lt2 := l'.trans l2
      have hG2 : EnvX X.K H2 W' (tgs t) G (wipe σ (tgs t)) := by
        have z := (hG.mono (l1.trans lt2))
        refine ⟨by rw [wipe_length]; exact z.1, fun j xx hj ej => ?_⟩
        obtain ⟨v, e1, rv⟩ := z.2 j xx ej
        exact ⟨v, by rw [wipe_get _ _ hj]; exact e1, rv⟩
      refine gTg_run hG2 r2 eG fun σ2 hG3 o2 ln2 => ⟨wipe_same (by rw [ln2, wipe_length]) o2, ?_⟩
      refine ⟨G', S', W', hG3, g2, ?_⟩
      rw [eT]
      intro b' H3 W3 l3 g3 rb
      have rb : b' = b := rb
      subst rb
      have hT3 := l3.tt D hT
      have e3 : H3 D = some (.lst acc) := l3.ht D _ hT (l2.ht D _ hT eD)
      rcases hb with ⟨rfl, rfl, rfl⟩ | ⟨rfl, y', rfl, eE⟩
      · show Iv (i + 1) H3
        exact ⟨hlt, acc, accD, S2, W3, hT3, lt2.trans l3, g3, e3, RepDs.mono (l2.trans l3).kp rD, q2⟩
      · show tE X.K C noP e σ2 H3 _
        refine ⟨G', Sb, W3, hG3.mono l3, g3, ?_⟩
        rw [eE]
        intro v H4 W4 l4 g4 r4
        have hT4 := l4.tt D hT3
        have e4 : H4 D = some (.lst acc) := l4.ht D _ hT3 e3
        have rD4 : RepDs H4 W4.F accD acc := RepDs.mono ((l2.trans l3).trans l4).kp rD
        simp only at q2
        by_cases hc : accD.length < MP.cap
        · rw [if_pos hc] at q2
          refine ⟨acc, e4, by rw [rD4.length]; exact cap_lt hc, ?_⟩
          have nF := (g4.tobj D hT4).2
          refine ⟨hlt, acc ++ [v], accD ++ [y'], S2, W4, hT4, ((lt2.trans l3).trans l4).poke hD, g4.poke e4 hT4, upd_same, RepDs.mono (keep_poke e4 nF) (rD4.append (RepDs.one r4)), q2⟩
        · rw [if_neg hc] at q2
          exact q2.elim
    · have e : i = ds.length := by omega
      subst e
      refine .inl ⟨w1 _ (Nat.le_refl _), ?_⟩
      rw [List.drop_length] at qD
      refine qD (.ref D) H' ⟨W'.F, W'.mu, W1.T, W'.ns⟩ ⟨l'.kp, l'.mu, fun _ q => q, l'.ht, l'.nn⟩ (g'.less l'.tt) ⟨D, acc, rfl, eD, rD, ⟨(g'.tobj D hT).2, alD.t, fun j c' h1 h2 h3 => g'.tmu j c' D h1 h2 h3 hT⟩⟩
end
end MS

set_option Elab.async false
set_option linter.all false
set_option maxRecDepth 100000
set_option autoImplicit false
set_option maxHeartbeats 4000000
/-! MSA: chains, tables, texts, sorted, enumerate, reversed, dicts that are written or comprehended. -/
namespace MS
open PySem PySem.Spec PyProof.Rows L2
variable [TW]
section
variable {h : Hd} {k : Nat} {X : L2.Cx} {C : MP.Cx} {P : Post} {sc : Scope} {a b c tg : Expr} {ea eb ec : MP.Ex} {p pos apos : Pos}
/-! ### chains -/
theorem ie_chain {o u : MP.COp} (x : XOk h k X C P sc) (ha : PE X a (tE X.K C P ea)) (hb : PE X b (tE X.K C P eb)) (hc : PE X c (tE X.K C P ec)) (hm : lastMarks [cop o, cop u] [b, c] = false) :
    PE X (.Compare a [cop o, cop u] [b, c] pos) (tE X.K C P (.chain o u ea eb ec)) := by
  refine PE.imp (pe_chain (op_cmp (n0 := C.n0) x.tx.tw x.hu o) (op_cmp (n0 := C.n0) x.tx.tw x.hu u) ha hb hc hm) fun σ H Q ⟨G, S, W, hG, hS, q⟩ => ?_
  simp only [MP.evE] at q
  refine tR.part hG hS q fun y S1 v H1 W1 l1 g1 s1 r1 q1 => tR.part g1 s1 q1 fun z S2 w H2 W2 l2 g2 s2 r2 q2 => ?_
  refine ⟨S2, W2, y, z, s2, r1.mono l2, r2, ?_⟩
  cases e : MP.cmpV o S2 y z with
  | none => rw [e] at q2; exact q2.elim
  | some t =>
    rw [e] at q2
    refine ⟨t, rfl, t, rfl, ?_⟩
    cases t with
    | true => exact tR.part g2 s2 q2 fun z3 S3 w3 H3 W3 l3 g3 s3 r3 q3 => rB.of s3 (r2.mono l3) r3 q3
    | false => exact q2 _ H2 W2 .refl s2 rfl
theorem it_chain {o u : MP.COp} (x : XOk h k X C P sc) (ha : PE X a (tE X.K C P ea)) (hb : PE X b (tE X.K C P eb)) (hc : PE X c (tE X.K C P ec)) (hm : lastMarks [cop o, cop u] [b, c] = false) :
    PT X (.Compare a [cop o, cop u] [b, c] pos) (tT X.K C P (.chain o u ea eb ec)) := by
  refine PT.imp (pt_chain (op_cmp (n0 := C.n0) x.tx.tw x.hu o) (op_cmp (n0 := C.n0) x.tx.tw x.hu u) ha hb hc hm) fun σ H Q ⟨G, S, W, hG, hS, q⟩ => ?_
  simp only [MP.evT] at q
  refine tR.part hG hS q fun y S1 v H1 W1 l1 g1 s1 r1 q1 => tR.part g1 s1 q1 fun z S2 w H2 W2 l2 g2 s2 r2 q2 => ?_
  refine ⟨S2, W2, y, z, s2, r1.mono l2, r2, ?_⟩
  cases e : MP.cmpV o S2 y z with
  | none => rw [e] at q2; exact q2.elim
  | some t =>
    rw [e] at q2
    refine ⟨t, rfl, t, rfl, ?_⟩
    cases t with
    | true =>
      refine tR.part g2 s2 q2 fun z3 S3 w3 H3 W3 l3 g3 s3 r3 q3 => ⟨S3, W3, z, z3, s3, r2.mono l3, r3, ?_⟩
      cases e3 : MP.cmpV u S3 z z3 with
      | none => rw [e3] at q3; exact q3.elim
      | some t3 => rw [e3] at q3; exact ⟨t3, rfl, t3, rfl, q3 _ H3 W3 .refl s3 rfl⟩
    | false => exact ⟨false, rfl, q2 _ H2 W2 .refl s2 rfl⟩
/-! ### the keys of a table of the module -/
theorem look_isSome {s : String} : ∀ {kvs : List (String × String)}, (kvs.lookup s).isSome = kvs.any fun q => decide (q.1 = s)
  | [] => rfl
  | (t, g) :: r => by
    rw [List.lookup_cons, List.any_cons]
    by_cases e : s = t
    · subst e
      simp
    · have : (s == t) = false := beq_false_of_ne e
      rw [this, decide_eq_false (Ne.symm e), Bool.false_or]
      exact look_isSome
theorem inG_ns {t s : String} {kvs : List (String × String)} (x : XOk h k X C P sc) (hm : (t, kvs) ∈ h.tabs) : ∃ es n r, KDict X.K X.w (He.ga X.K (so t)) es n ∧ PySem.W.nsIn X.K (He.ga X.K (so t)) (so s) = some r ∧ r.isSome = (kvs.lookup s).isSome := by
  obtain ⟨em, ev, eg, es, n, hk, hn⟩ := x.tx.tab _ hm
  cases el : kvs.lookup s with
  | none =>
    refine ⟨es, n, none, hk, hn (so s) fun q hq e => ?_, rfl⟩
    have : (kvs.lookup s).isSome = true := by
      rw [look_isSome, List.any_eq_true]
      exact ⟨q, hq, decide_eq_true (so_inj e)⟩
    rw [el] at this
    cases this
  | some g =>
    obtain ⟨_, _, u, _, _, e, _⟩ := ev (s, g) (mem_look el)
    exact ⟨es, n, some u, hk, e, rfl⟩
theorem ie_inG {t : String} {kvs : List (String × String)} (x : XOk h k X C P sc) (ho : PE X a (tE X.K C P ea)) (hm : (t, kvs) ∈ h.tabs) (hgl : glob sc (so t) = true) : PE X (.Compare a [.In] [.Name (so t) p] pos) (tE X.K C P (.inG t ea)) := by
  obtain ⟨g1, g2, _⟩ := glob_gl x hgl
  obtain ⟨em, ev, eg, es, n, hk, hn⟩ := x.tx.tab _ hm
  refine PE.imp (pe_cmpR (op_in_kd hk) ho (pe_glob (v := .ref (He.ga X.K (so t))) g1 em rfl g2) rfl) fun σ H Q ⟨G, S, W, hG, hS, q⟩ => ?_
  simp only [MP.evE] at q
  refine tR.part hG hS q fun y S1 v H1 W1 l1 g1 s1 r1 q1 => ?_
  have egd : C.gd t = some kvs := by rw [congrArg MP.Cx.gd x.C]; exact eg
  cases y with
  | d z =>
    cases z with
    | str s =>
      simp only [MP.inGV, egd] at q1
      cases r1
      obtain ⟨_, _, r, _, e1, e2⟩ := inG_ns (s := s) x hm
      refine ⟨so s, r, rfl, rfl, e1, ?_⟩
      rw [e2]
      exact q1 _ H1 W1 .refl s1 rfl
    | _ => exact q1.elim
  | p _ => exact q1.elim
  | f _ => exact q1.elim
  | s _ => exact q1.elim
  | r _ => exact q1.elim
theorem it_inG {t : String} {kvs : List (String × String)} (x : XOk h k X C P sc) (ho : PE X a (tE X.K C P ea)) (hm : (t, kvs) ∈ h.tabs) (hgl : glob sc (so t) = true) : PT X (.Compare a [.In] [.Name (so t) p] pos) (tT X.K C P (.inG t ea)) := by
  obtain ⟨g1, g2, _⟩ := glob_gl x hgl
  obtain ⟨em, ev, eg, es, n, hk, hn⟩ := x.tx.tab _ hm
  refine PT.imp (pt_cmpR (op_in_kd hk) ho (pe_glob (v := .ref (He.ga X.K (so t))) g1 em rfl g2) rfl) fun σ H Q ⟨G, S, W, hG, hS, q⟩ => ?_
  simp only [MP.evT] at q
  refine tR.part hG hS q fun y S1 v H1 W1 l1 g1 s1 r1 q1 => ?_
  have egd : C.gd t = some kvs := by rw [congrArg MP.Cx.gd x.C]; exact eg
  cases y with
  | d z =>
    cases z with
    | str s =>
      simp only [MP.inGV, egd] at q1
      cases r1
      obtain ⟨_, _, r, _, e1, e2⟩ := inG_ns (s := s) x hm
      refine ⟨so s, r, rfl, rfl, e1, r.isSome, rfl, ?_⟩
      rw [e2]
      exact q1 _ H1 W1 .refl s1 rfl
    | _ => exact q1.elim
  | p _ => exact q1.elim
  | f _ => exact q1.elim
  | s _ => exact q1.elim
  | r _ => exact q1.elim
/-! ### texts -/
theorem so_len (s : String) : (so s).length = s.toList.length := by
  have := congrArg List.length (so_list s)
  rw [List.length_map] at this
  exact this
theorem cn_beq (c d : Char) : (c.toNat == d.toNat) = (c == d) := by
  by_cases e : c = d
  · subst e; simp
  · rw [beq_false_of_ne e, beq_false_of_ne fun z => e (char_inj z)]
theorem pre_map : ∀ (l m : List Char), ((m.map Char.toNat).take l.length == l.map Char.toNat) = l.isPrefixOf m
  | [], m => by simp
  | c :: l, [] => by simp [List.isPrefixOf]
  | c :: l, d :: m => by
    have ih := pre_map l m
    simp only [List.map_cons, List.length_cons, List.take_succ_cons, List.isPrefixOf_cons₂]
    rw [← ih, ← cn_beq]
    by_cases e : d.toNat = c.toNat
    · rw [e]; simp
    · have e1 : (c.toNat == d.toNat) = false := beq_false_of_ne (Ne.symm e)
      rw [e1, Bool.false_and]
      exact beq_false_of_ne fun z => e (List.cons.inj z).1
theorem starts_so (s t : String) : Txt.startswith (so s) (so t) = t.toList.isPrefixOf s.toList := by
  unfold Txt.startswith
  rw [Nat.zero_add, so_len, so_len, ← pre_map]
  have e : PySem.Builtin.Str.subAt (so s) (so t) 0 = ((s.toList.map Char.toNat).take t.toList.length == t.toList.map Char.toNat) := by
    unfold PySem.Builtin.Str.subAt
    rw [Nat.zero_add, so_len, ← so_list, ← so_list]
    have key : ∀ (a b : Array Nat) (n : Nat), (a.extract 0 n == b) = (a.toList.take n == b.toList) := fun a b n => by
      rw [Bool.eq_iff_iff, beq_iff_eq, beq_iff_eq, ← Array.toList_inj, Array.toList_extract]
      simp [List.extract]
    exact key _ _ _
  rw [e]
  by_cases h : t.toList.length ≤ s.toList.length
  · rw [decide_eq_true h, Bool.true_and]
  · rw [decide_eq_false h, Bool.false_and]
    symm
    apply beq_false_of_ne
    intro z
    have := congrArg List.length z
    simp at this
    omega
theorem ie_starts (ho : PE X a (tE X.K C P ea)) (hb : PE X b (tE X.K C P eb)) (hp : plainO a = true) (hs : nst b = true) (hl : (apos.endLine == pos.line) = true) :
    PE X (.Call (.Attribute a (so "startswith") apos) [b] [] pos) (tE X.K C P (.starts ea eb)) := by
  refine PE.imp (pe_bm PySem.F.plainAttrs_str PySem.F.slot_str_startswith PySem.F.type_str_startswith mt_startswith ho (ia_cons hb ia_nil hs) (plainO_base hp) (few1 hs) hl (nst_star hs) rfl) fun σ H Q ⟨G, S, W, hG, hS, q⟩ => ?_
  rw [MP.evE] at q
  refine tR.part hG hS q fun y S1 v H1 W1 l1 g1 s1 r1 q1 => ?_
  split at q1
  · rename_i hi
    cases y with
    | d z =>
      cases z with
      | str s =>
        cases r1
        refine ⟨rfl, ?_⟩
        show tEs X.K C P (.cons eb .nil) σ H1 _
        have q1' : wpK X.K C.n0 P H1 W1 G ((MP.evEs C (.cons eb .nil) G S1).bind fun vs S => match vs with
          | [z] => MP.R.of ((MP.startsV S (.d (.str s)) z).map .d) S
          | _ => .no) (relE X.K) Q := by
          simp only [MP.evEs]
          cases er : MP.evE C eb G S1 with
          | ok z S' => rw [er] at q1; exact q1
          | ex z S' => rw [er] at q1; exact q1
          | no => rw [er] at q1; exact q1
        refine tR.part g1 s1 q1' fun zs S2 us H2 W2 l2 g2 s2 r2 q2 => ?_
        split at q2
        · rename_i z
          obtain ⟨u, rfl, ru⟩ := one_of r2
          cases z with
          | d w =>
            cases w with
            | str t =>
              cases ru
              refine ⟨so s, so t, rfl, rfl, ?_⟩
              rw [starts_so]
              exact q2 _ H2 W2 .refl s2 rfl
            | _ => exact q2.elim
          | _ => exact q2.elim
        · exact q2.elim
      | _ => cases hi
    | _ => cases hi
  · exact q1.elim
/-! ### enumerate, reversed -/
theorem walks_e {K : Fg} {n0 : Nat} {H : Hp} {W : Wd} {a : Addr} {vs : List V} {ds : List MP.D} (h : LstAt H W.F a vs) (r : RepDs H W.F ds vs) : Walks K n0 (Ite K a) (ds.zipIdx.map fun q => MP.D.tup [.int (q.2 : Int), q.1]) H W := by
  intro H1 W1 l
  have e : SqL K H1 a vs := (h.mono l.kp).sq
  have hl : (ds.zipIdx.map fun q => MP.D.tup [.int (q.2 : Int), q.1]).length = ds.length := by simp
  refine ⟨fun i hi => ⟨vs, e, by rw [r.length]; omega⟩, fun i hi => ?_, fun i x H2 hi y S g => ?_⟩
  · obtain ⟨v, q, _⟩ := r.get (i := i) (List.getElem?_eq_getElem (by omega))
    exact ⟨vs, v, e, q⟩
  · obtain ⟨T, u, rfl, hT, rfl, y⟩ := y
    obtain ⟨d, q1, q2⟩ := r.getR (y vs e)
    obtain ⟨g2, l2⟩ := g.new (o := .tup [.int (i : Nat), u]) hT
    refine ⟨.tup [.int (i : Int), d], ?_, l2, g2, T, _, rfl, upd_same, .int (i : Nat), [u], rfl, rfl, u, [], rfl, RepD.mono (l.trans l2).kp q2, rfl⟩
    rw [List.getElem?_map, List.getElem?_zipIdx, q1]
    simp
theorem ii_enum {elts : List Expr} {kk : Nat} {tpos : Pos} (x : XOk h k X C P sc) (ha : PE X a (tE X.K C P ea)) (hs : nst a = true) (hm : "enumerate" ∈ h.free) (hgl : glob sc (so "enumerate") = true) :
    PI X (.Tuple elts kk tpos) (.Call (.Name (so "enumerate") p) [a] [] pos) (tI X.K C P (.enum ea)) := by
  obtain ⟨b1, b2, b3, b4⟩ := bltn x hm hgl
  refine PI.imp (pi_enum b1 b2 (pa_cons ha pa_nil (nst_star hs)) (nst_star hs)) fun σ H R ⟨G, S, W, hG, hS, q⟩ => ?_
  simp only [MP.evI] at q
  show tE X.K C P ea σ H _
  refine tR.part hG hS q fun y S1 v H1 W1 l1 g1 s1 r1 q1 => ?_
  split at q1
  · obtain ⟨b, vs, rfl, e, r⟩ := r1
    exact ⟨b, vs, rfl, e.sq, q1 _ H1 W1 .refl s1 (walks_e e r)⟩
  · exact q1.elim
theorem rev_get {α : Type} {l : List α} {i : Nat} (hi : i < l.length) : l.reverse[i]? = l[l.length - 1 - i]? := by
  rw [List.getElem?_reverse hi]
theorem walks_vl {K : Fg} {n0 : Nat} {H : Hp} {W : Wd} {a : Addr} {vs : List V} {ds : List MP.D} (h : LstAt H W.F a vs) (r : RepDs H W.F ds vs) : Walks K n0 (Itv K a vs.length) ds.reverse H W := by
  intro H1 W1 l
  have e : SqL K H1 a vs := (h.mono l.kp).sq
  have hl := r.length
  have hr : ds.reverse.length = ds.length := List.length_reverse
  refine ⟨fun i hi => (show vs.length ≤ i by omega), fun i hi => ?_, fun i x H2 hi y S g => ?_⟩
  · obtain ⟨v, q, _⟩ := r.get (i := vs.length - 1 - i) (List.getElem?_eq_getElem (by omega))
    exact ⟨by omega, vs, v, e, q⟩
  · obtain ⟨rfl, y⟩ := y
    obtain ⟨d, q1, q2⟩ := r.getR (y vs e)
    refine ⟨d, ?_, .refl, g, RepD.mono l.kp q2⟩
    rw [rev_get (by omega), ← hl]
    exact q1
theorem walks_vt {K : Fg} {n0 : Nat} {H : Hp} {W : Wd} {a : Addr} {vs : List V} {ds : List MP.D} (h : H a = some (.tup vs)) (r : RepDs H W.F ds vs) : Walks K n0 (RT.ItvT K a vs.length) ds.reverse H W := by
  intro H1 W1 l
  have e : SqT K H1 a vs := SqT.of (l.kp.tp _ _ h)
  have hl := r.length
  have hr : ds.reverse.length = ds.length := List.length_reverse
  refine ⟨fun i hi => (show vs.length ≤ i by omega), fun i hi => ?_, fun i x H2 hi y S g => ?_⟩
  · obtain ⟨v, q, _⟩ := r.get (i := vs.length - 1 - i) (List.getElem?_eq_getElem (by omega))
    exact ⟨by omega, vs, v, e, q⟩
  · obtain ⟨rfl, y⟩ := y
    obtain ⟨d, q1, q2⟩ := r.getR (y vs e)
    refine ⟨d, ?_, .refl, g, RepD.mono l.kp q2⟩
    rw [rev_get (by omega), ← hl]
    exact q1
theorem ii_rev (x : XOk h k X C P sc) (ha : PE X a (tE X.K C P ea)) (hs : nst a = true) (hm : "reversed" ∈ h.free) (hgl : glob sc (so "reversed") = true) :
    PI X tg (.Call (.Name (so "reversed") p) [a] [] pos) (tI X.K C P (.rev ea)) := by
  obtain ⟨b1, b2, b3, b4⟩ := bltn x hm hgl
  refine PI.imp (RT.pi_revA b1 b2 ha (nst_star hs)) fun σ H R ⟨G, S, W, hG, hS, q⟩ => ?_
  simp only [MP.evI] at q
  refine tR.part hG hS q fun y S1 v H1 W1 l1 g1 s1 r1 q1 => ?_
  split at q1
  · obtain ⟨b, vs, rfl, e, r⟩ := r1
    exact ⟨b, vs, rfl, .inl ⟨e.sq, q1 _ H1 W1 .refl s1 (walks_vl e r)⟩⟩
  · obtain ⟨b, vs, rfl, e, r⟩ := r1
    exact ⟨b, vs, rfl, .inr ⟨SqT.of e, q1 _ H1 W1 .refl s1 (walks_vt e r)⟩⟩
  · exact q1.elim
/-! ### sorted -/
theorem insI_perm (x : Int) : ∀ l : List Int, (MP.insI x l).Perm (x :: l)
  | [] => .refl _
  | y :: ys => by
    unfold MP.insI
    split
    · exact .refl _
    · exact ((insI_perm x ys).cons y).trans (.swap x y ys)
theorem sortI_perm : ∀ l : List Int, (MP.sortI l).Perm l
  | [] => .refl _
  | x :: xs => (insI_perm x _).trans ((sortI_perm xs).cons x)
theorem insI_sorted (x : Int) : ∀ {l : List Int}, l.Pairwise (· ≤ ·) → (MP.insI x l).Pairwise (· ≤ ·)
  | [], _ => List.pairwise_singleton _ _
  | y :: ys, h => by
    unfold MP.insI
    have hh := List.pairwise_cons.mp h
    split
    · rename_i hxy
      refine List.pairwise_cons.mpr ⟨fun z hz => ?_, h⟩
      rcases List.mem_cons.mp hz with rfl | hz
      · exact hxy
      · have := hh.1 z hz
        omega
    · rename_i hxy
      refine List.pairwise_cons.mpr ⟨fun z hz => ?_, insI_sorted x hh.2⟩
      rcases List.mem_cons.mp ((insI_perm x ys).mem_iff.mp hz) with rfl | hz
      · omega
      · exact hh.1 z hz
theorem sortI_sorted : ∀ l : List Int, (MP.sortI l).Pairwise (· ≤ ·)
  | [] => List.Pairwise.nil
  | x :: xs => insI_sorted x (sortI_sorted xs)
theorem sorted_one : ∀ {l m : List Int}, l.Perm m → l.Pairwise (· ≤ ·) → m.Pairwise (· ≤ ·) → l = m
  | [], m, p, _, _ => (List.nil_perm.mp p).symm
  | x :: l, [], p, _, _ => (List.nil_perm.mp p.symm)
  | x :: l, y :: m, p, h1, h2 => by
    have a1 := List.pairwise_cons.mp h1
    have a2 := List.pairwise_cons.mp h2
    have e : x = y := by
      have m1 : x ∈ y :: m := p.mem_iff.mp List.mem_cons_self
      have m2 : y ∈ x :: l := p.mem_iff.mpr List.mem_cons_self
      rcases List.mem_cons.mp m1 with e | m1
      · exact e
      · rcases List.mem_cons.mp m2 with e | m2
        · exact e.symm
        · have := a2.1 x m1
          have := a1.1 y m2
          omega
    subst e
    rw [sorted_one ((List.perm_cons x).mp p) a1.2 a2.2]
theorem il_srt (x : XOk h k X C P sc) (ha : PE X a (tE X.K C P ea)) (hs : nst a = true) (hm : "sorted" ∈ h.free) (hgl : glob sc (so "sorted") = true) : PE X (.Call (.Name (so "sorted") p) [a] [] pos) (tL X.K C P (.srt ea)) := by
  obtain ⟨b1, b2, b3, b4⟩ := bltn x hm hgl
  refine PE.imp (pe_callB cr_sortedI b1 b2 (by decide +kernel) (pa_cons ha pa_nil (nst_star hs)) b3 b4 (nst_star hs) rfl) fun σ H Q ⟨G, S, W, hG, hS, q⟩ => ?_
  simp only [MP.evL] at q
  show tE X.K C P ea σ H _
  refine tR.part hG hS q fun y S1 v H1 W1 l1 g1 s1 r1 q1 => ?_
  split at q1
  · rename_i ds hd
    split at q1
    · rename_i is hi
      obtain ⟨b, vs, rfl, e, r⟩ := s1.lst r1 hd
      obtain rfl := r.ints hi
      refine ⟨b, is, rfl, ?_, fun ns' u p1 p2 hu => ?_⟩
      · rcases e with e | ⟨o, e⟩
        · exact SqL.of e
        · exact .inl (.inr ⟨o, e⟩)
      · obtain rfl := sorted_one (p1.trans (sortI_perm is).symm) p2 (sortI_sorted is)
        obtain ⟨g2, l2⟩ := s1.new (o := .lst ((MP.sortI is).map V.int)) hu
        exact q1 _ _ W1 l2 g2 ⟨u, _, rfl, upd_same, RepDs.ofInts _, s1.fresh hu⟩
    · exact q1.elim
  · exact q1.elim
end
end MS

set_option Elab.async false
set_option linter.all false
set_option maxRecDepth 100000
set_option autoImplicit false
set_option maxHeartbeats 4000000
/-! MSB: dicts that are comprehended, or written with values. -/
namespace MS
open PySem PySem.Spec PyProof.Rows L2
variable [TW]
section
variable {K : Fg} {H : Hp} {W : Wd} {n0 : Nat} {S : MP.St}
/-- an object that may change -/
def Soft (o : HO) : Prop := (∀ xs, o ≠ .tup xs) ∧ ∀ ob u, o ≠ .frz ob u
theorem le_alterO {p : Addr} {o o2 : HO} (hp : H p = some o2) (hs : Soft o2) (nF : ¬ W.F p) (nT : ¬ W.T p) : Le H W (upd H p o) W := by
  refine ⟨⟨fun _ h => h, fun a o' f e => by rw [upd_ne (fun z => by rw [z] at f; exact nF f)]; exact e, fun a xs e => ?_, fun a ob u e => ?_⟩, fun _ _ h => h, fun _ h => h, fun a o' t e => by rw [upd_ne (fun z => by rw [z] at t; exact nT t)]; exact e, fun _ h => h⟩
  · rw [upd_ne (fun z => by rw [z, hp] at e; exact hs.1 xs (Option.some.inj e))]; exact e
  · rw [upd_ne (fun z => by rw [z, hp] at e; exact hs.2 ob u (Option.some.inj e))]; exact e
theorem Good.alterO (g : Good K n0 H W S) {p : Addr} {o o2 : HO} (hp : H p = some o2) (hs : Soft o2) (al : Alone W S p) : Good K n0 (upd H p o) W S := by
  have l : Le H W (upd H p o) W := le_alterO hp hs al.f al.t
  refine ⟨g.len, g.le0, fun i c a h1 h2 => ?_, g.live, g.inj, fun a h => ?_, fun a h => ⟨?_, (g.tobj a h).2⟩, g.tmu, g.cl, g.nle, g.cl0⟩
  · by_cases hd : c = .dead
    · subst hd
      exact True.intro
    · have ne : a ≠ p := fun z => by rw [z] at h2; exact al.m i c h1 hd h2
      rw [upd_ne ne]
      exact (g.cell i c a h1 h2).mono l
  · obtain ⟨ws, e⟩ := g.fobj a h
    exact ⟨ws, by rw [upd_ne (fun z => by rw [z] at h; exact al.f h)]; exact e⟩
  · obtain ⟨⟨u, e⟩, _⟩ := g.tobj a h
    exact ⟨u, by rw [upd_ne (fun z => by rw [z] at h; exact al.t h)]; exact e⟩
theorem Good.pokeO (g : Good K n0 H W S) {p : Addr} {o o2 : HO} (hp : H p = some o2) (hs : Soft o2) (hT : W.T p) : Good K n0 (upd H p o) W S := by
  have g1 := g.less (T := fun a => W.T a ∧ a ≠ p) (fun a q => q.1)
  have al : Alone ⟨W.F, W.mu, fun a => W.T a ∧ a ≠ p, W.ns⟩ S p := ⟨(g.tobj p hT).2, fun q => q.2 rfl, fun i c h1 h2 h3 => g.tmu i c p h1 h2 h3 hT⟩
  have g2 := g1.alterO (o := o) hp hs al
  have g3 := g2.more (p := p) upd_same al
  refine g3.less fun a q => ?_
  by_cases e : a = p
  · exact .inr e
  · exact .inl ⟨q, e⟩
theorem soft_dK (kvs : List (Key × V)) : Soft (.dK kvs) := ⟨fun xs z => (by cases z), fun ob u z => (by cases z)⟩
end
section
variable {h : Hd} {k : Nat} {X : L2.Cx} {C : MP.Cx} {P : Post} {sc : Scope}
def stepD (C : MP.Cx) (t : MP.Tg) (c : MP.Tt) (ek ev : MP.Ex) (G : MP.Env) : MP.D → MP.St → MP.R (Option MP.D) := fun d S => match t.set G d with
    | some G' => (MP.evT C c G' S).bind fun b S => if b then (MP.evE C ek G' S).bind fun kv S => (MP.evE C ev G' S).bind fun vv S => (match kv, vv with
      | .d x, .d y => if MP.keyD x then .ok (some (.tup [x, y])) S else .no
      | _, _ => .no) else .ok none S
    | none => .no
theorem stepD_ok {t : MP.Tg} {c : MP.Tt} {ek ev : MP.Ex} {G : MP.Env} {d : MP.D} {S S' : MP.St} {o : Option MP.D} (hs : stepD C t c ek ev G d S = .ok o S') :
    ∃ G' b S1, t.set G d = some G' ∧ MP.evT C c G' S = .ok b S1 ∧ ((b = false ∧ o = none ∧ S' = S1) ∨ (b = true ∧ ∃ x y S2, o = some (.tup [x, y]) ∧ MP.keyD x = true ∧ MP.evE C ek G' S1 = .ok (.d x) S2 ∧ MP.evE C ev G' S2 = .ok (.d y) S')) := by
  unfold stepD at hs
  cases e1 : t.set G d with
  | none => rw [e1] at hs; cases hs
  | some G' =>
    rw [e1] at hs
    simp only at hs
    cases e2 : MP.evT C c G' S with
    | ok b S1 =>
      rw [e2] at hs
      simp only [MP.ok_bind] at hs
      refine ⟨G', b, S1, rfl, e2, ?_⟩
      cases b with
      | false => cases hs; exact .inl ⟨rfl, rfl, rfl⟩
      | true =>
        rw [if_pos rfl] at hs
        cases e3 : MP.evE C ek G' S1 with
        | ok v S2 =>
          rw [e3] at hs
          simp only [MP.ok_bind] at hs
          cases e4 : MP.evE C ev G' S2 with
          | ok w S3 =>
            rw [e4] at hs
            simp only [MP.ok_bind] at hs
            split at hs
            · rename_i x y
              split at hs
              · rename_i hk
                cases hs
                exact .inr ⟨rfl, x, y, S2, rfl, hk, rfl, e4⟩
              · cases hs
            · cases hs
          | ex _ _ => rw [e4] at hs; cases hs
          | no => rw [e4] at hs; cases hs
        | ex _ _ => rw [e3] at hs; cases hs
        | no => rw [e3] at hs; cases hs
    | ex _ _ => rw [e2] at hs; cases hs
    | no => rw [e2] at hs; cases hs
theorem putPairs_snoc (x y : MP.D) : ∀ (ps : List MP.D) (m : List (MP.D × MP.Vl)), MP.putPairs m (ps ++ [.tup [x, y]]) = MP.put (MP.putPairs m ps) x (.d y)
  | [], m => rfl
  | p :: ps, m => by
    rw [List.cons_append]
    unfold MP.putPairs
    split
    · rename_i h; cases h
    · rename_i h; cases h; exact putPairs_snoc x y ps _
    · rename_i h1 h2; cases h2; 
      split
      · rename_i h; cases h
      · rename_i k' v' r' h; cases h; exact absurd rfl (h1 _ _)
      · rename_i h; cases h; exact putPairs_snoc x y ps _
theorem put_belD {n : Nat} {m : List (MP.D × MP.Vl)} {x y : MP.D} (h : ∀ q ∈ m, MP.belowV n (some q.2) = true) : ∀ q ∈ MP.put m x (.d y), MP.belowV n (some q.2) = true := fun q hq => by
  unfold MP.put at hq
  split at hq
  · obtain ⟨z, hz, e⟩ := List.mem_map.mp hq
    split at e
    · rw [← e]; rfl
    · rw [← e]; exact h z hz
  · rcases List.mem_append.mp hq with hq | hq
    · exact h q hq
    · rw [List.mem_singleton.mp hq]; rfl
theorem putPairs_bel {n : Nat} : ∀ (ps : List MP.D) (m : List (MP.D × MP.Vl)), (∀ q ∈ m, MP.belowV n (some q.2) = true) → ∀ q ∈ MP.putPairs m ps, MP.belowV n (some q.2) = true
  | [], _, h => h
  | p :: ps, m, h => by
    unfold MP.putPairs
    split
    · exact h
    · rename_i e; cases e; exact putPairs_bel ps _ (put_belD h)
    · rename_i e; cases e; exact putPairs_bel ps _ h
theorem dc_read {t : MP.Tg} {it : MP.It} {c : MP.Tt} {ek ev : MP.Ex} {σ : L2.St} {H : Hp} {Q : VK} (q : tE X.K C P (.dcomp t it c ek ev) σ H Q) : tDc (tI X.K C P it) (gTg X.K t) (tT X.K C noP c) (tE X.K C noP ek) (tE X.K C noP ev) (tgs t) σ H Q := by
  obtain ⟨G, S, W, hG, hS, q⟩ := q
  simp only [MP.evE] at q
  refine tR.part hG hS q fun ds S1 J H1 W1 l1 g1 s1 r1 q1 => ?_
  have q1 : wpK X.K C.n0 P H1 W1 G ((MP.compL (stepD C t c ek ev G) [] ds S1).nox.bind fun ps S => .ok (.p S.length) (S ++ [.dic .k (MP.putPairs [] ps)])) (relE X.K) Q := q1
  intro D hD
  have alD := s1.fresh hD
  let Iv : Nat → Hp → Prop := fun i H' => i ≤ ds.length ∧ ∃ acc accD S' W', W'.T D ∧ Le H1 W1 H' W' ∧ Good X.K C.n0 H' W' S' ∧ H' D = some (.dK acc) ∧ Kvs keyV X.K H' W' (MP.putPairs [] accD) acc ∧ acc.length ≤ accD.length ∧ wpK X.K C.n0 P H1 W1 G ((MP.compL (stepD C t c ek ev G) accD (ds.drop i) S').nox.bind fun ps S => .ok (.p S.length) (S ++ [.dic .k (MP.putPairs [] ps)])) (relE X.K) Q
  refine ⟨fun i m H' => m = ds.length - i ∧ Iv i H', ⟨ds.length, rfl, Nat.zero_le _, [], [], S1, ⟨W1.F, W1.mu, fun a => W1.T a ∨ a = D, W1.ns⟩, .inr rfl, ?_, ?_, upd_same, rfl, Nat.le_refl _, by rw [List.drop_zero]; exact q1⟩, ?_⟩
  · obtain ⟨_, l⟩ := s1.new (o := .dK []) hD
    exact ⟨l.kp, l.mu, fun _ q => .inl q, l.ht, fun _ q => q⟩
  · obtain ⟨g, _⟩ := s1.new (o := .dK []) hD
    exact g.more upd_same alD
  · rintro i m H' ⟨rfl, hi, acc, accD, S', W', hT, l', g', eD, rD, ln, qD⟩
    obtain ⟨w1, w2, w3⟩ := r1 H' W' l'
    by_cases hlt : i < ds.length
    · refine .inr ⟨w2 i hlt, fun H'' => Iv (i + 1) H'', fun H'' p => ⟨ds.length - (i + 1), by omega, rfl, p⟩, fun x H2 y => ?_⟩
      obtain ⟨d, ed, l2, g2, r2⟩ := w3 i x H2 hlt y S' g'
      have edr : ds.drop i = d :: ds.drop (i + 1) := by
        have e1 : ds[i] = d := by rw [List.getElem?_eq_getElem hlt] at ed; exact Option.some.inj ed
        rw [List.drop_eq_getElem_cons hlt, e1]
      rw [edr] at qD
      have qD : wpK X.K C.n0 P H1 W1 G ((((stepD C t c ek ev G d S').bind fun o S'' => match o with
        | some y => if accD.length < MP.cap then MP.compL (stepD C t c ek ev G) (accD ++ [y]) (ds.drop (i + 1)) S'' else .no
        | none => MP.compL (stepD C t c ek ev G) accD (ds.drop (i + 1)) S'').nox).bind fun ps S => .ok (.p S.length) (S ++ [.dic .k (MP.putPairs [] ps)])) (relE X.K) Q := qD
      cases es : stepD C t c ek ev G d S' with
      | ex _ _ => rw [es] at qD; exact qD.elim
      | no => rw [es] at qD; exact qD.elim
      | ok o S2 =>
      rw [es] at qD
      simp only [MP.ok_bind] at qD
      have q2 := qD
      obtain ⟨G', b, Sb, eG, eT, hb⟩ := stepD_ok es
      have lt2 := l'.trans l2
      have hG2 : EnvX X.K H2 W' (tgs t) G (wipe σ (tgs t)) := by
        have z := (hG.mono (l1.trans lt2))
        refine ⟨by rw [wipe_length]; exact z.1, fun j xx hj ej => ?_⟩
        obtain ⟨v, e1, rv⟩ := z.2 j xx ej
        exact ⟨v, by rw [wipe_get _ _ hj]; exact e1, rv⟩
      refine gTg_run hG2 r2 eG fun σ2 hG3 o2 ln2 => ⟨wipe_same (by rw [ln2, wipe_length]) o2, ?_⟩
      refine ⟨G', S', W', hG3, g2, ?_⟩
      rw [eT]
      intro b' H3 W3 l3 g3 rb
      have rb : b' = b := rb
      subst rb
      have hT3 := l3.tt D hT
      have e3 : H3 D = some (.dK acc) := l3.ht D _ hT (l2.ht D _ hT eD)
      rcases hb with ⟨rfl, rfl, rfl⟩ | ⟨rfl, kx, y', Sk, rfl, hk, eK, eE⟩
      · show Iv (i + 1) H3
        exact ⟨hlt, acc, accD, S2, W3, hT3, lt2.trans l3, g3, e3, Kvs.mono (l2.trans l3) rD, ln, q2⟩
      · show tE X.K C noP ek σ2 H3 _
        refine ⟨G', Sb, W3, hG3.mono l3, g3, ?_⟩
        rw [eK]
        intro kv H4 W4 l4 g4 r4
        refine ⟨G', Sk, W4, (hG3.mono l3).mono l4, g4, ?_⟩
        rw [eE]
        intro v H5 W5 l5 g5 r5
        have hT5 := l5.tt D (l4.tt D hT3)
        have e5 : H5 D = some (.dK acc) := l5.ht D _ (l4.tt D hT3) (l4.ht D _ hT3 e3)
        have rD5 : Kvs keyV X.K H5 W5 (MP.putPairs [] accD) acc := Kvs.mono (((l2.trans l3).trans l4).trans l5) rD
        simp only at q2
        by_cases hc : accD.length < MP.cap
        · rw [if_pos hc] at q2
          obtain ⟨ky, k1, rfl⟩ := keyV_of hk (show RepD H4 W4.F kx kv from r4)
          refine ⟨acc, ky, rfl, e5, Nat.lt_of_le_of_lt ln (cap_lt hc), ?_⟩
          have nF := (g5.tobj D hT5).2
          have lk : Le H5 W5 (upd H5 D (.dK (putK acc ky v))) ⟨W5.F, W5.mu, fun a => W5.T a ∧ a ≠ D, W5.ns⟩ → True := fun _ => True.intro
          have l6 : Le H5 ⟨W5.F, W5.mu, fun _ => False, W5.ns⟩ (upd H5 D (.dK (putK acc ky v))) ⟨W5.F, W5.mu, fun _ => False, W5.ns⟩ := le_alterO e5 (soft_dK _) nF (fun z => z)
          have rp : Kvs keyV X.K H5 W5 (MP.putPairs [] (accD ++ [.tup [kx, y']])) (putK acc ky v) := by
            rw [putPairs_snoc]
            exact rD5.put keyV_apart k1 r5
          have re : ∀ {x : MP.Vl} {u : V}, RepV X.K H5 W5 x u → RepV X.K (upd H5 D (.dK (putK acc ky v))) W5 x u := fun {x u} r => by
            have r' : RepV X.K H5 ⟨W5.F, W5.mu, fun _ => False, W5.ns⟩ x u := by cases x <;> exact r
            have r2 := r'.mono l6
            cases x <;> exact r2
          have rk : ∀ (qs : List (MP.D × MP.Vl)) (ks : List (Key × V)), Kvs keyV X.K H5 W5 qs ks → Kvs keyV X.K (upd H5 D (.dK (putK acc ky v))) W5 qs ks := by
            intro qs
            induction qs with
            | nil => intro ks hk; exact hk
            | cons q r ih =>
              intro ks hk
              obtain ⟨k', v', t', e', a1, a2, a3⟩ := hk
              exact ⟨k', v', t', e', a1, re a2, ih _ a3⟩
          refine ⟨hlt, putK acc ky v, accD ++ [.tup [kx, y']], S2, W5, hT5, (((lt2.trans l3).trans l4).trans l5).poke hD, g5.pokeO e5 (soft_dK _) hT5, upd_same, rk _ _ rp, ?_, q2⟩
          have : (putK acc ky v).length ≤ acc.length + 1 := by
            unfold putK
            split
            · simp
            · simp
          simp
          omega
        · rw [if_neg hc] at q2
          exact q2.elim
    · have e : i = ds.length := by omega
      subst e
      refine .inl ⟨w1 _ (Nat.le_refl _), ?_⟩
      rw [List.drop_length] at qD
      have qD : wpK X.K C.n0 P H1 W1 G (.ok (.p S'.length) (S' ++ [.dic .k (MP.putPairs [] accD)])) (relE X.K) Q := qD
      have gl := g'.less (T := W1.T) l'.tt
      have ll : Le H1 W1 H' ⟨W'.F, W'.mu, W1.T, W'.ns⟩ := ⟨l'.kp, l'.mu, fun _ q => q, l'.ht, l'.nn⟩
      have alD2 : Alone ⟨W'.F, W'.mu, W1.T, W'.ns⟩ S' D := ⟨(g'.tobj D hT).2, alD.t, fun j c' h1 h2 h3 => g'.tmu j c' D h1 h2 h3 hT⟩
      have cD : CellIs X.K H' ⟨W'.F, W'.mu, W1.T, W'.ns⟩ (.dic .k (MP.putPairs [] accD)) (some (.dK acc)) := by
        refine ⟨acc, rfl, ?_⟩
        have re : ∀ (qs : List (MP.D × MP.Vl)) (ks : List (Key × V)), Kvs keyV X.K H' W' qs ks → Kvs keyV X.K H' ⟨W'.F, W'.mu, W1.T, W'.ns⟩ qs ks := by
          intro qs
          induction qs with
          | nil => intro ks hk; exact hk
          | cons q r ih =>
            intro ks hk
            obtain ⟨k', v', t', e', a1, a2, a3⟩ := hk
            refine ⟨k', v', t', e', a1, ?_, ih _ a3⟩
            generalize q.2 = z at a2 ⊢
            cases z <;> exact a2
        exact re _ _ rD
      obtain ⟨g6, l6, e6⟩ := gl.toCell (c := .dic .k (MP.putPairs [] accD)) eD cD (putPairs_bel accD [] fun z hz => absurd hz List.not_mem_nil) alD2
      exact qD _ H' _ (ll.trans l6) g6 ⟨D, e6, rfl⟩
end
end MS

set_option Elab.async false
set_option linter.all false
set_option maxRecDepth 100000
set_option autoImplicit false
set_option maxHeartbeats 4000000
/-! MSB2: dicts written with values. -/
namespace MS
open PySem PySem.Spec PyProof.Rows L2
variable [TW]
/-- a written key -/
def kyD : MP.D → Option Key
  | .int i => some (.inl i)
  | .str s => some (.inr (so s))
  | _ => none
def ckKD (h : Hd) (sc : Scope) (q : Option String × MP.D) : Expr → Bool
  | .Constant c _ _ => q.1.isNone && (match q.2 with
    | .int i => decide (c = .int i)
    | .str s => decide (c = .str (so s))
    | _ => false)
  | .Name y _ => (match q.1, q.2 with
    | some g, .int i => decide (y = so g) && decide ((g, i) ∈ h.gis) && glob sc (so g)
    | _, _ => false)
  | _ => false
def kOf (d : MP.D) : Key := (kyD d).getD (.inl 0)
section
variable {h : Hd} {k : Nat} {X : L2.Cx} {C : MP.Cx} {P : Post} {sc : Scope} {pos : Pos}
theorem pe_kd (x : XOk h k X C P sc) {q : Option String × MP.D} {e : Expr} (hc : ckKD h sc q e = true) : PE X e (tC (kV (kOf q.2))) ∧ keyV q.2 (kOf q.2) := by
  obtain ⟨g, d⟩ := q
  unfold ckKD at hc
  split at hc
  · rw [Bool.and_eq_true] at hc
    obtain ⟨_, hc⟩ := hc
    split at hc
    · rename_i i e
      cases e
      have := of_decide_eq_true hc
      subst this
      exact ⟨pe_int, rfl⟩
    · rename_i s e
      cases e
      have := of_decide_eq_true hc
      subst this
      exact ⟨pe_str, rfl⟩
    · cases hc
  · split at hc
    · rename_i g' i e1 e2
      cases e1
      cases e2
      simp only [Bool.and_eq_true, decide_eq_true_eq] at hc
      obtain ⟨⟨rfl, h1⟩, h2⟩ := hc
      obtain ⟨g1, g2, _⟩ := glob_gl x h2
      obtain ⟨t, e⟩ := x.tx.gis _ h1
      exact ⟨pe_glob (v := .int i) g1 e ⟨t, rfl⟩ g2, rfl⟩
    · cases hc
  · cases hc
/-- the parts of a written dict, one key and one value after another -/
inductive KD (X : L2.Cx) (C : MP.Cx) (P : Post) : List (Option String × MP.D) → MP.Exs → List (Option Expr) → List Expr → Prop
  | nil : KD X C P [] .nil [] []
  | cons {q : Option String × MP.D} {qs : List (Option String × MP.D)} {e : MP.Ex} {es : MP.Exs} {a : Expr} {ks : List (Option Expr)} {b : Expr} {vs : List Expr} : PE X a (tC (kV (kOf q.2))) → keyV q.2 (kOf q.2) → PE X b (tE X.K C P e) → KD X C P qs es ks vs → KD X C P (q :: qs) (.cons e es) (some a :: ks) (b :: vs)
def trK (K : Fg) (C : MP.Cx) (P : Post) : List (Option String × MP.D) → MP.Exs → List (TE × TE)
  | q :: qs, .cons e es => (tC (kV (kOf q.2)), tE K C P e) :: trK K C P qs es
  | _, _ => []
theorem KD.pps {qs : List (Option String × MP.D)} {es : MP.Exs} {ks : List (Option Expr)} {vs : List Expr} (d : KD X C P qs es ks vs) : PPs X pos ks vs (trK X.K C P qs es) ∧ ks.all (·.isSome) = true ∧ ks.length = vs.length ∧ ks.length = qs.length := by
  induction d with
  | nil => exact ⟨pps_nil, rfl, rfl, rfl⟩
  | cons h1 h0 h2 h3 ih =>
    obtain ⟨i1, i2, i3, i4⟩ := ih
    exact ⟨pps_cons h1 h2 i1, by rw [List.all_cons, i2]; rfl, by simp [i3], by simp [i4]⟩
def zipK : List (Option String × MP.D) → List V → List (Key × V)
  | q :: qs, v :: vs => (kOf q.2, v) :: zipK qs vs
  | _, _ => []
theorem pairs_ev {qs : List (Option String × MP.D)} {es : MP.Exs} {ks : List (Option Expr)} {xs : List Expr} (d : KD X C P qs es ks xs) : ∀ {G : MP.Env} {S : MP.St} {W : Wd} {H : Hp} {σ : L2.St} {Q : List (V × V) → Hp → Prop}, EnvR X.K H W G σ → Good X.K C.n0 H W S →
    wpK X.K C.n0 P H W G (MP.evEs C es G S) (relA X.K) (fun vs H2 => Q ((zipK qs vs).map fun kv => (kV kv.1, kv.2)) H2) → tPairs (trK X.K C P qs es) σ H Q := by
  induction d with
  | nil =>
    intro G S W H σ Q hG hS q
    exact q [] H W .refl hS rfl
  | @cons q qs e es a ks b vs h1 h0 h2 h3 ih =>
    intro G S W H σ Q hG hS q'
    simp only [MP.evEs] at q'
    show tE X.K C P e σ H _
    refine tR.part hG hS q' fun y S1 v H1 W1 l1 g1 s1 r1 q1 => ?_
    refine ih g1 s1 (q1.bind fun zs S2 us H2 W2 l2 g2 r2 q2 => ?_)
    exact q2 (v :: us) H2 W2 .refl g2 ⟨v, us, rfl, r1.mono l2, r2⟩
theorem kvs_put {K : Fg} {H : Hp} {W : Wd} : ∀ (qs : List (Option String × MP.D)) (ds : List MP.D) (vs : List V) (m m' : List (MP.D × MP.Vl)) (ks : List (Key × V)), (∀ q ∈ qs, keyV q.2 (kOf q.2)) → RepDs H W.F ds vs → Kvs keyV K H W m ks → MP.putAllV m qs ds = some m' →
    Kvs keyV K H W m' (mergeK ks (zipK qs vs)) ∧ (zipK qs vs).length = qs.length
  | [], [], vs, m, m', ks, _, r, hk, e => by
    cases r
    cases e
    exact ⟨hk, rfl⟩
  | [], _ :: _, _, _, _, _, _, _, _, e => by cases e
  | _ :: _, [], _, _, _, _, _, _, _, e => by cases e
  | q :: qs, d :: ds, vs, m, m', ks, hq, r, hk, e => by
    obtain ⟨v, us, rfl, r1, r2⟩ := r
    unfold MP.putAllV at e
    split at e
    · obtain ⟨a1, a2⟩ := kvs_put qs ds us (MP.put m q.2 (.d d)) m' (putK ks (kOf q.2) v) (fun z hz => hq z (List.mem_cons_of_mem _ hz)) r2 (hk.put keyV_apart (hq q List.mem_cons_self) (x := .d d) (u := v) r1) e
      exact ⟨a1, by show (zipK qs us).length + 1 = _; rw [a2]; rfl⟩
    · cases e
theorem putAllV_bel {n : Nat} : ∀ (qs : List (Option String × MP.D)) (ds : List MP.D) (m m' : List (MP.D × MP.Vl)), (∀ q ∈ m, MP.belowV n (some q.2) = true) → MP.putAllV m qs ds = some m' → ∀ q ∈ m', MP.belowV n (some q.2) = true
  | [], [], m, m', h, e => by cases e; exact h
  | [], _ :: _, _, _, _, e => by cases e
  | _ :: _, [], _, _, _, e => by cases e
  | q :: qs, d :: ds, m, m', h, e => by
    unfold MP.putAllV at e
    split at e
    · exact putAllV_bel qs ds _ m' (put_belD h) e
    · cases e
theorem ie_ddiv (x : XOk h k X C P sc) {qs : List (Option String × MP.D)} {es : MP.Exs} {ks : List (Option Expr)} {vs : List Expr} (d : KD X C P qs es ks vs) (hq : ∀ q ∈ qs, keyV q.2 (kOf q.2)) (h0 : qs ≠ []) (h15 : qs.length ≤ 15) : PE X (.Dict ks vs pos) (tE X.K C P (.ddiv qs es)) := by
  obtain ⟨h1, h2, h3, h4⟩ := d.pps (pos := pos)
  refine PE.imp (pe_disp h1 h2 h3 (fun z => h0 (by rw [z] at h4; exact List.length_eq_zero_iff.mp h4.symm)) (by omega)) fun σ H Q ⟨G, S, W, hG, hS, q⟩ p hp => ?_
  simp only [MP.evE] at q
  obtain ⟨g1, l1⟩ := hS.new (o := .dK []) hp
  have g2 := g1.more upd_same (hS.fresh hp)
  have l2 : Le H W (upd H p (.dK [])) ⟨W.F, W.mu, fun a => W.T a ∨ a = p, W.ns⟩ := ⟨l1.kp, l1.mu, fun _ q => .inl q, l1.ht, fun _ q => q⟩
  cases ev : MP.evEs C es G S with
  | no => rw [ev] at q; exact q.elim
  | ex z S2 =>
    rw [ev] at q
    refine pairs_ev d (hG.mono l2) g2 ?_
    rw [ev]
    exact fun H' W' l g => q H' W' (l2.trans l) g
  | ok zs S2 =>
  rw [ev] at q
  simp only [MP.ok_bind] at q
  have q3 := q
  refine pairs_ev d (hG.mono l2) g2 ?_
  rw [ev]
  intro us H2 W2 l3 g3 r3
  have hT : W2.T p := l3.tt p (.inr rfl)
  have e2 : H2 p = some (.dK []) := l3.ht p _ (.inr rfl) upd_same
  split at q3
  · rename_i ds e
    split at q3
    · rename_i m em
      have rr := mapM_rep r3 e
      obtain ⟨kv, ln⟩ := kvs_put (K := X.K) (H := H2) (W := W2) qs ds us [] m [] hq rr rfl em
      refine ⟨e2, zipK qs us, rfl, by omega, ?_⟩
      have nF := (g3.tobj p hT).2
      have g4 := g3.pokeO (o := .dK (mergeK [] (zipK qs us))) e2 (soft_dK _) hT
      have l4 : Le H2 ⟨W2.F, W2.mu, fun _ => False, W2.ns⟩ (upd H2 p (.dK (mergeK [] (zipK qs us)))) ⟨W2.F, W2.mu, fun _ => False, W2.ns⟩ := le_alterO e2 (soft_dK _) nF (fun z => z)
      have g5 := g4.less (T := W.T) (fun a ha => l3.tt a (.inl ha))
      have l5 : Le H W (upd H2 p (.dK (mergeK [] (zipK qs us)))) ⟨W2.F, W2.mu, W.T, W2.ns⟩ := by
        have z := (l2.trans l3).poke (o := .dK (mergeK [] (zipK qs us))) hp
        exact ⟨z.kp, z.mu, fun _ q => q, z.ht, z.nn⟩
      have al := hS.fresh hp
      have alp : Alone ⟨W2.F, W2.mu, W.T, W2.ns⟩ S2 p := ⟨nF, al.t, fun j c' h1 h2 h3 => g3.tmu j c' p h1 h2 h3 hT⟩
      have cD : CellIs X.K (upd H2 p (.dK (mergeK [] (zipK qs us)))) ⟨W2.F, W2.mu, W.T, W2.ns⟩ (.dic .k m) (some (.dK (mergeK [] (zipK qs us)))) := by
        refine ⟨_, rfl, ?_⟩
        have re : ∀ (ms : List (MP.D × MP.Vl)) (ks : List (Key × V)), Kvs keyV X.K H2 W2 ms ks → Kvs keyV X.K (upd H2 p (.dK (mergeK [] (zipK qs us)))) ⟨W2.F, W2.mu, W.T, W2.ns⟩ ms ks := by
          intro ms
          induction ms with
          | nil => intro ks hk; exact hk
          | cons q r ih =>
            intro ks hk
            obtain ⟨k', v', t', e', a1, a2, a3⟩ := hk
            refine ⟨k', v', t', e', a1, ?_, ih _ a3⟩
            have r' : RepV X.K H2 ⟨W2.F, W2.mu, fun _ => False, W2.ns⟩ q.2 v' := by
              generalize q.2 = z at a2 ⊢
              cases z <;> exact a2
            have r2 := r'.mono l4
            generalize q.2 = z at r2 ⊢
            cases z <;> exact r2
        exact re _ _ kv
      obtain ⟨g6, l6, e6⟩ := g5.toCell (c := .dic .k m) upd_same cD (putAllV_bel qs ds [] m (fun z hz => absurd hz List.not_mem_nil) em) alp
      exact q3 _ _ _ (l5.trans l6) g6 ⟨p, e6, rfl⟩
    · exact q3.elim
  · exact q3.elim
end
end MS

set_option Elab.async false
set_option linter.all false
set_option maxRecDepth 100000
set_option autoImplicit false
set_option maxHeartbeats 4000000
/-! MSB3: a name bound to a dict's comprehension. -/
namespace MS
open PySem PySem.Spec PyProof.Rows L2
variable [TW]
section
variable {X : L2.Cx}
theorem sw_dict {kx vx : Expr} {gs : List Comprehension} {cs : Scope} {pos py : Pos} {y : Str} {l : Nat} {env : Env} (hk : env.scope.kind = .function) (hy : env.scope.names.lookup y = some .local) (hl : (py.line == pos.line) = true)
    (ha : (cs.names.any fun (n, k) => n == y && (k == .local || k == .cell)) = false) : swapsWith (.DictComp kx vx gs cs pos) (some (.Name y py)) l env = pure true := by
  have k1 : env.kindOf y = some .local := hy
  have k2 : env.blockKind = .function := by unfold Env.blockKind; rw [hk]; rfl
  unfold swapsWith
  simp only [k2, k1, ha, Expr.pos, hl]
  rfl
theorem ps_setDc {i : Nat} {y : Str} {py : Pos} {kx vx tg iter : Expr} {ifs : List Expr} {cs : Scope} {own : List (Str × Nat)} {pos spos : Pos} {wi : TI} {g : TG} {tt : TT} {tk tv : TE} (calm : X.calm = true) (nd : X.N.Nodup) (hy : X.N[i]? = some y) (hyl : X.env.scope.names.lookup y = some .local)
    (hsw : swapsWith (.DictComp kx vx [⟨tg, iter, ifs, 0⟩] cs pos) (some (.Name y py)) spos.line X.env = pure true) (pi : PI X tg iter wi) (ok : BlkOk X.N X.env.scope cs own)
    (pg : ∀ (s : Shared) (H : Hp) (C : Addr) (cl : List (Str × Addr)) (fp : List Addr), PG (X.blk s H cs (compEnvC cs cl C X.env) fp) tg g)
    (pt : ∀ (s : Shared) (H : Hp) (C : Addr) (cl : List (Str × Addr)) (fp : List Addr), PTs (X.blk s H cs (compEnvC cs cl C X.env) fp) ifs tt)
    (pk : ∀ (s : Shared) (H : Hp) (C : Addr) (cl : List (Str × Addr)) (fp : List Addr), PE (X.blk s H cs (compEnvC cs cl C X.env) fp) kx tk)
    (pv : ∀ (s : Shared) (H : Hp) (C : Addr) (cl : List (Str × Addr)) (fp : List Addr), PE (X.blk s H cs (compEnvC cs cl C X.env) fp) vx tv)
    (fold : ∀ x, foldedSetIterable iter X.env x = pure x) :
    PS X (.Assign [.Name y py] (.DictComp kx vx [⟨tg, iter, ifs, 0⟩] cs pos) spos) (tAsg (tDc wi g tt tk tv (own.map (·.2))) (gName i)) := by
  refine ⟨fun pins s σ H D inv h => ?_⟩
  rw [exec_Assign_Name_used _ _ _ _ hsw]
  refine wpAny_bind (wpAny_standAt (wpAny_bind ?_))
  show wpAny _ X.A (do let _ ← comprehension (.DictComp kx vx [⟨tg, iter, ifs, 0⟩] cs pos) cs X.env (firstIterPos [⟨tg, iter, ifs, 0⟩] pos) newDict false (eval iter X.env) (some (assign (.Name y py) X.env))) _ _ s
  have core := dc_core (pos := pos) (pos' := firstIterPos [⟨tg, iter, ifs, 0⟩] pos) (use := some (assign (.Name y py) X.env)) (Qf := fun _ s' => SP X pins D .next s') calm nd inv pi ok pg pt pk pv fold (Q := fun x H1 => gName i x σ H1 D.nx) h fun L Cm s' m H' inv2 after ns fpo => ?_
  · exact wpAny_bind (thn core fun _ s' done => wpAny_pure (wpAny_pure done))
  · show wpAny _ _ (assign (.Name y py) X.env (.ref L)) _ _ _
    obtain ⟨z0, z1, z2, z3, z4, z5⟩ := fpo
    refine wpAny_assign_Name (store_ok2 (v := V.ref L) inv2 nd hy (.inl hyl) rfl (fun s2 inv3 ⟨a, sb, ha⟩ => ?_) (.inr hyl))
    have apart : Cm ≠ a := by
      rcases ha with e | e
      · rw [e]
        exact z1
      · exact fun c => z4 y a e c.symm
    refine ⟨m, ns.sameBut sb apart, fun h3 sb3 => ⟨_, H', ?_, after⟩⟩
    exact inv3.turned (t' := s2.toks) (fun b o hb e => (sb3.2 b hb).trans e) z0 z1 z3 z4 z5
end
section
variable {h : Hd} {k : Nat} {X : L2.Cx} {C : MP.Cx} {P : Post} {sc : Scope}
end
end MS

set_option Elab.async false
set_option linter.all false
set_option maxRecDepth 100000
set_option autoImplicit false
set_option maxHeartbeats 4000000
/-! MSC: repr of data, where no repr runs. -/
namespace MS
open PySem PySem.Spec PyProof.Rows L2
variable [TW]
mutual
theorem pd_show : ∀ d : MP.D, d.shw = true → (pd d).showable = true ∧ (pd d).hasDict = false
  | .non, _ => ⟨rfl, rfl⟩
  | .bl _, _ => ⟨rfl, rfl⟩
  | .int i, h => by
    simp only [MP.D.shw, Nat.blt_eq] at h
    exact ⟨decide_eq_true (by omega), rfl⟩
  | .str _, _ => ⟨rfl, rfl⟩
  | .tup ds, h => by
    simp only [MP.D.shw] at h
    obtain ⟨a, b⟩ := pds_show ds h
    simp only [pd, PyData.showable, PyData.hasDict]
    exact ⟨a, b⟩
  | .lst ds, h => by
    simp only [MP.D.shw] at h
    obtain ⟨a, b⟩ := pds_show ds h
    simp only [pd, PyData.showable, PyData.hasDict]
    exact ⟨a, b⟩
theorem pds_show : ∀ ds : List MP.D, MP.D.shws ds = true → PyData.showableAll (pds ds) = true ∧ PyData.hasDictAll (pds ds) = false
  | [], _ => ⟨rfl, rfl⟩
  | d :: ds, h => by
    simp only [MP.D.shws, Bool.and_eq_true] at h
    obtain ⟨a, b⟩ := pd_show d h.1
    obtain ⟨c, e⟩ := pds_show ds h.2
    simp only [pds, PyData.showableAll, PyData.hasDictAll, a, b, c, e]
    exact ⟨rfl, rfl⟩
end
theorem strOf_len (s : Str) (t : Str) : (s ++ t).length = s.length + t.length := strLen_append s t
theorem textFrom_le : ∀ (ts : List Str) (k : Nat) (acc : Str), (textFrom k acc ts).length ≤ acc.length + piled ts
  | [], k, acc => by rw [piled_nil]; exact Nat.le_refl _
  | t :: ts, k, acc => by
    have h := textFrom_le ts (k + 1) (acc ++ (if k > 0 then ", " else "" : String) ++ t)
    have e : (((if k > 0 then ", " else "" : String) : Str)).length ≤ 2 := by split <;> decide
    show (textFrom (k + 1) (acc ++ (if k > 0 then ", " else "" : String) ++ t) ts).length ≤ _
    rw [strLen_append, strLen_append] at h
    rw [piled_cons]
    omega
theorem listText_le (ts : List Str) : (listText ts).length ≤ piled ts + 2 := by
  unfold listText
  rw [strLen_append]
  have h := textFrom_le ts 0 "["
  have e1 : (("[" : String) : Str).length = 1 := rfl
  have e2 : (("]" : String) : Str).length = 1 := rfl
  omega
theorem tupleText_le (ts : List Str) : (tupleText ts).length ≤ piled ts + 3 := by
  unfold tupleText
  rw [strLen_append, strLen_append]
  have e1 : (("(" : String) : Str).length = 1 := rfl
  have e3 : (((if ts.length == 1 then ",)" else ")" : String) : Str)).length ≤ 2 := by split <;> decide
  by_cases h : ts = []
  · subst h
    have : (Str.join ", " []).length = 0 := rfl
    rw [this, piled_nil]
    omega
  · have := join_length_add ts h
    omega
mutual
theorem wt_shown : ∀ d : MP.D, d.shw = true → (pd d).shown.length ≤ d.wt
  | .non, _ => by decide
  | .bl b, _ => by cases b <;> decide
  | .int i, h => by
    have e := int_text_length_le (a := i) (k := i.natAbs.log2 + 1) (by omega) (by omega)
    simp only [pd, PyData.shown, MP.D.wt]
    rw [PySem.ofString_length]
    omega
  | .str s, _ => by
    simp only [pd, PyData.shown, MP.D.wt]
    have := PySem.StrLaws.reprText_len (so s) fun c hc => by
      rw [so_list] at hc
      obtain ⟨x, _, rfl⟩ := List.mem_map.mp hc
      have := char_lt x
      omega
    rw [so_len] at this
    exact this
  | .tup ds, h => by
    simp only [MP.D.shw] at h
    have := wts_shown ds h
    have h2 := tupleText_le (PyData.shownAll (pds ds))
    simp only [pd, PyData.shown, MP.D.wt]
    omega
  | .lst ds, h => by
    simp only [MP.D.shw] at h
    have := wts_shown ds h
    have h2 := listText_le (PyData.shownAll (pds ds))
    simp only [pd, PyData.shown, MP.D.wt]
    omega
theorem wts_shown : ∀ ds : List MP.D, MP.D.shws ds = true → piled (PyData.shownAll (pds ds)) ≤ MP.D.wts ds
  | [], _ => Nat.le_refl _
  | d :: ds, h => by
    simp only [MP.D.shws, Bool.and_eq_true] at h
    have h1 := wt_shown d h.1
    have h2 := wts_shown ds h.2
    simp only [pds, PyData.shownAll, MP.D.wts, piled_cons]
    omega
end
/-- repr(x), x data -/
theorem cr_repr {X : L2.Cx} (hg : X.A.guards = some []) (hu : X.A.units + 65 < cLine) : CallR X (.builtin "repr") (fun vs H Q => ∃ a d, vs = [.ref a] ∧ Dp X.K H (.ref a) d ∧ d.showable = true ∧ d.hasDict = false ∧ d.depth ≤ 62 ∧ d.shown.length ≤ sizeLine ∧ Q (.str d.shown) H) := by
  intro pins s σ H vs us Q I r h
  obtain ⟨a, d, rfl, hd, h1, h2, h3, h4, q⟩ := h
  cases r with
  | cons rv rt =>
    cases rt
    obtain ⟨as, rd⟩ := Dp.reads I d _ _ hd rv
    obtain rfl : _ = Value.ref a := rv
    refine PySem.repr_of_reads' rd h1 (fun z => by rw [h2] at z; cases z) hg (by omega) (fun b o e => e) (fun h' u tk keep => ?_) h4
    exact ⟨.str d.shown, H, I.kept (t' := tk) keep, ⟨u, rfl⟩, q⟩
section
variable {h : Hd} {k : Nat} {X : L2.Cx} {C : MP.Cx} {P : Post} {sc : Scope} {a : Expr} {ea : MP.Ex} {p pos : Pos}
theorem ie_repr (x : XOk h k X C P sc) (hg : X.A.guards = some []) (ha : PE X a (tE X.K C P ea)) (hs : nst a = true) (hm : "repr" ∈ h.free) (hgl : glob sc (so "repr") = true) : PE X (.Call (.Name (so "repr") p) [a] [] pos) (tE X.K C P (.repr ea)) := by
  obtain ⟨b1, b2, b3, b4⟩ := bltn x hm hgl
  refine PE.imp (pe_callB (cr_repr hg x.hu) b1 b2 (by decide +kernel) (pa_cons ha pa_nil (nst_star hs)) b3 b4 (nst_star hs) rfl) fun σ H Q ⟨G, S, W, hG, hS, q⟩ => ?_
  simp only [MP.evE] at q
  show tE X.K C P ea σ H _
  refine tR.part hG hS q fun y S1 v H1 W1 l1 g1 s1 r1 q1 => ?_
  have fin : ∀ d : MP.D, MP.dat S1 y = some d → (∃ ds, d = .tup ds ∨ d = .lst ds) → d.shw = true ∧ d.dep ≤ 60 ∧ d.wt ≤ 10000000 → wpK X.K C.n0 P H1 W1 G (.ok (.r d) S1) (relE X.K) Q →
      ∃ (a : Addr) (e : PyData), [v] = [.ref a] ∧ Dp X.K H1 (.ref a) e ∧ e.showable = true ∧ e.hasDict = false ∧ e.depth ≤ 62 ∧ e.shown.length ≤ sizeLine ∧ Q (.str e.shown) H1 := by
    intro d hd hk ⟨c1, c2, c3⟩ q2
    obtain ⟨h1, h2⟩ := pd_show d c1
    have hz : (pd d).shown.length ≤ sizeLine := Nat.le_trans (wt_shown d c1) (Nat.le_trans c3 (by decide))
    have hD := s1.dat r1 hd
    obtain ⟨ds, hk⟩ := hk
    have ref : ∃ b, v = .ref b := by
      rcases hk with rfl | rfl
      · obtain ⟨b, _, e, _⟩ := s1.tup r1 hd
        exact ⟨b, e⟩
      · obtain ⟨b, _, e, _⟩ := s1.lst r1 hd
        exact ⟨b, e⟩
    obtain ⟨b, rfl⟩ := ref
    exact ⟨b, pd d, rfl, hD, h1, h2, by rw [pd_dep]; omega, hz, q2 _ H1 W1 .refl s1 (by show V.str _ = V.str _; rw [pdr_eq d c1])⟩
  unfold MP.reprV at q1
  split at q1
  · rename_i d hd
    split at q1
    · rename_i ds
      split at q1
      · rename_i hc
        exact fin _ hd ⟨ds, .inl rfl⟩ hc q1
      · exact q1.elim
    · rename_i ds
      split at q1
      · rename_i hc
        exact fin _ hd ⟨ds, .inr rfl⟩ hc q1
      · exact q1.elim
    · exact q1.elim
  · exact q1.elim
end
/-! ### a list and a dict, shown together -/
def kvI (q : Int × Int) : PyData × PyData := (.int q.1, .int q.2)
theorem pairs_reads {P : Program} {w : World} {h : Heap} {es : List DictEntry} {vs : List (Key × Value)} (p : Pairs (mixKind P w) es vs) : ∀ {ijs : List (Int × Int)}, KV (ijs.map fun q => ((.inl q.1 : Key), V.int q.2)) vs →
    ReadsAll h (es.map (·.key)) ((ijs.map kvI).map (·.1)) [] ∧ ReadsAll h (es.map (·.val)) ((ijs.map kvI).map (·.2)) [] := by
  induction p with
  | nil =>
    intro ijs r
    cases ijs with
    | nil => exact ⟨.nil, .nil⟩
    | cons q l => cases r
  | @cons e kv es kvs h1 h2 h3 ih =>
    intro ijs r
    cases ijs with
    | nil => cases r
    | cons q l =>
      cases r with
      | cons r1 r2 =>
        obtain ⟨a1, a2⟩ := ih r2
        obtain ⟨k1, k2⟩ := r1
        obtain ⟨k, v⟩ := kv
        simp only at k1 k2 h1 h2
        subst k1
        rcases keyIs_shape (show keyIs (Sum.inl q.1) e.key = true from h1) with ⟨i, t, e1, e2⟩ | ⟨x, t, e1, e2⟩
        · cases e1
          obtain ⟨t2, e3⟩ := (show ∃ t, v = Value.int q.2 t from k2)
          refine ⟨?_, ?_⟩
          · have := ReadsAll.cons (Reads.int (h := h) q.1 t) a1
            rw [List.map_cons, e2]
            exact this
          · have := ReadsAll.cons (Reads.int (h := h) q.2 t2) a2
            rw [List.map_cons, h2, e3]
            exact this
        · cases e1
def okIJ (ijs : List (Int × Int)) : Bool := ijs.all fun q => (PyData.int q.1).showable && (PyData.int q.2).showable
theorem kvI_dict : ∀ ijs : List (Int × Int), okIJ ijs = true → PyData.showableKv (ijs.map kvI) = true ∧ PyData.depthKv (ijs.map kvI) = 0
  | [], _ => ⟨rfl, rfl⟩
  | q :: l, h => by
    unfold okIJ at h
    rw [List.all_cons, Bool.and_eq_true] at h
    obtain ⟨a, b⟩ := kvI_dict l h.2
    simp only [Bool.and_eq_true] at h
    simp only [List.map_cons, kvI, PyData.showableKv, PyData.depthKv, PyData.depth] at a b ⊢
    refine ⟨?_, ?_⟩
    · simp only [h.1.1, h.1.2]
      exact a
    · have : (List.map kvI l) = List.map (fun q : Int × Int => (PyData.int q.1, PyData.int q.2)) l := rfl
      rw [b]
      rfl
/-- repr([x, d]) -/
theorem cr_reprLD {X : L2.Cx} (hg : X.A.guards = some []) (hu : X.A.units + 65 < cLine) : CallR X (.builtin "repr") (fun vs H Q => ∃ (p b : Addr) (x : V) (d : PyData) (ijs : List (Int × Int)), vs = [.ref p] ∧ H p = some (.lst [x, .ref b]) ∧ Dp X.K H x d ∧ H b = some (.dK (ijs.map fun q => ((.inl q.1 : Key), V.int q.2))) ∧
    d.showable = true ∧ d.hasDict = false ∧ d.depth ≤ 60 ∧ okIJ ijs = true ∧ (PyData.list [d, .dict (ijs.map kvI)]).shown.length ≤ sizeLine ∧ Q (.str (PyData.list [d, .dict (ijs.map kvI)]).shown) H) := by
  intro pins s σ H vs us Q I r h
  obtain ⟨p, b, x, d, ijs, rfl, hp, hx, hb, h1, h2, h3, h4, h5, q⟩ := h
  cases r with
  | cons rv rt =>
    cases rt
    obtain rfl : _ = Value.ref p := rv
    obtain ⟨its, rl, ⟨o, n, ho, hc, _, hd⟩, _⟩ := I.list (SqL.of hp)
    cases rl with
    | @cons _ ua _ l2 r1 r2 =>
      cases r2 with
      | @cons _ ub _ l3 r3 r4 =>
        cases r4
        obtain rfl : ub = Value.ref b := r3
        obtain ⟨as, ra⟩ := Dp.reads I d _ _ hx r1
        obtain ⟨_, hsys, kvs, rel, ob, es, ep, eb, exd, hdat, _, prs, _⟩ := dk_of I.hok hb
        obtain ⟨q1, q2⟩ := pairs_reads (h := s.heap) prs rel
        have rb : Reads s.heap (.ref b) (.dict (ijs.map kvI)) (b :: [] ++ []) := .dict eb exd.1 hdat q1 q2
        obtain ⟨sk, dk⟩ := kvI_dict ijs h4
        have hz' : (listText (PyData.shownAll [d, .dict (ijs.map kvI)])).length ≤ sizeLine := by simpa only [PyData.shown] using h5
        have hmem : ∀ t ∈ PyData.shownAll [d, .dict (ijs.map kvI)], t.length ≤ sizeLine := fun t ht => Nat.le_trans (listText_mem_le ht) hz'
        obtain ⟨b1, hb1, k1⟩ := ReprK.of_reads (prog := X.prog) (w := X.w) ra h1 (fun z => by rw [h2] at z; cases z) (hmem _ (by simp only [PyData.shownAll]; exact List.mem_cons_self))
        obtain ⟨b2, hb2, k2⟩ := ReprAllK.of_readsAll (prog := X.prog) (w := X.w) (ReadsAll.cons rb .nil) (by simp only [PyData.showableAll, PyData.showable, sk]; rfl) (fun _ hm => by
          simp only [List.cons_append, List.nil_append, List.append_nil, List.mem_cons, List.not_mem_nil, or_false] at hm
          rw [← hm] at hsys
          simp at hsys) (fun t ht => hmem t (by simp only [PyData.shownAll] at ht ⊢; exact List.mem_cons_of_mem _ ht))
        have rp : Reads s.heap (.ref p) (.list [d, .dict (ijs.map kvI)]) _ := .list ho hc hd (.cons ra (.cons rb .nil))
        have hbs : ReadAtMost s.heap (PyData.depthAll [d, .dict (ijs.map kvI)]) (b1 ++ b2) := by
          intro z hm
          simp only [PyData.depthAll] at hb2 ⊢
          rcases List.mem_append.mp hm with hm | hm
          · obtain ⟨d', as', r', hd'⟩ := hb1 z hm
            exact ⟨d', as', r', Nat.le_trans hd' (Nat.le_max_left _ _)⟩
          · obtain ⟨d', as', r', hd'⟩ := hb2 z hm
            exact ⟨d', as', r', Nat.le_trans hd' (Nat.le_max_right _ _)⟩
        have hk : ReprAllK X.prog X.w (b1 ++ b2) s.heap (PyData.depthAll [d, .dict (ijs.map kvI)]) [ua, .ref b] (PyData.shownAll [d, .dict (ijs.map kvI)]) := by
          simp only [PyData.depthAll, PyData.shownAll] at k2 ⊢
          exact .cons ((k1.more fun b hb => List.mem_append_left _ hb).level_le (Nat.le_max_left _ _)) (k2.more_le (fun b hb => List.mem_append_right _ hb) (Nat.le_max_right _ _))
        have hna : p ∉ b1 ++ b2 := not_mem_of_deeper rp (by simp only [PyData.depth]; omega) hbs
        have hdep : PyData.depthAll [d, .dict (ijs.map kvI)] ≤ 61 := by
          simp only [PyData.depthAll, PyData.depth, dk]
          omega
        refine call_repr_slot (T := "list") (by omega) ⟨o, ho, hc⟩ F.slot_list_repr.toG ?_
        refine call_list_reprK ho hc hd hna (by simpa using hk.length_eq) (fun i y e => hk.item i y (by simpa using e)) (show X.A.in1.guards = some [] from hg) (fun b _ => Clear.nil b) (by show X.A.units + 1 + _ < cLine; omega) (fun _ _ e => e) (fun h' u tk keep => ?_) hz'
        refine ⟨_, _, rfl, .str _, H, I.kept (t' := tk) keep, ⟨u, rfl⟩, ?_⟩
        simpa only [PyData.shown] using q
theorem allInt_of : ∀ {ps : List MP.D}, MP.allInt ps = true → ∃ ijs : List (Int × Int), ps = ijs.map fun q => .tup [.int q.1, .int q.2]
  | [], _ => ⟨[], rfl⟩
  | d :: ps, h => by
    unfold MP.allInt at h
    split at h
    · contradiction
    · rename_i i j r e
      cases e
      obtain ⟨ijs, rfl⟩ := allInt_of h
      exact ⟨(i, j) :: ijs, rfl⟩
    · cases h
theorem pairsD_of : ∀ {kvs : List (MP.D × MP.Vl)} {ijs : List (Int × Int)}, MP.pairsD kvs = some (ijs.map fun q => .tup [.int q.1, .int q.2]) → kvs = ijs.map fun q => (.int q.1, .d (.int q.2))
  | [], [], _ => rfl
  | [], _ :: _, h => by simp [MP.pairsD] at h
  | (k, v) :: r, ijs, h => by
    cases v with
    | d v =>
      simp only [MP.pairsD, Option.map_eq_some_iff] at h
      obtain ⟨ps, e1, e2⟩ := h
      cases ijs with
      | nil => cases e2
      | cons q l =>
        rw [List.map_cons] at e2
        injection e2 with e3 e4
        injection e3 with e3
        injection e3 with e5 e6
        injection e6 with e6 _
        rw [e4] at e1
        rw [pairsD_of e1, e5, e6]
        rfl
    | _ => simp [MP.pairsD] at h
theorem kvs_ints {K : Fg} {H : Hp} {W : Wd} : ∀ {ijs : List (Int × Int)} {ks : List (Key × V)}, Kvs keyV K H W (ijs.map fun q => (.int q.1, .d (.int q.2))) ks → ks = ijs.map fun q => ((.inl q.1 : Key), V.int q.2)
  | [], _, h => by cases h; rfl
  | q :: l, _, h => by
    obtain ⟨k, v, t, rfl, h1, h2, h3⟩ := h
    cases h1
    cases h2
    rw [kvs_ints h3]
    rfl
theorem dict_show : ∀ ijs : List (Int × Int), MP.D.shws (ijs.map fun q => .tup [.int q.1, .int q.2]) = true → okIJ ijs = true ∧ piled (PyData.shownKv (ijs.map kvI)) ≤ MP.D.wts (ijs.map fun q => .tup [.int q.1, .int q.2])
  | [], _ => ⟨rfl, Nat.le_refl _⟩
  | q :: l, h => by
    simp only [List.map_cons, MP.D.shws, Bool.and_eq_true, MP.D.shw] at h
    obtain ⟨a, b⟩ := dict_show l h.2
    have s1 := pd_show (.int q.1) h.1.1
    have s2 := pd_show (.int q.2) h.1.2.1
    have w1 : (PyData.int q.1).shown.length ≤ (MP.D.int q.1).wt := wt_shown (.int q.1) h.1.1
    have w2 : (PyData.int q.2).shown.length ≤ (MP.D.int q.2).wt := wt_shown (.int q.2) h.1.2.1
    refine ⟨?_, ?_⟩
    · unfold okIJ at a ⊢
      rw [List.all_cons, a, Bool.and_true, Bool.and_eq_true]
      exact ⟨s1.1, s2.1⟩
    · simp only [List.map_cons, kvI, PyData.shownKv, piled_cons, MP.D.wts, MP.D.wt] at b w1 w2 ⊢
      rw [strLen_append, strLen_append]
      have e2 : ((": " : String) : Str).length = 2 := rfl
      have : (List.map kvI l) = List.map (fun q : Int × Int => (PyData.int q.1, PyData.int q.2)) l := rfl
      omega
theorem pdr_mark (a : MP.D) (ps : List MP.D) : pdr (.tup [MP.mark, a, .lst ps]) = .list [pd a, .dict (ps.map pairP)] := by
  unfold pdr MP.mark
  simp only
  rw [if_neg (by decide +kernel)]
section
variable {h : Hd} {k : Nat} {X : L2.Cx} {C : MP.Cx} {P : Post} {sc : Scope} {p p1 p2 pos pos2 : Pos} {y1 y2 : Str}
theorem ie_reprLD {i j : Nat} (x : XOk h k X C P sc) (hg : X.A.guards = some []) (hN1 : X.N[i]? = some y1) (hv1 : vis sc y1 = true) (hN2 : X.N[j]? = some y2) (hv2 : vis sc y2 = true) (hm : "repr" ∈ h.free) (hgl : glob sc (so "repr") = true) :
    PE X (.Call (.Name (so "repr") p) [.List [.Name y1 p1, .Name y2 p2] pos2] [] pos) (tE X.K C P (.reprLD i j)) := by
  obtain ⟨b1, b2, b3, b4⟩ := bltn x hm hgl
  obtain ⟨v1, v2, v3⟩ := vis_vis x hv1
  obtain ⟨u1, u2, u3⟩ := vis_vis x hv2
  have a1 := pe_var (pos := p1) hN1 v1 v2 v3
  have a2 := pe_var (pos := p2) hN2 u1 u2 u3
  refine PE.imp (pe_callB (cr_reprLD hg x.hu) b1 b2 (by decide +kernel) (pa_cons (pe_lst (pa_cons a1 (pa_cons a2 pa_nil (by rfl)) (by rfl))) pa_nil (by rfl)) b3 b4 (by rfl) rfl) fun σ H Q ⟨G, S, W, hG, hS, q⟩ => ?_
  simp only [MP.evE] at q
  split at q
  · rename_i xv yv e1 e2
    cases e : MP.reprLDV S xv yv with
    | none => rw [e] at q; exact q.elim
    | some z =>
      rw [e] at q
      unfold MP.reprLDV at e
      split at e
      · rename_i a hd
        split at e
        · rename_i c
          split at e
          · rename_i kvs hcl
            split at e
            · rename_i ps hps
              split at e
              · rename_i hc
                cases e
                obtain ⟨c1, c2, c3, c4, c5⟩ := hc
                obtain ⟨ijs, rfl⟩ := allInt_of c1
                have hkvs := pairsD_of hps
                subst hkvs
                obtain ⟨ux, x1, rx⟩ := hG.2 i _ e1
                obtain ⟨uy, y1', ry⟩ := hG.2 j _ e2
                obtain ⟨pb, epb, rfl⟩ := id ry
                obtain ⟨ks, hk1, hk2⟩ := hS.cell c _ pb hcl epb
                have hk3 := kvs_ints hk2
                subst hk3
                have hD := hS.dat rx hd
                obtain ⟨h1, h2⟩ := pd_show (.lst a) (by simp only [MP.D.shw]; exact c2)
                obtain ⟨h3, h4⟩ := dict_show ijs c3
                have hsh : pdr (.tup [MP.mark, .lst a, .lst (ijs.map fun q => .tup [.int q.1, .int q.2])]) = .list [pd (.lst a), .dict (ijs.map kvI)] := by
                  rw [pdr_mark, List.map_map]
                  rfl
                have hz : (PyData.list [pd (.lst a), .dict (ijs.map kvI)]).shown.length ≤ sizeLine := by
                  have w1 := wt_shown (.lst a) (by simp only [MP.D.shw]; exact c2)
                  have w2 := dictText_len_le (PyData.shownKv (ijs.map kvI))
                  have w3 := listText_le (PyData.shownAll [pd (.lst a), .dict (ijs.map kvI)])
                  have w4 : piled (PyData.shownKv (ijs.map kvI)) = ((PyData.shownKv (ijs.map kvI)).map (·.length)).sum + 2 * (PyData.shownKv (ijs.map kvI)).length := by
                    generalize PyData.shownKv (ijs.map kvI) = l
                    induction l with
                    | nil => rfl
                    | cons t l ih =>
                      rw [piled_cons, ih]
                      simp only [List.map_cons, List.sum_cons, List.length_cons]
                      omega
                  have w5 : (PyData.dict (ijs.map kvI)).shown = dictText (PyData.shownKv (ijs.map kvI)) := by simp only [PyData.shown]
                  have w6 : (PyData.list [pd (.lst a), .dict (ijs.map kvI)]).shown = listText (PyData.shownAll [pd (.lst a), .dict (ijs.map kvI)]) := by simp only [PyData.shown]
                  simp only [PyData.shownAll, piled_cons, piled_nil, w5, MP.D.wt] at w1 w3
                  rw [w6]
                  simp only [PyData.shownAll, w5]
                  have : sizeLine ≥ 2000000 := by decide
                  omega
                refine ⟨ux, x1, _, y1', (by decide : 2 ≤ sizeLine), fun p hp => ?_⟩
                obtain ⟨g, l⟩ := hS.new (o := .lst [ux, .ref pb]) hp
                have hne : pb ≠ p := fun z => by rw [z, hp] at hk1; cases hk1
                refine ⟨p, pb, ux, pd (.lst a), ijs, rfl, upd_same, g.dat (rx.mono l) hd, by rw [upd_ne hne]; exact hk1, h1, h2, ?_, h3, hz, q _ _ W l g ?_⟩
                · have := pd_dep (.lst a)
                  rw [this]
                  simp only [MP.D.dep]
                  omega
                · show V.str _ = V.str _
                  rw [hsh]
              · cases e
            · cases e
          · cases e
        · cases e
      · cases e
  · exact q.elim
end
end MS

set_option Elab.async false
set_option linter.all false
set_option maxRecDepth 100000
set_option autoImplicit false
set_option maxHeartbeats 4000000
/-! MSD: sets of ints that a comprehension makes. -/
namespace MS
open PySem PySem.Spec PyProof.Rows L2 PpSet
variable [TW]
section
variable {X : L2.Cx}
/-- with one more -/
def plusI (f : Int → Bool) (y : Int) : Int → Bool := fun j => f j || decide (j = y)
def plusN (f : Int → Bool) (n : Nat) (y : Int) : Nat := if f y = true then n else n + 1
theorem put_in {pins : List (Addr × Obj)} {σ : L2.St} {H : Hp} {s : Shared} {E : Value → Shared → Prop} {D : Addr} {f : Int → Bool} {n : Nat} {y : Int} {tk : Tok} {Q : Value → Shared → Prop}
    (inv : Inv X pins σ H s) (hold : H D = some (SetO X.w D f n)) (few : n + 1 < scanBound) (go : ∀ z, Inv X pins σ (upd H D (SetO X.w D (plusI f y) (plusN f n y))) z → Q .none z) :
    wpAny (model X.prog X.w) X.A (call (.builtin "set.add") [.ref D, .int y tk]) Q E s :=
  setR_add (setO_get inv hold) few fun g same now => go _ (inv.write (e := D) (t' := s.toks + 1) (by rw [hold]; trivial) (.inl rfl) (fun b u ne hu => (same.2 b ne).trans hu) (let ⟨o, _, _, _, q, _⟩ := now; ⟨o, q⟩) (setO_new now))
/-- one turn of the comprehension -/
def turnI (w : World) (D : Addr) (g : TG) (tt : TT) (te : TE) (σ : L2.St) (vs : List Nat) (Nx : Hp → Prop) (x : V) (H : Hp) : Prop :=
  g x (wipe σ vs) H fun σ2 H2 => wipe σ2 vs = wipe σ vs ∧ tt σ2 H2 fun b H3 => match b with
    | true => te σ2 H3 fun y H4 => ∃ (c : Int) (f : Int → Bool) (n : Nat), y = .int c ∧ H4 D = some (SetO w D f n) ∧ n + 1 < scanBound ∧ Nx (upd H4 D (SetO w D (plusI f c) (plusN f n c)))
    | false => Nx H3
/-- what is to be shown of the comprehension -/
def tIset (w : World) (wi : TI) (g : TG) (tt : TT) (te : TE) (vs : List Nat) : TE := fun σ H Q => wi σ H fun J H1 => ∀ D, H1 D = none →
  ∃ W : Nat → Nat → Hp → Prop, (∃ m, W 0 m (upd H1 D (SetO w D (fun _ => false) 0))) ∧ ∀ i m H, W i m H →
    (J.stop i H ∧ Q (.ref D) H) ∨ (J.go i H ∧ ∃ Nx : Hp → Prop, (∀ H', Nx H' → ∃ m', m' < m ∧ W (i + 1) m' H') ∧ ∀ x H', J.yld i H x H' → turnI w D g tt te σ vs Nx x H')
abbrev freshSet (w : World) : Obj := { cls := .type "set", dict := none, data := .set #[] 0 (.fresh 0 0 (!w.params.followText "set-order")) }
theorem iset_run {elt tg iter : Expr} {ifs : List Expr} {cs : Scope} {own : List (Str × Nat)} {pos : Pos} {wi : TI} {g : TG} {tt : TT} {te : TE} (calm : X.calm = true) (nd : X.N.Nodup) (over : PI X tg iter wi) (ok : BlkOk X.N X.env.scope cs own)
    (toG : ∀ (s : Shared) (H : Hp) (c : Addr) (cl : List (Str × Addr)) (fp : List Addr), PG (X.blk s H cs (compEnvC cs cl c X.env) fp) tg g)
    (toT : ∀ (s : Shared) (H : Hp) (c : Addr) (cl : List (Str × Addr)) (fp : List Addr), PTs (X.blk s H cs (compEnvC cs cl c X.env) fp) ifs tt)
    (toE : ∀ (s : Shared) (H : Hp) (c : Addr) (cl : List (Str × Addr)) (fp : List Addr), PE (X.blk s H cs (compEnvC cs cl c X.env) fp) elt te) (fold : ∀ x, foldedSetIterable iter X.env x = pure x) :
    PE X (.SetComp elt [⟨tg, iter, ifs, 0⟩] cs pos) (tIset X.w wi g tt te (own.map (·.2))) := by
  refine ⟨fun pins s σ H Q inv spec => ?_⟩
  rw [eval_SetComp]
  have cells : ∀ y ∈ cs.names, y.2 = .free → ∃ c, X.env.cells.lookup y.1 = some c := by
    intro y hy e
    rcases ok.free y hy e with z | z
    · exact inv.ok.has _ (.inl z)
    · exact inv.ok.has _ (.inr z)
  refine wpAny_comprehension_free (use := none) rfl fold (closure_ok cells) ok.kind (fun y hy e => by rw [ok.uniq y hy, e]) ?_
  refine thn (over.run pins s σ H _ inv spec) ?_
  intro xv sa ha
  refine thn ha ?_
  rintro itv sb ⟨it, fp, tn, J, Hb, rfl, invb, T, stb, fpb, rest⟩
  refine newSet_ok ?_
  -- the set's place
  obtain ⟨D, eD⟩ : ∃ D, sb.heap.objs.size = D := ⟨_, rfl⟩
  have free : Hb D = none := invb.hok.fresh (Nat.le_of_eq eD)
  rw [eD]
  obtain ⟨W, ⟨m0, start⟩, turn⟩ := rest D free
  generalize esc : ({ sb with heap := sb.heap.push (freshSet X.w) } : Shared) = sc
  have hpc : sc.heap = sb.heap.push (freshSet X.w) := by rw [← esc]
  have invc : Inv X pins σ (upd Hb D (SetO X.w D (fun _ => false) 0)) sc := by
    rw [← esc]
    exact invb.laid (t' := sb.toks) (fun b u e => Heap.get?_push_of_some _ e) (Nat.le_of_eq eD) (by rw [← eD]; exact setO_new (setR_fresh X.w))
  have below : ∀ b ∈ fp, b < sb.heap.objs.size := fun b hb =>
    let ⟨u, e, _⟩ := T.obj _ _ stb b hb
    Heap.lt_size e
  have fpc : ∀ b ∈ fp, FpOk X pins (upd Hb D (SetO X.w D (fun _ => false) 0)) b ∧ b < sc.heap.objs.size := by
    intro b hb
    have lt := below b hb
    have old : upd Hb D (SetO X.w D (fun _ => false) 0) b = none := by
      rw [upd_ne (by rw [← eD]; exact Nat.ne_of_lt lt)]
      exact (fpb b hb).1
    exact ⟨⟨old, (fpb b hb).2⟩, by rw [hpc, Heap.size_push]; exact Nat.lt_succ_of_lt lt⟩
  have stc : tn 0 sc.heap := T.keep _ _ _ stb fun b _ u e => by
    rw [hpc]
    exact Heap.get?_push_of_some _ e
  have invd := block_start invc ok nd fpc
  have runG := toG sc (upd Hb D (SetO X.w D (fun _ => false) 0)) sc.heap.objs.size (cellsFrom (sc.heap.objs.size + 1) cs.names (cloFrom X.env.cells cs.names [])) fp
  have runT := toT sc (upd Hb D (SetO X.w D (fun _ => false) 0)) sc.heap.objs.size (cellsFrom (sc.heap.objs.size + 1) cs.names (cloFrom X.env.cells cs.names [])) fp
  have runE := toE sc (upd Hb D (SetO X.w D (fun _ => false) 0)) sc.heap.objs.size (cellsFrom (sc.heap.objs.size + 1) cs.names (cloFrom X.env.cells cs.names [])) fp
  have free0 : ∀ b ∈ fp, (upd Hb D (SetO X.w D (fun _ => false) 0)) b = none := fun b hb => (fpc b hb).1.1
  refine newEnv_comp ?_
  generalize eH : upd Hb D (SetO X.w D (fun _ => false) 0) = Hc at invc invd runG runT runE start free0 fpc
  obtain ⟨ce, ece⟩ : ∃ ce, ce = compEnvC cs (cellsFrom (sc.heap.objs.size + 1) cs.names (cloFrom X.env.cells cs.names [])) sc.heap.objs.size X.env := ⟨_, rfl⟩
  rw [← ece] at invd runG runT runE
  have place : ce.locals = sc.heap.objs.size := by rw [ece]; rfl
  obtain ⟨sd, esd⟩ : ∃ sd : Shared, sd = { sc with heap := pushCells (sc.heap.push { cls := .type "dict", data := .dict #[] }) cs.names } := ⟨_, rfl⟩
  rw [← esd] at invd
  have goal : codeAny (model X.prog X.w) X.A (.compStart (.SetComp elt [⟨tg, iter, ifs, 0⟩] cs pos) 0 (.ref it) (.ref D) ce) (compPost (model X.prog X.w) X.A X.xe none (EP X pins σ Q) (.ref D) sc.heap.objs.size) sd := by
    have std : tn 0 sd.heap := T.keep _ _ _ stc fun b _ u e => by
      rw [esd]
      exact pushCells_keeps _ _ _ _ (Heap.get?_push_of_some _ e)
    let B : L2.Cx := X.blk sc Hc cs ce fp
    have own' : ∀ {σ' : L2.St} {H' : Hp} {z : Shared}, Inv B [] σ' H' z → (∀ b ∈ fp, H' b = none) → ∀ b ∈ fp, FpOk B [] H' b := by
      intro σ' H' z iv no b hb
      exact ⟨no b hb, (iv.ok.exf b hb).1, iv.ok.exfs b hb, .inl hb, fun x c e => (iv.ok.exf b hb).2 x c e, fun p hp => absurd (show p ∈ ([] : List (Addr × Obj)) ++ [] from hp) (by simp)⟩
    have body : codeAny (model X.prog X.w) X.A (.compLoop (.SetComp elt [⟨tg, iter, ifs, 0⟩] cs pos) 0 (.ref it) (.ref D) ce) (compPost (model X.prog X.w) X.A X.xe none (EP X pins σ Q) (.ref D) sc.heap.objs.size) sd := by
      let LI : Nat → Shared → Prop := fun n z => ∃ i H', Inv B [] (wipe σ (own.map (·.2))) H' z ∧ tn i z.heap ∧ (∀ b ∈ fp, H' b = none) ∧ W i n H'
      refine compLoopS_any LI ?_ m0 ⟨0, Hc, invd, std, free0, start⟩
      rintro n s5 ⟨i, H5, iv5, st5, no5, w5⟩
      rcases turn i n H5 w5 with ⟨stop, post⟩ | ⟨more, Nx, down, step⟩
      · refine thnF (T.done B rfl rfl rfl calm i [] s5 _ H5 (fun _ _ => False) iv5 (own' iv5 no5) st5 stop) ?_
        rintro r s6 ⟨rfl, iv6⟩
        have back : Inv X pins σ H5 s6 := invc.call' (ch := fp) iv6.os iv6.base iv6.hok iv6.bare fun b hb =>
          let q := (fpc b hb).1.2
          ⟨q.2.2.1, q.1, q.2.2.2.1, q.2.2.2.2⟩
        have noC : H5 sc.heap.objs.size = none := by
          have z : H5 ce.locals = none := iv6.free
          rwa [place] at z
        obtain ⟨names, hn, _⟩ := iv6.loc
        have hn : s6.heap.Ns ce.locals names := hn
        rw [place] at hn
        obtain ⟨f0, f1, f2, f3, f4, f5⟩ := invc.fpOk (Nat.le_refl _) noC
        refine ⟨names, hn, fun h'' sb => ?_⟩
        exact ⟨.ref D, H5, back.turned (t' := s6.toks) (fun b u hb e => (sb.2 b hb).trans e) f0 f1 f3 f4 f5, rfl, post⟩
      · refine thnF (T.item B rfl rfl rfl calm i [] s5 _ H5 (fun _ _ => False) iv5 (own' iv5 no5) st5 more) ?_
        rintro r s6 ⟨u, rfl, got⟩
        refine thnF got ?_
        rintro _ s7 ⟨x, H7, iv7, r7, y7, st7, no7⟩
        have pinned := iv7.pinned (own' iv7 no7) (T.obj _ _ st7)
        refine thnF (runG.run _ s7 _ H7 x u _ pinned r7 (step x H7 y7)) ?_
        rintro _ s8 ⟨σ8, H8, iv8, same8, q8⟩
        refine thnF (runT.run _ s8 σ8 H8 _ iv8 q8) ?_
        rintro b s9 ⟨H9, iv9, q9⟩
        have over2 : ∀ {z : Shared} {H' : Hp}, Inv B ([] ++ pinsAt fp s7.heap) σ8 H' z → Nx H' → ∃ m, m < n ∧ LI m z := by
          intro z H' iv nx
          obtain ⟨m', hm, w'⟩ := down H' nx
          have keep : ∀ b ∈ fp, ∀ u, s7.heap.get? b = some u → z.heap.get? b = some u ∧ H' b = none := by
            intro b hb u e
            have q := iv.pin (b, u) (List.mem_append_right _ (List.mem_append_right _ (mem_pinsAt hb e)))
            exact ⟨q.1, q.2.1⟩
          have long : (wipe σ (own.map (·.2))).length = σ8.length := by rw [← same8, wipe_length]
          refine ⟨m', hm, i + 1, H', (iv.unpinned (pins := [])).weak long ?_, T.keep _ _ _ st7 fun b hb u e => (keep b hb u e).1, ?_, w'⟩
          · intro j v e
            rw [← same8] at e
            exact (wipe_some e).1
          · intro b hb
            obtain ⟨u, e, _⟩ := T.obj _ _ st7 b hb
            exact (keep b hb u e).2
        cases b with
        | false =>
          rw [if_neg Bool.false_ne_true]
          exact over2 iv9 q9
        | true =>
          rw [if_pos rfl]
          refine thnF (runE.run _ s9 σ8 H9 _ iv9 q9) ?_
          rintro v s10 ⟨_, H10, iv10, rv, c, f, n0, rfl, hold, few, nx⟩
          obtain ⟨tk, rfl⟩ := rv
          exact put_in (X := B) iv10 hold few fun s11 iv11 => over2 iv11 nx
    exact codeAny_compStart_set body (T.self X.A 0 _ _ _ std body)
  rw [esd, ece] at goal
  exact goal
end
end MS

set_option Elab.async false
set_option linter.all false
set_option maxRecDepth 100000
set_option autoImplicit false
set_option maxHeartbeats 4000000
/-! MSE: sorted({.. for .. in ..}), of ints. -/
namespace MS
open PySem PySem.Spec PyProof.Rows L2
variable [TW]
section
variable {h : Hd} {k : Nat} {X : L2.Cx} {C : MP.Cx} {P : Post} {sc : Scope}
def stepI (C : MP.Cx) (t : MP.Tg) (c : MP.Tt) (e : MP.Ex) (G : MP.Env) : MP.D → MP.St → MP.R (Option Int) := fun d S => match t.set G d with
    | some G' => (MP.evT C c G' S).bind fun b S => if b then (MP.evE C e G' S).bind fun v S => (match v with
      | .d (.int y) => .ok (some y) S
      | _ => .no) else .ok none S
    | none => .no
theorem stepI_ok {t : MP.Tg} {c : MP.Tt} {e : MP.Ex} {G : MP.Env} {d : MP.D} {S S' : MP.St} {o : Option Int} (hs : stepI C t c e G d S = .ok o S') :
    ∃ G' b S1, t.set G d = some G' ∧ MP.evT C c G' S = .ok b S1 ∧ ((b = false ∧ o = none ∧ S' = S1) ∨ (b = true ∧ ∃ y, o = some y ∧ MP.evE C e G' S1 = .ok (.d (.int y)) S')) := by
  unfold stepI at hs
  cases e1 : t.set G d with
  | none => rw [e1] at hs; cases hs
  | some G' =>
    rw [e1] at hs
    simp only at hs
    cases e2 : MP.evT C c G' S with
    | ok b S1 =>
      rw [e2] at hs
      simp only [MP.ok_bind] at hs
      refine ⟨G', b, S1, rfl, e2, ?_⟩
      cases b with
      | false => cases hs; exact .inl ⟨rfl, rfl, rfl⟩
      | true =>
        rw [if_pos rfl] at hs
        cases e3 : MP.evE C e G' S1 with
        | ok v S2 =>
          rw [e3] at hs
          simp only [MP.ok_bind] at hs
          split at hs
          · cases hs
            exact .inr ⟨rfl, _, rfl, rfl⟩
          · cases hs
        | ex _ _ => rw [e3] at hs; cases hs
        | no => rw [e3] at hs; cases hs
    | ex _ _ => rw [e2] at hs; cases hs
    | no => rw [e2] at hs; cases hs
theorem soft_ext {p : Heap → Prop} : Soft (.ext p) := ⟨fun xs z => (by cases z), fun ob u z => (by cases z)⟩
/-- the members so far -/
def OfI (f : Int → Bool) (n : Nat) (is : List Int) : Prop := (∀ j, f j = true ↔ j ∈ is) ∧ n = is.length ∧ is.Nodup
theorem OfI.more {f : Int → Bool} {n : Nat} {is : List Int} (o : OfI f n is) (y : Int) : OfI (plusI f y) (plusN f n y) (if y ∈ is then is else is ++ [y]) := by
  obtain ⟨o1, o2, o3⟩ := o
  by_cases hy : y ∈ is
  · rw [if_pos hy]
    refine ⟨fun j => ?_, ?_, o3⟩
    · unfold plusI
      rw [Bool.or_eq_true, decide_eq_true_eq, o1]
      exact ⟨fun z => z.elim id (fun z => z ▸ hy), .inl⟩
    · unfold plusN
      rw [if_pos ((o1 y).mpr hy)]
      exact o2
  · rw [if_neg hy]
    refine ⟨fun j => ?_, ?_, ?_⟩
    · unfold plusI
      rw [Bool.or_eq_true, decide_eq_true_eq, o1, List.mem_append, List.mem_singleton]
    · unfold plusN
      rw [if_neg (fun z => hy ((o1 y).mp z)), List.length_append, List.length_singleton, o2]
    · rw [List.nodup_append]
      exact ⟨o3, by simp, fun a ha b hb z => hy (by rw [List.mem_singleton] at hb; rw [← hb, ← z]; exact ha)⟩
theorem is_read {t : MP.Tg} {it : MP.It} {c : MP.Tt} {e : MP.Ex} {σ : L2.St} {H : Hp} {Q : VK} (q : tL X.K C P (.srtS t it c e) σ H Q) : tIset X.w (tI X.K C P it) (gTg X.K t) (tT X.K C noP c) (tE X.K C noP e) (tgs t) σ H fun v H1 => rSortedSet X.w [v] H1 Q := by
  obtain ⟨G, S, W, hG, hS, q⟩ := q
  simp only [MP.evL] at q
  refine tR.part hG hS q fun ds S1 J H1 W1 l1 g1 s1 r1 q1 => ?_
  have q1 : wpK X.K C.n0 P H1 W1 G ((MP.setL (stepI C t c e G) [] ds S1).nox.bind fun is S => .ok ((MP.sortI is).map .int) S) relL Q := q1
  intro D hD
  have alD := s1.fresh hD
  let Iv : Nat → Hp → Prop := fun i H' => i ≤ ds.length ∧ ∃ f n is S' W', W'.T D ∧ Le H1 W1 H' W' ∧ Good X.K C.n0 H' W' S' ∧ H' D = some (SetO X.w D f n) ∧ OfI f n is ∧ is.length < 64 ∧ wpK X.K C.n0 P H1 W1 G ((MP.setL (stepI C t c e G) is (ds.drop i) S').nox.bind fun is S => .ok ((MP.sortI is).map .int) S) relL Q
  refine ⟨fun i m H' => m = ds.length - i ∧ Iv i H', ⟨ds.length, rfl, Nat.zero_le _, (fun _ => false), 0, [], S1, ⟨W1.F, W1.mu, fun a => W1.T a ∨ a = D, W1.ns⟩, .inr rfl, ?_, ?_, upd_same, ⟨fun j => by simp, rfl, List.nodup_nil⟩, by decide, by rw [List.drop_zero]; exact q1⟩, ?_⟩
  · obtain ⟨_, l⟩ := s1.new (o := SetO X.w D (fun _ => false) 0) hD
    exact ⟨l.kp, l.mu, fun _ q => .inl q, l.ht, fun _ q => q⟩
  · obtain ⟨g, _⟩ := s1.new (o := SetO X.w D (fun _ => false) 0) hD
    exact g.more upd_same alD
  · rintro i m H' ⟨rfl, hi, f, n, is, S', W', hT, l', g', eD, oD, few, qD⟩
    obtain ⟨w1, w2, w3⟩ := r1 H' W' l'
    by_cases hlt : i < ds.length
    · refine .inr ⟨w2 i hlt, fun H'' => Iv (i + 1) H'', fun H'' p => ⟨ds.length - (i + 1), by omega, rfl, p⟩, fun x H2 y => ?_⟩
      obtain ⟨d, ed, l2, g2, r2⟩ := w3 i x H2 hlt y S' g'
      have edr : ds.drop i = d :: ds.drop (i + 1) := by
        have e1 : ds[i] = d := by rw [List.getElem?_eq_getElem hlt] at ed; exact Option.some.inj ed
        rw [List.drop_eq_getElem_cons hlt, e1]
      rw [edr] at qD
      have qD : wpK X.K C.n0 P H1 W1 G ((((stepI C t c e G d S').bind fun o S'' => match o with
        | some y => if y ∈ is then MP.setL (stepI C t c e G) is (ds.drop (i + 1)) S'' else if is.length < 63 then MP.setL (stepI C t c e G) (is ++ [y]) (ds.drop (i + 1)) S'' else .no
        | none => MP.setL (stepI C t c e G) is (ds.drop (i + 1)) S'').nox).bind fun is S => .ok ((MP.sortI is).map .int) S) relL Q := qD
      cases es : stepI C t c e G d S' with
      | ex _ _ => rw [es] at qD; exact qD.elim
      | no => rw [es] at qD; exact qD.elim
      | ok o S2 =>
      rw [es] at qD
      simp only [MP.ok_bind] at qD
      have q2 := qD
      obtain ⟨G', b, Sb, eG, eT, hb⟩ := stepI_ok es
      have lt2 := l'.trans l2
      have hG2 : EnvX X.K H2 W' (tgs t) G (wipe σ (tgs t)) := by
        have z := (hG.mono (l1.trans lt2))
        refine ⟨by rw [wipe_length]; exact z.1, fun j xx hj ej => ?_⟩
        obtain ⟨v, e1, rv⟩ := z.2 j xx ej
        exact ⟨v, by rw [wipe_get _ _ hj]; exact e1, rv⟩
      unfold turnI
      refine gTg_run hG2 r2 eG fun σ2 hG3 o2 ln2 => ⟨wipe_same (by rw [ln2, wipe_length]) o2, ?_⟩
      refine ⟨G', S', W', hG3, g2, ?_⟩
      rw [eT]
      intro b' H3 W3 l3 g3 rb
      have rb : b' = b := rb
      subst rb
      have hT3 := l3.tt D hT
      have e3 : H3 D = some (SetO X.w D f n) := l3.ht D _ hT (l2.ht D _ hT eD)
      rcases hb with ⟨rfl, rfl, rfl⟩ | ⟨rfl, y', rfl, eE⟩
      · show Iv (i + 1) H3
        exact ⟨hlt, f, n, is, S2, W3, hT3, lt2.trans l3, g3, e3, oD, few, q2⟩
      · show tE X.K C noP e σ2 H3 _
        refine ⟨G', Sb, W3, hG3.mono l3, g3, ?_⟩
        rw [eE]
        intro v H4 W4 l4 g4 r4
        have hT4 := l4.tt D hT3
        have e4 : H4 D = some (SetO X.w D f n) := l4.ht D _ hT3 e3
        obtain rfl : v = .int y' := r4
        have g5 := g4.pokeO (o := SetO X.w D (plusI f y') (plusN f n y')) e4 soft_ext hT4
        have l5 := ((lt2.trans l3).trans l4).poke (o := SetO X.w D (plusI f y') (plusN f n y')) hD
        have o5 := oD.more y'
        simp only at q2
        refine ⟨y', f, n, rfl, e4, ?_, ?_⟩
        · have : n = is.length := oD.2.1
          show n + 1 < 4096
          omega
        · by_cases hy : y' ∈ is
          · rw [if_pos hy] at q2 o5
            exact ⟨hlt, _, _, is, S2, W4, hT4, l5, g5, upd_same, o5, few, q2⟩
          · rw [if_neg hy] at q2 o5
            by_cases hc : is.length < 63
            · rw [if_pos hc] at q2
              exact ⟨hlt, _, _, is ++ [y'], S2, W4, hT4, l5, g5, upd_same, o5, by simp; omega, q2⟩
            · rw [if_neg hc] at q2
              exact q2.elim
    · have e : i = ds.length := by omega
      subst e
      refine .inl ⟨w1 _ (Nat.le_refl _), ?_⟩
      rw [List.drop_length] at qD
      have qD : wpK X.K C.n0 P H1 W1 G (.ok ((MP.sortI is).map .int) S') relL Q := qD
      have gl := g'.less (T := W1.T) l'.tt
      have ll : Le H1 W1 H' ⟨W'.F, W'.mu, W1.T, W'.ns⟩ := ⟨l'.kp, l'.mu, fun _ q => q, l'.ht, l'.nn⟩
      have hn : n = is.length := oD.2.1
      refine ⟨D, f, n, rfl, eD, by omega, fun ns u p1 p2 p3 hu => ?_⟩
      have same : ns = MP.sortI is := by
        refine sorted_one ?_ (p1.imp fun z => by omega) (sortI_sorted is)
        refine List.Perm.trans ?_ (sortI_perm is).symm
        rw [List.perm_ext_iff_of_nodup (p1.imp fun z => by omega) oD.2.2]
        intro j
        rw [p2, oD.1]
      subst same
      obtain ⟨g6, l6⟩ := gl.new (o := .lst ((MP.sortI is).map V.int)) hu
      exact qD _ _ _ (ll.trans l6) g6 ⟨u, _, rfl, upd_same, RepDs.ofInts _, gl.fresh hu⟩
theorem il_srtS {a : Expr} {p pos : Pos} {t : MP.Tg} {it : MP.It} {c : MP.Tt} {e : MP.Ex} (x : XOk h k X C P sc) (ha : PE X a (tIset X.w (tI X.K C P it) (gTg X.K t) (tT X.K C noP c) (tE X.K C noP e) (tgs t))) (hs : nst a = true) (hm : "sorted" ∈ h.free) (hgl : glob sc (so "sorted") = true) : PE X (.Call (.Name (so "sorted") p) [a] [] pos) (tL X.K C P (.srtS t it c e)) := by
  obtain ⟨b1, b2, b3, b4⟩ := bltn x hm hgl
  exact PE.imp (pe_callB (cr_sortedSet x.calm) b1 b2 (by decide +kernel) (pa_cons ha pa_nil (nst_star hs)) b3 b4 (nst_star hs) rfl) fun σ H Q q => is_read q
end
end MS

set_option Elab.async false
set_option linter.all false
set_option maxRecDepth 100000
set_option autoImplicit false
set_option maxHeartbeats 4000000
/-! MSF: sorting by keys that a def of the program gives. -/
namespace MS
open PySem PySem.Spec PyProof.Rows PySem.Calls
variable [TW]
/-- the heap without the object at a -/
def dropAt (h : Heap) (a : Addr) : Heap := { h with objs := h.objs.setIfInBounds a { cls := .none, data := .freed } }
theorem drop_self {h : Heap} {a : Addr} : (dropAt h a).get? a = none := by
  unfold dropAt Heap.get?
  by_cases hl : a < h.objs.size
  · simp [Array.getElem?_setIfInBounds, hl]
  · simp [Array.getElem?_setIfInBounds, hl]
theorem drop_ne {h : Heap} {a b : Addr} (ne : b ≠ a) : (dropAt h a).get? b = h.get? b := by
  unfold dropAt Heap.get?
  simp [Array.getElem?_setIfInBounds, Ne.symm ne]
section
variable {prog : Program} {w : World} {A : Around} {E : Value → Shared → Prop} {s : Shared} {a kS : Addr} {b : Bool} {vs : List Value} {e1 : Nat} {P : PySem.Fin → Shared → Prop} {f : Value}
theorem keys_loop (U : List Value → Shared → Prop) (nk : s.heap.get? kS = some (seqObj "list" #[] 0)) (na : s.heap.get? a = some (seqObj "list" #[] e1)) (ne : kS ≠ a) (hZ : vs.length ≤ sizeLine) (u0 : U [] s)
    (turn : ∀ (kA : List Value) (x : Value) (z : Shared) (e : Nat), vs[kA.length]? = some x → U kA z → z.heap.get? kS = some (seqObj "list" kA.toArray e) → z.heap.get? a = some (seqObj "list" #[] e1) →
      wpAny (model prog w) A (call f [x]) (fun k z' => U (kA ++ [k]) z' ∧ z'.heap.get? kS = some (seqObj "list" kA.toArray e) ∧ z'.heap.get? a = some (seqObj "list" #[] e1)) (fun _ _ => False) z)
    (put : ∀ (kA : List Value) (z : Shared) (h' : Heap), U kA z → Heap.SameBut kS z.heap h' → U kA { z with heap := h' })
    (done : ∀ (kA : List Value) (z : Shared) (e : Nat), kA.length = vs.length → U kA z → z.heap.get? kS = some (seqObj "list" kA.toArray e) → z.heap.get? a = some (seqObj "list" #[] e1) →
      wpAny (model prog w) A (ksk_end a b vs.toArray e1 (.ref kS) kA.toArray) P E z) :
    wpAny (model prog w) A (ksk_rest a f b vs.toArray e1 (.ref kS)) P E s := by
  unfold ksk_rest
  refine wpAny_bind (wpAny_rule ?_)
  rw [List.forIn_toArray]
  let LI : Nat → Shared → Prop := fun i z => ∃ kA e, kA.length = i ∧ U kA z ∧ z.heap.get? kS = some (seqObj "list" kA.toArray e) ∧ z.heap.get? a = some (seqObj "list" #[] e1)
  refine wpAny_bind (ksk_fold LI vs 0 s ⟨[], 0, rfl, u0, nk, na⟩ ?_ ?_)
  · rintro j x z hx ⟨kA, e, hk, u, nk', na'⟩
    rw [Nat.zero_add] at hk
    have hj : j < vs.length := (List.getElem?_eq_some_iff.mp hx).1
    have few : kA.toArray.size ≤ sizeLine := by rw [List.size_toArray]; omega
    refine wpAny_bind (wpAny_attempt (wpAny_mono (turn kA x z e (by rw [hk]; exact hx) u nk' na') (fun v z' q => ?_) fun _ _ q => q.elim))
    obtain ⟨u', nk2, na2⟩ := q
    have same := Heap.SameBut.update z'.heap kS (Obj.mapSeq (·.push v))
    obtain ⟨c2, now⟩ : ∃ c2, (z'.heap.update kS (Obj.mapSeq (·.push v))).get? kS = some (seqObj "list" (kA.toArray.push v) c2) := ⟨_, get?_update_seq nk2 (·.push v)⟩
    refine wpAny_bind (listUpdate_at nk2 rfl ?_ few (by rw [Array.size_push]; exact Nat.succ_le_succ few))
    refine wpAny_pure ⟨rfl, kA ++ [v], c2, by rw [List.length_append, hk]; simp, put _ _ _ u' same, ?_, (same.2 a (Ne.symm ne)).trans na2⟩
    have : (kA ++ [v]).toArray = kA.toArray.push v := by simp
    rw [this]
    exact now
  · rintro z ⟨kA, e, hk, u, nk', na'⟩
    rw [Nat.zero_add] at hk
    exact wpAny_bind (listItems_at nk' rfl (done kA z e hk u nk' na'))
end
section
variable {X : L2.Cx}
open L2
/-- two of our own objects have changed, the second is tracked from now on -/
theorem two_new {pins : List (Addr × Obj)} {σ : L2.St} {H : Hp} {z : Shared} {h' : Heap} {t' : Nat} {p q : Addr} {o : HO} (I : Inv X pins σ H z) (k : ∀ b u, b ≠ p → b ≠ q → z.heap.get? b = some u → h'.get? b = some u) (fp : FpOk X pins H p) (fq : FpOk X pins H q)
    (new : ObjOk X.prog X.w (upd H q o) h' q o) : Inv X pins σ (upd H q o) { z with heap := h', toks := t' } := by
  have np : ∀ b u, H b = some u → b ≠ p := fun b u e y => by rw [y, fp.1] at e; cases e
  have nq : ∀ b u, H b = some u → b ≠ q := fun b u e y => by rw [y, fq.1] at e; cases e
  have out : ∀ b, b ∉ [p, q] → b ≠ p ∧ b ≠ q := fun b hb => ⟨fun y => hb (by simp [y]), fun y => hb (by simp [y])⟩
  have u : Un (frs X.stack) [p, q] H (upd H q o) z.heap h' := by
    refine ⟨fun b u e _ _ hx => k b u (out b hx).1 (out b hx).2 e, fun b u e _ _ hx => ⟨u.slots, k b u (out b hx).1 (out b hx).2 e⟩, fun b u _ n hx => ?_, fun b u e hx => ⟨u, k b u (out b hx).1 (out b hx).2 e⟩, fun b xs e => ?_, fun b a c e => ?_, fun b ps e => ⟨#[], ?_⟩⟩
    · rw [upd_ne (out b hx).2]
      exact n
    · rw [upd_ne (nq b _ e)]
      exact e
    · rw [upd_ne (nq b _ e)]
      exact e
    · rw [upd_ne (nq b _ e), e]
      simp
  have hok : HOk X.prog X.w (upd H q o) h' := by
    intro b u e
    by_cases hb : b = q
    · subst hb
      rw [upd_same] at e
      cases e
      exact new
    · rw [upd_ne hb] at e
      refine (I.hok b u e).stay (fun c v hc r => ?_) (fun c r => by rw [upd_ne (nq c _ r)]; exact r) fun c xs r => by rw [upd_ne (nq c _ r)]; exact r
      rcases hc with y | y
      · rw [y] at r ⊢
        exact k b v (np b u e) hb r
      · exact k c v (np c _ y) (nq c _ y) r
  refine I.call (g' := z.gens) (d' := z.drawn) (t' := t') (ch := [p, q]) u hok I.bare fun b hb => ?_
  rcases List.mem_cons.mp hb with y | y
  · subst y
    exact ⟨fp.2.2.2.1, fp.2.1, fp.2.2.2.2.1, fp.2.2.2.2.2⟩
  · rw [List.mem_singleton] at y
    subst y
    exact ⟨fq.2.2.2.1, fq.2.1, fq.2.2.2.2.1, fq.2.2.2.2.2⟩
end
section
variable {h : Hd} {k : Nat} {X : L2.Cx} {C : MP.Cx} {P : Post} {sc : Scope}
open L2
/-- the list sorted by a def's keys -/
def rSrtK (X : L2.Cx) (C : MP.Cx) (P : Post) (g : String) (fa : Addr) : List V → List V → Hp → VK → Prop := fun xs zs H Q => ∃ (a : Addr) (vs : List V) (ds : List MP.D) (G : MP.Env) (S : MP.St) (W : Wd), xs = [.ref a] ∧ zs = [.ref fa] ∧ SqL X.K H a vs ∧ RepDs H W.F ds vs ∧ Good X.K C.n0 H W S ∧
  wpK X.K C.n0 P H W G ((MP.keysL (fun d S => C.call C.n0 "" g [.d d] S) [] ds S).nox.bind fun ks S => if MP.okKeys ks then .ok (MP.sortK ds ks) S else .no) relL Q
theorem pds_mem : ∀ {ds : List MP.D} {y : PyData}, y ∈ pds ds → ∃ d ∈ ds, y = pd d
  | [], _, h => by simp [pds] at h
  | d :: ds, y, h => by
    simp only [pds, List.mem_cons] at h
    rcases h with rfl | h
    · exact ⟨d, List.mem_cons_self, rfl⟩
    · obtain ⟨d', m, e⟩ := pds_mem h
      exact ⟨d', List.mem_cons_of_mem _ m, e⟩
theorem pds_map : ∀ ds : List MP.D, pds ds = ds.map pd
  | [] => rfl
  | d :: ds => by simp only [pds, List.map_cons, pds_map ds]
theorem each_reads {pins : List (Addr × Obj)} {σ : L2.St} {H : Hp} {z : Shared} (I : Inv X pins σ H z) : ∀ {ds : List PyData} {vs : List V} {us : List Value}, DpAll X.K H vs ds → Vals vs us → PySem.W.EachIs (fun u d => ∃ as, Reads z.heap u d as) us ds
  | _, _, _, .nil, r => by cases r; exact .nil
  | _, _, _, .cons h1 h2, r => by
    cases r with
    | cons r1 r2 => exact .cons (Dp.reads I _ _ _ h1 r1) (each_reads I h2 r2)
theorem each_zip {F : Addr → Prop} {H : Hp} : ∀ {ds ks : List MP.D} {vs : List V} {us : List Value}, RepDs H F ds vs → Vals vs us → ks.length = ds.length → PySem.W.EachIs (fun u (p : MP.D × MP.D) => ∃ v, RelV v u ∧ RepD H F p.1 v) us (ds.zip ks)
  | [], [], vs, us, h, r, _ => by
    obtain rfl : vs = [] := List.length_eq_zero_iff.mp h.length
    cases r
    exact .nil
  | d :: ds, k :: ks, vs, us, h, r, hl => by
    obtain ⟨v, t, rfl, h1, h2⟩ := h
    cases r with
    | cons r1 r2 => exact .cons ⟨v, r1, h1⟩ (each_zip h2 r2 (by simpa using hl))
theorem each_back {F : Addr → Prop} {H : Hp} : ∀ {bs : List (MP.D × MP.D)} {us : List Value}, PySem.W.EachIs (fun u (p : MP.D × MP.D) => ∃ v, RelV v u ∧ RepD H F p.1 v) us bs → ∃ vs, Vals vs us ∧ RepDs H F (bs.map (·.1)) vs
  | [], _, h => by cases h; exact ⟨[], .nil, rfl⟩
  | p :: bs, _, h => by
    cases h with
    | cons h1 h2 =>
      obtain ⟨v, r, d⟩ := h1
      obtain ⟨vs, r2, d2⟩ := each_back h2
      exact ⟨v :: vs, .cons r r2, v, vs, rfl, d, d2⟩
theorem cr_sortK (x : XOk h k X C P sc) {g : String} {d : MP.Df} (e : h.P.at_ "" g = some d) (hg : g ≠ "") : CallRK X (.builtin "sorted") [Str.ofString "key"] (rSrtK X C P g (dAd X.K d)) := by
  intro pins s σ H xs zs us ws Q I r rz hh
  obtain ⟨a, vs, ds, G, S, W, rfl, rfl, hs, rep, g0, q⟩ := hh
  obtain rfl := Vals.ref1 r
  obtain ⟨w1, rfl, e1⟩ := vals1 rz
  obtain rfl : w1 = Value.ref (dAd X.K d) := e1
  obtain ⟨hd, ec, eg⟩ := at_some e
  obtain ⟨fd, ps, F, hb, hk⟩ := x.fns.ok d hd
  obtain ⟨its, rv, hl, hz⟩ := I.list hs
  have hlen : vs.length = its.length := rv.length
  have hdl : vs.length = ds.length := rep.length
  have hzi : its.length ≤ sizeLine := by omega
  show wpAny (model X.prog X.w) X.A (call (.builtin "sorted") [.ref a] [(Str.ofString "key", .ref (dAd X.K d))]) _ _ s
  refine PySem.W.sorted_of_sort hl.isList hzi (ksk_s1 _ _) (fun _ => ksk_l1 _ _) fun E' => ?_
  rw [ksk_t1]
  obtain ⟨aL, haL⟩ : ∃ aL, s.heap.objs.size + 1 = aL := ⟨_, rfl⟩
  have cAt : (PySem.W.copyHeap s.heap its).get? aL = some (seqObj "list" its.toArray 0) := by rw [← haL]; exact PySem.W.copyHeap_at s.heap its
  rw [haL]
  obtain ⟨e1, ho1⟩ : ∃ e1, ((PySem.W.copyHeap s.heap its).update aL (Obj.mapSeq fun _ => (#[] : Array Value))).get? aL = some (seqObj "list" #[] e1) := ⟨_, get?_update_seq cAt fun _ => #[]⟩
  have hlt : aL < (PySem.W.copyHeap s.heap its).objs.size := Heap.lt_size cAt
  unfold ksk_tree
  refine wpAny_bind (listItems_at cAt rfl ?_)
  refine wpAny_bind (listUpdate_at cAt rfl ?_ (by rw [List.size_toArray]; exact hzi) (Nat.zero_le _))
  refine wpAny_bind (seqEpoch_at ho1 rfl ?_)
  refine wpAny_bind (wpAny_newTuple ?_ (by show its.length ≤ _; exact hzi))
  refine wpAny_bind (wpAny_newList ?_ (Nat.zero_le _))
  refine wpAny_holding ?_
  obtain ⟨kS, hkS⟩ : ∃ kS, (((PySem.W.copyHeap s.heap its).update aL (Obj.mapSeq fun _ => (#[] : Array Value))).push (seqObj "tuple" its.toArray 0)).objs.size = kS := ⟨_, rfl⟩
  have szS : (PySem.W.copyHeap s.heap its).objs.size + 1 = kS := by rw [← hkS, size_push', Heap.size_update]
  have ne : kS ≠ aL := fun y => by
    rw [y] at szS
    omega
  have kAt : ((((PySem.W.copyHeap s.heap its).update aL (Obj.mapSeq fun _ => (#[] : Array Value))).push (seqObj "tuple" its.toArray 0)).push (seqObj "list" #[] 0)).get? kS = some (seqObj "list" #[] 0) := by rw [← hkS]; exact Heap.get?_push_size _ rfl
  have aAt : ((((PySem.W.copyHeap s.heap its).update aL (Obj.mapSeq fun _ => (#[] : Array Value))).push (seqObj "tuple" its.toArray 0)).push (seqObj "list" #[] 0)).get? aL = some (seqObj "list" #[] e1) := Heap.get?_push_of_some _ (Heap.get?_push_of_some _ ho1)
  have up : ∀ b o, s.heap.get? b = some o → ((((PySem.W.copyHeap s.heap its).update aL (Obj.mapSeq fun _ => (#[] : Array Value))).push (seqObj "tuple" its.toArray 0)).push (seqObj "list" #[] 0)).get? b = some o := fun b o eb => by
    have lb := Heap.lt_size eb
    have nb : b ≠ aL := fun y => by
      rw [y, ← haL] at lb
      exact absurd lb (Nat.not_lt.mpr (Nat.le_succ _))
    exact PySem.W.sortingHeap_old (a := aL) nb (PySem.W.copyHeap_old eb)
  rw [hkS]
  show wpAny (model X.prog X.w) X.A.in1.in1 (ksk_rest aL (.ref (dAd X.K d)) false its.toArray e1 (.ref kS)) _ _ { s with heap := (((PySem.W.copyHeap s.heap its).update aL (Obj.mapSeq fun _ => (#[] : Array Value))).push (seqObj "tuple" its.toArray 0)).push (seqObj "list" #[] 0) }
  generalize hH0 : (((PySem.W.copyHeap s.heap its).update aL (Obj.mapSeq fun _ => (#[] : Array Value))).push (seqObj "tuple" its.toArray 0)).push (seqObj "list" #[] 0) = hp0 at kAt aAt up ⊢
  have I0 : Inv X pins σ H { s with heap := hp0 } := I.kept (t' := s.toks) up
  have gS : s.heap.objs.size ≤ kS := by
    have : s.heap.objs.size < (PySem.W.copyHeap s.heap its).objs.size := by omega
    omega
  have gL : s.heap.objs.size ≤ aL := by omega
  have fS : ∀ {H' : Hp}, H' kS = none → FpOk X pins H' kS := fun hn => I.fpOk gS hn
  have fL : ∀ {H' : Hp}, H' aL = none → FpOk X pins H' aL := fun hn => I.fpOk gL hn
  let stp : MP.D → MP.St → MP.R MP.Vl := fun d S => C.call C.n0 "" g [.d d] S
  let fin : List MP.D → MP.St → MP.R (List MP.D) := fun ks S => if MP.okKeys ks then .ok (MP.sortK ds ks) S else .no
  let U : List Value → Shared → Prop := fun kA z => ∃ (H' : Hp) (W' : Wd) (S' : MP.St) (acc : List MP.D) (vsK : List V), Le H W H' W' ∧ Good X.K C.n0 H' W' S' ∧ Inv X pins σ H' z ∧ H' kS = none ∧ H' aL = none ∧ acc.length = kA.length ∧ RepDs H' W'.F acc vsK ∧ Vals vsK kA ∧ wpK X.K C.n0 P H W G ((MP.keysL stp acc (ds.drop kA.length) S').nox.bind fin) relL Q
  refine keys_loop (s := { s with heap := hp0 }) U kAt aAt ne hzi ⟨H, W, S, [], [], Le.refl, g0, I0, I.hok.fresh gS, I.hok.fresh gL, rfl, rfl, .nil, q⟩ ?_ ?_ ?_
  · rintro kA xv z ez hx ⟨H', W', S', acc, vsK, l', g', iv, nS, nL, la, rK, vK, qz⟩ nk na
    have hi : kA.length < its.length := (List.getElem?_eq_some_iff.mp hx).1
    have hid : kA.length < ds.length := by omega
    have edr : ds.drop kA.length = ds[kA.length] :: ds.drop (kA.length + 1) := List.drop_eq_getElem_cons hid
    have edd : ds[kA.length]? = some ds[kA.length] := List.getElem?_eq_getElem hid
    generalize ds[kA.length] = dd at edr edd
    obtain ⟨v, hv, rd⟩ := rep.get edd
    obtain ⟨u, hu, ru⟩ := rv.get hv
    rw [hx] at hu
    obtain rfl : u = xv := (Option.some.inj hu).symm
    rw [edr] at qz
    have qz : wpK X.K C.n0 P H W G (((stp dd S').bind fun v S'' => match v with
      | .d k => MP.keysL stp (acc ++ [k]) (ds.drop (kA.length + 1)) S''
      | _ => .no).nox.bind fin) relL Q := qz
    cases er : stp dd S' with
    | ex _ _ => rw [er] at qz; exact qz.elim
    | no => rw [er] at qz; exact qz.elim
    | ok y S2 =>
    rw [er] at qz
    simp only [MP.ok_bind] at qz
    cases y with
    | d kd =>
      simp only at qz
      have er' : MP.run h.P k C.n0 "" g [.d dd] S' = .ok (.d kd) S2 := by
        have : stp dd S' = MP.run h.P k C.n0 "" g [.d dd] S' := by
          show C.call C.n0 "" g [.d dd] S' = _
          rw [x.call]
        rw [← this]
        exact er
      have hn : ([MP.Vl.d dd] : List MP.Vl).length = d.n := Classical.byContradiction fun z => by
        rw [run_len e hg z] at er'
        cases er'
      have ivp := iv.pinned (fp := [kS, aL]) (fun b hb => by
        rcases List.mem_cons.mp hb with y | y
        · subst y
          exact fS nS
        · rw [List.mem_singleton] at y
          subst y
          exact fL nL) (fun b hb => by
        rcases List.mem_cons.mp hb with y | y
        · subst y
          exact ⟨_, nk, fun v => by intro y; cases y⟩
        · rw [List.mem_singleton] at y
          subst y
          exact ⟨_, na, fun v => by intro y; cases y⟩)
      let Qc : VK := fun v H'' => ∃ W'', Le H' W' H'' W'' ∧ Good X.K C.n0 H'' W'' S2 ∧ RepD H'' W''.F kd v
      have sp : spD X.K h.P k d [v] H' Qc fun _ _ _ => False := by
        refine ⟨C.n0, [.d dd], S', W', hn, ⟨v, [], rfl, rd.mono l'.kp, rfl⟩, g', ?_⟩
        rw [ec, eg, er']
        exact fun v2 H2 W2 l2 g2 r2 => ⟨W2, l2, g2, r2⟩
      have hps : [v].length = ps.length := F.len _ _ _ _ sp
      have bt : BindsTo z fd ⟨[u], []⟩ (ps.zip [u]) := by
        have := hb z [u] ivp.kIn (by simpa using hps)
        rwa [List.append_nil] at this
      refine wpAny_call (codeAny_mono (F.run X.A.in1.in1 X.stack z H' ⟨[u], []⟩ [u] [v] Qc (fun _ _ _ => False) x.room2 ivp.env0.in1.in1 bt (.cons ru .nil) sp) fun r s' hq => ?_)
      cases r with
      | error ee =>
        obtain ⟨_, _, _, _, _, _, _, _, _, _, _, hE⟩ := hq
        exact hE.2.elim
      | ok fl =>
        cases fl with
        | next => exact hq.elim
        | brk => exact hq.elim
        | cont => exact hq.elim
        | ret kv =>
          obtain ⟨v2, H2, J, rel, W2, l2, g2, r2⟩ := ivp.after hq
          have pS := J.pin (kS, _) (List.mem_append_right _ (List.mem_append_right _ (mem_pinsAt (fp := [kS, aL]) (by simp) nk)))
          have pL := J.pin (aL, _) (List.mem_append_right _ (List.mem_append_right _ (mem_pinsAt (fp := [kS, aL]) (by simp) na)))
          refine ⟨⟨H2, W2, S2, acc ++ [kd], vsK ++ [v2], l'.trans l2, g2, J.unpinned, pS.2.1, pL.2.1, by simp [la], (rK.mono l2.kp).append (RepDs.one r2), ?_, ?_⟩, pS.1, pL.1⟩
          · exact vK.snoc rel
          · rw [List.length_append, List.length_singleton]
            exact qz
    | _ => exact qz.elim
  · rintro kA z h' ⟨H', W', S', acc, vsK, l', g', iv, nS, nL, la, rK, vK, qz⟩ same
    obtain ⟨f0, f1, f2, f3, f4, f5⟩ := fS nS
    refine ⟨H', W', S', acc, vsK, l', g', ?_, nS, nL, la, rK, vK, qz⟩
    exact iv.turned (t' := z.toks) (fun b o hb eb => (same.2 b hb).trans eb) f0 f1 f3 f4 f5
  · rintro kA z ez hk ⟨H', W', S', acc, vsK, l', g', iv, nS, nL, la, rK, vK, qz⟩ nk na
    have hkd : kA.length = ds.length := by omega
    rw [hkd, List.drop_length] at qz
    have qz : wpK X.K C.n0 P H W G (if MP.okKeys acc = true then .ok (MP.sortK ds acc) S' else .no) relL Q := qz
    by_cases hok : MP.okKeys acc = true
    case neg =>
      rw [if_neg hok] at qz
      exact qz.elim
    rw [if_pos hok] at qz
    unfold MP.okKeys at hok
    simp only [Bool.and_eq_true, Bool.or_eq_true, List.all_eq_true, decide_eq_true_eq] at hok
    obtain ⟨⟨o1, o2⟩, o3⟩ := hok
    have hal : PySem.W.AllAlike (pds acc) := by
      intro y hy y' hy'
      obtain ⟨k1, m1, rfl⟩ := pds_mem hy
      obtain ⟨k2, m2, rfl⟩ := pds_mem hy'
      rw [pd_alike]
      exact (o2 k1 m1).2 k2 m2
    have hsk : PySem.W.Sortable (pds acc) := by
      rcases o1 with o1 | o1
      · refine .inl fun y hy => ?_
        obtain ⟨k1, m1, rfl⟩ := pds_mem hy
        have := o1 k1 m1
        cases k1 with
        | tup l =>
          cases l with
          | nil => cases this
          | cons u t => exact ⟨pd u, pds t, by simp only [pd, pds]⟩
        | _ => cases this
      · refine .inr fun y hy => ?_
        obtain ⟨k1, m1, rfl⟩ := pds_mem hy
        have := o1 k1 m1
        cases k1 with
        | tup l => cases this
        | non => cases this
        | _ => exact ⟨by intro y; simp [pd] at y, fun xs y => by simp [pd] at y⟩
    have hun := x.room2.un
    have hu : ∀ y, y ∈ pds acc → X.A.in1.in1.units + y.depth < cLine := by
      intro y hy
      obtain ⟨k1, m1, rfl⟩ := pds_mem hy
      have := (o2 k1 m1).1
      rw [pd_dep]
      omega
    have each := each_reads iv (RepDs.dp rK) vK
    have srt := PySem.W.SortsAt.data (prog := X.prog) (w := X.w) (A := X.A.in1.in1) (s := z) each hal hsk hu
    have kp : PySem.W.KeepsBut aL (dropAt z.heap kS) z.heap := fun b o _ eb => by
      have nb : b ≠ kS := fun y => by
        rw [y, drop_self] at eb
        cases eb
      rw [drop_ne nb] at eb
      exact eb
    refine PySem.W.keyH_end (b := false) (κ := PySem.W.dataKind z.heap (pds acc)) (h₁ := dropAt z.heap kS) kp drop_self nk na ne (by rw [List.toList_toArray]; exact srt) (by rw [List.size_toArray]; exact hk) hzi fun h' tk c keep hout => ⟨rfl, ?_⟩
    rw [List.toList_toArray] at hout
    have ko : PySem.W.KeyedOut false (pds acc) its (PySem.W.sortVals (PySem.W.dataKind z.heap (pds acc)) false kA its) := ⟨z.heap, kA, hal, rfl, each⟩
    have hla : acc.length = ds.length := by omega
    have ez := each_zip (H := H') (F := W'.F) (ks := acc) (rep.mono l'.kp) rv hla
    have emap : (ds.zip acc).map (fun p : MP.D × MP.D => pd p.2) = pds acc := by
      have e1 : (ds.zip acc).map (fun p : MP.D × MP.D => pd p.2) = ((ds.zip acc).map (fun p : MP.D × MP.D => p.2)).map pd := by
        rw [List.map_map]
        rfl
      have e2 : (ds.zip acc).map (fun p : MP.D × MP.D => p.2) = acc := List.map_snd_zip (by omega)
      rw [e1, e2, pds_map]
    rw [← emap] at ko
    have out := PySem.W.keyedOut_each (fun p : MP.D × MP.D => pd p.2) ko ez
    have cong : (ds.zip acc).mergeSort (PySem.W.dataLe false fun p : MP.D × MP.D => pd p.2) = (ds.zip acc).mergeSort (fun p q => !MP.D.lt q.2 p.2) := by
      have same : ∀ p ∈ ds.zip acc, ∀ p' ∈ ds.zip acc, PySem.W.dataLe false (fun p : MP.D × MP.D => pd p.2) p p' = !MP.D.lt (id p').2 (id p).2 := fun p hp p' hp' => by
        have m1 := (List.of_mem_zip hp).2
        have m2 := (List.of_mem_zip hp').2
        have := pd_lt p'.2 p.2 ((o2 _ m2).2 _ m1)
        show (!PySem.W.dataLt (pd p'.2) (pd p.2)) = _
        rw [this]
        rfl
      have := List.map_mergeSort (f := id) (l := ds.zip acc) (r := PySem.W.dataLe false fun p : MP.D × MP.D => pd p.2) (s := fun p q => !MP.D.lt q.2 p.2) same
      simpa using this
    rw [cong, emap] at out
    generalize PySem.W.sortVals (PySem.W.dataKind z.heap (pds acc)) false kA its = res at hout out
    obtain ⟨vo, ro, co⟩ := each_back out
    have hlo : vo.length ≤ sizeLine := by
      have h1 := co.length
      rw [List.length_map, List.length_mergeSort, List.length_zip] at h1
      omega
    obtain ⟨g6, l6⟩ := g'.new (o := .lst vo) nL
    refine ⟨.ref aL, upd H' aL (.lst vo), two_new iv (fun b o hb1 hb2 eb => keep b o hb2 (by rw [drop_ne hb1]; exact eb)) (fS nS) (fL nL) ⟨hlo, res, c, ro, hout⟩, rfl, ?_⟩
    exact qz _ _ W' (l'.trans l6) g6 ⟨aL, vo, rfl, upd_same, co.mono l6.kp, g'.fresh nL⟩
theorem il_srtK {g : String} {d : MP.Df} {a : Expr} {ea : MP.Ex} {p pos pk kp : Pos} (x : XOk h k X C P sc) (ha : PE X a (tE X.K C P ea)) (hs : nst a = true) (hm : "sorted" ∈ h.free) (hgl : glob sc (so "sorted") = true) (e : h.P.at_ "" g = some d) (hg : g ≠ "") (hgg : glob sc (so g) = true) :
    PE X (.Call (.Name (so "sorted") p) [a] [⟨some (so "key"), .Name (so g) pk, kp⟩] pos) (tL X.K C P (.srtK g ea)) := by
  obtain ⟨b1, b2, b3, b4⟩ := bltn x hm hgl
  obtain ⟨g1, g2, _⟩ := glob_gl x hgg
  obtain ⟨hd, ec, eg⟩ := at_some e
  have em : X.mg (so g) = some (.ref (dAd X.K d)) := by
    have := x.tx.fn d hd ec
    rw [eg] at this
    unfold dAd
    rw [if_pos ec, eg]
    exact this
  have pk : PE X (.Name (so g) pk) (tC (.ref (dAd X.K d))) := pe_glob g1 em rfl g2
  refine PE.imp (pe_callBK (cr_sortK x e hg) b1 b2 (by decide +kernel) (pa_cons ha pa_nil (nst_star hs)) (pk_cons pk pk_nil) b3 b4 (by rw [nst_star hs]; rfl) (by rw [nst_star hs]; rfl)) fun σ H Q ⟨G, S, W, hG, hS, q⟩ => ?_
  simp only [MP.evL] at q
  show tE X.K C P ea σ H _
  refine tR.part hG hS q fun y S1 v H1 W1 l1 g1 s1 r1 q1 => ?_
  split at q1
  · rename_i ds hd'
    obtain ⟨b, vs, rfl, e', r⟩ := s1.lst r1 hd'
    refine ⟨b, vs, ds, G, S1, W1, rfl, rfl, ?_, r, s1, q1⟩
    rcases e' with e' | ⟨o, e'⟩
    · exact SqL.of e'
    · exact .inl (.inr ⟨o, e'⟩)
  · exact q1.elim
end
end MS

set_option Elab.async false
set_option linter.all false
set_option maxRecDepth 100000
set_option autoImplicit false
set_option maxHeartbeats 4000000
/-! MSG: a def called where the air is known. -/
namespace MS
open PySem PySem.Spec PyProof.Rows L2
variable [TW]
/-- the def f, called where A is known -/
theorem def_here {CX : CXT} {P : Program} {w : World} {K : Fg} {mg : Str → Option Value} {base : Heap} {x qual : Str} {params : Arguments} {body : List Stmt} {scope : Scope} {f : Addr} {fd : FuncData} {N ps : List Str}
    (F : FunD K x qual params body scope [] [] f fd) (S : FnScope N ps scope) {k : Nat} {A : Around} {outer : List Env} {s : Shared} {H : Hp} {args : Args} {us : List Value} {vs : List V} {Q : VK} {E : XK}
    (room : Room (k + 1) A) (e0 : Env0 P w K mg base A outer s H) (hb : BindsTo s fd args (ps.zip us)) (rv : Vals vs us) (hl : vs.length = ps.length)
    (hbody : ∀ cdv : Value, Room k (A.deeper (envOfC qual scope s.heap.objs.size f cdv)) → ∃ t, PSs (cxOf CX P w K mg base N qual scope f cdv A outer s H E) body t ∧ t { nx := fun _ H' => Q .non H', rt := Q } (L2.start N vs) H) :
    codeAny (model P w) A (.call (.ref f) args) (CR CX outer P w H s Q E) s := by
  obtain ⟨oc, od, dV, kV, doc, pm, an, cdv, ct, osl, rfl, look, code, _, _⟩ := F.ex
  obtain ⟨t, walk, wish⟩ := hbody cdv (room.deeper _)
  have up : ∀ b o, base.get? b = some o → s.heap.get? b = some o := fun b o e => (e0.bs b o e).1
  have kin : K.In s.heap := e0.mod.kin.keeps up
  have free : s.heap.NoLimit := e0.mod.nolimit.keeps up
  have kinds : ∀ y ∈ ps.zip us, scope.names.lookup y.1 = some .local ∨ (scope.names.lookup y.1 = some .cell ∧ ((cellsFrom (s.heap.objs.size + 1) scope.names []).lookup y.1).isSome = true) := by
    rintro ⟨n, v⟩ hy
    refine (S.par n (List.of_mem_zip hy).1).imp id fun c => ⟨c, PySem.W.cellsFrom_some _ _ _ (.inl c)⟩
  refine codeAny_call_function room.depth (kin _ _ look) rfl S.co S.gen rfl (PySem.W.codeRec_of kin code) (hb _ _ _ _ (wpAny_newFunctionEnv_cells S.kind kinds fun env he s1 x => ?_))
  subst he
  refine ⟨free.keeps x.toInCall.keep, codeAny_func ?_⟩
  have inv : Inv (cxOf CX P w K mg base N qual scope f cdv A outer s H E) [] (L2.start N vs) H s1 := inv_start S room.hd e0 hl rv x
  refine wpAny_mono (walk.run [] s1 (L2.start N vs) H _ inv wish) (fun fl s' end_ => ?_) fun e s' end_ => end_
  cases fl with
  | ret u =>
    obtain ⟨v, σ', H', J, r, q⟩ := end_
    exact ⟨v, H', J.os, J.bare, J.base, J.hok, r, q⟩
  | next =>
    obtain ⟨σ', H', J, q⟩ := end_
    exact ⟨V.non, H', J.os, J.bare, J.base, J.hok, rfl, q⟩
  | brk =>
    obtain ⟨_, _, _, q⟩ := end_
    exact q.elim
  | cont =>
    obtain ⟨_, _, _, q⟩ := end_
    exact q.elim
/-- room for calls, and for calls that a built-in makes -/
def Room2 (k : Nat) (A : Around) : Prop := Room k A ∧ Room k A.in1.in1
theorem room2_of {k : Nat} {A : Around} {env : Env} (r : Room (k + 1) A) (r2 : Room k (A.deeper env)) : Room2 k (A.deeper env) :=
  ⟨r2, r2.hd, by have := r2.dp; exact this, by have := r.un; show A.units + 3 + 1 + 1 + 16 * k + 200 < _; omega⟩
end MS

set_option Elab.async false
set_option linter.all false
set_option maxRecDepth 100000
set_option autoImplicit false
set_option maxHeartbeats 4000000
/-! MSI: the least and the greatest by a def's keys. -/
namespace MS
open PySem PySem.Spec PyProof.Rows PySem.Calls L2
variable [TW]
section
variable {h : Hd} {k : Nat} {X : L2.Cx} {C : MP.Cx} {P : Post} {sc : Scope}
theorem loop_min (x : XOk h k X C P sc) {g : String} {d : MP.Df} (e : h.P.at_ "" g = some d) (hg : g ≠ "") {pins : List (Addr × Obj)} {σ : L2.St} {H : Hp} {W : Wd} {G : MP.Env} {Q : VK} {l bI bS : Addr} {vs : List V} {ds : List MP.D} (I0 : ∀ {H' : Hp}, H' bI = none → FpOk X pins H' bI) (S0 : ∀ {H' : Hp}, H' bS = none → FpOk X pins H' bS) (lat : LstAt H W.F l vs) (rep : RepDs H W.F ds vs) (nIS : bS ≠ bI) (nlI : l ≠ bI) {R : Result → Shared → Prop}
    (hR : ∀ u z, EP X pins σ Q u z → R (.ok (.ret u)) z) :
    ∀ (r j : Nat) (z : Shared) (H' : Hp) (W' : Wd) (S' : MP.St) (cur : Option (MP.D × MP.D)) (bl : List Value) (c : Nat), ds.length - j = r → j ≤ ds.length → Le H W H' W' → Good X.K C.n0 H' W' S' → Inv X pins σ H' z → H' bI = none → H' bS = none →
      z.heap.IsListIter bI l j → z.heap.get? bS = some (seqObj "list" bl.toArray c) →
      (match cur with
        | none => bl = []
        | some q => ∃ (vb vk : V) (ub uk : Value), bl = [ub, uk] ∧ RelV vb ub ∧ RelV vk uk ∧ RepD H' W'.F q.1 vb ∧ RepD H' W'.F q.2 vk) →
      wpK X.K C.n0 P H W G (MP.bestL false (fun d S => C.call C.n0 "" g [.d d] S) cur (ds.drop j) S').nox (relE X.K) Q →
      codeAny (model X.prog X.w) X.A (.builtin "min.loop" ⟨[.ref bI, .ref (dAd X.K d), .ref bS], []⟩) R z := by
  have hname : (toString "min" ++ toString ".loop" : String) = "min.loop" := by decide
  obtain ⟨hd, ec, eg⟩ := at_some e
  obtain ⟨fd, ps, F, hb, hk⟩ := x.fns.ok d hd
  have room1 : Room k X.A.in1 := ⟨x.room2.hd, x.room2.dp, by have := x.room2.un; show X.A.units + 1 + 16 * k + 200 < _; have e2 : X.A.in1.in1.units = X.A.units + 1 + 1 := rfl; omega⟩
  intro r
  induction r with
  | zero =>
    intro j z H' W' S' cur bl c hr hj l' g' iv nI nS hit hS hcur q
    have hjd : j = ds.length := by omega
    rw [hjd, List.drop_length] at q
    obtain ⟨its, rv, hl, hz⟩ := iv.list ((lat.mono l'.kp).sq (K := X.K))
    have hlen : its.length = ds.length := by rw [← rv.length, rep.length]
    have hw := PySem.Walks.list (prog := X.prog) (w := X.w) (A := X.A.in1) x.room.hd bI l nlI its.toArray
    have hsz : its.toArray.size = ds.length := by rw [List.size_toArray, hlen]
    cases cur with
    | none => exact q.elim
    | some p =>
      obtain ⟨vb, vk, ub, uk, rfl, r1, r2, d1, d2⟩ := hcur
      refine codeAny_builtin PySem.F.entry_min_loop ?_
      rw [Around.under_plainId PySem.F.plain_min_loop _]
      show wpAny _ X.A.in1 (seqItems? (.ref bS) >>= _) _ _ _
      refine wpAny_bind (wpAny_seqItems hS rfl ?_)
      show wpAny _ X.A.in1 (tryCatch (pyNext (.ref bI)) _ >>= _) _ _ _
      refine wpAny_bind (wpAny_tryCatch (hw.done _ _ _ ⟨by rw [hsz, ← hjd]; exact hit, hl.isList⟩ fun h1 tk1 k1 => ?_))
      have hS1 := k1 bS _ (by simpa using nIS) hS
      have sm := Heap.SameBut.update h1 bS (Obj.mapSeq fun _ => (#[] : Array Value))
      show wpAny _ X.A.in1 (updateSeq bS (fun _ => #[]) >>= _) _ _ _
      refine wpAny_bind ?_
      refine wpAny_updateSeq hS1 rfl (wpAny_bind (wpAny_letGo (wpAny_pure ?_)))
      obtain ⟨f0, f1, f2, f3, f4, f5⟩ := I0 nI
      obtain ⟨s0, s1, s2, s3, s4, s5⟩ := S0 nS
      have i1 : Inv X pins σ H' { z with heap := h1, toks := tk1 } := iv.turned (fun b o hb eb => k1 b o (by simpa using hb) eb) f0 f1 f3 f4 f5
      have i2 : Inv X pins σ H' { z with heap := h1.update bS (Obj.mapSeq fun _ => (#[] : Array Value)), toks := tk1 } := i1.turned (t' := tk1) (fun b o hb eb => (sm.2 b hb).trans eb) s0 s1 s3 s4 s5
      exact hR _ _ ⟨vb, H', i2, r1, q vb H' W' l' g' d1⟩
  | succ r ih =>
    intro j z H' W' S' cur bl c hr hj l' g' iv nI nS hit hS hcur q
    have hjd : j < ds.length := by omega
    have edr : ds.drop j = ds[j] :: ds.drop (j + 1) := List.drop_eq_getElem_cons hjd
    have edd : ds[j]? = some ds[j] := List.getElem?_eq_getElem hjd
    generalize ds[j] = dd at edr edd
    rw [edr] at q
    obtain ⟨its, rv, hl, hz⟩ := iv.list ((lat.mono l'.kp).sq (K := X.K))
    have hlen : its.length = ds.length := by rw [← rv.length, rep.length]
    have hw := PySem.Walks.list (prog := X.prog) (w := X.w) (A := X.A.in1) x.room.hd bI l nlI its.toArray
    have hsz : its.toArray.size = ds.length := by rw [List.size_toArray, hlen]
    obtain ⟨v, hv, rd⟩ := rep.get edd
    obtain ⟨u, hu, ru⟩ := rv.get hv
    refine codeAny_builtin PySem.F.entry_min_loop ?_
    rw [Around.under_plainId PySem.F.plain_min_loop _]
    show wpAny _ X.A.in1 (seqItems? (.ref bS) >>= _) _ _ _
    refine wpAny_bind (wpAny_seqItems hS rfl ?_)
    show wpAny _ X.A.in1 (tryCatch (pyNext (.ref bI)) _ >>= _) _ _ _
    refine wpAny_bind (wpAny_tryCatch (hw.item j _ _ _ (by rw [hsz]; exact hjd) ⟨hit, hl.isList⟩ fun uv h1 tk1 hP st1 k1 => ?_))
    have huv : uv = u := by
      have h2 : its[j]? = some uv := by simpa using hP
      rw [hu] at h2
      exact (Option.some.inj h2).symm
    subst huv
    obtain ⟨oI, hoI, hoc, hod⟩ := id st1.1
    have hS1 := k1 bS _ (by simpa using nIS) hS
    obtain ⟨f0, f1, f2, f3, f4, f5⟩ := I0 nI
    have i1 : Inv X pins σ H' { z with heap := h1, toks := tk1 } := iv.turned (fun b o hb eb => k1 b o (by simpa using hb) eb) f0 f1 f3 f4 f5
    let stp : MP.D → MP.St → MP.R MP.Vl := fun d S => C.call C.n0 "" g [.d d] S
    have qb : wpK X.K C.n0 P H W G ((stp dd S').bind fun v S'' => match v with
      | .d k' => (match cur with
        | none => MP.bestL false stp (some (dd, k')) (ds.drop (j + 1)) S''
        | some p => (match MP.betK false k' p.2 with
          | some b => MP.bestL false stp (some (if b then (dd, k') else p)) (ds.drop (j + 1)) S''
          | none => .no))
      | _ => .no).nox (relE X.K) Q := by cases cur <;> exact q
    cases er : stp dd S' with
    | ex _ _ => rw [er] at qb; exact qb.elim
    | no => rw [er] at qb; exact qb.elim
    | ok y S2 =>
    rw [er] at qb
    simp only [MP.ok_bind] at qb
    cases y with
    | p _ => exact qb.elim
    | f _ => exact qb.elim
    | s _ => exact qb.elim
    | r _ => exact qb.elim
    | d kd =>
    simp only at qb
    have callit : wpAny (model X.prog X.w) X.A.in1 (call (.ref (dAd X.K d)) [uv]) (fun ku z2 => ∃ (H2 : Hp) (W2 : Wd) (vk : V), Le H' W' H2 W2 ∧ Good X.K C.n0 H2 W2 S2 ∧ Inv X pins σ H2 z2 ∧ H2 bI = none ∧ H2 bS = none ∧ z2.heap.get? bI = some oI ∧ z2.heap.get? bS = some (seqObj "list" bl.toArray c) ∧ RelV vk ku ∧ RepD H2 W2.F kd vk) (fun _ _ => False) { z with heap := h1, toks := tk1 } := by
      have er' : MP.run h.P k C.n0 "" g [.d dd] S' = .ok (.d kd) S2 := by
        have : stp dd S' = MP.run h.P k C.n0 "" g [.d dd] S' := by
          show C.call C.n0 "" g [.d dd] S' = _
          rw [x.call]
        rw [← this]
        exact er
      have hn : ([MP.Vl.d dd] : List MP.Vl).length = d.n := Classical.byContradiction fun z => by
        rw [run_len e hg z] at er'
        cases er'
      have ivp := i1.pinned (fp := [bI, bS]) (fun b hb => by
        rcases List.mem_cons.mp hb with y | y
        · subst y
          exact I0 nI
        · rw [List.mem_singleton] at y
          subst y
          exact S0 nS) (fun b hb => by
        rcases List.mem_cons.mp hb with y | y
        · subst y
          exact ⟨_, hoI, fun v => by intro y; rw [hod] at y; cases y⟩
        · rw [List.mem_singleton] at y
          subst y
          exact ⟨_, hS1, fun v => by intro y; cases y⟩)
      let Qc : VK := fun v H'' => ∃ W'', Le H' W' H'' W'' ∧ Good X.K C.n0 H'' W'' S2 ∧ RepD H'' W''.F kd v
      have sp : spD X.K h.P k d [v] H' Qc fun _ _ _ => False := by
        refine ⟨C.n0, [.d dd], S', W', hn, ⟨v, [], rfl, rd.mono l'.kp, rfl⟩, g', ?_⟩
        rw [ec, eg, er']
        exact fun v2 H2 W2 l2 g2 r2 => ⟨W2, l2, g2, r2⟩
      have hps : [v].length = ps.length := F.len _ _ _ _ sp
      have bt : BindsTo { z with heap := h1, toks := tk1 } fd ⟨[uv], []⟩ (ps.zip [uv]) := by
        have := hb { z with heap := h1, toks := tk1 } [uv] ivp.kIn (by simpa using hps)
        rwa [List.append_nil] at this
      refine wpAny_call (codeAny_mono (F.run X.A.in1 X.stack _ H' ⟨[uv], []⟩ [uv] [v] Qc (fun _ _ _ => False) room1 ivp.env0.in1 bt (.cons ru .nil) sp) fun r s' hq => ?_)
      cases r with
      | error ee =>
        obtain ⟨_, _, _, _, _, _, _, _, _, _, _, hE⟩ := hq
        exact hE.2.elim
      | ok fl =>
        cases fl with
        | next => exact hq.elim
        | brk => exact hq.elim
        | cont => exact hq.elim
        | ret kv =>
          obtain ⟨v2, H2, J, rel, W2, l2, g2, r2⟩ := ivp.after hq
          have pI := J.pin (bI, _) (List.mem_append_right _ (List.mem_append_right _ (mem_pinsAt (fp := [bI, bS]) (by simp) hoI)))
          have pS := J.pin (bS, _) (List.mem_append_right _ (List.mem_append_right _ (mem_pinsAt (fp := [bI, bS]) (by simp) hS1)))
          exact ⟨H2, W2, v2, l2, g2, J.unpinned, pI.2.1, pS.2.1, pI.1, pS.1, rel, r2⟩
    show wpAny _ X.A.in1 (tryCatch (holding [uv] (call (.ref (dAd X.K d)) [uv])) _ >>= _) _ _ _
    refine wpAny_bind (wpAny_tryCatch (wpAny_holding (wpAny_mono callit (fun ku z2 he => ?_) fun _ _ hF => hF.elim)))
    obtain ⟨H2, W2, vk, l2, g2, iv2, nI2, nS2, hI2, hS2, rk, dk⟩ := he
    obtain ⟨s0, s1, s2, s3, s4, s5⟩ := S0 nS2
    have sm := Heap.SameBut.update z2.heap bS (Obj.mapSeq fun _ => #[uv, ku])
    obtain ⟨c2, hc2⟩ : ∃ c2, (z2.heap.update bS (Obj.mapSeq fun _ => #[uv, ku])).get? bS = some (seqObj "list" [uv, ku].toArray c2) := ⟨_, get?_update_seq hS2 fun _ => #[uv, ku]⟩
    have iv3 : Inv X pins σ H2 { z2 with heap := z2.heap.update bS (Obj.mapSeq fun _ => #[uv, ku]) } := iv2.turned (t' := z2.toks) (fun b o hb eb => (sm.2 b hb).trans eb) s0 s1 s3 s4 s5
    have hit2 : z2.heap.IsListIter bI l (j + 1) := ⟨oI, hI2, hoc, hod⟩
    have hit3 : (z2.heap.update bS (Obj.mapSeq fun _ => #[uv, ku])).IsListIter bI l (j + 1) := ⟨oI, (sm.2 bI (Ne.symm nIS)).trans hI2, hoc, hod⟩
    have lt := l'.trans l2
    have newcur : ∃ (vb vk' : V) (ub uk : Value), [uv, ku] = [ub, uk] ∧ RelV vb ub ∧ RelV vk' uk ∧ RepD H2 W2.F dd vb ∧ RepD H2 W2.F kd vk' := ⟨v, vk, uv, ku, rfl, ru, rk, rd.mono lt.kp, dk⟩
    cases cur with
    | none =>
      obtain rfl : bl = [] := hcur
      show wpAny _ X.A.in1 (updateSeq bS (fun _ => #[uv, ku]) >>= _) _ _ _
      refine wpAny_bind ?_
      refine wpAny_updateSeq hS2 rfl ?_
      rw [hname]
      exact wpAny_pure ⟨plainId_quiet PySem.F.plain_min_loop _, ih (j + 1) _ H2 W2 S2 (some (dd, kd)) [uv, ku] c2 (by omega) hjd lt g2 iv3 nI2 nS2 hit3 hc2 newcur qb⟩
    | some p =>
      obtain ⟨vb, vo, ub, uo, rfl, rb1, ro1, db, dok⟩ := hcur
      simp only at qb
      cases hbt : MP.betK false kd p.2 with
      | none => rw [hbt] at qb; exact qb.elim
      | some better =>
      rw [hbt] at qb
      simp only at qb
      have hbk : kd ≠ .non ∧ kd.alike p.2 = true ∧ p.2.alike kd = true ∧ kd.dep ≤ 60 ∧ p.2.dep ≤ 60 ∧ better = MP.D.lt kd p.2 := by
        unfold MP.betK at hbt
        split at hbt
        · cases hbt
        · rename_i h0
          split at hbt
          · rename_i hh
            exact ⟨h0, hh.1, hh.2.1, hh.2.2.1, hh.2.2.2, (Option.some.inj hbt).symm⟩
          · cases hbt
      obtain ⟨h0, ha, ha2, hd1, hd2, hbet⟩ := hbk
      obtain ⟨as, rd1⟩ := Dp.reads iv2 _ vk ku (RepD.dp dk) rk
      obtain ⟨bs, rd2⟩ := Dp.reads iv2 _ vo uo (RepD.dp (dok.mono l2.kp)) ro1
      have hun := x.room2.un
      have e2 : X.A.in1.in1.units = X.A.units + 1 + 1 := rfl
      have e3 : X.A.in1.units = X.A.units + 1 := rfl
      show wpAny _ X.A.in1 (tryCatch (holding [uv, ku] (richCompare .Lt ku uo >>= _)) _ >>= _) _ _ _
      refine wpAny_bind (wpAny_tryCatch (wpAny_holding (wpAny_bind ?_)))
      show wpAny _ X.A.in1 (compareOp .Lt ku uo) _ _ _
      refine PySem.W.lt_data rd1 rd2 (by rw [pd_alike]; exact ha) (fun z => h0 (by cases kd <;> first | rfl | (simp [pd] at z))) (by rw [pd_dep, pd_dep, e3]; omega) ?_
      rw [pd_lt _ _ ha, ← hbet]
      refine wpAny_bind (wpAny_holding (wpAny_truthy_bool ?_))
      refine wpAny_bind (wpAny_letGo (wpAny_pure ?_))
      cases better with
      | true =>
        simp only [if_true] at qb ⊢
        refine wpAny_bind ?_
        refine wpAny_updateSeq hS2 rfl (wpAny_bind (wpAny_letGo ?_))
        rw [hname]
        exact wpAny_pure ⟨plainId_quiet PySem.F.plain_min_loop _, ih (j + 1) _ H2 W2 S2 (some (dd, kd)) [uv, ku] c2 (by omega) hjd lt g2 iv3 nI2 nS2 hit3 hc2 newcur qb⟩
      | false =>
        simp only [Bool.false_eq_true, if_false] at qb ⊢
        refine wpAny_bind (wpAny_letGo ?_)
        rw [hname]
        exact wpAny_pure ⟨plainId_quiet PySem.F.plain_min_loop _, ih (j + 1) _ H2 W2 S2 (some p) [ub, uo] c (by omega) hjd lt g2 iv2 nI2 nS2 hit2 hS2 ⟨vb, vo, ub, uo, rfl, rb1, ro1, db.mono l2.kp, dok.mono l2.kp⟩ qb⟩
theorem loop_max (x : XOk h k X C P sc) {g : String} {d : MP.Df} (e : h.P.at_ "" g = some d) (hg : g ≠ "") {pins : List (Addr × Obj)} {σ : L2.St} {H : Hp} {W : Wd} {G : MP.Env} {Q : VK} {l bI bS : Addr} {vs : List V} {ds : List MP.D} (I0 : ∀ {H' : Hp}, H' bI = none → FpOk X pins H' bI) (S0 : ∀ {H' : Hp}, H' bS = none → FpOk X pins H' bS) (lat : LstAt H W.F l vs) (rep : RepDs H W.F ds vs) (nIS : bS ≠ bI) (nlI : l ≠ bI) {R : Result → Shared → Prop}
    (hR : ∀ u z, EP X pins σ Q u z → R (.ok (.ret u)) z) :
    ∀ (r j : Nat) (z : Shared) (H' : Hp) (W' : Wd) (S' : MP.St) (cur : Option (MP.D × MP.D)) (bl : List Value) (c : Nat), ds.length - j = r → j ≤ ds.length → Le H W H' W' → Good X.K C.n0 H' W' S' → Inv X pins σ H' z → H' bI = none → H' bS = none →
      z.heap.IsListIter bI l j → z.heap.get? bS = some (seqObj "list" bl.toArray c) →
      (match cur with
        | none => bl = []
        | some q => ∃ (vb vk : V) (ub uk : Value), bl = [ub, uk] ∧ RelV vb ub ∧ RelV vk uk ∧ RepD H' W'.F q.1 vb ∧ RepD H' W'.F q.2 vk) →
      wpK X.K C.n0 P H W G (MP.bestL true (fun d S => C.call C.n0 "" g [.d d] S) cur (ds.drop j) S').nox (relE X.K) Q →
      codeAny (model X.prog X.w) X.A (.builtin "max.loop" ⟨[.ref bI, .ref (dAd X.K d), .ref bS], []⟩) R z := by
  have hname : (toString "max" ++ toString ".loop" : String) = "max.loop" := by decide
  obtain ⟨hd, ec, eg⟩ := at_some e
  obtain ⟨fd, ps, F, hb, hk⟩ := x.fns.ok d hd
  have room1 : Room k X.A.in1 := ⟨x.room2.hd, x.room2.dp, by have := x.room2.un; show X.A.units + 1 + 16 * k + 200 < _; have e2 : X.A.in1.in1.units = X.A.units + 1 + 1 := rfl; omega⟩
  intro r
  induction r with
  | zero =>
    intro j z H' W' S' cur bl c hr hj l' g' iv nI nS hit hS hcur q
    have hjd : j = ds.length := by omega
    rw [hjd, List.drop_length] at q
    obtain ⟨its, rv, hl, hz⟩ := iv.list ((lat.mono l'.kp).sq (K := X.K))
    have hlen : its.length = ds.length := by rw [← rv.length, rep.length]
    have hw := PySem.Walks.list (prog := X.prog) (w := X.w) (A := X.A.in1) x.room.hd bI l nlI its.toArray
    have hsz : its.toArray.size = ds.length := by rw [List.size_toArray, hlen]
    cases cur with
    | none => exact q.elim
    | some p =>
      obtain ⟨vb, vk, ub, uk, rfl, r1, r2, d1, d2⟩ := hcur
      refine codeAny_builtin PySem.F.entry_max_loop ?_
      rw [Around.under_plainId PySem.F.plain_max_loop _]
      show wpAny _ X.A.in1 (seqItems? (.ref bS) >>= _) _ _ _
      refine wpAny_bind (wpAny_seqItems hS rfl ?_)
      show wpAny _ X.A.in1 (tryCatch (pyNext (.ref bI)) _ >>= _) _ _ _
      refine wpAny_bind (wpAny_tryCatch (hw.done _ _ _ ⟨by rw [hsz, ← hjd]; exact hit, hl.isList⟩ fun h1 tk1 k1 => ?_))
      have hS1 := k1 bS _ (by simpa using nIS) hS
      have sm := Heap.SameBut.update h1 bS (Obj.mapSeq fun _ => (#[] : Array Value))
      show wpAny _ X.A.in1 (updateSeq bS (fun _ => #[]) >>= _) _ _ _
      refine wpAny_bind ?_
      refine wpAny_updateSeq hS1 rfl (wpAny_bind (wpAny_letGo (wpAny_pure ?_)))
      obtain ⟨f0, f1, f2, f3, f4, f5⟩ := I0 nI
      obtain ⟨s0, s1, s2, s3, s4, s5⟩ := S0 nS
      have i1 : Inv X pins σ H' { z with heap := h1, toks := tk1 } := iv.turned (fun b o hb eb => k1 b o (by simpa using hb) eb) f0 f1 f3 f4 f5
      have i2 : Inv X pins σ H' { z with heap := h1.update bS (Obj.mapSeq fun _ => (#[] : Array Value)), toks := tk1 } := i1.turned (t' := tk1) (fun b o hb eb => (sm.2 b hb).trans eb) s0 s1 s3 s4 s5
      exact hR _ _ ⟨vb, H', i2, r1, q vb H' W' l' g' d1⟩
  | succ r ih =>
    intro j z H' W' S' cur bl c hr hj l' g' iv nI nS hit hS hcur q
    have hjd : j < ds.length := by omega
    have edr : ds.drop j = ds[j] :: ds.drop (j + 1) := List.drop_eq_getElem_cons hjd
    have edd : ds[j]? = some ds[j] := List.getElem?_eq_getElem hjd
    generalize ds[j] = dd at edr edd
    rw [edr] at q
    obtain ⟨its, rv, hl, hz⟩ := iv.list ((lat.mono l'.kp).sq (K := X.K))
    have hlen : its.length = ds.length := by rw [← rv.length, rep.length]
    have hw := PySem.Walks.list (prog := X.prog) (w := X.w) (A := X.A.in1) x.room.hd bI l nlI its.toArray
    have hsz : its.toArray.size = ds.length := by rw [List.size_toArray, hlen]
    obtain ⟨v, hv, rd⟩ := rep.get edd
    obtain ⟨u, hu, ru⟩ := rv.get hv
    refine codeAny_builtin PySem.F.entry_max_loop ?_
    rw [Around.under_plainId PySem.F.plain_max_loop _]
    show wpAny _ X.A.in1 (seqItems? (.ref bS) >>= _) _ _ _
    refine wpAny_bind (wpAny_seqItems hS rfl ?_)
    show wpAny _ X.A.in1 (tryCatch (pyNext (.ref bI)) _ >>= _) _ _ _
    refine wpAny_bind (wpAny_tryCatch (hw.item j _ _ _ (by rw [hsz]; exact hjd) ⟨hit, hl.isList⟩ fun uv h1 tk1 hP st1 k1 => ?_))
    have huv : uv = u := by
      have h2 : its[j]? = some uv := by simpa using hP
      rw [hu] at h2
      exact (Option.some.inj h2).symm
    subst huv
    obtain ⟨oI, hoI, hoc, hod⟩ := id st1.1
    have hS1 := k1 bS _ (by simpa using nIS) hS
    obtain ⟨f0, f1, f2, f3, f4, f5⟩ := I0 nI
    have i1 : Inv X pins σ H' { z with heap := h1, toks := tk1 } := iv.turned (fun b o hb eb => k1 b o (by simpa using hb) eb) f0 f1 f3 f4 f5
    let stp : MP.D → MP.St → MP.R MP.Vl := fun d S => C.call C.n0 "" g [.d d] S
    have qb : wpK X.K C.n0 P H W G ((stp dd S').bind fun v S'' => match v with
      | .d k' => (match cur with
        | none => MP.bestL true stp (some (dd, k')) (ds.drop (j + 1)) S''
        | some p => (match MP.betK true k' p.2 with
          | some b => MP.bestL true stp (some (if b then (dd, k') else p)) (ds.drop (j + 1)) S''
          | none => .no))
      | _ => .no).nox (relE X.K) Q := by cases cur <;> exact q
    cases er : stp dd S' with
    | ex _ _ => rw [er] at qb; exact qb.elim
    | no => rw [er] at qb; exact qb.elim
    | ok y S2 =>
    rw [er] at qb
    simp only [MP.ok_bind] at qb
    cases y with
    | p _ => exact qb.elim
    | f _ => exact qb.elim
    | s _ => exact qb.elim
    | r _ => exact qb.elim
    | d kd =>
    simp only at qb
    have callit : wpAny (model X.prog X.w) X.A.in1 (call (.ref (dAd X.K d)) [uv]) (fun ku z2 => ∃ (H2 : Hp) (W2 : Wd) (vk : V), Le H' W' H2 W2 ∧ Good X.K C.n0 H2 W2 S2 ∧ Inv X pins σ H2 z2 ∧ H2 bI = none ∧ H2 bS = none ∧ z2.heap.get? bI = some oI ∧ z2.heap.get? bS = some (seqObj "list" bl.toArray c) ∧ RelV vk ku ∧ RepD H2 W2.F kd vk) (fun _ _ => False) { z with heap := h1, toks := tk1 } := by
      have er' : MP.run h.P k C.n0 "" g [.d dd] S' = .ok (.d kd) S2 := by
        have : stp dd S' = MP.run h.P k C.n0 "" g [.d dd] S' := by
          show C.call C.n0 "" g [.d dd] S' = _
          rw [x.call]
        rw [← this]
        exact er
      have hn : ([MP.Vl.d dd] : List MP.Vl).length = d.n := Classical.byContradiction fun z => by
        rw [run_len e hg z] at er'
        cases er'
      have ivp := i1.pinned (fp := [bI, bS]) (fun b hb => by
        rcases List.mem_cons.mp hb with y | y
        · subst y
          exact I0 nI
        · rw [List.mem_singleton] at y
          subst y
          exact S0 nS) (fun b hb => by
        rcases List.mem_cons.mp hb with y | y
        · subst y
          exact ⟨_, hoI, fun v => by intro y; rw [hod] at y; cases y⟩
        · rw [List.mem_singleton] at y
          subst y
          exact ⟨_, hS1, fun v => by intro y; cases y⟩)
      let Qc : VK := fun v H'' => ∃ W'', Le H' W' H'' W'' ∧ Good X.K C.n0 H'' W'' S2 ∧ RepD H'' W''.F kd v
      have sp : spD X.K h.P k d [v] H' Qc fun _ _ _ => False := by
        refine ⟨C.n0, [.d dd], S', W', hn, ⟨v, [], rfl, rd.mono l'.kp, rfl⟩, g', ?_⟩
        rw [ec, eg, er']
        exact fun v2 H2 W2 l2 g2 r2 => ⟨W2, l2, g2, r2⟩
      have hps : [v].length = ps.length := F.len _ _ _ _ sp
      have bt : BindsTo { z with heap := h1, toks := tk1 } fd ⟨[uv], []⟩ (ps.zip [uv]) := by
        have := hb { z with heap := h1, toks := tk1 } [uv] ivp.kIn (by simpa using hps)
        rwa [List.append_nil] at this
      refine wpAny_call (codeAny_mono (F.run X.A.in1 X.stack _ H' ⟨[uv], []⟩ [uv] [v] Qc (fun _ _ _ => False) room1 ivp.env0.in1 bt (.cons ru .nil) sp) fun r s' hq => ?_)
      cases r with
      | error ee =>
        obtain ⟨_, _, _, _, _, _, _, _, _, _, _, hE⟩ := hq
        exact hE.2.elim
      | ok fl =>
        cases fl with
        | next => exact hq.elim
        | brk => exact hq.elim
        | cont => exact hq.elim
        | ret kv =>
          obtain ⟨v2, H2, J, rel, W2, l2, g2, r2⟩ := ivp.after hq
          have pI := J.pin (bI, _) (List.mem_append_right _ (List.mem_append_right _ (mem_pinsAt (fp := [bI, bS]) (by simp) hoI)))
          have pS := J.pin (bS, _) (List.mem_append_right _ (List.mem_append_right _ (mem_pinsAt (fp := [bI, bS]) (by simp) hS1)))
          exact ⟨H2, W2, v2, l2, g2, J.unpinned, pI.2.1, pS.2.1, pI.1, pS.1, rel, r2⟩
    show wpAny _ X.A.in1 (tryCatch (holding [uv] (call (.ref (dAd X.K d)) [uv])) _ >>= _) _ _ _
    refine wpAny_bind (wpAny_tryCatch (wpAny_holding (wpAny_mono callit (fun ku z2 he => ?_) fun _ _ hF => hF.elim)))
    obtain ⟨H2, W2, vk, l2, g2, iv2, nI2, nS2, hI2, hS2, rk, dk⟩ := he
    obtain ⟨s0, s1, s2, s3, s4, s5⟩ := S0 nS2
    have sm := Heap.SameBut.update z2.heap bS (Obj.mapSeq fun _ => #[uv, ku])
    obtain ⟨c2, hc2⟩ : ∃ c2, (z2.heap.update bS (Obj.mapSeq fun _ => #[uv, ku])).get? bS = some (seqObj "list" [uv, ku].toArray c2) := ⟨_, get?_update_seq hS2 fun _ => #[uv, ku]⟩
    have iv3 : Inv X pins σ H2 { z2 with heap := z2.heap.update bS (Obj.mapSeq fun _ => #[uv, ku]) } := iv2.turned (t' := z2.toks) (fun b o hb eb => (sm.2 b hb).trans eb) s0 s1 s3 s4 s5
    have hit2 : z2.heap.IsListIter bI l (j + 1) := ⟨oI, hI2, hoc, hod⟩
    have hit3 : (z2.heap.update bS (Obj.mapSeq fun _ => #[uv, ku])).IsListIter bI l (j + 1) := ⟨oI, (sm.2 bI (Ne.symm nIS)).trans hI2, hoc, hod⟩
    have lt := l'.trans l2
    have newcur : ∃ (vb vk' : V) (ub uk : Value), [uv, ku] = [ub, uk] ∧ RelV vb ub ∧ RelV vk' uk ∧ RepD H2 W2.F dd vb ∧ RepD H2 W2.F kd vk' := ⟨v, vk, uv, ku, rfl, ru, rk, rd.mono lt.kp, dk⟩
    cases cur with
    | none =>
      obtain rfl : bl = [] := hcur
      show wpAny _ X.A.in1 (updateSeq bS (fun _ => #[uv, ku]) >>= _) _ _ _
      refine wpAny_bind ?_
      refine wpAny_updateSeq hS2 rfl ?_
      rw [hname]
      exact wpAny_pure ⟨plainId_quiet PySem.F.plain_max_loop _, ih (j + 1) _ H2 W2 S2 (some (dd, kd)) [uv, ku] c2 (by omega) hjd lt g2 iv3 nI2 nS2 hit3 hc2 newcur qb⟩
    | some p =>
      obtain ⟨vb, vo, ub, uo, rfl, rb1, ro1, db, dok⟩ := hcur
      simp only at qb
      cases hbt : MP.betK true kd p.2 with
      | none => rw [hbt] at qb; exact qb.elim
      | some better =>
      rw [hbt] at qb
      simp only at qb
      have hbk : kd ≠ .non ∧ kd.alike p.2 = true ∧ p.2.alike kd = true ∧ kd.dep ≤ 60 ∧ p.2.dep ≤ 60 ∧ better = MP.D.lt p.2 kd := by
        unfold MP.betK at hbt
        split at hbt
        · cases hbt
        · rename_i h0
          split at hbt
          · rename_i hh
            exact ⟨h0, hh.1, hh.2.1, hh.2.2.1, hh.2.2.2, (Option.some.inj hbt).symm⟩
          · cases hbt
      obtain ⟨h0, ha, ha2, hd1, hd2, hbet⟩ := hbk
      obtain ⟨as, rd1⟩ := Dp.reads iv2 _ vk ku (RepD.dp dk) rk
      obtain ⟨bs, rd2⟩ := Dp.reads iv2 _ vo uo (RepD.dp (dok.mono l2.kp)) ro1
      have hun := x.room2.un
      have e2 : X.A.in1.in1.units = X.A.units + 1 + 1 := rfl
      have e3 : X.A.in1.units = X.A.units + 1 := rfl
      show wpAny _ X.A.in1 (tryCatch (holding [uv, ku] (richCompare .Gt ku uo >>= _)) _ >>= _) _ _ _
      refine wpAny_bind (wpAny_tryCatch (wpAny_holding (wpAny_bind ?_)))
      show wpAny _ X.A.in1 (compareOp .Gt ku uo) _ _ _
      refine PySem.W.gt_data rd1 rd2 (by rw [pd_alike]; exact ha) (fun z => h0 (by cases kd <;> first | rfl | (simp [pd] at z))) (by rw [pd_dep, pd_dep, e3]; omega) ?_
      rw [pd_lt _ _ ha2, ← hbet]
      refine wpAny_bind (wpAny_holding (wpAny_truthy_bool ?_))
      refine wpAny_bind (wpAny_letGo (wpAny_pure ?_))
      cases better with
      | true =>
        simp only [if_true] at qb ⊢
        refine wpAny_bind ?_
        refine wpAny_updateSeq hS2 rfl (wpAny_bind (wpAny_letGo ?_))
        rw [hname]
        exact wpAny_pure ⟨plainId_quiet PySem.F.plain_max_loop _, ih (j + 1) _ H2 W2 S2 (some (dd, kd)) [uv, ku] c2 (by omega) hjd lt g2 iv3 nI2 nS2 hit3 hc2 newcur qb⟩
      | false =>
        simp only [Bool.false_eq_true, if_false] at qb ⊢
        refine wpAny_bind (wpAny_letGo ?_)
        rw [hname]
        exact wpAny_pure ⟨plainId_quiet PySem.F.plain_max_loop _, ih (j + 1) _ H2 W2 S2 (some p) [ub, uo] c (by omega) hjd lt g2 iv2 nI2 nS2 hit2 hS2 ⟨vb, vo, ub, uo, rfl, rb1, ro1, db.mono l2.kp, dok.mono l2.kp⟩ qb⟩
/-- the least by a def's keys -/
def rExtK (X : L2.Cx) (C : MP.Cx) (P : Post) (mx : Bool) (g : String) (fa : Addr) : List V → List V → Hp → VK → Prop := fun xs zs H Q => ∃ (v : V) (ds : List MP.D) (G : MP.Env) (S : MP.St) (W : Wd), xs = [v] ∧ zs = [.ref fa] ∧ RepD H W.F (.lst ds) v ∧ Good X.K C.n0 H W S ∧
  wpK X.K C.n0 P H W G (MP.bestL mx (fun d S => C.call C.n0 "" g [.d d] S) none ds S).nox (relE X.K) Q
theorem cr_min (x : XOk h k X C P sc) {g : String} {d : MP.Df} (e : h.P.at_ "" g = some d) (hg : g ≠ "") : CallRK X (.builtin "min") [Str.ofString "key"] (rExtK X C P false g (dAd X.K d)) := by
  intro pins s σ H xs zs us ws Q I r rz hh
  obtain ⟨v, ds, G, S, W, rfl, rfl, rep0, g0, q⟩ := hh
  obtain ⟨l, vs, rfl, lat, rep⟩ := rep0
  obtain rfl := Vals.ref1 r
  obtain ⟨w1, rfl, e1⟩ := vals1 rz
  obtain rfl : w1 = Value.ref (dAd X.K d) := e1
  obtain ⟨its, rv, hl, hz⟩ := I.list (lat.sq (K := X.K))
  show wpAny (model X.prog X.w) X.A (call (.builtin "min") [.ref l] [(Str.ofString "key", .ref (dAd X.K d))]) _ _ s
  have hls := hl.isList
  obtain ⟨ol, hol, _⟩ := id hls
  have hll : l < s.heap.objs.size := Heap.lt_size hol
  have hname : (toString "min" ++ toString ".loop" : String) = "min.loop" := by decide
  refine kmk_tree PySem.F.kind_min PySem.F.plain_min PySem.F.entry_min (kmk_min_key _ _) ?_
  show wpAny _ X.A.in1 (Builtin.Builtins.bindParams "min" ["key", "default"] 0 ⟨[], [(Str.ofString "key", .ref (dAd X.K d))]⟩ >>= _) _ _ s
  refine wpAny_bind (wpAny_of_eq (show Builtin.Builtins.bindParams "min" ["key", "default"] 0 ⟨[], [(Str.ofString "key", .ref (dAd X.K d))]⟩ = pure [some (.ref (dAd X.K d)), none] from rfl) ?_)
  refine wpAny_bind (wpAny_pure ?_)
  refine wpAny_bind (wpAny_pyIter_list hls ?_)
  refine wpAny_bind (wpAny_newList ?_ (Nat.zero_le _))
  rw [hname]
  obtain ⟨bI, hbI⟩ : ∃ bI, s.heap.objs.size = bI := ⟨_, rfl⟩
  obtain ⟨hp1, hhp1⟩ : ∃ hp1, s.heap.push { cls := .type "list_iterator", data := .fields #[.ref l, .int 0 0] } = hp1 := ⟨_, rfl⟩
  have sz1 : hp1.objs.size = bI + 1 := by rw [← hhp1, size_push', hbI]
  have gI : hp1.get? bI = some { cls := .type "list_iterator", data := .fields #[.ref l, .int 0 0] } := by rw [← hhp1, ← hbI]; exact Heap.get?_push_size _ rfl
  have up1 : ∀ b o, s.heap.get? b = some o → hp1.get? b = some o := fun b o eb => by rw [← hhp1]; exact Heap.get?_push_of_some _ eb
  have nIS : hp1.objs.size ≠ bI := fun y => by
    rw [sz1] at y
    exact absurd y (Nat.succ_ne_self _)
  have nlI : l ≠ bI := fun y => by
    rw [y, hbI] at hll
    exact Nat.lt_irrefl _ hll
  simp only [hhp1, hbI]
  have hS : (hp1.push (seqObj "list" #[] 0)).get? hp1.objs.size = some (seqObj "list" ([] : List Value).toArray 0) := Heap.get?_push_size _ rfl
  have I1 : Inv X pins σ H { s with heap := hp1.push (seqObj "list" #[] 0) } := I.kept (t' := s.toks) fun b o eb => Heap.get?_push_of_some _ (up1 b o eb)
  have gbI : s.heap.objs.size ≤ bI := Nat.le_of_eq hbI
  have gbS : s.heap.objs.size ≤ hp1.objs.size := by rw [sz1]; omega
  refine wpAny_pure ⟨plainId_quiet PySem.F.plain_min_loop _, ?_⟩
  exact loop_min x e hg (fun hn => I.fpOk gbI hn) (fun hn => I.fpOk gbS hn) lat rep nIS nlI (fun u z q => q) (ds.length - 0) 0 _ H W S none [] 0 rfl (Nat.zero_le _) Le.refl g0 I1 (I.hok.fresh gbI) (I.hok.fresh gbS) ⟨_, Heap.get?_push_of_some _ gI, rfl, rfl⟩ hS rfl (by rw [List.drop_zero]; exact q)
theorem cr_max (x : XOk h k X C P sc) {g : String} {d : MP.Df} (e : h.P.at_ "" g = some d) (hg : g ≠ "") : CallRK X (.builtin "max") [Str.ofString "key"] (rExtK X C P true g (dAd X.K d)) := by
  intro pins s σ H xs zs us ws Q I r rz hh
  obtain ⟨v, ds, G, S, W, rfl, rfl, rep0, g0, q⟩ := hh
  obtain ⟨l, vs, rfl, lat, rep⟩ := rep0
  obtain rfl := Vals.ref1 r
  obtain ⟨w1, rfl, e1⟩ := vals1 rz
  obtain rfl : w1 = Value.ref (dAd X.K d) := e1
  obtain ⟨its, rv, hl, hz⟩ := I.list (lat.sq (K := X.K))
  show wpAny (model X.prog X.w) X.A (call (.builtin "max") [.ref l] [(Str.ofString "key", .ref (dAd X.K d))]) _ _ s
  have hls := hl.isList
  obtain ⟨ol, hol, _⟩ := id hls
  have hll : l < s.heap.objs.size := Heap.lt_size hol
  have hname : (toString "max" ++ toString ".loop" : String) = "max.loop" := by decide
  refine kmk_tree PySem.F.kind_max PySem.F.plain_max PySem.F.entry_max (kmk_max_key _ _) ?_
  show wpAny _ X.A.in1 (Builtin.Builtins.bindParams "max" ["key", "default"] 0 ⟨[], [(Str.ofString "key", .ref (dAd X.K d))]⟩ >>= _) _ _ s
  refine wpAny_bind (wpAny_of_eq (show Builtin.Builtins.bindParams "max" ["key", "default"] 0 ⟨[], [(Str.ofString "key", .ref (dAd X.K d))]⟩ = pure [some (.ref (dAd X.K d)), none] from rfl) ?_)
  refine wpAny_bind (wpAny_pure ?_)
  refine wpAny_bind (wpAny_pyIter_list hls ?_)
  refine wpAny_bind (wpAny_newList ?_ (Nat.zero_le _))
  rw [hname]
  obtain ⟨bI, hbI⟩ : ∃ bI, s.heap.objs.size = bI := ⟨_, rfl⟩
  obtain ⟨hp1, hhp1⟩ : ∃ hp1, s.heap.push { cls := .type "list_iterator", data := .fields #[.ref l, .int 0 0] } = hp1 := ⟨_, rfl⟩
  have sz1 : hp1.objs.size = bI + 1 := by rw [← hhp1, size_push', hbI]
  have gI : hp1.get? bI = some { cls := .type "list_iterator", data := .fields #[.ref l, .int 0 0] } := by rw [← hhp1, ← hbI]; exact Heap.get?_push_size _ rfl
  have up1 : ∀ b o, s.heap.get? b = some o → hp1.get? b = some o := fun b o eb => by rw [← hhp1]; exact Heap.get?_push_of_some _ eb
  have nIS : hp1.objs.size ≠ bI := fun y => by
    rw [sz1] at y
    exact absurd y (Nat.succ_ne_self _)
  have nlI : l ≠ bI := fun y => by
    rw [y, hbI] at hll
    exact Nat.lt_irrefl _ hll
  simp only [hhp1, hbI]
  have hS : (hp1.push (seqObj "list" #[] 0)).get? hp1.objs.size = some (seqObj "list" ([] : List Value).toArray 0) := Heap.get?_push_size _ rfl
  have I1 : Inv X pins σ H { s with heap := hp1.push (seqObj "list" #[] 0) } := I.kept (t' := s.toks) fun b o eb => Heap.get?_push_of_some _ (up1 b o eb)
  have gbI : s.heap.objs.size ≤ bI := Nat.le_of_eq hbI
  have gbS : s.heap.objs.size ≤ hp1.objs.size := by rw [sz1]; omega
  refine wpAny_pure ⟨plainId_quiet PySem.F.plain_max_loop _, ?_⟩
  exact loop_max x e hg (fun hn => I.fpOk gbI hn) (fun hn => I.fpOk gbS hn) lat rep nIS nlI (fun u z q => q) (ds.length - 0) 0 _ H W S none [] 0 rfl (Nat.zero_le _) Le.refl g0 I1 (I.hok.fresh gbI) (I.hok.fresh gbS) ⟨_, Heap.get?_push_of_some _ gI, rfl, rfl⟩ hS rfl (by rw [List.drop_zero]; exact q)
theorem ie_extK {mx : Bool} {g : String} {d : MP.Df} {a : Expr} {ea : MP.Ex} {p pos pk kp : Pos} (x : XOk h k X C P sc) (ha : PE X a (tE X.K C P ea)) (hs : nst a = true) (hm : (if mx then "max" else "min") ∈ h.free) (hgl : glob sc (so (if mx then "max" else "min")) = true) (e : h.P.at_ "" g = some d) (hg : g ≠ "") (hgg : glob sc (so g) = true) :
    PE X (.Call (.Name (so (if mx then "max" else "min")) p) [a] [⟨some (so "key"), .Name (so g) pk, kp⟩] pos) (tE X.K C P (.extK mx g ea)) := by
  obtain ⟨b1, b2, b3, b4⟩ := bltn x hm hgl
  obtain ⟨g1, g2, _⟩ := glob_gl x hgg
  obtain ⟨hd, ec, eg⟩ := at_some e
  have em : X.mg (so g) = some (.ref (dAd X.K d)) := by
    have := x.tx.fn d hd ec
    rw [eg] at this
    unfold dAd
    rw [if_pos ec, eg]
    exact this
  have hpk : PE X (.Name (so g) pk) (tC (.ref (dAd X.K d))) := pe_glob g1 em rfl g2
  have main : PE X (.Call (.Name (so (if mx then "max" else "min")) p) [a] [⟨some (so "key"), .Name (so g) pk, kp⟩] pos) (tCKw (rExtK X C P mx g (dAd X.K d)) (tCons (tE X.K C P ea) tNil) (tCons (tC (.ref (dAd X.K d))) tNil)) := by
    cases mx with
    | false => exact pe_callBK (cr_min x e hg) b1 b2 (by decide +kernel) (pa_cons ha pa_nil (nst_star hs)) (pk_cons hpk pk_nil) b3 b4 (by rw [nst_star hs]; rfl) (by rw [nst_star hs]; rfl)
    | true => exact pe_callBK (cr_max x e hg) b1 b2 (by decide +kernel) (pa_cons ha pa_nil (nst_star hs)) (pk_cons hpk pk_nil) b3 b4 (by rw [nst_star hs]; rfl) (by rw [nst_star hs]; rfl)
  refine PE.imp main fun σ H Q ⟨G, S, W, hG, hS, q⟩ => ?_
  simp only [MP.evE] at q
  show tE X.K C P ea σ H _
  refine tR.part hG hS q fun y S1 v H1 W1 l1 g1 s1 r1 q1 => ?_
  split at q1
  · rename_i ds
    exact ⟨v, ds, G, S1, W1, rfl, rfl, r1, s1, q1⟩
  · exact q1.elim
end
end MS

set_option Elab.async false
set_option linter.all false
set_option maxRecDepth 100000
set_option autoImplicit false
set_option maxHeartbeats 4000000
/-! MSJ: the same of two values. -/
namespace MS
open PySem PySem.Spec PyProof.Rows PySem.Calls L2
variable [TW]
section
variable {h : Hd} {k : Nat} {X : L2.Cx} {C : MP.Cx} {P : Post} {sc : Scope}
theorem loopT_min (x : XOk h k X C P sc) {g : String} {d : MP.Df} (e : h.P.at_ "" g = some d) (hg : g ≠ "") {pins : List (Addr × Obj)} {σ : L2.St} {H : Hp} {W : Wd} {G : MP.Env} {Q : VK} {l bI bS : Addr} {oT : Obj} {its : List Value} {vs : List V} {ds : List MP.D} (I0 : ∀ {H' : Hp}, H' bI = none → FpOk X pins H' bI) (S0 : ∀ {H' : Hp}, H' bS = none → FpOk X pins H' bS) (T0 : ∀ {H' : Hp}, H' l = none → FpOk X pins H' l) (oTd : ∀ v, oT.data ≠ .cell v) (isT : ∀ h : Heap, h.get? l = some oT → h.IsTuple l its.toArray) (rv : Vals vs its) (rep : RepDs H W.F ds vs) (nIS : bS ≠ bI) (nlI : l ≠ bI) (nlS : l ≠ bS) {R : Result → Shared → Prop}
    (hR : ∀ u z, EP X pins σ Q u z → R (.ok (.ret u)) z) :
    ∀ (r j : Nat) (z : Shared) (H' : Hp) (W' : Wd) (S' : MP.St) (cur : Option (MP.D × MP.D)) (bl : List Value) (c : Nat), ds.length - j = r → j ≤ ds.length → Le H W H' W' → Good X.K C.n0 H' W' S' → Inv X pins σ H' z → H' bI = none → H' bS = none → H' l = none → z.heap.get? l = some oT →
      z.heap.IsTupleIter bI l j → z.heap.get? bS = some (seqObj "list" bl.toArray c) →
      (match cur with
        | none => bl = []
        | some q => ∃ (vb vk : V) (ub uk : Value), bl = [ub, uk] ∧ RelV vb ub ∧ RelV vk uk ∧ RepD H' W'.F q.1 vb ∧ RepD H' W'.F q.2 vk) →
      wpK X.K C.n0 P H W G (MP.bestL false (fun d S => C.call C.n0 "" g [.d d] S) cur (ds.drop j) S').nox (relE X.K) Q →
      codeAny (model X.prog X.w) X.A (.builtin "min.loop" ⟨[.ref bI, .ref (dAd X.K d), .ref bS], []⟩) R z := by
  have hname : (toString "min" ++ toString ".loop" : String) = "min.loop" := by decide
  obtain ⟨hd, ec, eg⟩ := at_some e
  obtain ⟨fd, ps, F, hb, hk⟩ := x.fns.ok d hd
  have room1 : Room k X.A.in1 := ⟨x.room2.hd, x.room2.dp, by have := x.room2.un; show X.A.units + 1 + 16 * k + 200 < _; have e2 : X.A.in1.in1.units = X.A.units + 1 + 1 := rfl; omega⟩
  intro r
  induction r with
  | zero =>
    intro j z H' W' S' cur bl c hr hj l' g' iv nI nS nT hT hit hS hcur q
    have hjd : j = ds.length := by omega
    rw [hjd, List.drop_length] at q
    have hlen : its.length = ds.length := by rw [← rv.length, rep.length]
    have hw := PySem.Walks.tuple (prog := X.prog) (w := X.w) (A := X.A.in1) x.room.hd bI l nlI its.toArray
    have hsz : its.toArray.size = ds.length := by rw [List.size_toArray, hlen]
    cases cur with
    | none => exact q.elim
    | some p =>
      obtain ⟨vb, vk, ub, uk, rfl, r1, r2, d1, d2⟩ := hcur
      refine codeAny_builtin PySem.F.entry_min_loop ?_
      rw [Around.under_plainId PySem.F.plain_min_loop _]
      show wpAny _ X.A.in1 (seqItems? (.ref bS) >>= _) _ _ _
      refine wpAny_bind (wpAny_seqItems hS rfl ?_)
      show wpAny _ X.A.in1 (tryCatch (pyNext (.ref bI)) _ >>= _) _ _ _
      refine wpAny_bind (wpAny_tryCatch (hw.done _ _ _ ⟨by rw [hsz, ← hjd]; exact hit, isT _ hT⟩ fun h1 tk1 k1 => ?_))
      have hS1 := k1 bS _ (by simpa using nIS) hS
      have sm := Heap.SameBut.update h1 bS (Obj.mapSeq fun _ => (#[] : Array Value))
      show wpAny _ X.A.in1 (updateSeq bS (fun _ => #[]) >>= _) _ _ _
      refine wpAny_bind ?_
      refine wpAny_updateSeq hS1 rfl (wpAny_bind (wpAny_letGo (wpAny_pure ?_)))
      obtain ⟨f0, f1, f2, f3, f4, f5⟩ := I0 nI
      obtain ⟨s0, s1, s2, s3, s4, s5⟩ := S0 nS
      have i1 : Inv X pins σ H' { z with heap := h1, toks := tk1 } := iv.turned (fun b o hb eb => k1 b o (by simpa using hb) eb) f0 f1 f3 f4 f5
      have i2 : Inv X pins σ H' { z with heap := h1.update bS (Obj.mapSeq fun _ => (#[] : Array Value)), toks := tk1 } := i1.turned (t' := tk1) (fun b o hb eb => (sm.2 b hb).trans eb) s0 s1 s3 s4 s5
      exact hR _ _ ⟨vb, H', i2, r1, q vb H' W' l' g' d1⟩
  | succ r ih =>
    intro j z H' W' S' cur bl c hr hj l' g' iv nI nS nT hT hit hS hcur q
    have hjd : j < ds.length := by omega
    have edr : ds.drop j = ds[j] :: ds.drop (j + 1) := List.drop_eq_getElem_cons hjd
    have edd : ds[j]? = some ds[j] := List.getElem?_eq_getElem hjd
    generalize ds[j] = dd at edr edd
    rw [edr] at q
    have hlen : its.length = ds.length := by rw [← rv.length, rep.length]
    have hw := PySem.Walks.tuple (prog := X.prog) (w := X.w) (A := X.A.in1) x.room.hd bI l nlI its.toArray
    have hsz : its.toArray.size = ds.length := by rw [List.size_toArray, hlen]
    obtain ⟨v, hv, rd⟩ := rep.get edd
    obtain ⟨u, hu, ru⟩ := rv.get hv
    refine codeAny_builtin PySem.F.entry_min_loop ?_
    rw [Around.under_plainId PySem.F.plain_min_loop _]
    show wpAny _ X.A.in1 (seqItems? (.ref bS) >>= _) _ _ _
    refine wpAny_bind (wpAny_seqItems hS rfl ?_)
    show wpAny _ X.A.in1 (tryCatch (pyNext (.ref bI)) _ >>= _) _ _ _
    refine wpAny_bind (wpAny_tryCatch (hw.item j _ _ _ (by rw [hsz]; exact hjd) ⟨hit, isT _ hT⟩ fun uv h1 tk1 hP st1 k1 => ?_))
    have huv : uv = u := by
      have h2 : its[j]? = some uv := by simpa using hP
      rw [hu] at h2
      exact (Option.some.inj h2).symm
    subst huv
    obtain ⟨oI, hoI, hoc, hod⟩ := id st1.1
    have hT1 := k1 l _ (by simpa using nlI) hT
    have hS1 := k1 bS _ (by simpa using nIS) hS
    obtain ⟨f0, f1, f2, f3, f4, f5⟩ := I0 nI
    have i1 : Inv X pins σ H' { z with heap := h1, toks := tk1 } := iv.turned (fun b o hb eb => k1 b o (by simpa using hb) eb) f0 f1 f3 f4 f5
    let stp : MP.D → MP.St → MP.R MP.Vl := fun d S => C.call C.n0 "" g [.d d] S
    have qb : wpK X.K C.n0 P H W G ((stp dd S').bind fun v S'' => match v with
      | .d k' => (match cur with
        | none => MP.bestL false stp (some (dd, k')) (ds.drop (j + 1)) S''
        | some p => (match MP.betK false k' p.2 with
          | some b => MP.bestL false stp (some (if b then (dd, k') else p)) (ds.drop (j + 1)) S''
          | none => .no))
      | _ => .no).nox (relE X.K) Q := by cases cur <;> exact q
    cases er : stp dd S' with
    | ex _ _ => rw [er] at qb; exact qb.elim
    | no => rw [er] at qb; exact qb.elim
    | ok y S2 =>
    rw [er] at qb
    simp only [MP.ok_bind] at qb
    cases y with
    | p _ => exact qb.elim
    | f _ => exact qb.elim
    | s _ => exact qb.elim
    | r _ => exact qb.elim
    | d kd =>
    simp only at qb
    have callit : wpAny (model X.prog X.w) X.A.in1 (call (.ref (dAd X.K d)) [uv]) (fun ku z2 => ∃ (H2 : Hp) (W2 : Wd) (vk : V), Le H' W' H2 W2 ∧ Good X.K C.n0 H2 W2 S2 ∧ Inv X pins σ H2 z2 ∧ H2 bI = none ∧ H2 bS = none ∧ z2.heap.get? bI = some oI ∧ z2.heap.get? bS = some (seqObj "list" bl.toArray c) ∧ H2 l = none ∧ z2.heap.get? l = some oT ∧ RelV vk ku ∧ RepD H2 W2.F kd vk) (fun _ _ => False) { z with heap := h1, toks := tk1 } := by
      have er' : MP.run h.P k C.n0 "" g [.d dd] S' = .ok (.d kd) S2 := by
        have : stp dd S' = MP.run h.P k C.n0 "" g [.d dd] S' := by
          show C.call C.n0 "" g [.d dd] S' = _
          rw [x.call]
        rw [← this]
        exact er
      have hn : ([MP.Vl.d dd] : List MP.Vl).length = d.n := Classical.byContradiction fun z => by
        rw [run_len e hg z] at er'
        cases er'
      have ivp := i1.pinned (fp := [bI, bS, l]) (fun b hb => by
        rcases List.mem_cons.mp hb with y | y
        · subst y
          exact I0 nI
        · rcases List.mem_cons.mp y with y | y
          · subst y
            exact S0 nS
          · rw [List.mem_singleton] at y
            subst y
            exact T0 nT) (fun b hb => by
        rcases List.mem_cons.mp hb with y | y
        · subst y
          exact ⟨_, hoI, fun v => by intro y; rw [hod] at y; cases y⟩
        · rcases List.mem_cons.mp y with y | y
          · subst y
            exact ⟨_, hS1, fun v => by intro y; cases y⟩
          · rw [List.mem_singleton] at y
            subst y
            exact ⟨_, hT1, oTd⟩)
      let Qc : VK := fun v H'' => ∃ W'', Le H' W' H'' W'' ∧ Good X.K C.n0 H'' W'' S2 ∧ RepD H'' W''.F kd v
      have sp : spD X.K h.P k d [v] H' Qc fun _ _ _ => False := by
        refine ⟨C.n0, [.d dd], S', W', hn, ⟨v, [], rfl, rd.mono l'.kp, rfl⟩, g', ?_⟩
        rw [ec, eg, er']
        exact fun v2 H2 W2 l2 g2 r2 => ⟨W2, l2, g2, r2⟩
      have hps : [v].length = ps.length := F.len _ _ _ _ sp
      have bt : BindsTo { z with heap := h1, toks := tk1 } fd ⟨[uv], []⟩ (ps.zip [uv]) := by
        have := hb { z with heap := h1, toks := tk1 } [uv] ivp.kIn (by simpa using hps)
        rwa [List.append_nil] at this
      refine wpAny_call (codeAny_mono (F.run X.A.in1 X.stack _ H' ⟨[uv], []⟩ [uv] [v] Qc (fun _ _ _ => False) room1 ivp.env0.in1 bt (.cons ru .nil) sp) fun r s' hq => ?_)
      cases r with
      | error ee =>
        obtain ⟨_, _, _, _, _, _, _, _, _, _, _, hE⟩ := hq
        exact hE.2.elim
      | ok fl =>
        cases fl with
        | next => exact hq.elim
        | brk => exact hq.elim
        | cont => exact hq.elim
        | ret kv =>
          obtain ⟨v2, H2, J, rel, W2, l2, g2, r2⟩ := ivp.after hq
          have pI := J.pin (bI, _) (List.mem_append_right _ (List.mem_append_right _ (mem_pinsAt (fp := [bI, bS, l]) (by simp) hoI)))
          have pS := J.pin (bS, _) (List.mem_append_right _ (List.mem_append_right _ (mem_pinsAt (fp := [bI, bS, l]) (by simp) hS1)))
          have pT := J.pin (l, _) (List.mem_append_right _ (List.mem_append_right _ (mem_pinsAt (fp := [bI, bS, l]) (by simp) hT1)))
          exact ⟨H2, W2, v2, l2, g2, J.unpinned, pI.2.1, pS.2.1, pI.1, pS.1, pT.2.1, pT.1, rel, r2⟩
    show wpAny _ X.A.in1 (tryCatch (holding [uv] (call (.ref (dAd X.K d)) [uv])) _ >>= _) _ _ _
    refine wpAny_bind (wpAny_tryCatch (wpAny_holding (wpAny_mono callit (fun ku z2 he => ?_) fun _ _ hF => hF.elim)))
    obtain ⟨H2, W2, vk, l2, g2, iv2, nI2, nS2, hI2, hS2, nT2, hT2, rk, dk⟩ := he
    obtain ⟨s0, s1, s2, s3, s4, s5⟩ := S0 nS2
    have sm := Heap.SameBut.update z2.heap bS (Obj.mapSeq fun _ => #[uv, ku])
    obtain ⟨c2, hc2⟩ : ∃ c2, (z2.heap.update bS (Obj.mapSeq fun _ => #[uv, ku])).get? bS = some (seqObj "list" [uv, ku].toArray c2) := ⟨_, get?_update_seq hS2 fun _ => #[uv, ku]⟩
    have iv3 : Inv X pins σ H2 { z2 with heap := z2.heap.update bS (Obj.mapSeq fun _ => #[uv, ku]) } := iv2.turned (t' := z2.toks) (fun b o hb eb => (sm.2 b hb).trans eb) s0 s1 s3 s4 s5
    have hit2 : z2.heap.IsTupleIter bI l (j + 1) := ⟨oI, hI2, hoc, hod⟩
    have hit3 : (z2.heap.update bS (Obj.mapSeq fun _ => #[uv, ku])).IsTupleIter bI l (j + 1) := ⟨oI, (sm.2 bI (Ne.symm nIS)).trans hI2, hoc, hod⟩
    have lt := l'.trans l2
    have hT3 : (z2.heap.update bS (Obj.mapSeq fun _ => #[uv, ku])).get? l = some oT := (sm.2 l nlS).trans hT2
    have newcur : ∃ (vb vk' : V) (ub uk : Value), [uv, ku] = [ub, uk] ∧ RelV vb ub ∧ RelV vk' uk ∧ RepD H2 W2.F dd vb ∧ RepD H2 W2.F kd vk' := ⟨v, vk, uv, ku, rfl, ru, rk, rd.mono lt.kp, dk⟩
    cases cur with
    | none =>
      obtain rfl : bl = [] := hcur
      show wpAny _ X.A.in1 (updateSeq bS (fun _ => #[uv, ku]) >>= _) _ _ _
      refine wpAny_bind ?_
      refine wpAny_updateSeq hS2 rfl ?_
      rw [hname]
      exact wpAny_pure ⟨plainId_quiet PySem.F.plain_min_loop _, ih (j + 1) _ H2 W2 S2 (some (dd, kd)) [uv, ku] c2 (by omega) hjd lt g2 iv3 nI2 nS2 nT2 hT3 hit3 hc2 newcur qb⟩
    | some p =>
      obtain ⟨vb, vo, ub, uo, rfl, rb1, ro1, db, dok⟩ := hcur
      simp only at qb
      cases hbt : MP.betK false kd p.2 with
      | none => rw [hbt] at qb; exact qb.elim
      | some better =>
      rw [hbt] at qb
      simp only at qb
      have hbk : kd ≠ .non ∧ kd.alike p.2 = true ∧ p.2.alike kd = true ∧ kd.dep ≤ 60 ∧ p.2.dep ≤ 60 ∧ better = MP.D.lt kd p.2 := by
        unfold MP.betK at hbt
        split at hbt
        · cases hbt
        · rename_i h0
          split at hbt
          · rename_i hh
            exact ⟨h0, hh.1, hh.2.1, hh.2.2.1, hh.2.2.2, (Option.some.inj hbt).symm⟩
          · cases hbt
      obtain ⟨h0, ha, ha2, hd1, hd2, hbet⟩ := hbk
      obtain ⟨as, rd1⟩ := Dp.reads iv2 _ vk ku (RepD.dp dk) rk
      obtain ⟨bs, rd2⟩ := Dp.reads iv2 _ vo uo (RepD.dp (dok.mono l2.kp)) ro1
      have hun := x.room2.un
      have e2 : X.A.in1.in1.units = X.A.units + 1 + 1 := rfl
      have e3 : X.A.in1.units = X.A.units + 1 := rfl
      show wpAny _ X.A.in1 (tryCatch (holding [uv, ku] (richCompare .Lt ku uo >>= _)) _ >>= _) _ _ _
      refine wpAny_bind (wpAny_tryCatch (wpAny_holding (wpAny_bind ?_)))
      show wpAny _ X.A.in1 (compareOp .Lt ku uo) _ _ _
      refine PySem.W.lt_data rd1 rd2 (by rw [pd_alike]; exact ha) (fun z => h0 (by cases kd <;> first | rfl | (simp [pd] at z))) (by rw [pd_dep, pd_dep, e3]; omega) ?_
      rw [pd_lt _ _ ha, ← hbet]
      refine wpAny_bind (wpAny_holding (wpAny_truthy_bool ?_))
      refine wpAny_bind (wpAny_letGo (wpAny_pure ?_))
      cases better with
      | true =>
        simp only [if_true] at qb ⊢
        refine wpAny_bind ?_
        refine wpAny_updateSeq hS2 rfl (wpAny_bind (wpAny_letGo ?_))
        rw [hname]
        exact wpAny_pure ⟨plainId_quiet PySem.F.plain_min_loop _, ih (j + 1) _ H2 W2 S2 (some (dd, kd)) [uv, ku] c2 (by omega) hjd lt g2 iv3 nI2 nS2 nT2 hT3 hit3 hc2 newcur qb⟩
      | false =>
        simp only [Bool.false_eq_true, if_false] at qb ⊢
        refine wpAny_bind (wpAny_letGo ?_)
        rw [hname]
        exact wpAny_pure ⟨plainId_quiet PySem.F.plain_min_loop _, ih (j + 1) _ H2 W2 S2 (some p) [ub, uo] c (by omega) hjd lt g2 iv2 nI2 nS2 nT2 hT2 hit2 hS2 ⟨vb, vo, ub, uo, rfl, rb1, ro1, db.mono l2.kp, dok.mono l2.kp⟩ qb⟩
theorem loopT_max (x : XOk h k X C P sc) {g : String} {d : MP.Df} (e : h.P.at_ "" g = some d) (hg : g ≠ "") {pins : List (Addr × Obj)} {σ : L2.St} {H : Hp} {W : Wd} {G : MP.Env} {Q : VK} {l bI bS : Addr} {oT : Obj} {its : List Value} {vs : List V} {ds : List MP.D} (I0 : ∀ {H' : Hp}, H' bI = none → FpOk X pins H' bI) (S0 : ∀ {H' : Hp}, H' bS = none → FpOk X pins H' bS) (T0 : ∀ {H' : Hp}, H' l = none → FpOk X pins H' l) (oTd : ∀ v, oT.data ≠ .cell v) (isT : ∀ h : Heap, h.get? l = some oT → h.IsTuple l its.toArray) (rv : Vals vs its) (rep : RepDs H W.F ds vs) (nIS : bS ≠ bI) (nlI : l ≠ bI) (nlS : l ≠ bS) {R : Result → Shared → Prop}
    (hR : ∀ u z, EP X pins σ Q u z → R (.ok (.ret u)) z) :
    ∀ (r j : Nat) (z : Shared) (H' : Hp) (W' : Wd) (S' : MP.St) (cur : Option (MP.D × MP.D)) (bl : List Value) (c : Nat), ds.length - j = r → j ≤ ds.length → Le H W H' W' → Good X.K C.n0 H' W' S' → Inv X pins σ H' z → H' bI = none → H' bS = none → H' l = none → z.heap.get? l = some oT →
      z.heap.IsTupleIter bI l j → z.heap.get? bS = some (seqObj "list" bl.toArray c) →
      (match cur with
        | none => bl = []
        | some q => ∃ (vb vk : V) (ub uk : Value), bl = [ub, uk] ∧ RelV vb ub ∧ RelV vk uk ∧ RepD H' W'.F q.1 vb ∧ RepD H' W'.F q.2 vk) →
      wpK X.K C.n0 P H W G (MP.bestL true (fun d S => C.call C.n0 "" g [.d d] S) cur (ds.drop j) S').nox (relE X.K) Q →
      codeAny (model X.prog X.w) X.A (.builtin "max.loop" ⟨[.ref bI, .ref (dAd X.K d), .ref bS], []⟩) R z := by
  have hname : (toString "max" ++ toString ".loop" : String) = "max.loop" := by decide
  obtain ⟨hd, ec, eg⟩ := at_some e
  obtain ⟨fd, ps, F, hb, hk⟩ := x.fns.ok d hd
  have room1 : Room k X.A.in1 := ⟨x.room2.hd, x.room2.dp, by have := x.room2.un; show X.A.units + 1 + 16 * k + 200 < _; have e2 : X.A.in1.in1.units = X.A.units + 1 + 1 := rfl; omega⟩
  intro r
  induction r with
  | zero =>
    intro j z H' W' S' cur bl c hr hj l' g' iv nI nS nT hT hit hS hcur q
    have hjd : j = ds.length := by omega
    rw [hjd, List.drop_length] at q
    have hlen : its.length = ds.length := by rw [← rv.length, rep.length]
    have hw := PySem.Walks.tuple (prog := X.prog) (w := X.w) (A := X.A.in1) x.room.hd bI l nlI its.toArray
    have hsz : its.toArray.size = ds.length := by rw [List.size_toArray, hlen]
    cases cur with
    | none => exact q.elim
    | some p =>
      obtain ⟨vb, vk, ub, uk, rfl, r1, r2, d1, d2⟩ := hcur
      refine codeAny_builtin PySem.F.entry_max_loop ?_
      rw [Around.under_plainId PySem.F.plain_max_loop _]
      show wpAny _ X.A.in1 (seqItems? (.ref bS) >>= _) _ _ _
      refine wpAny_bind (wpAny_seqItems hS rfl ?_)
      show wpAny _ X.A.in1 (tryCatch (pyNext (.ref bI)) _ >>= _) _ _ _
      refine wpAny_bind (wpAny_tryCatch (hw.done _ _ _ ⟨by rw [hsz, ← hjd]; exact hit, isT _ hT⟩ fun h1 tk1 k1 => ?_))
      have hS1 := k1 bS _ (by simpa using nIS) hS
      have sm := Heap.SameBut.update h1 bS (Obj.mapSeq fun _ => (#[] : Array Value))
      show wpAny _ X.A.in1 (updateSeq bS (fun _ => #[]) >>= _) _ _ _
      refine wpAny_bind ?_
      refine wpAny_updateSeq hS1 rfl (wpAny_bind (wpAny_letGo (wpAny_pure ?_)))
      obtain ⟨f0, f1, f2, f3, f4, f5⟩ := I0 nI
      obtain ⟨s0, s1, s2, s3, s4, s5⟩ := S0 nS
      have i1 : Inv X pins σ H' { z with heap := h1, toks := tk1 } := iv.turned (fun b o hb eb => k1 b o (by simpa using hb) eb) f0 f1 f3 f4 f5
      have i2 : Inv X pins σ H' { z with heap := h1.update bS (Obj.mapSeq fun _ => (#[] : Array Value)), toks := tk1 } := i1.turned (t' := tk1) (fun b o hb eb => (sm.2 b hb).trans eb) s0 s1 s3 s4 s5
      exact hR _ _ ⟨vb, H', i2, r1, q vb H' W' l' g' d1⟩
  | succ r ih =>
    intro j z H' W' S' cur bl c hr hj l' g' iv nI nS nT hT hit hS hcur q
    have hjd : j < ds.length := by omega
    have edr : ds.drop j = ds[j] :: ds.drop (j + 1) := List.drop_eq_getElem_cons hjd
    have edd : ds[j]? = some ds[j] := List.getElem?_eq_getElem hjd
    generalize ds[j] = dd at edr edd
    rw [edr] at q
    have hlen : its.length = ds.length := by rw [← rv.length, rep.length]
    have hw := PySem.Walks.tuple (prog := X.prog) (w := X.w) (A := X.A.in1) x.room.hd bI l nlI its.toArray
    have hsz : its.toArray.size = ds.length := by rw [List.size_toArray, hlen]
    obtain ⟨v, hv, rd⟩ := rep.get edd
    obtain ⟨u, hu, ru⟩ := rv.get hv
    refine codeAny_builtin PySem.F.entry_max_loop ?_
    rw [Around.under_plainId PySem.F.plain_max_loop _]
    show wpAny _ X.A.in1 (seqItems? (.ref bS) >>= _) _ _ _
    refine wpAny_bind (wpAny_seqItems hS rfl ?_)
    show wpAny _ X.A.in1 (tryCatch (pyNext (.ref bI)) _ >>= _) _ _ _
    refine wpAny_bind (wpAny_tryCatch (hw.item j _ _ _ (by rw [hsz]; exact hjd) ⟨hit, isT _ hT⟩ fun uv h1 tk1 hP st1 k1 => ?_))
    have huv : uv = u := by
      have h2 : its[j]? = some uv := by simpa using hP
      rw [hu] at h2
      exact (Option.some.inj h2).symm
    subst huv
    obtain ⟨oI, hoI, hoc, hod⟩ := id st1.1
    have hT1 := k1 l _ (by simpa using nlI) hT
    have hS1 := k1 bS _ (by simpa using nIS) hS
    obtain ⟨f0, f1, f2, f3, f4, f5⟩ := I0 nI
    have i1 : Inv X pins σ H' { z with heap := h1, toks := tk1 } := iv.turned (fun b o hb eb => k1 b o (by simpa using hb) eb) f0 f1 f3 f4 f5
    let stp : MP.D → MP.St → MP.R MP.Vl := fun d S => C.call C.n0 "" g [.d d] S
    have qb : wpK X.K C.n0 P H W G ((stp dd S').bind fun v S'' => match v with
      | .d k' => (match cur with
        | none => MP.bestL true stp (some (dd, k')) (ds.drop (j + 1)) S''
        | some p => (match MP.betK true k' p.2 with
          | some b => MP.bestL true stp (some (if b then (dd, k') else p)) (ds.drop (j + 1)) S''
          | none => .no))
      | _ => .no).nox (relE X.K) Q := by cases cur <;> exact q
    cases er : stp dd S' with
    | ex _ _ => rw [er] at qb; exact qb.elim
    | no => rw [er] at qb; exact qb.elim
    | ok y S2 =>
    rw [er] at qb
    simp only [MP.ok_bind] at qb
    cases y with
    | p _ => exact qb.elim
    | f _ => exact qb.elim
    | s _ => exact qb.elim
    | r _ => exact qb.elim
    | d kd =>
    simp only at qb
    have callit : wpAny (model X.prog X.w) X.A.in1 (call (.ref (dAd X.K d)) [uv]) (fun ku z2 => ∃ (H2 : Hp) (W2 : Wd) (vk : V), Le H' W' H2 W2 ∧ Good X.K C.n0 H2 W2 S2 ∧ Inv X pins σ H2 z2 ∧ H2 bI = none ∧ H2 bS = none ∧ z2.heap.get? bI = some oI ∧ z2.heap.get? bS = some (seqObj "list" bl.toArray c) ∧ H2 l = none ∧ z2.heap.get? l = some oT ∧ RelV vk ku ∧ RepD H2 W2.F kd vk) (fun _ _ => False) { z with heap := h1, toks := tk1 } := by
      have er' : MP.run h.P k C.n0 "" g [.d dd] S' = .ok (.d kd) S2 := by
        have : stp dd S' = MP.run h.P k C.n0 "" g [.d dd] S' := by
          show C.call C.n0 "" g [.d dd] S' = _
          rw [x.call]
        rw [← this]
        exact er
      have hn : ([MP.Vl.d dd] : List MP.Vl).length = d.n := Classical.byContradiction fun z => by
        rw [run_len e hg z] at er'
        cases er'
      have ivp := i1.pinned (fp := [bI, bS, l]) (fun b hb => by
        rcases List.mem_cons.mp hb with y | y
        · subst y
          exact I0 nI
        · rcases List.mem_cons.mp y with y | y
          · subst y
            exact S0 nS
          · rw [List.mem_singleton] at y
            subst y
            exact T0 nT) (fun b hb => by
        rcases List.mem_cons.mp hb with y | y
        · subst y
          exact ⟨_, hoI, fun v => by intro y; rw [hod] at y; cases y⟩
        · rcases List.mem_cons.mp y with y | y
          · subst y
            exact ⟨_, hS1, fun v => by intro y; cases y⟩
          · rw [List.mem_singleton] at y
            subst y
            exact ⟨_, hT1, oTd⟩)
      let Qc : VK := fun v H'' => ∃ W'', Le H' W' H'' W'' ∧ Good X.K C.n0 H'' W'' S2 ∧ RepD H'' W''.F kd v
      have sp : spD X.K h.P k d [v] H' Qc fun _ _ _ => False := by
        refine ⟨C.n0, [.d dd], S', W', hn, ⟨v, [], rfl, rd.mono l'.kp, rfl⟩, g', ?_⟩
        rw [ec, eg, er']
        exact fun v2 H2 W2 l2 g2 r2 => ⟨W2, l2, g2, r2⟩
      have hps : [v].length = ps.length := F.len _ _ _ _ sp
      have bt : BindsTo { z with heap := h1, toks := tk1 } fd ⟨[uv], []⟩ (ps.zip [uv]) := by
        have := hb { z with heap := h1, toks := tk1 } [uv] ivp.kIn (by simpa using hps)
        rwa [List.append_nil] at this
      refine wpAny_call (codeAny_mono (F.run X.A.in1 X.stack _ H' ⟨[uv], []⟩ [uv] [v] Qc (fun _ _ _ => False) room1 ivp.env0.in1 bt (.cons ru .nil) sp) fun r s' hq => ?_)
      cases r with
      | error ee =>
        obtain ⟨_, _, _, _, _, _, _, _, _, _, _, hE⟩ := hq
        exact hE.2.elim
      | ok fl =>
        cases fl with
        | next => exact hq.elim
        | brk => exact hq.elim
        | cont => exact hq.elim
        | ret kv =>
          obtain ⟨v2, H2, J, rel, W2, l2, g2, r2⟩ := ivp.after hq
          have pI := J.pin (bI, _) (List.mem_append_right _ (List.mem_append_right _ (mem_pinsAt (fp := [bI, bS, l]) (by simp) hoI)))
          have pS := J.pin (bS, _) (List.mem_append_right _ (List.mem_append_right _ (mem_pinsAt (fp := [bI, bS, l]) (by simp) hS1)))
          have pT := J.pin (l, _) (List.mem_append_right _ (List.mem_append_right _ (mem_pinsAt (fp := [bI, bS, l]) (by simp) hT1)))
          exact ⟨H2, W2, v2, l2, g2, J.unpinned, pI.2.1, pS.2.1, pI.1, pS.1, pT.2.1, pT.1, rel, r2⟩
    show wpAny _ X.A.in1 (tryCatch (holding [uv] (call (.ref (dAd X.K d)) [uv])) _ >>= _) _ _ _
    refine wpAny_bind (wpAny_tryCatch (wpAny_holding (wpAny_mono callit (fun ku z2 he => ?_) fun _ _ hF => hF.elim)))
    obtain ⟨H2, W2, vk, l2, g2, iv2, nI2, nS2, hI2, hS2, nT2, hT2, rk, dk⟩ := he
    obtain ⟨s0, s1, s2, s3, s4, s5⟩ := S0 nS2
    have sm := Heap.SameBut.update z2.heap bS (Obj.mapSeq fun _ => #[uv, ku])
    obtain ⟨c2, hc2⟩ : ∃ c2, (z2.heap.update bS (Obj.mapSeq fun _ => #[uv, ku])).get? bS = some (seqObj "list" [uv, ku].toArray c2) := ⟨_, get?_update_seq hS2 fun _ => #[uv, ku]⟩
    have iv3 : Inv X pins σ H2 { z2 with heap := z2.heap.update bS (Obj.mapSeq fun _ => #[uv, ku]) } := iv2.turned (t' := z2.toks) (fun b o hb eb => (sm.2 b hb).trans eb) s0 s1 s3 s4 s5
    have hit2 : z2.heap.IsTupleIter bI l (j + 1) := ⟨oI, hI2, hoc, hod⟩
    have hit3 : (z2.heap.update bS (Obj.mapSeq fun _ => #[uv, ku])).IsTupleIter bI l (j + 1) := ⟨oI, (sm.2 bI (Ne.symm nIS)).trans hI2, hoc, hod⟩
    have lt := l'.trans l2
    have hT3 : (z2.heap.update bS (Obj.mapSeq fun _ => #[uv, ku])).get? l = some oT := (sm.2 l nlS).trans hT2
    have newcur : ∃ (vb vk' : V) (ub uk : Value), [uv, ku] = [ub, uk] ∧ RelV vb ub ∧ RelV vk' uk ∧ RepD H2 W2.F dd vb ∧ RepD H2 W2.F kd vk' := ⟨v, vk, uv, ku, rfl, ru, rk, rd.mono lt.kp, dk⟩
    cases cur with
    | none =>
      obtain rfl : bl = [] := hcur
      show wpAny _ X.A.in1 (updateSeq bS (fun _ => #[uv, ku]) >>= _) _ _ _
      refine wpAny_bind ?_
      refine wpAny_updateSeq hS2 rfl ?_
      rw [hname]
      exact wpAny_pure ⟨plainId_quiet PySem.F.plain_max_loop _, ih (j + 1) _ H2 W2 S2 (some (dd, kd)) [uv, ku] c2 (by omega) hjd lt g2 iv3 nI2 nS2 nT2 hT3 hit3 hc2 newcur qb⟩
    | some p =>
      obtain ⟨vb, vo, ub, uo, rfl, rb1, ro1, db, dok⟩ := hcur
      simp only at qb
      cases hbt : MP.betK true kd p.2 with
      | none => rw [hbt] at qb; exact qb.elim
      | some better =>
      rw [hbt] at qb
      simp only at qb
      have hbk : kd ≠ .non ∧ kd.alike p.2 = true ∧ p.2.alike kd = true ∧ kd.dep ≤ 60 ∧ p.2.dep ≤ 60 ∧ better = MP.D.lt p.2 kd := by
        unfold MP.betK at hbt
        split at hbt
        · cases hbt
        · rename_i h0
          split at hbt
          · rename_i hh
            exact ⟨h0, hh.1, hh.2.1, hh.2.2.1, hh.2.2.2, (Option.some.inj hbt).symm⟩
          · cases hbt
      obtain ⟨h0, ha, ha2, hd1, hd2, hbet⟩ := hbk
      obtain ⟨as, rd1⟩ := Dp.reads iv2 _ vk ku (RepD.dp dk) rk
      obtain ⟨bs, rd2⟩ := Dp.reads iv2 _ vo uo (RepD.dp (dok.mono l2.kp)) ro1
      have hun := x.room2.un
      have e2 : X.A.in1.in1.units = X.A.units + 1 + 1 := rfl
      have e3 : X.A.in1.units = X.A.units + 1 := rfl
      show wpAny _ X.A.in1 (tryCatch (holding [uv, ku] (richCompare .Gt ku uo >>= _)) _ >>= _) _ _ _
      refine wpAny_bind (wpAny_tryCatch (wpAny_holding (wpAny_bind ?_)))
      show wpAny _ X.A.in1 (compareOp .Gt ku uo) _ _ _
      refine PySem.W.gt_data rd1 rd2 (by rw [pd_alike]; exact ha) (fun z => h0 (by cases kd <;> first | rfl | (simp [pd] at z))) (by rw [pd_dep, pd_dep, e3]; omega) ?_
      rw [pd_lt _ _ ha2, ← hbet]
      refine wpAny_bind (wpAny_holding (wpAny_truthy_bool ?_))
      refine wpAny_bind (wpAny_letGo (wpAny_pure ?_))
      cases better with
      | true =>
        simp only [if_true] at qb ⊢
        refine wpAny_bind ?_
        refine wpAny_updateSeq hS2 rfl (wpAny_bind (wpAny_letGo ?_))
        rw [hname]
        exact wpAny_pure ⟨plainId_quiet PySem.F.plain_max_loop _, ih (j + 1) _ H2 W2 S2 (some (dd, kd)) [uv, ku] c2 (by omega) hjd lt g2 iv3 nI2 nS2 nT2 hT3 hit3 hc2 newcur qb⟩
      | false =>
        simp only [Bool.false_eq_true, if_false] at qb ⊢
        refine wpAny_bind (wpAny_letGo ?_)
        rw [hname]
        exact wpAny_pure ⟨plainId_quiet PySem.F.plain_max_loop _, ih (j + 1) _ H2 W2 S2 (some p) [ub, uo] c (by omega) hjd lt g2 iv2 nI2 nS2 nT2 hT2 hit2 hS2 ⟨vb, vo, ub, uo, rfl, rb1, ro1, db.mono l2.kp, dok.mono l2.kp⟩ qb⟩
def rExt2K (X : L2.Cx) (C : MP.Cx) (P : Post) (mx : Bool) (g : String) (fa : Addr) : List V → List V → Hp → VK → Prop := fun xs zs H Q => ∃ (v1 v2 : V) (d1 d2 : MP.D) (G : MP.Env) (S : MP.St) (W : Wd), xs = [v1, v2] ∧ zs = [.ref fa] ∧ RepD H W.F d1 v1 ∧ RepD H W.F d2 v2 ∧ Good X.K C.n0 H W S ∧
  wpK X.K C.n0 P H W G (MP.bestL mx (fun d S => C.call C.n0 "" g [.d d] S) none [d1, d2] S).nox (relE X.K) Q
theorem args2_min (a b v : Value) : argsOk "min" ⟨[a, b], [(Str.ofString "key", v)]⟩ := by unfold argsOk; kernel_rfl
theorem cr2_min (x : XOk h k X C P sc) {g : String} {d : MP.Df} (e : h.P.at_ "" g = some d) (hg : g ≠ "") : CallRK X (.builtin "min") [Str.ofString "key"] (rExt2K X C P false g (dAd X.K d)) := by
  intro pins s σ H xs zs us ws Q I r rz hh
  obtain ⟨v1, v2, d1, d2, G, S, W, rfl, rfl, r1, r2, g0, q⟩ := hh
  obtain ⟨u1, u2, rfl, ru1, ru2⟩ := vals2 r
  obtain ⟨w1, rfl, e1⟩ := vals1 rz
  obtain rfl : w1 = Value.ref (dAd X.K d) := e1
  show wpAny (model X.prog X.w) X.A (call (.builtin "min") [u1, u2] [(Str.ofString "key", .ref (dAd X.K d))]) _ _ s
  have hname : (toString "min" ++ toString ".loop" : String) = "min.loop" := by decide
  refine kmk_tree PySem.F.kind_min PySem.F.plain_min PySem.F.entry_min (args2_min _ _ _) ?_
  show wpAny _ X.A.in1 (Builtin.Builtins.bindParams "min" ["key", "default"] 0 ⟨[], [(Str.ofString "key", .ref (dAd X.K d))]⟩ >>= _) _ _ s
  refine wpAny_bind (wpAny_of_eq (show Builtin.Builtins.bindParams "min" ["key", "default"] 0 ⟨[], [(Str.ofString "key", .ref (dAd X.K d))]⟩ = pure [some (.ref (dAd X.K d)), none] from rfl) ?_)
  show wpAny _ X.A.in1 (newTuple [u1, u2] >>= _) _ _ s
  refine wpAny_bind (wpAny_newTuple ?_ (by show 2 ≤ _; rw [sizeLine_eq]; decide))
  obtain ⟨aT, haT⟩ : ∃ aT, s.heap.objs.size = aT := ⟨_, rfl⟩
  obtain ⟨hp0, hhp0⟩ : ∃ hp0, s.heap.push (seqObj "tuple" [u1, u2].toArray 0) = hp0 := ⟨_, rfl⟩
  have gT0 : hp0.get? aT = some (seqObj "tuple" [u1, u2].toArray 0) := by rw [← hhp0, ← haT]; exact Heap.get?_push_size _ rfl
  have sz0 : hp0.objs.size = aT + 1 := by rw [← hhp0, size_push', haT]
  have up0 : ∀ b o, s.heap.get? b = some o → hp0.get? b = some o := fun b o eb => by rw [← hhp0]; exact Heap.get?_push_of_some _ eb
  have isT : ∀ hh : Heap, hh.get? aT = some (seqObj "tuple" [u1, u2].toArray 0) → hh.IsTuple aT [u1, u2].toArray := fun hh e => ⟨_, e, rfl, 0, rfl⟩
  show wpAny _ X.A.in1 (pyIter (.ref s.heap.objs.size) >>= _) _ _ { s with heap := s.heap.push (seqObj "tuple" [u1, u2].toArray 0) }
  rw [haT, hhp0]
  refine wpAny_bind (wpAny_pyIter_tuple (isT hp0 gT0) ?_)
  refine wpAny_bind (wpAny_newList ?_ (Nat.zero_le _))
  rw [hname]
  obtain ⟨hp1, hhp1⟩ : ∃ hp1, hp0.push { cls := .type "tuple_iterator", data := .fields #[.ref aT, .int 0 0] } = hp1 := ⟨_, rfl⟩
  have sz1 : hp1.objs.size = hp0.objs.size + 1 := by rw [← hhp1, size_push']
  have gI : hp1.get? hp0.objs.size = some { cls := .type "tuple_iterator", data := .fields #[.ref aT, .int 0 0] } := by rw [← hhp1]; exact Heap.get?_push_size _ rfl
  have up1 : ∀ b o, hp0.get? b = some o → hp1.get? b = some o := fun b o eb => by rw [← hhp1]; exact Heap.get?_push_of_some _ eb
  have nIS : hp1.objs.size ≠ hp0.objs.size := fun y => by
    rw [sz1] at y
    exact absurd y (Nat.succ_ne_self _)
  have nlI : aT ≠ hp0.objs.size := fun y => by
    rw [sz0] at y
    exact absurd y.symm (Nat.succ_ne_self _)
  have nlS : aT ≠ hp1.objs.size := fun y => by
    rw [sz1, sz0] at y
    exact absurd y (Nat.ne_of_lt (Nat.lt_succ_of_lt (Nat.lt_succ_self _)))
  simp only [hhp1]
  have up2 : ∀ b o, hp1.get? b = some o → (hp1.push (seqObj "list" #[] 0)).get? b = some o := fun b o eb => Heap.get?_push_of_some _ eb
  have hS : (hp1.push (seqObj "list" #[] 0)).get? hp1.objs.size = some (seqObj "list" ([] : List Value).toArray 0) := Heap.get?_push_size _ rfl
  have I1 : Inv X pins σ H { s with heap := hp1.push (seqObj "list" #[] 0) } := I.kept (t' := s.toks) fun b o eb => up2 b o (up1 b o (up0 b o eb))
  have gbT : s.heap.objs.size ≤ aT := Nat.le_of_eq haT
  have gbI : s.heap.objs.size ≤ hp0.objs.size := by rw [sz0]; exact Nat.le_succ_of_le gbT
  have gbS : s.heap.objs.size ≤ hp1.objs.size := by rw [sz1]; exact Nat.le_succ_of_le gbI
  refine wpAny_pure ⟨plainId_quiet PySem.F.plain_min_loop _, ?_⟩
  exact loopT_min x e hg (ds := [d1, d2]) (vs := [v1, v2]) (its := [u1, u2]) (fun hn => I.fpOk gbI hn) (fun hn => I.fpOk gbS hn) (fun hn => I.fpOk gbT hn) (fun v => by intro y; cases y) isT r ⟨v1, [v2], rfl, r1, v2, [], rfl, r2, rfl⟩ nIS nlI nlS (fun u z q => q) 2 0 _ H W S none [] 0 rfl (Nat.zero_le _) Le.refl g0 I1 (I.hok.fresh gbI) (I.hok.fresh gbS) (I.hok.fresh gbT) (up2 _ _ (up1 _ _ gT0)) ⟨_, up2 _ _ gI, rfl, rfl⟩ hS rfl q
theorem args2_max (a b v : Value) : argsOk "max" ⟨[a, b], [(Str.ofString "key", v)]⟩ := by unfold argsOk; kernel_rfl
theorem cr2_max (x : XOk h k X C P sc) {g : String} {d : MP.Df} (e : h.P.at_ "" g = some d) (hg : g ≠ "") : CallRK X (.builtin "max") [Str.ofString "key"] (rExt2K X C P true g (dAd X.K d)) := by
  intro pins s σ H xs zs us ws Q I r rz hh
  obtain ⟨v1, v2, d1, d2, G, S, W, rfl, rfl, r1, r2, g0, q⟩ := hh
  obtain ⟨u1, u2, rfl, ru1, ru2⟩ := vals2 r
  obtain ⟨w1, rfl, e1⟩ := vals1 rz
  obtain rfl : w1 = Value.ref (dAd X.K d) := e1
  show wpAny (model X.prog X.w) X.A (call (.builtin "max") [u1, u2] [(Str.ofString "key", .ref (dAd X.K d))]) _ _ s
  have hname : (toString "max" ++ toString ".loop" : String) = "max.loop" := by decide
  refine kmk_tree PySem.F.kind_max PySem.F.plain_max PySem.F.entry_max (args2_max _ _ _) ?_
  show wpAny _ X.A.in1 (Builtin.Builtins.bindParams "max" ["key", "default"] 0 ⟨[], [(Str.ofString "key", .ref (dAd X.K d))]⟩ >>= _) _ _ s
  refine wpAny_bind (wpAny_of_eq (show Builtin.Builtins.bindParams "max" ["key", "default"] 0 ⟨[], [(Str.ofString "key", .ref (dAd X.K d))]⟩ = pure [some (.ref (dAd X.K d)), none] from rfl) ?_)
  show wpAny _ X.A.in1 (newTuple [u1, u2] >>= _) _ _ s
  refine wpAny_bind (wpAny_newTuple ?_ (by show 2 ≤ _; rw [sizeLine_eq]; decide))
  obtain ⟨aT, haT⟩ : ∃ aT, s.heap.objs.size = aT := ⟨_, rfl⟩
  obtain ⟨hp0, hhp0⟩ : ∃ hp0, s.heap.push (seqObj "tuple" [u1, u2].toArray 0) = hp0 := ⟨_, rfl⟩
  have gT0 : hp0.get? aT = some (seqObj "tuple" [u1, u2].toArray 0) := by rw [← hhp0, ← haT]; exact Heap.get?_push_size _ rfl
  have sz0 : hp0.objs.size = aT + 1 := by rw [← hhp0, size_push', haT]
  have up0 : ∀ b o, s.heap.get? b = some o → hp0.get? b = some o := fun b o eb => by rw [← hhp0]; exact Heap.get?_push_of_some _ eb
  have isT : ∀ hh : Heap, hh.get? aT = some (seqObj "tuple" [u1, u2].toArray 0) → hh.IsTuple aT [u1, u2].toArray := fun hh e => ⟨_, e, rfl, 0, rfl⟩
  show wpAny _ X.A.in1 (pyIter (.ref s.heap.objs.size) >>= _) _ _ { s with heap := s.heap.push (seqObj "tuple" [u1, u2].toArray 0) }
  rw [haT, hhp0]
  refine wpAny_bind (wpAny_pyIter_tuple (isT hp0 gT0) ?_)
  refine wpAny_bind (wpAny_newList ?_ (Nat.zero_le _))
  rw [hname]
  obtain ⟨hp1, hhp1⟩ : ∃ hp1, hp0.push { cls := .type "tuple_iterator", data := .fields #[.ref aT, .int 0 0] } = hp1 := ⟨_, rfl⟩
  have sz1 : hp1.objs.size = hp0.objs.size + 1 := by rw [← hhp1, size_push']
  have gI : hp1.get? hp0.objs.size = some { cls := .type "tuple_iterator", data := .fields #[.ref aT, .int 0 0] } := by rw [← hhp1]; exact Heap.get?_push_size _ rfl
  have up1 : ∀ b o, hp0.get? b = some o → hp1.get? b = some o := fun b o eb => by rw [← hhp1]; exact Heap.get?_push_of_some _ eb
  have nIS : hp1.objs.size ≠ hp0.objs.size := fun y => by
    rw [sz1] at y
    exact absurd y (Nat.succ_ne_self _)
  have nlI : aT ≠ hp0.objs.size := fun y => by
    rw [sz0] at y
    exact absurd y.symm (Nat.succ_ne_self _)
  have nlS : aT ≠ hp1.objs.size := fun y => by
    rw [sz1, sz0] at y
    exact absurd y (Nat.ne_of_lt (Nat.lt_succ_of_lt (Nat.lt_succ_self _)))
  simp only [hhp1]
  have up2 : ∀ b o, hp1.get? b = some o → (hp1.push (seqObj "list" #[] 0)).get? b = some o := fun b o eb => Heap.get?_push_of_some _ eb
  have hS : (hp1.push (seqObj "list" #[] 0)).get? hp1.objs.size = some (seqObj "list" ([] : List Value).toArray 0) := Heap.get?_push_size _ rfl
  have I1 : Inv X pins σ H { s with heap := hp1.push (seqObj "list" #[] 0) } := I.kept (t' := s.toks) fun b o eb => up2 b o (up1 b o (up0 b o eb))
  have gbT : s.heap.objs.size ≤ aT := Nat.le_of_eq haT
  have gbI : s.heap.objs.size ≤ hp0.objs.size := by rw [sz0]; exact Nat.le_succ_of_le gbT
  have gbS : s.heap.objs.size ≤ hp1.objs.size := by rw [sz1]; exact Nat.le_succ_of_le gbI
  refine wpAny_pure ⟨plainId_quiet PySem.F.plain_max_loop _, ?_⟩
  exact loopT_max x e hg (ds := [d1, d2]) (vs := [v1, v2]) (its := [u1, u2]) (fun hn => I.fpOk gbI hn) (fun hn => I.fpOk gbS hn) (fun hn => I.fpOk gbT hn) (fun v => by intro y; cases y) isT r ⟨v1, [v2], rfl, r1, v2, [], rfl, r2, rfl⟩ nIS nlI nlS (fun u z q => q) 2 0 _ H W S none [] 0 rfl (Nat.zero_le _) Le.refl g0 I1 (I.hok.fresh gbI) (I.hok.fresh gbS) (I.hok.fresh gbT) (up2 _ _ (up1 _ _ gT0)) ⟨_, up2 _ _ gI, rfl, rfl⟩ hS rfl q
theorem ie_ext2K {mx : Bool} {g : String} {d : MP.Df} {a b : Expr} {ea eb : MP.Ex} {p pos pk kp : Pos} (x : XOk h k X C P sc) (ha : PE X a (tE X.K C P ea)) (hb : PE X b (tE X.K C P eb)) (hs : nst a = true) (hs2 : nst b = true) (hm : (if mx then "max" else "min") ∈ h.free) (hgl : glob sc (so (if mx then "max" else "min")) = true) (e : h.P.at_ "" g = some d) (hg : g ≠ "") (hgg : glob sc (so g) = true) :
    PE X (.Call (.Name (so (if mx then "max" else "min")) p) [a, b] [⟨some (so "key"), .Name (so g) pk, kp⟩] pos) (tE X.K C P (.ext2K mx g ea eb)) := by
  obtain ⟨b1, b2, b3, b4⟩ := bltn x hm hgl
  obtain ⟨g1, g2, _⟩ := glob_gl x hgg
  obtain ⟨hd, ec, eg⟩ := at_some e
  have em : X.mg (so g) = some (.ref (dAd X.K d)) := by
    have := x.tx.fn d hd ec
    rw [eg] at this
    unfold dAd
    rw [if_pos ec, eg]
    exact this
  have hpk : PE X (.Name (so g) pk) (tC (.ref (dAd X.K d))) := pe_glob g1 em rfl g2
  have main : PE X (.Call (.Name (so (if mx then "max" else "min")) p) [a, b] [⟨some (so "key"), .Name (so g) pk, kp⟩] pos) (tCKw (rExt2K X C P mx g (dAd X.K d)) (tCons (tE X.K C P ea) (tCons (tE X.K C P eb) tNil)) (tCons (tC (.ref (dAd X.K d))) tNil)) := by
    cases mx with
    | false => exact pe_callBK (cr2_min x e hg) b1 b2 (by decide +kernel) (pa_cons ha (pa_cons hb pa_nil (nst_star hs2)) (nst_star hs)) (pk_cons hpk pk_nil) b3 b4 (by rw [nst_star hs, nst_star hs2]; rfl) (by rw [nst_star hs, nst_star hs2]; rfl)
    | true => exact pe_callBK (cr2_max x e hg) b1 b2 (by decide +kernel) (pa_cons ha (pa_cons hb pa_nil (nst_star hs2)) (nst_star hs)) (pk_cons hpk pk_nil) b3 b4 (by rw [nst_star hs, nst_star hs2]; rfl) (by rw [nst_star hs, nst_star hs2]; rfl)
  refine PE.imp main fun σ H Q ⟨G, S, W, hG, hS, q⟩ => ?_
  simp only [MP.evE] at q
  show tE X.K C P ea σ H _
  refine tR.part hG hS q fun y S1 v H1 W1 l1 g1 s1 r1 q1 => ?_
  show tE X.K C P eb σ H1 _
  refine tR.part g1 s1 q1 fun y2 S2 v2 H2 W2 l2 g2 s2 r2 q2 => ?_
  split at q2
  · rename_i d1 d2
    exact ⟨v, v2, d1, d2, G, S2, W2, rfl, rfl, r1.mono l2, r2, s2, q2⟩
  · exact q2.elim
end
end MS

set_option Elab.async false
set_option linter.all false
set_option maxRecDepth 100000
set_option autoImplicit false
set_option maxHeartbeats 4000000
/-! MSL: d.get(k, x), list(d.items()). -/
namespace MS
open PySem PySem.Spec PySem.Calls PyProof.Rows L2
variable [TW]
section
variable {K : Fg} {H H' : Hp} {W : Wd} {n0 : Nat} {S : MP.St}
/-- more is tracked -/
theorem Good.grow (g : Good K n0 H W S) (hk : ∀ b o, H b = some o → H' b = some o) : Good K n0 H' W S ∧ Le H W H' W := by
  have l : Le H W H' W := ⟨⟨fun _ h => h, fun a o' _ e => hk a o' e, fun a xs e => hk a _ e, fun a o u e => hk a _ e⟩, fun _ _ h => h, fun _ h => h, fun a o' _ e => hk a o' e, fun _ h => h⟩
  refine ⟨⟨g.len, g.le0, fun i c a h1 h2 => ?_, g.live, g.inj, fun a h => ?_, fun a h => ?_, g.tmu, g.cl, g.nle, g.cl0⟩, l⟩
  · by_cases hd : c = .dead
    · subst hd
      exact True.intro
    · have q := g.cell i c a h1 h2
      obtain ⟨u, e, _⟩ := q.mut hd
      have q2 := q.mono l
      rw [e] at q2
      rw [hk a u e]
      exact q2
  · obtain ⟨vs, e⟩ := g.fobj a h
    exact ⟨vs, hk a _ e⟩
  · obtain ⟨⟨o, e⟩, n⟩ := g.tobj a h
    exact ⟨⟨o, hk a o e⟩, n⟩
end
/-! ### d.get(k, x) -/
def IsDU (w : World) (H : Hp) (a : Addr) : Prop := IsD H a ∨ ∃ b zs, H a = some (hoN w b zs)
def GetU (w : World) (H : Hp) (a : Addr) (y z : V) (Q : VK) : Prop := (∃ o, DGet H a y o ∧ Q (o.getD z) H) ∨ ∃ (c : Addr) (zs : ZN) (d : MP.D) (F : Addr → Prop), y = .ref c ∧ (∃ b, H a = some (hoN w b zs)) ∧ KtN H zs ∧ MP.DK.ok .n d = true ∧ RepD H F d (.ref c) ∧ Q ((valV (zs.map (·.1)) (nkOf d)).getD z) H
def tGetU (w : World) (td ty tx : TE) : TE := fun σ H Q => td σ H fun x H1 => ∃ a, x = .ref a ∧ IsDU w H1 a ∧ ty σ H1 fun y H2 => tx σ H2 fun z H3 => GetU w H3 a y z Q
section
variable {X : L2.Cx} {o e f : Expr} {apos cpos : Pos} {td ty tx : TE}
theorem isDU_at {pins : List (Addr × Obj)} {σ : L2.St} {H : Hp} {s : Shared} {a : Addr} (I : Inv X pins σ H s) (d : IsDU X.w H a) : s.TypeIs (.ref a) "dict" ∧ (∀ b, Value.ref a = .ref b → ∃ ob, s.heap.get? b = some ob ∧ ob.dict = none) := by
  rcases d with d | ⟨b, zs, e⟩
  · obtain ⟨h1, h2, _⟩ := isD_at I d
    exact ⟨h1, h2⟩
  · obtain ⟨rfl, o, es, ep, ho, hx, _⟩ := hoN_at I.hok e
    exact ⟨⟨o, ho, hx.1⟩, fun b z => by cases z; exact ⟨o, ho, hx.2.1⟩⟩
theorem pe_dgetU (hu : X.A.units + 9 < cLine) (ho : PE X o td) (he : PE X e ty) (hf : PE X f tx) (m : M2 X o "get" apos e f cpos) : PE X (.Call (.Attribute o "get" apos) [e, f] [] cpos) (tGetU X.w td ty tx) := by
  refine ⟨fun pins s σ H Q I h => ?_⟩
  refine wpAny_Call_method m.base m.few m.line PySem.F.plainAttrs_dict PySem.F.slot_dict_get PySem.F.type_dict_get (thn (ho.run pins s σ H _ I h) fun u s1 ⟨x, H1, I1, rx, a, ex, d, q1⟩ => ?_)
  subst ex
  obtain rfl : u = Value.ref a := rx
  obtain ⟨t1, t2⟩ := isDU_at I1 d
  refine ⟨t1, t2, ?_⟩
  rw [m.trees]
  refine Calls.callWith_builtin rfl (Calls.evalArgs_plain (Calls.spliced_cons (thn (he.run pins s1 σ H1 _ I1 q1) fun iv s2 ⟨y, H2, I2, ry, q2⟩ =>
    Calls.spliced_cons (thn (hf.run pins s2 σ H2 _ I2 q2) fun fv s3 ⟨z, H3, I3, rz, q3⟩ => Calls.spliced_nil ?_))))
  rcases q3 with ⟨ov, g, q3⟩ | ⟨c, zs, dd, F, rfl, eh, kt, hk, r, q3⟩
  · exact d_get2 (by omega) I3 g ry rz fun w' s4 I4 rw' => ⟨_, H3, I4, rw', q3⟩
  · obtain rfl : iv = Value.ref c := ry
    exact n_get2 hu I3 eh kt hk r rz fun w' s4 I4 rw' => ⟨_, H3, I4, rw', q3⟩
end
theorem few2 {e f : Expr} {env : Env} {pos : Pos} (h1 : nst e = true) (h2 : nst f = true) : ((backTo pos (starEach [e, f] env)).all (fun x => !x.1) && (backToKw pos (keywordEach [] env)).all (fun x => x.1.isSome)
      && decide ([e, f].length + ([] : List Keyword).length + (if ([] : List Keyword).isEmpty then 0 else 1) < 30)) = true := by
  rw [nst_star h1, nst_star h2]
  rfl
section
variable {h : Hd} {k : Nat} {X : L2.Cx} {C : MP.Cx} {P : Post} {sc : Scope} {a b c : Expr} {ea eb ec : MP.Ex} {apos pos p p2 : Pos}
theorem ie_dget (x : XOk h k X C P sc) (ho : PE X a (tE X.K C P ea)) (hb : PE X b (tE X.K C P eb)) (hc : PE X c (tE X.K C P ec)) (hp : plainO a = true) (h1 : nst b = true) (h2 : nst c = true) (hl : (apos.endLine == pos.line) = true) :
    PE X (.Call (.Attribute a (so "get") apos) [b, c] [] pos) (tE X.K C P (.dget ea eb ec)) := by
  refine PE.imp (pe_dgetU (by have := x.hu; omega) ho hb hc ⟨plainO_base hp, few2 h1 h2, hl, by rw [nst_star h1, nst_star h2]; rfl⟩) fun σ H Q ⟨G, S, W, hG, hS, q⟩ => ?_
  rw [x.tx.tw]
  simp only [MP.evE] at q
  show tE X.K C P ea σ H _
  refine tR.part hG hS q fun y S1 v H1 W1 l1 g1 s1 r1 q1 => ?_
  split at q1
  · rename_i hd
    cases y with
    | p i =>
      obtain ⟨pa, epa, rfl⟩ := id r1
      simp only [MP.isDic] at hd
      cases hc1 : S1[i]? with
      | none => rw [hc1] at hd; cases hd
      | some cl =>
        rw [hc1] at hd
        cases cl with
        | dic kd kvs =>
          have ci := s1.cell i _ pa hc1 epa
          refine ⟨pa, rfl, ?_, ?_⟩
          · cases kd with
            | k =>
              obtain ⟨ks, e1, _⟩ := ci
              exact .inl (.inl ⟨ks, .inl e1⟩)
            | t =>
              obtain ⟨ks, e1, _⟩ := ci
              exact .inl (.inr ⟨ks, .inl e1⟩)
            | n =>
              obtain ⟨b0, zs, e1, _⟩ := ci
              exact .inr ⟨b0, zs, e1⟩
          · show tE X.K C P eb σ H1 _
            refine tR.part g1 s1 q1 fun y2 S2 u H2 W2 l2 g2 s2 r2 q2 => ?_
            show tE X.K C P ec σ H2 _
            refine tR.part g2 s2 q2 fun z S3 t H3 W3 l3 g3 s3 r3 q3 => ?_
            cases e : MP.dgetV S3 (.p i) y2 z with
            | none => rw [e] at q3; exact q3.elim
            | some res =>
              rw [e] at q3
              unfold MP.dgetV at e
              simp only at e
              split at e
              · rename_i kd' kvs' hc3
                split at e
                · rename_i kk
                  split at e
                  · rename_i hok
                    cases e
                    have r2' := r2.mono l3
                    have epa3 : W3.mu[i]? = some pa := l3.mu _ _ (l2.mu _ _ epa)
                    have ci3 := s3.cell i _ pa hc3 epa3
                    cases kd' with
                    | k =>
                      obtain ⟨ks, e1, kv⟩ := ci3
                      obtain ⟨ky, h1, rfl⟩ := keyV_of (F := W3.F) (H := H3) hok r2'
                      have zz := kv.look keyV_apart h1
                      refine .inl ⟨_, DGet.k e1, ?_⟩
                      cases el : MP.look kvs' kk with
                      | none =>
                        rw [el] at zz q3
                        rw [zz]
                        exact q3 t H3 W3 .refl s3 r3
                      | some v1 =>
                        rw [el] at zz q3
                        obtain ⟨v2, z1, z2⟩ := zz
                        rw [z1]
                        exact q3 v2 H3 W3 .refl s3 z2
                    | t =>
                      obtain ⟨ks, e1, kv⟩ := ci3
                      cases kk with
                      | tup ds =>
                        obtain ⟨qa, vs, rfl, hq, hr⟩ := r2'
                        obtain ⟨ky, h1, rfl⟩ := keysV_of (F := W3.F) (H := H3) hok hr
                        have zz := kv.look keyT_apart (show keyT (.tup ds) ky from h1)
                        refine .inl ⟨_, DGet.t e1 hq, ?_⟩
                        cases el : MP.look kvs' (.tup ds) with
                        | none =>
                          rw [el] at zz q3
                          rw [zz]
                          exact q3 t H3 W3 .refl s3 r3
                        | some v1 =>
                          rw [el] at zz q3
                          obtain ⟨v2, z1, z2⟩ := zz
                          rw [z1]
                          exact q3 v2 H3 W3 .refl s3 z2
                      | _ => cases hok
                    | n =>
                      obtain ⟨b0, zs, e1, kv, ka⟩ := ci3
                      cases kk with
                      | tup ds =>
                        obtain ⟨qa, vs, rfl, hq, hr⟩ := id r2'
                        have zz := kv.look keyN_apart (show keyN (.tup ds) _ from ⟨hok, rfl⟩)
                        refine .inr ⟨qa, zs, .tup ds, W3.F, rfl, ⟨b0, e1⟩, kt_of kv ka, hok, r2', ?_⟩
                        cases el : MP.look kvs' (.tup ds) with
                        | none =>
                          rw [el] at zz q3
                          rw [zz]
                          exact q3 t H3 W3 .refl s3 r3
                        | some v1 =>
                          rw [el] at zz q3
                          obtain ⟨v2, z1, z2⟩ := zz
                          rw [z1]
                          exact q3 v2 H3 W3 .refl s3 z2
                      | _ => cases hok
                  · cases e
                · cases e
              · cases e
        | _ => cases hd
    | _ => cases hd
  · exact q1.elim
/-! ### list(d.items()) -/
theorem items_k {K : Fg} {H : Hp} {W : Wd} {H' : Hp} (hk : ∀ b o, H b = some o → H' b = some o) (l : Le H W H' W) : ∀ {kvs : List (MP.D × MP.Vl)} {ps : List MP.D} {ls : List (V × V)} {ts : List Addr}, MP.pairsD kvs = some ps →
    Paired (fun (q : MP.D × MP.Vl) (p : V × V) => RepD H W.F q.1 p.1 ∧ RepV K H W q.2 p.2) kvs ls → Paired (fun (t : Addr) (q : V × V) => H' t = some (.tup [q.1, q.2])) ts ls → RepDs H' W.F ps (ts.map V.ref)
  | [], ps, _, _, e, r, t => by
    cases r
    cases t
    cases e
    rfl
  | (kd, x) :: kvs, ps, _, _, e, r, t => by
    cases r with
    | cons r1 r2 =>
      cases t with
      | cons t1 t2 =>
        cases x with
        | d v =>
          simp only [MP.pairsD, Option.map_eq_some_iff] at e
          obtain ⟨ps', e1, rfl⟩ := e
          exact ⟨_, _, rfl, ⟨_, _, rfl, t1, ⟨_, _, rfl, RepD.mono l.kp r1.1, ⟨_, _, rfl, RepD.mono l.kp r1.2, rfl⟩⟩⟩, items_k hk l e1 r2 t2⟩
        | _ => simp [MP.pairsD] at e
theorem kvs_pairK {K : Fg} {H : Hp} {W : Wd} : ∀ {kvs : List (MP.D × MP.Vl)} {ks : List (Key × V)}, Kvs keyV K H W kvs ks → Paired (fun (q : MP.D × MP.Vl) (p : V × V) => RepD H W.F q.1 p.1 ∧ RepV K H W q.2 p.2) kvs (ks.map fun q => (kV q.1, q.2))
  | [], _, h => by cases h; exact .nil
  | q :: r, _, h => by
    obtain ⟨l, v, t, rfl, h1, h2, h3⟩ := h
    rw [List.map_cons]
    refine .cons ⟨?_, h2⟩ (kvs_pairK h3)
    obtain ⟨d, x⟩ := q
    cases d with
    | int i =>
      have e : l = .inl i := h1
      subst e
      rfl
    | str i =>
      have e : l = .inr (so i) := h1
      subst e
      rfl
    | _ => exact h1.elim
theorem kvs_pairN {K : Fg} {H : Hp} {W : Wd} : ∀ {kvs : List (MP.D × MP.Vl)} {zs : ZN}, Kvs keyN K H W kvs (zs.map (·.1)) → RepDs H W.F (kvs.map (·.1)) (zs.map fun z => V.ref z.2) → Paired (fun (q : MP.D × MP.Vl) (p : V × V) => RepD H W.F q.1 p.1 ∧ RepV K H W q.2 p.2) kvs (zs.map fun z => (V.ref z.2, z.1.2))
  | [], [], _, _ => .nil
  | [], _ :: _, h, _ => by cases h
  | _ :: _, [], h, _ => by
    obtain ⟨_, _, _, e, _⟩ := h
    cases e
  | q :: r, z :: zs, h, g => by
    obtain ⟨k, v, t, e, h1, h2, h3⟩ := h
    obtain ⟨u, t2, e2, g1, g2⟩ := g
    obtain ⟨⟨k0, v0⟩, c0⟩ := z
    rw [List.map_cons] at e e2
    cases e
    cases e2
    rw [List.map_cons]
    exact .cons ⟨g1, h2⟩ (kvs_pairN h3 g2)
theorem il_items (x : XOk h k X C P sc) (ha : PE X a (tE X.K C P ea)) (hp : plainO a = true) (hl : (apos.endLine == pos.line) = true) (hm : "list" ∈ h.free) (hgl : glob sc (so "list") = true) :
    PE X (.Call (.Name (so "list") p) [.Call (.Attribute a (so "items") apos) [] [] pos] [] p2) (tL X.K C P (.items ea)) := by
  obtain ⟨b1, b2, b3, b4⟩ := bltn x hm hgl
  refine PE.imp (pe_listItU x.calm ha b1 b2 boot_list (plainO_base hp) hl) fun σ H Q ⟨G, S, W, hG, hS, q⟩ => ?_
  rw [x.tx.tw]
  simp only [MP.evL] at q
  show tE X.K C P ea σ H _
  refine tR.part hG hS q fun y S1 v H1 W1 l1 g1 s1 r1 q1 => ?_
  cases y with
  | p i =>
    obtain ⟨pa, epa, rfl⟩ := id r1
    simp only at q1
    cases hc1 : S1[i]? with
    | none => rw [hc1] at q1; exact q1.elim
    | some cl =>
      rw [hc1] at q1
      cases cl with
      | dic kd kvs =>
        have q2 : kd ≠ .t ∧ wpK X.K C.n0 P H1 W1 G (MP.R.of (MP.pairsD kvs) S1) relL Q := by
          cases kd with
          | k => exact ⟨by simp, q1⟩
          | t => exact q1.elim
          | n => exact ⟨by simp, q1⟩
        obtain ⟨hkd, q1⟩ := q2
        cases ep : MP.pairsD kvs with
        | none => rw [ep] at q1; exact q1.elim
        | some ps =>
          rw [ep] at q1
          have ci := s1.cell i _ pa hc1 epa
          have fin : ∀ (ls : List (V × V)), IsP TW.w H1 pa ls → Paired (fun (q : MP.D × MP.Vl) (p : V × V) => RepD H1 W1.F q.1 p.1 ∧ RepV X.K H1 W1 q.2 p.2) kvs ls → rItU TW.w (.ref pa) H1 Q := fun ls hi hpr => by
            refine ⟨pa, ls, rfl, hi, fun H' pp ts hk hn hts hnp hl ht => ?_⟩
            obtain ⟨g, l⟩ := s1.grow hk
            have al := s1.fresh hn
            exact q1 _ H' W1 l g ⟨pp, ts.map V.ref, rfl, hl, items_k hk l ep hpr ht, al⟩
          cases kd with
          | k =>
            obtain ⟨ks, e1, kv⟩ := ci
            exact fin _ (.inl ⟨ks, e1, rfl⟩) (kvs_pairK kv)
          | t => exact absurd rfl hkd
          | n =>
            obtain ⟨b0, zs, e1, kv, ka⟩ := ci
            exact fin _ (.inr ⟨b0, zs, e1, rfl⟩) (kvs_pairN kv ka)
      | _ => exact q1.elim
  | _ => exact q1.elim
end
end MS

set_option Elab.async false
set_option linter.all false
set_option maxRecDepth 100000
set_option autoImplicit false
set_option maxHeartbeats 4000000
/-! MS8: the written expressions are held against MP's by a function. -/
namespace MS
open PySem PySem.Spec PyProof.Rows L2
variable [TW]

def locOf (cs : Scope) (y : Str) : Bool := decide (cs.names.lookup y = some .local) || decide (cs.names.lookup y = some .cell)
def ownOf (N : List Str) (is : List Nat) : List (Str × Nat) := is.map fun i => ((N[i]?).getD ("" : Str), i)
def nstAll (es : List Expr) : Bool := es.all nst
def isTupE : Expr → Bool
  | .Tuple _ _ _ => true
  | _ => false
def ckKs (h : Hd) (sc : Scope) : List (Option String × MP.D) → List (Option Expr) → Bool
  | [], [] => true
  | q :: qs, some a :: ks => ckKD h sc q a && ckKs h sc qs ks
  | _, _ => false
mutual
def ckE (h : Hd) (N : List Str) : MP.Ex → Scope → Expr → Bool
  | .var i, sc, x => match x with
    | .Name y _ => decide (N[i]? = some y) && vis sc y
    | _ => false
  | .cst d, _, x => match x with
    | .Constant c _ _ => cstV d c
    | _ => false
  | .gint g i, sc, x => match x with
    | .Name y _ => decide (y = so g) && decide ((g, i) ∈ h.gis) && glob sc (so g)
    | _ => false
  | .bin o a b, sc, x => match x with
    | .BinOp l op r _ => decide (op = bop o) && ckE h N a sc l && ckE h N b sc r
    | _ => false
  | .neg a, sc, x => match x with
    | .UnaryOp op l _ => decide (op = .USub) && ckE h N a sc l
    | _ => false
  | .cmp o a b, sc, x => match x with
    | .Compare l [op] [r] _ => decide (op = cop o) && noSet r && ckE h N a sc l && ckE h N b sc r
    | _ => false
  | .andE a b, sc, x => match x with
    | .BoolOp op (l :: r :: rest) pos => decide (op = .And) && ckE h N a sc l && (match rest with
      | [] => ckE h N b sc r
      | q :: rest => ckE h N b sc (.BoolOp .And (r :: q :: rest) pos))
    | _ => false
  | .orE a b, sc, x => match x with
    | .BoolOp op (l :: r :: rest) pos => decide (op = .Or) && ckE h N a sc l && (match rest with
      | [] => ckE h N b sc r
      | q :: rest => ckE h N b sc (.BoolOp .Or (r :: q :: rest) pos))
    | _ => false
  | .notE a, sc, x => match x with
    | .UnaryOp op l _ => decide (op = .Not) && ckE h N a sc l
    | _ => false
  | .ite c a b, sc, x => match x with
    | .IfExp t l r _ => ckT h N c sc t && ckE h N a sc l && ckE h N b sc r
    | _ => false
  | .tup es, sc, x => match x with
    | .Tuple xs _ _ => ckEs h N es sc xs
    | _ => false
  | .fz l, sc, x => ckL h N l sc x
  | .own l, sc, x => ckL h N l sc x
  | .dnew _, _, x => match x with
    | .Dict [] [] _ => true
    | _ => false
  | .ix a b, sc, x => match x with
    | .Subscript l r _ => plainI r && ckE h N a sc l && ckE h N b sc r
    | _ => false
  | .slF a b, sc, x => match x with
    | .Subscript l (.Slice (some r) none none _) _ => ckE h N a sc l && ckE h N b sc r
    | _ => false
  | .gdix t a, sc, x => match x with
    | .Subscript (.Name y _) r _ => decide (y = so t) && (h.tabs.any fun q => decide (q.1 = t)) && glob sc (so t) && plainI r && ckE h N a sc r
    | _ => false
  | .attr a c f, sc, x => match x with
    | .Attribute l y _ => decide (y = so f) && decide (c ∈ h.P.cls) && decide ((c, f) ∈ h.attrs) && plainO l && ckE h N a sc l
    | _ => false
  | .call g es, sc, x => match x with
    | .Call (.Name y _) xs [] _ => decide (y = so g) && (h.P.at_ "" g).isSome && decide (g ≠ "") && glob sc (so g) && ckEs h N es sc xs
    | _ => false
  | .meth a c m es, sc, x => match x with
    | .Call (.Attribute l y ap) xs [] pos => decide (y = so m) && (h.P.at_ c m).isSome && decide (m ≠ "") && decide (c ≠ "") && decide (c ∈ h.P.cls) && plainO l && decide (xs.length < 20) && (ap.endLine == pos.line) && ckE h N a sc l && ckEs h N es sc xs
    | _ => false
  | .make c es, sc, x => match x with
    | .Call (.Name y _) xs [] _ => decide (y = so c) && (h.P.at_ c "__init__").isSome && decide (c ≠ "") && decide (c ∈ h.P.cls) && glob sc (so c) && ckEs h N es sc xs
    | _ => false
  | .callv i es, sc, x => match x with
    | .Call (.Name y _) (e :: xs) [] _ => decide (N[i]? = some y) && vis sc y && (h.P.defs.all fun d => decide (d.name ≠ "")) && ckEs h N es sc (e :: xs)
    | _ => false
  | .prim o es, sc, x => match x with
    | .Call (.Name y _) (e :: xs) [] _ => decide (y = so (pnm o)) && decide (pnm o ∈ h.free) && glob sc (so (pnm o)) && ckEs h N es sc (e :: xs)
    | _ => false
  | .isin e ts, sc, x => match x with
    | .Call (.Name y _) [l, r] [] _ => decide (y = so "isinstance") && decide ("isinstance" ∈ h.free) && glob sc (so "isinstance") && nst l && ckE h N e sc l && (match r with
      | .Tuple es _ _ => tysOk h sc ts es && decide (ts ≠ []) && decide (ts.length < 100)
      | r => match ts with
        | [t] => tysOk h sc [t] [r]
        | _ => false)
    | _ => false
  | .bm m a es, sc, x => match x with
    | .Call (.Attribute l y ap) xs [] pos => plainO l && (ap.endLine == pos.line) && ckE h N a sc l && (match m with
      | .append => decide (y = so "append") && (match es, xs with
        | .cons e .nil, [r] => nst r && ckE h N e sc r
        | _, _ => false)
      | .extend => decide (y = so "extend") && (match es, xs with
        | .cons e .nil, [r] => nst r && ckE h N e sc r
        | _, _ => false)
      | .pop => decide (y = so "pop") && (match es, xs with
        | .nil, [] => true
        | _, _ => false))
    | _ => false
  | .frz e, sc, x => ckE h N e sc x
  | .ddis qs, sc, x => match x with
    | .Dict ks vs _ => ckKV h sc qs ks vs && decide (qs ≠ []) && decide (qs.length ≤ 15)
    | _ => false
  | .slT a b, sc, x => match x with
    | .Subscript l (.Slice none (some r) none _) _ => ckE h N a sc l && ckE h N b sc r
    | _ => false
  | .index a b, sc, x => match x with
    | .Call (.Attribute l y ap) [r] [] pos => decide (y = so "index") && plainO l && (ap.endLine == pos.line) && nst r && ckE h N a sc l && ckE h N b sc r
    | _ => false
  | .extK mx g e, sc, x => match x with
    | .Call (.Name y _) [r] [⟨some kn, .Name z _, _⟩] _ => decide (y = so (if mx then "max" else "min")) && decide (kn = so "key") && decide (z = so g) && (h.P.at_ "" g).isSome && decide (g ≠ "") && decide ((if mx then "max" else "min") ∈ h.free) && glob sc (so (if mx then "max" else "min")) && glob sc (so g) && nst r && ckE h N e sc r
    | _ => false
  | .ext2K mx g a b, sc, x => match x with
    | .Call (.Name y _) [r, r2] [⟨some kn, .Name z _, _⟩] _ => decide (y = so (if mx then "max" else "min")) && decide (kn = so "key") && decide (z = so g) && (h.P.at_ "" g).isSome && decide (g ≠ "") && decide ((if mx then "max" else "min") ∈ h.free) && glob sc (so (if mx then "max" else "min")) && glob sc (so g) && nst r && nst r2 && ckE h N a sc r && ckE h N b sc r2
    | _ => false
  | .dcomp t it c ek ev, sc, x => match x with
    | .DictComp kx vx [⟨tg, iter, ifs, 0⟩] cs _ => blkC N sc cs (ownOf N (tgs t)) && tgOk N (locOf cs) t tg && noSet iter && ckI h N it sc tg iter && ckE h N ek (relS cs sc) kx && ckE h N ev (relS cs sc) vx && (match ifs with
      | [] => (match c with
        | .yes => true
        | _ => false)
      | [q] => ckT h N c (relS cs sc) q
      | _ => false)
    | _ => false
  | .ddiv qs es, sc, x => match x with
    | .Dict ks vs _ => ckKs h sc qs ks && ckVs h N es sc vs && decide (qs.length = vs.length) && decide (qs ≠ []) && decide (qs.length ≤ 15)
    | _ => false
  | .chain o u a b c, sc, x => match x with
    | .Compare l [op, oq] [r, s] _ => decide (op = cop o) && decide (oq = cop u) && !lastMarks [cop o, cop u] [r, s] && ckE h N a sc l && ckE h N b sc r && ckE h N c sc s
    | _ => false
  | .inG t a, sc, x => match x with
    | .Compare l [op] [.Name y _] _ => decide (op = .In) && decide (y = so t) && (h.tabs.any fun q => decide (q.1 = t)) && glob sc (so t) && ckE h N a sc l
    | _ => false
  | .repr e, sc, x => match x with
    | .Call (.Name y _) [r] [] _ => h.top && decide (y = so "repr") && decide ("repr" ∈ h.free) && glob sc (so "repr") && nst r && ckE h N e sc r
    | _ => false
  | .dget a b c, sc, x => match x with
    | .Call (.Attribute l y ap) [r, s] [] pos => decide (y = so "get") && plainO l && (ap.endLine == pos.line) && nst r && nst s && ckE h N a sc l && ckE h N b sc r && ckE h N c sc s
    | _ => false
  | .reprLD i j, sc, x => match x with
    | .Call (.Name y _) [.List [.Name a _, .Name b _] _] [] _ => h.top && decide (y = so "repr") && decide ("repr" ∈ h.free) && glob sc (so "repr") && decide (N[i]? = some a) && vis sc a && decide (N[j]? = some b) && vis sc b
    | _ => false
  | .starts a b, sc, x => match x with
    | .Call (.Attribute l y ap) [r] [] pos => decide (y = so "startswith") && plainO l && (ap.endLine == pos.line) && nst r && ckE h N a sc l && ckE h N b sc r
    | _ => false
/-- the values of a written dict -/
def ckVs (h : Hd) (N : List Str) : MP.Exs → Scope → List Expr → Bool
  | .nil, _, xs => match xs with
    | [] => true
    | _ => false
  | .cons e es, sc, xs => match xs with
    | x :: xs => ckE h N e sc x && ckVs h N es sc xs
    | [] => false
def ckEs (h : Hd) (N : List Str) : MP.Exs → Scope → List Expr → Bool
  | .nil, _, xs => match xs with
    | [] => true
    | _ => false
  | .cons e es, sc, xs => match xs with
    | x :: xs => nst x && ckE h N e sc x && ckEs h N es sc xs
    | [] => false
def ckT (h : Hd) (N : List Str) : MP.Tt → Scope → Expr → Bool
  | .yes, _, _ => false
  | .and_ a b, sc, x => match x with
    | .BoolOp op (l :: r :: rest) pos => decide (op = .And) && ckT h N a sc l && (match rest with
      | [] => ckT h N b sc r
      | q :: rest => ckT h N b sc (.BoolOp .And (r :: q :: rest) pos))
    | _ => false
  | .or_ a b, sc, x => match x with
    | .BoolOp op (l :: r :: rest) pos => decide (op = .Or) && ckT h N a sc l && (match rest with
      | [] => ckT h N b sc r
      | q :: rest => ckT h N b sc (.BoolOp .Or (r :: q :: rest) pos))
    | _ => false
  | .not_ a, sc, x => match x with
    | .UnaryOp op l _ => decide (op = .Not) && ckT h N a sc l
    | _ => false
  | .cmp o a b, sc, x => match x with
    | .Compare l [op] [r] _ => decide (op = cop o) && noSet r && ckE h N a sc l && ckE h N b sc r
    | _ => false
  | .e a, sc, x => plainT x && ckE h N a sc x
  | .chain o u a b c, sc, x => match x with
    | .Compare l [op, oq] [r, s] _ => decide (op = cop o) && decide (oq = cop u) && !lastMarks [cop o, cop u] [r, s] && ckE h N a sc l && ckE h N b sc r && ckE h N c sc s
    | _ => false
  | .inG t a, sc, x => match x with
    | .Compare l [op] [.Name y _] _ => decide (op = .In) && decide (y = so t) && (h.tabs.any fun q => decide (q.1 = t)) && glob sc (so t) && ckE h N a sc l
    | _ => false
def ckI (h : Hd) (N : List Str) : MP.It → Scope → Expr → Expr → Bool
  | .seq e, sc, _, x => ckE h N e sc x
  | .rng e, sc, _, x => match x with
    | .Call (.Name y _) [r] [] _ => decide (y = so "range") && decide ("range" ∈ h.free) && glob sc (so "range") && nst r && ckE h N e sc r
    | _ => false
  | .enum e, sc, tg, x => match x with
    | .Call (.Name y _) [r] [] _ => decide (y = so "enumerate") && decide ("enumerate" ∈ h.free) && glob sc (so "enumerate") && nst r && isTupE tg && ckE h N e sc r
    | _ => false
  | .rev e, sc, _, x => match x with
    | .Call (.Name y _) [r] [] _ => decide (y = so "reversed") && decide ("reversed" ∈ h.free) && glob sc (so "reversed") && nst r && ckE h N e sc r
    | _ => false
def ckL (h : Hd) (N : List Str) : MP.Le → Scope → Expr → Bool
  | .disp es, sc, x => match x with
    | .List xs _ => ckEs h N es sc xs
    | _ => false
  | .comp t it c e, sc, x => match x with
    | .ListComp elt [⟨tg, iter, ifs, 0⟩] cs _ => blkC N sc cs (ownOf N (tgs t)) && tgOk N (locOf cs) t tg && noSet iter && ckI h N it sc tg iter && ckE h N e (relS cs sc) elt && (match ifs with
      | [] => (match c with
        | .yes => true
        | _ => false)
      | [q] => ckT h N c (relS cs sc) q
      | _ => false)
    | _ => false
  | .of e, sc, x => match x with
    | .Call (.Name y _) [r] [] _ => decide (y = so "list") && decide ("list" ∈ h.free) && glob sc (so "list") && nst r && ckE h N e sc r
    | _ => false
  | .srtS t it c e, sc, x => match x with
    | .Call (.Name y _) [.SetComp elt [⟨tg, iter, ifs, 0⟩] cs _] [] _ => decide (y = so "sorted") && decide ("sorted" ∈ h.free) && glob sc (so "sorted") && blkC N sc cs (ownOf N (tgs t)) && tgOk N (locOf cs) t tg && noSet iter && ckI h N it sc tg iter && ckE h N e (relS cs sc) elt && (match ifs with
      | [] => (match c with
        | .yes => true
        | _ => false)
      | [q] => ckT h N c (relS cs sc) q
      | _ => false)
    | _ => false
  | .srtK g e, sc, x => match x with
    | .Call (.Name y _) [r] [⟨some kn, .Name z _, _⟩] _ => decide (y = so "sorted") && decide (kn = so "key") && decide (z = so g) && (h.P.at_ "" g).isSome && decide (g ≠ "") && decide ("sorted" ∈ h.free) && glob sc (so "sorted") && glob sc (so g) && nst r && ckE h N e sc r
    | _ => false
  | .items e, sc, x => match x with
    | .Call (.Name y _) [.Call (.Attribute l z ap) [] [] pos] [] _ => decide (y = so "list") && decide (z = so "items") && decide ("list" ∈ h.free) && glob sc (so "list") && plainO l && (ap.endLine == pos.line) && ckE h N e sc l
    | _ => false
  | .srt e, sc, x => match x with
    | .Call (.Name y _) [r] [] _ => decide (y = so "sorted") && decide ("sorted" ∈ h.free) && glob sc (so "sorted") && nst r && ckE h N e sc r
    | _ => false
end
def isBO : Expr → Bool
  | .BoolOp _ _ _ => true
  | _ => false
theorem ckEs_nst {h : Hd} {N : List Str} {sc : Scope} : ∀ {es : MP.Exs} {xs : List Expr}, ckEs h N es sc xs = true → xs.all nst = true
  | .nil, [], _ => rfl
  | .nil, _ :: _, e => by simp [ckEs] at e
  | .cons _ _, [], e => by simp [ckEs] at e
  | .cons a es, x :: xs, e => by
    simp only [ckEs, Bool.and_eq_true] at e
    rw [List.all_cons, e.1.1, ckEs_nst e.2]
    rfl
theorem ckEs_nil {h : Hd} {N : List Str} {sc : Scope} {es : MP.Exs} {xs : List Expr} (e : ckEs h N es sc xs = true) (z : xs = []) : es = .nil := by
  subst z
  cases es with
  | nil => rfl
  | cons a b => simp [ckEs] at e
theorem ownOf_ix (N : List Str) (is : List Nat) : (ownOf N is).map (·.2) = is := by
  unfold ownOf
  rw [List.map_map]
  exact List.map_id _
section
variable {h : Hd} {k : Nat} {X : L2.Cx} {C : MP.Cx} {P : Post} {sc : Scope}
/-- in a comprehension's block -/
theorem XOk.blk (x : XOk h k X C P sc) (cs : Scope) (s : Shared) (H : Hp) (c : Addr) (cl : List (Str × Addr)) (fp : List Addr) : XOk h k (X.blk s H cs (compEnvC cs cl c X.env) fp) C noP (relS cs sc) := by
  refine ⟨x.tx, x.fns, x.fnp, ?_, x.nd, x.calm, x.room, x.room2, ?_, x.C, x.gu⟩
  · show relS cs X.env.scope = relS cs sc
    rw [x.sc]
  · refine takes0.imp fun c d σ H q => ?_
    obtain ⟨_, _, _, _, _, _, _, z⟩ := q
    exact z
theorem locOf_blk (x : XOk h k X C P sc) (cs : Scope) (s : Shared) (H : Hp) (c : Addr) (cl : List (Str × Addr)) (fp : List Addr) (y : Str) (e : locOf cs y = true) :
    Loc (X.blk s H cs (compEnvC cs cl c X.env) fp).env.scope y ∧ ((X.blk s H cs (compEnvC cs cl c X.env) fp).fn y = true ∨ (X.blk s H cs (compEnvC cs cl c X.env) fp).env.scope.names.lookup y = some .local) := by
  unfold locOf at e
  rw [Bool.or_eq_true, decide_eq_true_eq, decide_eq_true_eq] at e
  rcases e with e | e
  · have z : (relS cs X.env.scope).names.lookup y = some .local := lookup_relS_keep (by decide) e
    exact ⟨.inl z, .inr z⟩
  · have z : (relS cs X.env.scope).names.lookup y = some .cell := lookup_relS_keep (by decide) e
    refine ⟨.inr z, .inl ?_⟩
    show (cs.names.lookup y == some .cell) = true
    rw [e]
    rfl
end
theorem BO_e {p : Prop} {e : Expr} (hp : plainT e = true) (hb : isBO e = true) : p := by
  cases e <;> first | exact absurd hp Bool.false_ne_true | exact absurd hb Bool.false_ne_true
theorem ckL_yes {c : MP.Tt} (e : (match c with | .yes => true | _ => false) = true) : c = .yes := by
  cases c <;> first | rfl | exact absurd e Bool.false_ne_true
theorem lits {K : Fg} {C : MP.Cx} {P : Post} {σ : L2.St} {H : Hp} {Q : Bool → Hp → Prop} (q : tT K C P .yes σ H Q) : tYes σ H Q := by
  obtain ⟨G, S, W, hG, hS, q⟩ := q
  exact q true H W .refl hS rfl
theorem PTs.imp {X : L2.Cx} {e : List Expr} {t t' : TT} (h : PTs X e t) (k : ∀ σ H Q, t' σ H Q → t σ H Q) : PTs X e t' := ⟨fun pins s σ H Q I q => h.run pins s σ H Q I (k σ H Q q)⟩
mutual
theorem okE {h : Hd} {k : Nat} : ∀ (e : MP.Ex) {X : L2.Cx} {C : MP.Cx} {P : Post} {sc : Scope} (x : XOk h k X C P sc) (ex : Expr), ckE h X.N e sc ex = true → PE X ex (tE X.K C P e)
  | .var i, X, C, P, sc, x, ex, hc => by
    unfold ckE at hc
    split at hc
    · simp only [Bool.and_eq_true, decide_eq_true_eq] at hc
      exact ie_var x hc.1 hc.2
    · cases hc
  | .cst d, X, C, P, sc, x, ex, hc => by
    unfold ckE at hc
    split at hc
    · exact ie_cst hc
    · cases hc
  | .gint g i, X, C, P, sc, x, ex, hc => by
    unfold ckE at hc
    split at hc
    · simp only [Bool.and_eq_true, decide_eq_true_eq] at hc
      obtain ⟨⟨rfl, h1⟩, h2⟩ := hc
      exact ie_gint x h1 h2
    · cases hc
  | .bin o a b, X, C, P, sc, x, ex, hc => by
    unfold ckE at hc
    split at hc
    · simp only [Bool.and_eq_true, decide_eq_true_eq] at hc
      obtain ⟨⟨rfl, h1⟩, h2⟩ := hc
      exact ie_bin (okE a x _ h1) (okE b x _ h2)
    · cases hc
  | .neg a, X, C, P, sc, x, ex, hc => by
    unfold ckE at hc
    split at hc
    · simp only [Bool.and_eq_true, decide_eq_true_eq] at hc
      obtain ⟨rfl, h1⟩ := hc
      exact ie_neg (okE a x _ h1)
    · cases hc
  | .cmp o a b, X, C, P, sc, x, ex, hc => by
    unfold ckE at hc
    split at hc
    · simp only [Bool.and_eq_true, decide_eq_true_eq] at hc
      obtain ⟨⟨⟨rfl, h0⟩, h1⟩, h2⟩ := hc
      exact ie_cmp x (okE a x _ h1) (okE b x _ h2) h0
    · cases hc
  | .andE a b, X, C, P, sc, x, ex, hc => by
    unfold ckE at hc
    split at hc
    · simp only [Bool.and_eq_true, decide_eq_true_eq] at hc
      obtain ⟨⟨rfl, h1⟩, h2⟩ := hc
      split at h2
      · exact ie_and (okE a x _ h1) (pe_one (okE b x _ h2))
      · exact ie_and (okE a x _ h1) (okE b x _ h2)
    · cases hc
  | .orE a b, X, C, P, sc, x, ex, hc => by
    unfold ckE at hc
    split at hc
    · simp only [Bool.and_eq_true, decide_eq_true_eq] at hc
      obtain ⟨⟨rfl, h1⟩, h2⟩ := hc
      split at h2
      · exact ie_or (okE a x _ h1) (pe_one (okE b x _ h2))
      · exact ie_or (okE a x _ h1) (okE b x _ h2)
    · cases hc
  | .notE a, X, C, P, sc, x, ex, hc => by
    unfold ckE at hc
    split at hc
    · simp only [Bool.and_eq_true, decide_eq_true_eq] at hc
      obtain ⟨rfl, h1⟩ := hc
      exact ie_not (okE a x _ h1)
    · cases hc
  | .ite c a b, X, C, P, sc, x, ex, hc => by
    unfold ckE at hc
    split at hc
    · simp only [Bool.and_eq_true] at hc
      obtain ⟨⟨h0, h1⟩, h2⟩ := hc
      exact ie_ite (okT c x _ h0).1 (okE a x _ h1) (okE b x _ h2)
    · cases hc
  | .tup es, X, C, P, sc, x, ex, hc => by
    unfold ckE at hc
    split at hc
    · exact ie_tup (okEs es x _ hc)
    · cases hc
  | .fz l, X, C, P, sc, x, ex, hc => by
    unfold ckE at hc
    exact ie_fz (okL l x _ hc)
  | .own l, X, C, P, sc, x, ex, hc => by
    unfold ckE at hc
    exact ie_own (okL l x _ hc)
  | .dnew d, X, C, P, sc, x, ex, hc => by
    unfold ckE at hc
    split at hc
    · exact ie_dnew x
    · cases hc
  | .ix a b, X, C, P, sc, x, ex, hc => by
    unfold ckE at hc
    split at hc
    · simp only [Bool.and_eq_true] at hc
      exact ie_ix x (okE a x _ hc.1.2) (okE b x _ hc.2) hc.1.1
    · cases hc
  | .slF a b, X, C, P, sc, x, ex, hc => by
    unfold ckE at hc
    split at hc
    · simp only [Bool.and_eq_true] at hc
      exact ie_slF (okE a x _ hc.1) (okE b x _ hc.2)
    · cases hc
  | .gdix t a, X, C, P, sc, x, ex, hc => by
    unfold ckE at hc
    split at hc
    · simp only [Bool.and_eq_true, decide_eq_true_eq, List.any_eq_true] at hc
      obtain ⟨⟨⟨⟨rfl, ⟨⟨t', kvs⟩, hm, e⟩⟩, h2⟩, h3⟩, h4⟩ := hc
      cases e
      exact ie_gdix x (okE a x _ h4) hm h2 h3
    · cases hc
  | .attr a c f, X, C, P, sc, x, ex, hc => by
    unfold ckE at hc
    split at hc
    · simp only [Bool.and_eq_true, decide_eq_true_eq] at hc
      obtain ⟨⟨⟨⟨rfl, h1⟩, h2⟩, h3⟩, h4⟩ := hc
      exact ie_attr x (okE a x _ h4) h1 h2 h3
    · cases hc
  | .call g es, X, C, P, sc, x, ex, hc => by
    unfold ckE at hc
    split at hc
    · simp only [Bool.and_eq_true, decide_eq_true_eq] at hc
      obtain ⟨⟨⟨⟨rfl, h1⟩, h2⟩, h3⟩, h4⟩ := hc
      obtain ⟨d, ed⟩ := Option.isSome_iff_exists.mp h1
      exact ie_call x (okEs es x _ h4) (ckEs_nil h4) (ckEs_nst h4) ed h2 h3
    · cases hc
  | .meth a c m es, X, C, P, sc, x, ex, hc => by
    unfold ckE at hc
    split at hc
    · simp only [Bool.and_eq_true, decide_eq_true_eq] at hc
      obtain ⟨⟨⟨⟨⟨⟨⟨⟨⟨rfl, h1⟩, h2⟩, h3⟩, h4⟩, h5⟩, h6⟩, h7⟩, h8⟩, h9⟩ := hc
      obtain ⟨d, ed⟩ := Option.isSome_iff_exists.mp h1
      exact ie_meth x (okE a x _ h8) (okEs es x _ h9) (ckEs_nil h9) (ckEs_nst h9) ed h2 h3 h4 h5 h6 h7
    · cases hc
  | .make c es, X, C, P, sc, x, ex, hc => by
    unfold ckE at hc
    split at hc
    · simp only [Bool.and_eq_true, decide_eq_true_eq] at hc
      obtain ⟨⟨⟨⟨⟨rfl, h1⟩, h2⟩, h3⟩, h4⟩, h5⟩ := hc
      obtain ⟨d, ed⟩ := Option.isSome_iff_exists.mp h1
      exact ie_make x (okEs es x _ h5) (ckEs_nil h5) (ckEs_nst h5) ed h2 h3 h4
    · cases hc
  | .callv i es, X, C, P, sc, x, ex, hc => by
    unfold ckE at hc
    split at hc
    · simp only [Bool.and_eq_true, decide_eq_true_eq, List.all_eq_true] at hc
      obtain ⟨⟨⟨h1, h2⟩, h3⟩, h4⟩ := hc
      exact ie_callv x (okEs es x _ h4) (fun z => by cases z) (ckEs_nst h4) h1 h2 h3
    · cases hc
  | .prim o es, X, C, P, sc, x, ex, hc => by
    unfold ckE at hc
    split at hc
    · simp only [Bool.and_eq_true, decide_eq_true_eq] at hc
      obtain ⟨⟨⟨rfl, h2⟩, h3⟩, h4⟩ := hc
      exact ie_prim x (okEs es x _ h4) (fun z => by cases z) (ckEs_nst h4) h2 h3
    · cases hc
  | .isin e ts, X, C, P, sc, x, ex, hc => by
    unfold ckE at hc
    split at hc
    · simp only [Bool.and_eq_true, decide_eq_true_eq] at hc
      obtain ⟨⟨⟨⟨⟨rfl, h1⟩, h2⟩, h3⟩, h4⟩, h5⟩ := hc
      split at h5
      · simp only [Bool.and_eq_true, decide_eq_true_eq] at h5
        exact ie_isin x (okE e x _ h4) h3 h1 h2 h5.1.1 h5.1.2 h5.2
      · split at h5
        · exact ie_isin1 x (okE e x _ h4) h3 h1 h2 h5
        · cases h5
    · cases hc
  | .bm m a es, X, C, P, sc, x, ex, hc => by
    unfold ckE at hc
    split at hc
    · simp only [Bool.and_eq_true] at hc
      obtain ⟨⟨⟨h1, h2⟩, h3⟩, h4⟩ := hc
      split at h4
      · simp only [Bool.and_eq_true, decide_eq_true_eq] at h4
        obtain ⟨rfl, h4⟩ := h4
        split at h4
        · simp only [Bool.and_eq_true] at h4
          exact ie_append (okE a x _ h3) (okE _ x _ h4.2) h1 h4.1 h2
        · cases h4
      · simp only [Bool.and_eq_true, decide_eq_true_eq] at h4
        obtain ⟨rfl, h4⟩ := h4
        split at h4
        · simp only [Bool.and_eq_true] at h4
          exact ie_extend (okE a x _ h3) (okE _ x _ h4.2) h1 h4.1 h2
        · cases h4
      · simp only [Bool.and_eq_true, decide_eq_true_eq] at h4
        obtain ⟨rfl, h4⟩ := h4
        split at h4
        · exact ie_pop (okE a x _ h3) h1 h2
        · cases h4
    · cases hc
  | .frz e, X, C, P, sc, x, ex, hc => by
    unfold ckE at hc
    exact ie_frz (okE e x _ hc)
  | .ddis qs, X, C, P, sc, x, ex, hc => by
    unfold ckE at hc
    split at hc
    · simp only [Bool.and_eq_true, decide_eq_true_eq] at hc
      exact ie_ddis x hc.1.1 hc.1.2 hc.2
    · cases hc
  | .slT a b, X, C, P, sc, x, ex, hc => by
    unfold ckE at hc
    split at hc
    · simp only [Bool.and_eq_true] at hc
      exact ie_slT (okE a x _ hc.1) (okE b x _ hc.2)
    · cases hc
  | .index a b, X, C, P, sc, x, ex, hc => by
    unfold ckE at hc
    split at hc
    · simp only [Bool.and_eq_true, decide_eq_true_eq] at hc
      obtain ⟨⟨⟨⟨⟨rfl, h1⟩, h2⟩, h3⟩, h4⟩, h5⟩ := hc
      exact ie_index x (okE a x _ h4) (okE b x _ h5) h1 h3 h2
    · cases hc
  | .extK mx g e, X, C, P, sc, x, ex, hc => by
    unfold ckE at hc
    split at hc
    · simp only [Bool.and_eq_true, decide_eq_true_eq] at hc
      obtain ⟨⟨⟨⟨⟨⟨⟨⟨⟨rfl, rfl⟩, rfl⟩, h1⟩, h2⟩, h3⟩, h4⟩, h5⟩, h6⟩, h7⟩ := hc
      obtain ⟨d, hd⟩ := Option.isSome_iff_exists.mp h1
      exact ie_extK x (okE e x _ h7) h6 h3 h4 hd h2 h5
    · cases hc
  | .ext2K mx g a b, X, C, P, sc, x, ex, hc => by
    unfold ckE at hc
    split at hc
    · simp only [Bool.and_eq_true, decide_eq_true_eq] at hc
      obtain ⟨⟨⟨⟨⟨⟨⟨⟨⟨⟨⟨rfl, rfl⟩, rfl⟩, h1⟩, h2⟩, h3⟩, h4⟩, h5⟩, h6⟩, h6'⟩, h7⟩, h8⟩ := hc
      obtain ⟨d, hd⟩ := Option.isSome_iff_exists.mp h1
      exact ie_ext2K x (okE a x _ h7) (okE b x _ h8) h6 h6' h3 h4 hd h2 h5
    · cases hc
  | .dcomp t it c ek ev, X, C, P, sc, x, ex, hc => by
    unfold ckE at hc
    split at hc
    · rename_i kx vx tg iter ifs cs pos
      simp only [Bool.and_eq_true] at hc
      obtain ⟨⟨⟨⟨⟨⟨h1, h2⟩, h3⟩, h4⟩, h5⟩, h5'⟩, h6⟩ := hc
      have ok := blkOk_by h1
      rw [← x.sc] at ok
      have z := pe_dc (pos := pos) x.calm x.nd (okI it x tg iter h4) ok (g := gTg X.K t) (fun s H c cl fp => pg_tg (X := X.blk s H cs (compEnvC cs cl c X.env) fp) x.calm x.nd (locOf_blk x cs s H c cl fp) h2)
        (ifs := ifs) (tt := tT X.K C noP c) (tk := tE X.K C noP ek) (tv := tE X.K C noP ev) (fun s H cc cl fp => ?_) (fun s H cc cl fp => okE ek (x.blk cs s H cc cl fp) kx h5) (fun s H cc cl fp => okE ev (x.blk cs s H cc cl fp) vx h5') (noSet_fold h3)
      · rw [ownOf_ix] at z
        exact PE.imp z fun σ H Q q => dc_read q
      · split at h6
        · obtain rfl := ckL_yes h6
          exact PTs.imp pts_nil fun σ H Q q => lits q
        · exact pts_one (okT c (x.blk cs s H cc cl fp) _ h6).1
        · cases h6
    · cases hc
  | .ddiv qs es, X, C, P, sc, x, ex, hc => by
    unfold ckE at hc
    split at hc
    · simp only [Bool.and_eq_true, decide_eq_true_eq] at hc
      obtain ⟨⟨⟨⟨h1, h2⟩, h3⟩, h4⟩, h5⟩ := hc
      obtain ⟨d, hq⟩ := okVs es x qs _ _ h1 h2 h3
      exact ie_ddiv x d hq h4 h5
    · cases hc
  | .chain o u a b c, X, C, P, sc, x, ex, hc => by
    unfold ckE at hc
    split at hc
    · simp only [Bool.and_eq_true, decide_eq_true_eq, Bool.not_eq_true'] at hc
      obtain ⟨⟨⟨⟨⟨rfl, rfl⟩, h1⟩, h2⟩, h3⟩, h4⟩ := hc
      exact ie_chain x (okE a x _ h2) (okE b x _ h3) (okE c x _ h4) h1
    · cases hc
  | .inG t a, X, C, P, sc, x, ex, hc => by
    unfold ckE at hc
    split at hc
    · simp only [Bool.and_eq_true, decide_eq_true_eq, List.any_eq_true] at hc
      obtain ⟨⟨⟨⟨rfl, rfl⟩, ⟨⟨t', kvs⟩, hm, e⟩⟩, h2⟩, h3⟩ := hc
      cases e
      exact ie_inG x (okE a x _ h3) hm h2
    · cases hc
  | .dget a b c, X, C, P, sc, x, ex, hc => by
    unfold ckE at hc
    split at hc
    · simp only [Bool.and_eq_true, decide_eq_true_eq] at hc
      obtain ⟨⟨⟨⟨⟨⟨⟨rfl, h1⟩, h2⟩, h3⟩, h4⟩, h5⟩, h6⟩, h7⟩ := hc
      exact ie_dget x (okE a x _ h5) (okE b x _ h6) (okE c x _ h7) h1 h3 h4 h2
    · cases hc
  | .reprLD i j, X, C, P, sc, x, ex, hc => by
    unfold ckE at hc
    split at hc
    · simp only [Bool.and_eq_true, decide_eq_true_eq] at hc
      obtain ⟨⟨⟨⟨⟨⟨⟨h0, rfl⟩, h1⟩, h2⟩, h3⟩, h4⟩, h5⟩, h6⟩ := hc
      exact ie_reprLD x (x.gu h0) h3 h4 h5 h6 h1 h2
    · cases hc
  | .repr e, X, C, P, sc, x, ex, hc => by
    unfold ckE at hc
    split at hc
    · simp only [Bool.and_eq_true, decide_eq_true_eq] at hc
      obtain ⟨⟨⟨⟨⟨h0, rfl⟩, h1⟩, h2⟩, h3⟩, h4⟩ := hc
      exact ie_repr x (x.gu h0) (okE e x _ h4) h3 h1 h2
    · cases hc
  | .starts a b, X, C, P, sc, x, ex, hc => by
    unfold ckE at hc
    split at hc
    · simp only [Bool.and_eq_true, decide_eq_true_eq] at hc
      obtain ⟨⟨⟨⟨⟨rfl, h1⟩, h2⟩, h3⟩, h4⟩, h5⟩ := hc
      exact ie_starts (okE a x _ h4) (okE b x _ h5) h1 h3 h2
    · cases hc
theorem okVs {h : Hd} {k : Nat} : ∀ (es : MP.Exs) {X : L2.Cx} {C : MP.Cx} {P : Post} {sc : Scope} (x : XOk h k X C P sc) (qs : List (Option String × MP.D)) (ks : List (Option Expr)) (vs : List Expr), ckKs h sc qs ks = true → ckVs h X.N es sc vs = true → qs.length = vs.length → KD X C P qs es ks vs ∧ ∀ q ∈ qs, keyV q.2 (kOf q.2)
  | .nil, X, C, P, sc, x, qs, ks, vs, h1, h2, h3 => by
    unfold ckVs at h2
    split at h2
    · cases qs with
      | nil =>
        cases ks with
        | nil => exact ⟨.nil, fun q hq => absurd hq List.not_mem_nil⟩
        | cons _ _ => cases h1
      | cons _ _ => cases h3
    · cases h2
  | .cons e es, X, C, P, sc, x, qs, ks, vs, h1, h2, h3 => by
    unfold ckVs at h2
    split at h2
    · simp only [Bool.and_eq_true] at h2
      cases qs with
      | nil => cases h3
      | cons q qs =>
        cases ks with
        | nil => cases h1
        | cons a ks =>
          cases a with
          | none => cases h1
          | some a =>
            simp only [ckKs, Bool.and_eq_true] at h1
            obtain ⟨p1, p2⟩ := pe_kd x h1.1
            obtain ⟨d, hq⟩ := okVs es x qs ks _ h1.2 h2.2 (by simpa using h3)
            refine ⟨.cons p1 p2 (okE e x _ h2.1) d, fun z hz => ?_⟩
            rcases List.mem_cons.mp hz with rfl | hz
            · exact p2
            · exact hq z hz
    · cases h2
theorem okEs {h : Hd} {k : Nat} : ∀ (e : MP.Exs) {X : L2.Cx} {C : MP.Cx} {P : Post} {sc : Scope} (x : XOk h k X C P sc) (ex : List Expr), ckEs h X.N e sc ex = true → PA X ex (tEs X.K C P e)
  | .nil, X, C, P, sc, x, ex, hc => by
    unfold ckEs at hc
    split at hc
    · exact ia_nil
    · cases hc
  | .cons e es, X, C, P, sc, x, ex, hc => by
    unfold ckEs at hc
    split at hc
    · simp only [Bool.and_eq_true] at hc
      exact ia_cons (okE e x _ hc.1.2) (okEs es x _ hc.2) hc.1.1
    · cases hc
theorem okT {h : Hd} {k : Nat} : ∀ (e : MP.Tt) {X : L2.Cx} {C : MP.Cx} {P : Post} {sc : Scope} (x : XOk h k X C P sc) (ex : Expr), ckT h X.N e sc ex = true → PT X ex (tT X.K C P e) ∧ (isBO ex = true → PW X ex (tT X.K C P e))
  | .yes, X, C, P, sc, x, ex, hc => by
    unfold ckT at hc
    cases hc
  | .and_ a b, X, C, P, sc, x, ex, hc => by
    unfold ckT at hc
    split at hc
    · rename_i pos
      simp only [Bool.and_eq_true, decide_eq_true_eq] at hc
      obtain ⟨⟨rfl, h1⟩, h2⟩ := hc
      split at h2
      · have z1 := (okT b x _ h2).1
        have z2 := (okT a x _ h1).1
        have z := it_and (pos := pos) z2 (pw_and1 z1)
        exact ⟨z.pt, fun _ => z⟩
      · have z := it_and (okT a x _ h1).1 ((okT b x _ h2).2 rfl)
        exact ⟨z.pt, fun _ => z⟩
    · cases hc
  | .or_ a b, X, C, P, sc, x, ex, hc => by
    unfold ckT at hc
    split at hc
    · rename_i pos
      simp only [Bool.and_eq_true, decide_eq_true_eq] at hc
      obtain ⟨⟨rfl, h1⟩, h2⟩ := hc
      split at h2
      · have z1 := (okT b x _ h2).1
        have z2 := (okT a x _ h1).1
        have z := it_or (pos := pos) z2 (pw_or1 z1)
        exact ⟨z.pt, fun _ => z⟩
      · have z := it_or (okT a x _ h1).1 ((okT b x _ h2).2 rfl)
        exact ⟨z.pt, fun _ => z⟩
    · cases hc
  | .not_ a, X, C, P, sc, x, ex, hc => by
    unfold ckT at hc
    split at hc
    · simp only [Bool.and_eq_true, decide_eq_true_eq] at hc
      obtain ⟨rfl, h1⟩ := hc
      exact ⟨it_not (okT a x _ h1).1, fun z => by cases z⟩
    · cases hc
  | .cmp o a b, X, C, P, sc, x, ex, hc => by
    unfold ckT at hc
    split at hc
    · simp only [Bool.and_eq_true, decide_eq_true_eq] at hc
      obtain ⟨⟨⟨rfl, h0⟩, h1⟩, h2⟩ := hc
      exact ⟨it_cmp x (okE a x _ h1) (okE b x _ h2) h0, fun z => by cases z⟩
    · cases hc
  | .e a, X, C, P, sc, x, ex, hc => by
    unfold ckT at hc
    simp only [Bool.and_eq_true] at hc
    exact ⟨it_e (okE a x _ hc.2) hc.1, fun z => BO_e hc.1 z⟩
  | .chain o u a b c, X, C, P, sc, x, ex, hc => by
    unfold ckT at hc
    split at hc
    · simp only [Bool.and_eq_true, decide_eq_true_eq, Bool.not_eq_true'] at hc
      obtain ⟨⟨⟨⟨⟨rfl, rfl⟩, h1⟩, h2⟩, h3⟩, h4⟩ := hc
      exact ⟨it_chain x (okE a x _ h2) (okE b x _ h3) (okE c x _ h4) h1, fun z => by cases z⟩
    · cases hc
  | .inG t a, X, C, P, sc, x, ex, hc => by
    unfold ckT at hc
    split at hc
    · simp only [Bool.and_eq_true, decide_eq_true_eq, List.any_eq_true] at hc
      obtain ⟨⟨⟨⟨rfl, rfl⟩, ⟨⟨t', kvs⟩, hm, e⟩⟩, h2⟩, h3⟩ := hc
      cases e
      exact ⟨it_inG x (okE a x _ h3) hm h2, fun z => by cases z⟩
    · cases hc
theorem okI {h : Hd} {k : Nat} : ∀ (e : MP.It) {X : L2.Cx} {C : MP.Cx} {P : Post} {sc : Scope} (x : XOk h k X C P sc) (tg ex : Expr), ckI h X.N e sc tg ex = true → PI X tg ex (tI X.K C P e)
  | .seq e, X, C, P, sc, x, tg, ex, hc => by
    unfold ckI at hc
    exact ii_seq (okE e x _ hc)
  | .rng e, X, C, P, sc, x, tg, ex, hc => by
    unfold ckI at hc
    split at hc
    · simp only [Bool.and_eq_true, decide_eq_true_eq] at hc
      obtain ⟨⟨⟨⟨rfl, h1⟩, h2⟩, h3⟩, h4⟩ := hc
      exact ii_rng x (okE e x _ h4) h3 h1 h2
    · cases hc
  | .enum e, X, C, P, sc, x, tg, ex, hc => by
    unfold ckI at hc
    split at hc
    · simp only [Bool.and_eq_true, decide_eq_true_eq] at hc
      obtain ⟨⟨⟨⟨⟨rfl, h1⟩, h2⟩, h3⟩, h4⟩, h5⟩ := hc
      cases tg with
      | Tuple es kk tp => exact ii_enum x (okE e x _ h5) h3 h1 h2
      | _ => cases h4
    · cases hc
  | .rev e, X, C, P, sc, x, tg, ex, hc => by
    unfold ckI at hc
    split at hc
    · simp only [Bool.and_eq_true, decide_eq_true_eq] at hc
      obtain ⟨⟨⟨⟨rfl, h1⟩, h2⟩, h3⟩, h4⟩ := hc
      exact ii_rev x (okE e x _ h4) h3 h1 h2
    · cases hc
theorem okL {h : Hd} {k : Nat} : ∀ (e : MP.Le) {X : L2.Cx} {C : MP.Cx} {P : Post} {sc : Scope} (x : XOk h k X C P sc) (ex : Expr), ckL h X.N e sc ex = true → PE X ex (tL X.K C P e)
  | .disp es, X, C, P, sc, x, ex, hc => by
    unfold ckL at hc
    split at hc
    · exact il_disp (okEs es x _ hc)
    · cases hc
  | .comp t it c e, X, C, P, sc, x, ex, hc => by
    unfold ckL at hc
    split at hc
    · rename_i elt tg iter ifs cs pos
      simp only [Bool.and_eq_true] at hc
      obtain ⟨⟨⟨⟨⟨h1, h2⟩, h3⟩, h4⟩, h5⟩, h6⟩ := hc
      have ok := blkOk_by h1
      rw [← x.sc] at ok
      have z := pe_lc (pos := pos) x.calm x.nd (okI it x tg iter h4) ok (g := gTg X.K t) (fun s H c cl fp => pg_tg (X := X.blk s H cs (compEnvC cs cl c X.env) fp) x.calm x.nd (locOf_blk x cs s H c cl fp) h2)
        (ifs := ifs) (tt := tT X.K C noP c) (te := tE X.K C noP e) (fun s H cc cl fp => ?_) (fun s H cc cl fp => okE e (x.blk cs s H cc cl fp) elt h5) (noSet_fold h3)
      · rw [ownOf_ix] at z
        exact PE.imp z fun σ H Q q => comp_read q
      · split at h6
        · obtain rfl := ckL_yes h6
          exact PTs.imp pts_nil fun σ H Q q => lits q
        · exact pts_one (okT c (x.blk cs s H cc cl fp) _ h6).1
        · cases h6
    · cases hc
  | .of e, X, C, P, sc, x, ex, hc => by
    unfold ckL at hc
    split at hc
    · simp only [Bool.and_eq_true, decide_eq_true_eq] at hc
      obtain ⟨⟨⟨⟨rfl, h1⟩, h2⟩, h3⟩, h4⟩ := hc
      exact il_of x (okE e x _ h4) h3 h1 h2
    · cases hc
  | .srtS t it c e, X, C, P, sc, x, ex, hc => by
    unfold ckL at hc
    split at hc
    · rename_i y yp elt tg iter ifs cs sp pos
      simp only [Bool.and_eq_true, decide_eq_true_eq] at hc
      obtain ⟨⟨⟨⟨⟨⟨⟨⟨rfl, h0⟩, h0'⟩, h1⟩, h2⟩, h3⟩, h4⟩, h5⟩, h6⟩ := hc
      have ok := blkOk_by h1
      rw [← x.sc] at ok
      have z := iset_run (pos := sp) x.calm x.nd (okI it x tg iter h4) ok (g := gTg X.K t) (fun s H c cl fp => pg_tg (X := X.blk s H cs (compEnvC cs cl c X.env) fp) x.calm x.nd (locOf_blk x cs s H c cl fp) h2)
        (ifs := ifs) (tt := tT X.K C noP c) (te := tE X.K C noP e) (fun s H cc cl fp => ?_) (fun s H cc cl fp => okE e (x.blk cs s H cc cl fp) elt h5) (noSet_fold h3)
      · rw [ownOf_ix] at z
        exact il_srtS x z rfl h0 h0'
      · split at h6
        · obtain rfl := ckL_yes h6
          exact PTs.imp pts_nil fun σ H Q q => lits q
        · exact pts_one (okT c (x.blk cs s H cc cl fp) _ h6).1
        · cases h6
    · cases hc
  | .srtK g e, X, C, P, sc, x, ex, hc => by
    unfold ckL at hc
    split at hc
    · simp only [Bool.and_eq_true, decide_eq_true_eq] at hc
      obtain ⟨⟨⟨⟨⟨⟨⟨⟨⟨rfl, rfl⟩, rfl⟩, h1⟩, h2⟩, h3⟩, h4⟩, h5⟩, h6⟩, h7⟩ := hc
      obtain ⟨d, hd⟩ := Option.isSome_iff_exists.mp h1
      exact il_srtK x (okE e x _ h7) h6 h3 h4 hd h2 h5
    · cases hc
  | .items e, X, C, P, sc, x, ex, hc => by
    unfold ckL at hc
    split at hc
    · simp only [Bool.and_eq_true, decide_eq_true_eq] at hc
      obtain ⟨⟨⟨⟨⟨⟨rfl, rfl⟩, h1⟩, h2⟩, h3⟩, h4⟩, h5⟩ := hc
      exact il_items x (okE e x _ h5) h3 h4 h1 h2
    · cases hc
  | .srt e, X, C, P, sc, x, ex, hc => by
    unfold ckL at hc
    split at hc
    · simp only [Bool.and_eq_true, decide_eq_true_eq] at hc
      obtain ⟨⟨⟨⟨rfl, h1⟩, h2⟩, h3⟩, h4⟩ := hc
      exact il_srt x (okE e x _ h4) h3 h1 h2
    · cases hc
end
end MS

set_option Elab.async false
set_option linter.all false
set_option maxRecDepth 100000
set_option autoImplicit false
set_option maxHeartbeats 4000000
/-! MS9: statements. -/
namespace MS
open PySem PySem.Spec PyProof.Rows L2
variable [TW]

def wpS (K : Fg) (n0 : Nat) (P : Post) (H : Hp) (W : Wd) (q : MP.Q) (D : Ends) : Prop := match q with
  | .ok f G S => (match f with
    | .nx => ∀ σ H' W', Le H W H' W' → EnvR K H' W' G σ → Good K n0 H' W' S → D.nx σ H'
    | .rt x => ∀ v H' W', Le H W H' W' → Good K n0 H' W' S → RepV K H' W' x v → D.rt v H'
    | .bk => ∀ σ H' W', Le H W H' W' → EnvR K H' W' G σ → Good K n0 H' W' S → D.bk σ H'
    | .ct => ∀ σ H' W', Le H W H' W' → EnvR K H' W' G σ → Good K n0 H' W' S → D.ct σ H')
  | .ex x G S => ∀ H' W', Le H W H' W' → Good K n0 H' W' S → P x G S W' H'
  | .no => False
abbrev tS (K : Fg) (C : MP.Cx) (P : Post) (f : MP.Env → MP.St → MP.Q) : TS := fun D σ H => ∃ G S W, EnvR K H W G σ ∧ Good K C.n0 H W S ∧ wpS K C.n0 P H W (f G S) D
section
variable {K : Fg} {n0 : Nat} {P : Post} {H H' : Hp} {W W' : Wd}
theorem wpS.mono {q : MP.Q} {D : Ends} (h : wpS K n0 P H W q D) (l : Le H W H' W') : wpS K n0 P H' W' q D := by
  cases q with
  | ok f G S =>
    cases f with
    | nx => exact fun σ H1 W1 l1 => h σ H1 W1 (l.trans l1)
    | rt x => exact fun v H1 W1 l1 => h v H1 W1 (l.trans l1)
    | bk => exact fun σ H1 W1 l1 => h σ H1 W1 (l.trans l1)
    | ct => exact fun σ H1 W1 l1 => h σ H1 W1 (l.trans l1)
  | ex x G S => exact fun H1 W1 l1 => h H1 W1 (l.trans l1)
  | no => exact h
theorem wpS.next {q : MP.Q} {f : MP.Env → MP.St → MP.Q} {D : Ends} (h : wpS K n0 P H W (q.next f) D) : wpS K n0 P H W q { D with nx := fun σ H => ∃ G S W, EnvR K H W G σ ∧ Good K n0 H W S ∧ wpS K n0 P H W (f G S) D } := by
  cases q with
  | ok fl G S =>
    cases fl with
    | nx => exact fun σ H1 W1 l1 e g => ⟨G, S, W1, e, g, wpS.mono (q := f G S) h l1⟩
    | rt x => exact h
    | bk => exact h
    | ct => exact h
  | ex x G S => exact h
  | no => exact h
theorem wpS.turn {q : MP.Q} {f : MP.Env → MP.St → MP.Q} {D : Ends} {N : L2.St → Hp → Prop} (h : wpS K n0 P H W (q.turn f) D) (k : ∀ G S σ H1 W1, Le H W H1 W1 → EnvR K H1 W1 G σ → Good K n0 H1 W1 S → wpS K n0 P H1 W1 (f G S) D → N σ H1) :
    wpS K n0 P H W q { D with nx := N, ct := N, bk := D.nx } := by
  cases q with
  | ok fl G S =>
    cases fl with
    | nx => exact fun σ H1 W1 l1 e g => k G S σ H1 W1 l1 e g (wpS.mono (q := f G S) h l1)
    | rt x => exact h
    | bk => exact h
    | ct => exact fun σ H1 W1 l1 e g => k G S σ H1 W1 l1 e g (wpS.mono (q := f G S) h l1)
  | ex x G S => exact h
  | no => exact h
theorem wpS.go {α β : Type} {G : MP.Env} {r : MP.R α} {f : α → MP.St → MP.Q} {D : Ends} {Rel1 : Hp → Wd → MP.St → α → β → Prop} {Q1 : β → Hp → Prop} (h : wpS K n0 P H W (r.go G f) D)
    (k : ∀ x S v H1 W1, Le H W H1 W1 → Good K n0 H1 W1 S → Rel1 H1 W1 S x v → wpS K n0 P H1 W1 (f x S) D → Q1 v H1) : wpK K n0 P H W G r Rel1 Q1 := by
  cases r with
  | ok x S => exact fun v H1 W1 l1 g1 r1 => k x S v H1 W1 l1 g1 r1 (wpS.mono (q := f x S) h l1)
  | ex x S => exact h
  | no => exact h
end
section
variable {α β : Type} {K : Fg} {C : MP.Cx} {P : Post} {σ : L2.St} {H : Hp} {W : Wd} {G : MP.Env}
theorem tS.part {r1 : MP.Env → MP.St → MP.R α} {Rel1 : Hp → Wd → MP.St → α → β → Prop} {S : MP.St} {f : α → MP.St → MP.Q} {D : Ends} {Q1 : β → Hp → Prop}
    (hG : EnvR K H W G σ) (hS : Good K C.n0 H W S) (h : wpS K C.n0 P H W ((r1 G S).go G f) D)
    (k : ∀ x S v H1 W1, Le H W H1 W1 → EnvR K H1 W1 G σ → Good K C.n0 H1 W1 S → Rel1 H1 W1 S x v → wpS K C.n0 P H1 W1 (f x S) D → Q1 v H1) : tR K C P r1 Rel1 σ H Q1 :=
  ⟨G, S, W, hG, hS, h.go fun x S v H1 W1 l g r q => k x S v H1 W1 l (hG.mono l) g r q⟩
end
/-- a rule's statement: the context of a def -/
structure SOk (h : Hd) (k : Nat) (X : L2.Cx) (C : MP.Cx) (P : Post) (sc : Scope) : Prop extends XOk h k X C P sc where
  fnT : ∀ y, X.fn y = true
  pass : PassesOwn (model X.prog X.w) X.A X.env X.xe
  kd : X.env.scope.kind = .function
/-! ### readings -/
section
variable {h : Hd} {k : Nat} {X : L2.Cx} {C : MP.Cx} {P : Post} {sc : Scope} {σ : L2.St} {H : Hp} {D : Ends}
theorem fz_read {l : MP.Le} {Q : VK} (q : tE X.K C P (.fz l) σ H Q) : tL X.K C P l σ H Q := by
  obtain ⟨G, S, W, hG, hS, q⟩ := q
  simp only [MP.evE] at q
  refine tR.part hG hS q fun ds S1 v H1 W1 l1 g1 s1 r1 q1 => ?_
  obtain ⟨p, us, rfl, e, r, al⟩ := r1
  obtain ⟨g, l⟩ := s1.toF e al
  exact q1 _ H1 _ l g ⟨p, us, rfl, ⟨.inr rfl, e⟩, RepDs.mono l.kp r⟩
theorem own_read {l : MP.Le} {Q : VK} (q : tE X.K C P (.own l) σ H Q) : tL X.K C P l σ H Q := by
  obtain ⟨G, S, W, hG, hS, q⟩ := q
  simp only [MP.evE] at q
  refine tR.part hG hS q fun ds S1 v H1 W1 l1 g1 s1 r1 q1 => ?_
  obtain ⟨p, us, rfl, e, r, al⟩ := r1
  obtain ⟨g, l, e2⟩ := s1.toCell (c := .lst ds) e ⟨us, rfl, r⟩ True.intro al
  exact q1 _ H1 _ l g ⟨p, e2, rfl⟩
theorem asg_read {i : Nat} {e : MP.Ex} (q : tS X.K C P (MP.evS C (.asg i e)) D σ H) : tE X.K C P e σ H fun v H1 => D.nx (σ.set i (some v)) H1 := by
  obtain ⟨G, S, W, hG, hS, q⟩ := q
  simp only [MP.evS] at q
  exact tS.part hG hS q fun x S1 v H1 W1 l1 g1 s1 r1 q1 => q1 _ H1 W1 .refl (g1.set i r1) s1
theorem asgT_read {is : List Nat} {e : MP.Ex} (q : tS X.K C P (MP.evS C (.asgT is e)) D σ H) : tE X.K C P e σ H fun v H1 => gTg X.K (.t is) v σ H1 fun σ2 H2 => D.nx σ2 H2 := by
  obtain ⟨G, S, W, hG, hS, q⟩ := q
  simp only [MP.evS] at q
  refine tS.part hG hS q fun x S1 v H1 W1 l1 g1 s1 r1 q1 => ?_
  split at q1
  · rename_i ds
    split at q1
    · rename_i G' e'
      exact gTg_run (t := .t is) (d := .tup ds) (g1.x _) r1 e' fun σ' e1 _ _ => q1 σ' H1 W1 .refl e1 s1
    · exact q1.elim
  · exact q1.elim
theorem par_read {i j : Nat} {es : MP.Exs} (q : tS X.K C P (MP.evS C (.asgT [i, j] (.tup es))) D σ H) : tPar i j (tEs X.K C P es) D σ H := by
  obtain ⟨G, S, W, hG, hS, q⟩ := q
  simp only [MP.evS, MP.evE] at q
  cases er : MP.evEs C es G S with
  | no => rw [er] at q; exact q.elim
  | ex x S' =>
    rw [er] at q
    exact ⟨G, S, W, hG, hS, by rw [er]; exact q⟩
  | ok vs S' =>
    rw [er] at q
    refine ⟨G, S, W, hG, hS, ?_⟩
    rw [er]
    intro us H1 W1 l1 g1 r1
    simp only [MP.ok_bind] at q
    split at q
    · rename_i ds e
      split at q
      · simp only [MP.ok_go] at q
        split at q
        · rename_i G' eG
          have rr := mapM_rep r1 e
          cases ds with
          | nil => cases eG
          | cons a ds =>
            cases ds with
            | nil => cases eG
            | cons b ds =>
              cases ds with
              | cons _ _ => cases eG
              | nil =>
                cases eG
                obtain ⟨v, t, rfl, ra, rr⟩ := rr
                obtain ⟨u, t, rfl, rb, rr⟩ := rr
                cases rr
                exact ⟨v, u, rfl, q _ H1 W1 l1 (((hG.mono l1).set i (x := .d a) ra).set j (x := .d b) rb) g1⟩
        · exact q.elim
      · exact q.elim
    · exact q.elim
theorem okW_bel {K : Fg} {n0 n i : Nat} {H : Hp} {W : Wd} {S : MP.St} {x : MP.Vl} {v : V} (ho : MP.okW n0 i x = true) (hn : n ≤ n0) (hi : i < n) : MP.belowV n (some x) = true := by
  cases x with
  | p j =>
    have z : n0 ≤ i := of_decide_eq_true ho
    omega
  | d _ => rfl
  | f _ => rfl
  | s _ => rfl
  | r _ => rfl
theorem putF_mem {f : String} {x : MP.Vl} {q : String × MP.Vl} : ∀ {fs : List (String × MP.Vl)}, q ∈ MP.putF fs f x → q ∈ fs ∨ q = (f, x)
  | [], h => by
    simp only [MP.putF, List.mem_singleton] at h
    exact .inr h
  | p :: r, h => by
    unfold MP.putF at h
    split at h
    · rcases List.mem_cons.mp h with h | h
      · exact .inr h
      · exact .inl (List.mem_cons_of_mem _ h)
    · rcases List.mem_cons.mp h with h | h
      · exact .inl (h ▸ List.mem_cons_self)
      · rcases putF_mem h with h | h
        · exact .inl (List.mem_cons_of_mem _ h)
        · exact .inr h
theorem put_mem {k : MP.D} {x : MP.Vl} {q : MP.D × MP.Vl} {kvs : List (MP.D × MP.Vl)} (h : q ∈ MP.put kvs k x) : q ∈ kvs ∨ q.2 = x := by
  unfold MP.put at h
  split at h
  · obtain ⟨p, hp, e⟩ := List.mem_map.mp h
    split at e
    · exact .inr (by rw [← e])
    · exact .inl (by rw [← e]; exact hp)
  · rcases List.mem_append.mp h with h | h
    · exact .inl h
    · rcases List.mem_singleton.mp h with rfl
      exact .inr rfl
theorem asgA_read {a : MP.Ex} {c f : String} {e : MP.Ex} (x : XOk h k X C P sc) (hcl : c ∈ h.P.cls) (hf : (c, f) ∈ h.attrs) (q : tS X.K C P (MP.evS C (.asgA a c f e)) D σ H) : sFld X.K (tE X.K C P a) (tE X.K C P e) (so f) D σ H := by
  obtain ⟨G, S, W, hG, hS, q⟩ := q
  simp only [MP.evS] at q
  show tE X.K C P e σ H _
  refine tS.part hG hS q fun y S1 v H1 W1 l1 g1 s1 r1 q1 => ?_
  show tE X.K C P a σ H1 _
  refine tS.part g1 s1 q1 fun z S2 u H2 W2 l2 g2 s2 r2 q2 => ?_
  cases z with
  | p i =>
    obtain ⟨b, eb, rfl⟩ := r2
    cases hc : S2[i]? with
    | none => simp only [MP.setA, hc] at q2; exact q2.elim
    | some cl =>
      cases cl with
      | ins c' fs =>
        simp only [MP.setA, hc] at q2
        by_cases hh : c' = c ∧ MP.okW C.n0 i y = true ∧ fs.length < 900
        · rw [if_pos hh] at q2
          obtain ⟨rfl, ho, hl⟩ := hh
          obtain ⟨dx, hs, e2, fl⟩ := s2.cell i _ b hc eb
          have ry := r1.mono l2
          have hb := s2.below ry
          obtain ⟨g3, l3⟩ := s2.write (c' := .ins c' (MP.putF fs f y)) (o := .ins (He.ga X.K (so c')) dx (putF (so f) v hs)) hc (by simp) eb (fun l => ⟨dx, _, rfl, Flds.mono l (fl.put ry)⟩)
            (fun q hq => (putF_mem hq).elim (fun z => s2.cl i _ hc q z) (fun z => by rw [z]; exact hb))
            (fun n hn hi h0 q hq => (putF_mem hq).elim (fun z => h0 q z) (fun z => by rw [z]; exact okW_bel (K := X.K) (H := H) (W := W) (S := S) (v := v) ho hn hi))
          exact ⟨b, _, dx, hs, rfl, e2, (x.tx.cls _ hcl).1, x.tx.noat _ hf, by rw [fl.length]; omega, q2 σ _ W2 l3 (g2.mono l3) g3⟩
        · rw [if_neg hh] at q2
          exact q2.elim
      | _ => simp only [MP.setA, hc] at q2; exact q2.elim
  | d _ => exact q2.elim
  | f _ => exact q2.elim
  | s _ => exact q2.elim
  | r _ => exact q2.elim
/-- o[i] = v -/
def rSetV (K : Fg) (n0 : Nat) : TSet := fun o i v H Q => ∃ S W x y z S', Good K n0 H W S ∧ RepV K H W x o ∧ RepV K H W y i ∧ RepV K H W z v ∧ MP.setI n0 S x y z = some S' ∧ ∀ H', Le H W H' W → Good K n0 H' W S' → Q H'
theorem set_V (hw : X.w = TW.w) (hu : X.A.units + 9 < cLine) {n0 : Nat} : PSet X (rSetV X.K n0) := by
  intro pins s σ H o i v ov iv u Q I ro ri rv h
  obtain ⟨S, W, x, y, z, S', g, r1, r2, r3, e, q⟩ := h
  cases x with
  | p j =>
    obtain ⟨b, eb, rfl⟩ := r1
    cases hc : S[j]? with
    | none => simp only [MP.setI, hc] at e; cases e
    | some cl =>
      have ci := g.cell j _ b hc eb
      cases cl with
      | lst ds =>
        simp only [MP.setI, hc] at e
        split at e
        · rename_i n w
          simp only [Option.map_eq_some_iff] at e
          obtain ⟨m, em, rfl⟩ := e
          cases r2
          obtain ⟨vs, e2, rr⟩ := ci
          obtain ⟨g3, l3⟩ := g.write (c' := .lst (ds.set m w)) (o := .lst (vs.set m v)) hc (by simp) eb (fun l => ⟨_, rfl, RepDs.mono l.kp (RepDs.set m rr r3)⟩) True.intro (fun _ _ _ _ => True.intro)
          exact set_list pins s σ H _ _ v _ _ u Q I ro ri rv ⟨b, vs, n, m, rfl, rfl, e2, by rw [rr.length]; exact em, q _ l3 g3⟩
        · cases e
      | dic kd kvs =>
        simp only [MP.setI, hc] at e
        split at e
        · rename_i kk
          split at e
          · rename_i hh
            cases e
            simp only [Bool.and_eq_true, decide_eq_true_eq] at hh
            obtain ⟨⟨hk, ho⟩, hl⟩ := hh
            have hb := g.below r3
            have b1 : bel S.length (.dic kd (MP.put kvs kk z)) := fun q hq => (put_mem hq).elim (fun w => g.cl j _ hc q w) (fun w => by rw [w]; exact hb)
            have b2 : ∀ n, n ≤ n0 → j < n → bel n (.dic kd kvs) → bel n (.dic kd (MP.put kvs kk z)) := fun n hn hi h0 q hq => (put_mem hq).elim (fun w => h0 q w) (fun w => by rw [w]; exact okW_bel (K := X.K) (H := H) (W := W) (S := S) (v := v) ho hn hi)
            obtain rfl : ov = Value.ref b := ro
            cases kd with
            | k =>
              obtain ⟨ks, e1, kv⟩ := ci
              obtain ⟨ky, h1, rfl⟩ := keyV_of (F := W.F) (H := H) hk r2
              obtain ⟨g3, l3⟩ := g.write (c' := .dic .k (MP.put kvs kk z)) (o := .dK (putK ks ky v)) hc (by simp) eb (fun l => ⟨_, rfl, Kvs.mono l (kv.put keyV_apart h1 r3)⟩) b1 b2
              exact d_setItem (by omega) I (DPut.k e1 (by rw [kv.length]; exact cap_lt hl)) ri rv fun s' I' => ⟨_, I', q _ l3 g3⟩
            | t =>
              obtain ⟨ks, e1, kv⟩ := ci
              cases kk with
              | tup ds =>
                obtain ⟨p, vs, rfl, hp, hr⟩ := r2
                obtain ⟨ky, h1, rfl⟩ := keysV_of (F := W.F) (H := H) hk hr
                obtain ⟨g3, l3⟩ := g.write (c' := .dic .t (MP.put kvs (.tup ds) z)) (o := .dT (putK ks ky v)) hc (by simp) eb (fun l => ⟨_, rfl, Kvs.mono l (kv.put keyT_apart (show keyT (.tup ds) ky from h1) r3)⟩) b1 b2
                exact d_setItem (by omega) I (DPut.t e1 hp (by rw [kv.length]; exact cap_lt hl)) ri rv fun s' I' => ⟨_, I', q _ l3 g3⟩
              | _ => cases hk
            | n =>
              obtain ⟨b0, zs, e1, kv, ka⟩ := ci
              cases kk with
              | tup ds =>
                obtain ⟨p, vs, rfl, hp, hr⟩ := id r2
                obtain rfl : iv = Value.ref p := ri
                have hlz : zs.length = kvs.length := by
                  have := kv.length
                  rw [List.length_map] at this
                  exact this
                have hb' := (hoN_at I.hok e1).1
                have kt := kt_of kv ka
                have hkn : keyN (.tup ds) (nkOf (.tup ds)) := ⟨hk, rfl⟩
                have key : RepDs H W.F ((MP.put kvs (.tup ds) z).map (·.1)) ((putZ zs (nkOf (.tup ds)) v p).map fun z => V.ref z.2) := by
                  have := kv.any keyN_apart hkn
                  rw [valV_any] at this
                  unfold MP.put putZ
                  rw [this]
                  by_cases c0 : (valV (zs.map (·.1)) (nkOf (.tup ds))).isSome = true
                  · rw [if_pos c0, if_pos c0, List.map_map, List.map_map]
                    have m1 : kvs.map ((fun q => q.1) ∘ fun q => if MP.D.eq q.1 (.tup ds) = true then (q.1, z) else q) = kvs.map (·.1) := List.map_congr_left fun q _ => by
                      simp only [Function.comp]
                      split <;> rfl
                    have m2 : zs.map ((fun z => V.ref z.2) ∘ fun z => if z.1.1 = nkOf (.tup ds) then ((z.1.1, v), z.2) else z) = zs.map fun z => V.ref z.2 := List.map_congr_left fun q _ => by
                      simp only [Function.comp]
                      split <;> rfl
                    rw [m1, m2]
                    exact ka
                  · rw [if_neg c0, if_neg c0, List.map_append, List.map_append]
                    exact RepDs.append ka (show RepDs H W.F [.tup ds] [.ref p] from ⟨_, [], rfl, r2, rfl⟩)
                obtain ⟨g3, l3⟩ := g.write (c' := .dic .n (MP.put kvs (.tup ds) z)) (o := hoN TW.w b (putZ zs (nkOf (.tup ds)) v p)) hc (by simp) eb (fun l => ⟨b, _, rfl, by rw [putZ_fst]; exact Kvs.mono l (kv.put keyN_apart hkn r3), RepDs.mono l.kp key⟩) b1 b2
                refine n_setItem hu I ⟨b0, by rw [hw]; exact e1⟩ kt hk r2 rv (by rw [hlz]; exact cap_lt hl) fun s' I' => ⟨_, by rw [hw] at I'; exact I', q _ l3 g3⟩
              | _ => cases hk
          · cases e
        · cases e
      | _ => simp only [MP.setI, hc] at e; cases e
  | d _ => cases e
  | f _ => cases e
  | s _ => cases e
  | r _ => cases e
theorem asgI_read {a b e : MP.Ex} (q : tS X.K C P (MP.evS C (.asgI a b e)) D σ H) : tAsg (tE X.K C P e) (gSub (tE X.K C P a) (tE X.K C P b) (rSetV X.K C.n0)) D σ H := by
  obtain ⟨G, S, W, hG, hS, q⟩ := q
  simp only [MP.evS] at q
  show tE X.K C P e σ H _
  refine tS.part hG hS q fun z S1 v H1 W1 l1 g1 s1 r1 q1 => ?_
  show tE X.K C P a σ H1 _
  refine tS.part g1 s1 q1 fun x S2 u H2 W2 l2 g2 s2 r2 q2 => ?_
  show tE X.K C P b σ H2 _
  refine tS.part g2 s2 q2 fun y S3 w H3 W3 l3 g3 s3 r3 q3 => ?_
  cases e : MP.setI C.n0 S3 x y z with
  | none => simp only [e] at q3; exact q3.elim
  | some S' =>
    simp only [e] at q3
    exact ⟨S3, W3, x, y, z, S', s3, r2.mono l3, r3, r1.mono (l2.trans l3), e, fun H' l g => q3 σ H' W3 l (g3.mono l) g⟩
theorem aug_read {i : Nat} {o : MP.BOp} {e : MP.Ex} {f : Int → Int → Int} (ho : ∀ x y, MP.binD o (.int x) (.int y) = some (.int (f x y))) (q : tS X.K C P (MP.evS C (.aug i o e)) D σ H) : tAug i (tE X.K C P e) (ipI f) D σ H := by
  obtain ⟨G, S, W, hG, hS, q⟩ := q
  simp only [MP.evS] at q
  split at q
  · rename_i x eG
    obtain ⟨v, e1, rv⟩ := hG.2 i _ eG
    cases rv
    refine ⟨_, e1, ?_⟩
    refine tS.part hG hS q fun y S1 u H1 W1 l1 g1 s1 r1 q1 => ?_
    split at q1
    · rename_i y
      cases r1
      rw [ho] at q1
      exact ⟨x, y, rfl, rfl, q1 _ H1 W1 .refl (g1.set i (x := .d (.int (f x y))) rfl) s1⟩
    · exact q1.elim
  · exact q.elim
theorem ex_read {e : MP.Ex} (q : tS X.K C P (MP.evS C (.ex e)) D σ H) : tDrop (tE X.K C P e) D σ H := by
  obtain ⟨G, S, W, hG, hS, q⟩ := q
  simp only [MP.evS] at q
  exact tS.part hG hS q fun x S1 v H1 W1 l1 g1 s1 r1 q1 => q1 _ H1 W1 .refl g1 s1
theorem ret_read {e : MP.Ex} (q : tS X.K C P (MP.evS C (.ret e)) D σ H) : tRet (tE X.K C P e) D σ H := by
  obtain ⟨G, S, W, hG, hS, q⟩ := q
  simp only [MP.evS] at q
  exact tS.part hG hS q fun x S1 v H1 W1 l1 g1 s1 r1 q1 => q1 _ H1 W1 .refl s1 r1
theorem retN_read (q : tS X.K C P (MP.evS C (.ret (.cst .non))) D σ H) : tRetN D σ H := by
  obtain ⟨G, S, W, hG, hS, q⟩ := q
  simp only [MP.evS, MP.evE, MP.ok_go] at q
  exact q _ H W .refl hS rfl
theorem if_read {c : MP.Tt} {a b : MP.Sms} (q : tS X.K C P (MP.evS C (.ifs c a b)) D σ H) : tIfS (tT X.K C P c) (tS X.K C P (MP.evSs C a)) (tS X.K C P (MP.evSs C b)) D σ H := by
  obtain ⟨G, S, W, hG, hS, q⟩ := q
  simp only [MP.evS] at q
  refine tS.part hG hS q fun x S1 v H1 W1 l1 g1 s1 r1 q1 => ?_
  have e : v = x := r1
  subst e
  cases v with
  | true => exact ⟨G, S1, W1, g1, s1, q1⟩
  | false => exact ⟨G, S1, W1, g1, s1, q1⟩
theorem while_read {c : MP.Tt} {b : MP.Sms} (q : tS X.K C P (MP.evS C (.whl c b)) D σ H) : tWhile (tT X.K C P c) (tS X.K C P (MP.evSs C b)) D σ H := by
  obtain ⟨G, S, W, hG, hS, q⟩ := q
  simp only [MP.evS] at q
  refine ⟨fun m σ H => ∃ G S W, EnvR X.K H W G σ ∧ Good X.K C.n0 H W S ∧ wpS X.K C.n0 P H W (MP.whlL (MP.evT C c) (MP.evSs C b) m G S) D, ⟨_, G, S, W, hG, hS, q⟩, ?_⟩
  rintro m σ1 H1 ⟨G1, S1, W1, g1, s1, q1⟩
  cases m with
  | zero => exact q1.elim
  | succ m =>
    unfold MP.whlL at q1
    refine tS.part g1 s1 q1 fun x S2 v H2 W2 l2 g2 s2 r2 q2 => ?_
    have e : v = x := r2
    subst e
    cases v with
    | false => exact q2 σ1 H2 W2 .refl g2 s2
    | true =>
      rw [if_pos rfl] at q2 ⊢
      exact ⟨fun σ H => ∃ G S W, EnvR X.K H W G σ ∧ Good X.K C.n0 H W S ∧ wpS X.K C.n0 P H W (MP.whlL (MP.evT C c) (MP.evSs C b) m G S) D, fun σ' H' z => ⟨m, Nat.lt_succ_self m, z⟩, G1, S2, W2, g2, s2, q2.turn fun G S σ H1 W1 _ e g q => ⟨G, S, W1, e, g, q⟩⟩
theorem for_read {t : MP.Tg} {it : MP.It} {step : MP.D → MP.Env → MP.St → MP.Q} {tb : TS} (hb : ∀ d v G S W σ H D', EnvR X.K H W G σ → Good X.K C.n0 H W S → RepD H W.F d v → wpS X.K C.n0 P H W (step d G S) D' → gTg X.K t v σ H fun σ2 H2 => tb D' σ2 H2)
    (q : tS X.K C P (fun G S => (MP.evI C it G S).go G fun ds S => MP.forL step ds G S) D σ H) : tFor (tI X.K C P it) (gTg X.K t) tb D σ H := by
  obtain ⟨G, S, W, hG, hS, q⟩ := q
  show tI X.K C P it σ H _
  refine tS.part hG hS q fun ds S1 J H1 W1 l1 g1 s1 r1 q1 => ?_
  let Iv : Nat → L2.St → Hp → Prop := fun i σ' H' => i ≤ ds.length ∧ ∃ G' S' W', Le H1 W1 H' W' ∧ EnvR X.K H' W' G' σ' ∧ Good X.K C.n0 H' W' S' ∧ wpS X.K C.n0 P H' W' (MP.forL step (ds.drop i) G' S') D
  refine ⟨fun i m σ' H' => m = ds.length - i ∧ Iv i σ' H', ⟨ds.length, rfl, Nat.zero_le _, G, S1, W1, .refl, g1, s1, by rw [List.drop_zero]; exact q1⟩, ?_⟩
  rintro i m σ' H' ⟨rfl, hi, G', S', W', l', e', g', q'⟩
  obtain ⟨w1, w2, w3⟩ := r1 H' W' l'
  by_cases hlt : i < ds.length
  · refine .inr ⟨w2 i hlt, fun σ'' H'' => Iv (i + 1) σ'' H'', fun σ'' H'' p => ⟨ds.length - (i + 1), by omega, rfl, p⟩, fun x H2 y => ?_⟩
    obtain ⟨d, ed, l2, g2, r2⟩ := w3 i x H2 hlt y S' g'
    have edr : ds.drop i = d :: ds.drop (i + 1) := by
      have e1 : ds[i] = d := by rw [List.getElem?_eq_getElem hlt] at ed; exact Option.some.inj ed
      rw [List.drop_eq_getElem_cons hlt, e1]
    rw [edr] at q'
    refine hb d x G' S' W' σ' H2 _ (e'.mono l2) g2 r2 ((wpS.mono (q := (step d G' S').turn (MP.forL step (ds.drop (i + 1)))) q' l2).turn fun G3 S3 σ3 H3 W3 l3 e3 g3 q3 => ?_)
    exact ⟨hlt, G3, S3, W3, (l'.trans l2).trans l3, e3, g3, q3⟩
  · have e : i = ds.length := by omega
    subst e
    refine .inl ⟨w1 _ (Nat.le_refl _), ?_⟩
    rw [List.drop_length] at q'
    exact q' σ' H' W' .refl e' g'
/-! ### a frame within -/
def cutW (n : Nat) (ns : Nat → Prop) (W : Wd) : Wd := ⟨W.F, W.mu.take n, W.T, ns⟩
def dropP (n n0 : Nat) (ns : Nat → Prop) (P : Post) : Post := fun x G S W H => W.ns n0 ∧ (∀ m, ns m → W.ns m ∧ m ≤ n0) ∧ P x (MP.cutE n G) (S.take n) (cutW n ns W) H
theorem rep_cut {K : Fg} {n : Nat} {ns : Nat → Prop} {x : MP.Vl} {v : V} {W : Wd} (hb : MP.belowV n (some x) = true) (r : RepV K H W x v) : RepV K H (cutW n ns W) x v := by
  cases x with
  | p j =>
    obtain ⟨a, e, ev⟩ := r
    have hj : j < n := of_decide_eq_true hb
    exact ⟨a, by show (W.mu.take n)[j]? = some a; rw [List.getElem?_take, if_pos hj]; exact e, ev⟩
  | d _ => exact r
  | f _ => exact r
  | s _ => exact r
  | r _ => exact r
theorem EnvR.cut {K : Fg} {n : Nat} {ns : Nat → Prop} {G : MP.Env} {W : Wd} (e : EnvR K H W G σ) : EnvR K H (cutW n ns W) (MP.cutE n G) σ := by
  refine ⟨by unfold MP.cutE; rw [List.length_map]; exact e.1, fun i x h => ?_⟩
  unfold MP.cutE at h
  rw [List.getElem?_map] at h
  cases eg : G[i]? with
  | none => rw [eg] at h; cases h
  | some o =>
    rw [eg] at h
    simp only [Option.map_some, Option.some.injEq] at h
    split at h
    · rename_i hb
      subst h
      obtain ⟨v, e1, r⟩ := e.2 i x eg
      exact ⟨v, e1, rep_cut hb r⟩
    · cases h
theorem Le.cut {n0 n : Nat} {W W' : Wd} {H' : Hp} (l : Le H ⟨W.F, W.mu, W.T, fun m => W.ns m ∨ m = n0⟩ H' W') (hn : W.mu.length ≤ n) : Le H W H' (cutW n W.ns W') := by
  refine ⟨l.kp, fun i a h => ?_, l.tt, l.ht, fun _ h => h⟩
  have hi : i < W.mu.length := (List.getElem?_eq_some_iff.mp h).1
  show (W'.mu.take n)[i]? = some a
  rw [List.getElem?_take, if_pos (by omega)]
  exact l.mu i a h
theorem XOk.inner {n : Nat} {ns : Nat → Prop} (x : XOk h k X C P sc) : XOk h k X { C with n0 := n } (dropP n C.n0 ns P) sc := by
  refine ⟨x.tx, x.fns, x.fnp, x.sc, x.nd, x.calm, x.room, x.room2, x.tk.imp fun cls d σ H q => ?_, ?_, x.gu⟩
  · obtain ⟨y, G, S, W, hx, hG, hS, hn, h0, p⟩ := q
    exact ⟨y, _, _, _, hx, hG.cut, Good.cut hS hn h0, p⟩
  · have := x.C
    rw [this]
theorem drop_wpS {n0 : Nat} {S0 : MP.St} {W : Wd} {q : MP.Q} (g0 : Good X.K n0 H W S0) (hq : wpS X.K n0 P H W (q.drop S0.length) D) : wpS X.K S0.length (dropP S0.length n0 W.ns P) H ⟨W.F, W.mu, W.T, fun m => W.ns m ∨ m = n0⟩ q D := by
  have hn : W.mu.length ≤ S0.length := Nat.le_of_eq g0.len
  have c1 : ∀ {H' : Hp} {W' : Wd} {S : MP.St}, Le H ⟨W.F, W.mu, W.T, fun m => W.ns m ∨ m = n0⟩ H' W' → Good X.K S0.length H' W' S → Good X.K n0 H' (cutW S0.length W.ns W') (S.take S0.length) := fun l g => Good.cut g (l.nn _ (.inr rfl)) fun m hm => ⟨l.nn _ (.inl hm), g0.nle m hm⟩
  cases q with
  | ok f G S =>
    cases f with
    | nx => exact fun σ H' W' l e g => hq σ H' _ (l.cut hn) e.cut (c1 l g)
    | bk => exact fun σ H' W' l e g => hq σ H' _ (l.cut hn) e.cut (c1 l g)
    | ct => exact fun σ H' W' l e g => hq σ H' _ (l.cut hn) e.cut (c1 l g)
    | rt x =>
      intro v H' W' l g r
      simp only [MP.Q.drop] at hq
      split at hq
      · rename_i hb
        exact hq v H' _ (l.cut hn) (c1 l g) (rep_cut hb r)
      · exact hq.elim
  | ex x G S => exact fun H' W' l g => ⟨l.nn _ (.inr rfl), fun m hm => ⟨l.nn _ (.inl hm), g0.nle m hm⟩, hq H' _ (l.cut hn) (c1 l g)⟩
  | no => exact hq.elim
/-- the loop's body, either way -/
def tB (K : Fg) (C : MP.Cx) (P : Post) (dr : Bool) (b : MP.Sms) : TS := fun D σ H => if dr then ∃ n ns, tS K { C with n0 := n } (dropP n C.n0 ns P) (MP.evSs { C with n0 := n } b) D σ H else tS K C P (MP.evSs C b) D σ H
theorem forS_read {dr : Bool} {t : MP.Tg} {it : MP.It} {b : MP.Sms} (q : tS X.K C P (MP.evS C (.for_ dr t it b)) D σ H) : tFor (tI X.K C P it) (gTg X.K t) (tB X.K C P dr b) D σ H := by
  refine for_read (step := fun d G S => match t.set G d with
    | some G' => if dr then (MP.evSs { C with n0 := S.length } b G' S).drop S.length else MP.evSs C b G' S
    | none => .no) (fun d v G S W σ H D' hG hS r q => ?_) (by obtain ⟨G, S, W, hG, hS, q⟩ := q; simp only [MP.evS] at q; exact ⟨G, S, W, hG, hS, q⟩)
  split at q
  · rename_i G' e
    refine gTg_run (hG.x _) r e fun σ' e' _ _ => ?_
    cases dr with
    | false => exact ⟨G', S, W, e', hS, q⟩
    | true =>
      rw [if_pos rfl] at q
      obtain ⟨g1, l1⟩ := hS.inner
      exact ⟨S.length, W.ns, G', S, _, e'.mono l1, g1, drop_wpS hS q⟩
  · exact q.elim
end
/-! ### the checker -/
def isG : MP.Sm → Bool
  | .frz _ => true
  | _ => false
def notTup : Expr → Bool
  | .Tuple _ _ _ => false
  | _ => true
def lcBound (cs : Scope) (y : Str) : Bool := cs.names.any fun (n, k) => n == y && (k == .local || k == .cell)
/-- how a value goes to a name: swapped or not -/
def swOk (sc : Scope) (y : Str) (py : Pos) : Expr → Bool
  | .ListComp _ _ cs pos => decide (sc.names.lookup y = some .local) && (py.line == pos.line) && !lcBound cs y
  | .DictComp _ _ _ cs pos => decide (sc.names.lookup y = some .local) && (py.line == pos.line) && !lcBound cs y
  | _ => false
def locS (sc : Scope) (y : Str) : Bool := decide (sc.names.lookup y = some .local) || decide (sc.names.lookup y = some .cell)
def celS (sc : Scope) (y : Str) : Bool := decide (sc.names.lookup y = some .cell)
def leComp : MP.Ex → Option MP.Le
  | .fz (.comp t it c e) => some (.comp t it c e)
  | .own (.comp t it c e) => some (.comp t it c e)
  | .dcomp _ _ _ _ _ => some (.disp .nil)
  | _ => none
mutual
def ckS (h : Hd) (N : List Str) (sc : Scope) : MP.Sm → Stmt → Bool
  | .asg i e, x => match x with
    | .Assign [.Name y py] v _ => decide (N[i]? = some y) && locS sc y && ckE h N e sc v && ((noComp v || celS sc y) || (swOk sc y py v && (leComp e).isSome))
    | _ => false
  | .asgT is e, x => match x with
    | .Assign [.Tuple es j p] v _ => (match v with
      | .Tuple [a, b] _ _ => (match is, e, es with
        | [i, j], .tup ees, [.Name y py, .Name z pz] => decide (N[i]? = some y) && decide (N[j]? = some z) && decide (i ≠ j) && decide (y ≠ z) && decide (sc.names.lookup y = some .local) && decide (sc.names.lookup z = some .local) && (pz.line == py.line) && ([a, b].all nst) && !([a, b].all (foldedForSure 8)) && !([a, b].all (constantsAlone 8)) && ckEs h N ees sc [a, b]
        | _, _, _ => false)
      | v => notTup v && noComp v && tgNames N (locS sc) is es && ckE h N e sc v)
    | _ => false
  | .asgA a c f e, x => match x with
    | .Assign [.Attribute l y _] v _ => decide (y = so f) && decide (c ∈ h.P.cls) && decide ((c, f) ∈ h.attrs) && noComp v && ckE h N a sc l && ckE h N e sc v
    | _ => false
  | .asgI a b e, x => match x with
    | .Assign [.Subscript l r _] v _ => noComp v && plainI r && ckE h N a sc l && ckE h N b sc r && ckE h N e sc v
    | _ => false
  | .aug i o e, x => match x with
    | .AugAssign (.Name y _) op v _ => decide (N[i]? = some y) && locS sc y && ((decide (o = .add) && decide (op = .Add)) || (decide (o = .sub) && decide (op = .Sub))) && ckE h N e sc v
    | _ => false
  | .ex e, x => match x with
    | .Expr v _ => noComp v && ckE h N e sc v
    | _ => false
  | .ret e, x => match x with
    | .Return (some v) _ => ckE h N e sc v
    | .Return none _ => (match e with
      | .cst .non => true
      | _ => false)
    | _ => false
  | .ifs c a b, x => match x with
    | .If t p q _ => ckT h N c sc t && ckSs h N sc a p && ckSs h N sc b q
    | _ => false
  | .for_ dr t it b, x => match x with
    | .For tg iter body [] _ => tgOk N (locS sc) t tg && noSet iter && ckI h N it sc tg iter && ckSs h N sc b body
    | _ => false
  | .whl c b, x => match x with
    | .While t body [] _ => ckT h N c sc t && ckSs h N sc b body
    | _ => false
  | .pass, x => match x with
    | .Pass _ => true
    | _ => false
  | .brk, x => match x with
    | .Break _ => true
    | _ => false
  | .cont, x => match x with
    | .Continue _ => true
    | _ => false
  | .frz _, _ => false
  | .bad, _ => true
def ckSs (h : Hd) (N : List Str) (sc : Scope) : MP.Sms → List Stmt → Bool
  | .nil, xs => match xs with
    | [] => true
    | _ => false
  | .cons s ss, xs => if isG s then ckSs h N sc ss xs else match xs with
    | x :: xs => ckS h N sc s x && ckSs h N sc ss xs
    | [] => false
end
section
variable {h : Hd} {k : Nat} {X : L2.Cx} {C : MP.Cx} {P : Post} {sc : Scope}
theorem SOk.loc (x : SOk h k X C P sc) {y : Str} (e : locS sc y = true) : Loc X.env.scope y := by
  unfold locS at e
  rw [Bool.or_eq_true, decide_eq_true_eq, decide_eq_true_eq] at e
  unfold L2.Loc
  rw [x.sc]
  exact e
theorem SOk.hl (x : SOk h k X C P sc) (y : Str) (e : locS sc y = true) : Loc X.env.scope y ∧ (X.fn y = true ∨ X.env.scope.names.lookup y = some .local) := ⟨x.loc e, .inl (x.fnT y)⟩
theorem SOk.inner {n : Nat} {ns : Nat → Prop} (x : SOk h k X C P sc) : SOk h k X { C with n0 := n } (dropP n C.n0 ns P) sc := ⟨x.toXOk.inner, x.fnT, x.pass, x.kd⟩
theorem notTup_sw {v : Expr} {env : Env} {es : List Expr} {j : Nat} {p : Pos} (hv : notTup v = true) : swappedStores [.Tuple es j p] v env = pure none := by
  cases v <;> first | rfl | exact absurd hv Bool.false_ne_true
theorem nst_anyS {v : List Expr} (hv : v.all nst = true) : (v.any fun | .Starred .. => true | _ => false) = false := by
  induction v with
  | nil => rfl
  | cons a v ih =>
    rw [List.all_cons, Bool.and_eq_true] at hv
    rw [List.any_cons, ih hv.2, Bool.or_false]
    cases a <;> first | rfl | exact absurd hv.1 Bool.false_ne_true
theorem par_sw {a b : Expr} {env : Env} {y z : Str} {py pz p q : Pos} {j l : Nat} (hk : env.scope.kind = .function) (hy : env.scope.names.lookup y = some .local) (hz : env.scope.names.lookup z = some .local) (hl : (pz.line == py.line) = true) (hyz : y ≠ z)
    (hs : [a, b].all nst = true) (h1 : ([a, b].all (foldedForSure 8)) = false) (h2 : ([a, b].all (constantsAlone 8)) = false) : swappedStores [.Tuple [.Name y py, .Name z pz] j p] (.Tuple [a, b] l q) env = pure (some [y, z]) := by
  have ky : env.kindOf y = some .local := hy
  have kz : env.kindOf z = some .local := hz
  have hb : env.blockKind = .function := by unfold Env.blockKind; rw [hk]; rfl
  have e1 : (y == z) = false := beq_false_of_ne hyz
  have e2 : (z == y) = false := beq_false_of_ne (Ne.symm hyz)
  simp only [beq_iff_eq] at hl
  rw [List.all_cons, List.all_cons, Bool.and_eq_true, Bool.and_eq_true] at hs
  unfold swappedStores
  simp only [h1, h2, hb]
  simp only [List.any_cons, List.any_nil, List.filterMap_cons, List.filterMap_nil, ky, kz, List.head?_cons, Option.map_some, Option.getD_some, Expr.pos, hl, BEq.rfl, Bool.and_self, if_pos]
  split
  · rename_i hh
    exact absurd hh (by simp)
  · obtain ⟨ha, hb', _⟩ := hs
    split
    · exact absurd ha Bool.false_ne_true
    · cases b <;> first | (exact absurd hb' Bool.false_ne_true) | (simp [List.eraseDups_cons, e1, e2])
theorem noComp_sole {e t : Expr} {n : Nat} {env : Env} (h : noComp e = true) : swapsWithSole [t] e n env = pure false := noComp_swaps (t := some t) h
theorem plainI_assign {o i : Expr} {pos : Pos} {env : Env} (h : plainI i = true) : ∀ v, assign (.Subscript o i pos) env v = (do
      let ov ← holding [v] (eval o env)
      let iv ← holding [v, ov] (eval i env)
      standAt pos
      holding [v, ov, iv] (setItem ov iv v)
      release [v, ov, iv] []) := by
  intro v
  cases i <;> first | rfl | exact absurd h Bool.false_ne_true
theorem ghost_frz {i : Nat} {ss : MP.Sms} {xs : List Stmt} (hs : PSs X xs (tS X.K C P (MP.evSs C ss))) : PSs X xs (tS X.K C P (MP.evSs C (.cons (.frz i) ss))) := by
  refine PSs.imp hs fun D σ H ⟨G, S, W, hG, hS, q⟩ => ?_
  simp only [MP.evSs, MP.evS] at q
  split at q
  · rename_i y eG
    obtain ⟨v, e1, r⟩ := hG.2 i y eG
    cases y with
    | p j =>
      obtain ⟨a, ea, rfl⟩ := r
      cases hc : S[j]? with
      | none => simp only [MP.frzV, hc] at q; exact q.elim
      | some c =>
        cases c with
        | lst ds =>
          simp only [MP.frzV, hc, MP.ok_go, MP.nx_next] at q
          obtain ⟨vs, e, rr⟩ := hS.cell j _ a hc ea
          have hi : j < S.length := (List.getElem?_eq_some_iff.mp hc).1
          have al : Alone W (S.set j .dead) a := by
            refine ⟨hS.live j _ a hc (by simp) ea, hS.tmu j _ a hc (by simp) ea, fun l c' h1 h2 h3 => ?_⟩
            by_cases ej : l = j
            · subst ej
              rw [List.getElem?_set_self hi] at h1
              cases h1
              exact h2 rfl
            · rw [List.getElem?_set_ne (Ne.symm ej)] at h1
              exact ej (hS.inj l j a c' _ h1 h2 hc (by simp) h3 ea)
          obtain ⟨g2, l2⟩ := (hS.kill j).toF e al
          refine ⟨_, _, _, ⟨by simpa using hG.1, fun l x hx => ?_⟩, g2, q.mono l2⟩
          by_cases el : l = i
          · subst el
            have hlt : l < G.length := (List.getElem?_eq_some_iff.mp eG).1
            rw [List.getElem?_set_self hlt] at hx
            cases hx
            exact ⟨.ref a, e1, ⟨a, vs, rfl, ⟨.inr rfl, e⟩, RepDs.mono l2.kp rr⟩⟩
          · rw [List.getElem?_set_ne (Ne.symm el)] at hx
            obtain ⟨u, e2, r2⟩ := hG.2 l x hx
            exact ⟨u, e2, r2.mono l2⟩
        | _ => simp only [MP.frzV, hc] at q; exact q.elim
    | d _ => exact q.elim
    | f _ => exact q.elim
    | s _ => exact q.elim
    | r _ => exact q.elim
  · exact q.elim
theorem lc_parts {cs : Scope} {elt : Expr} {gs : List Comprehension} {pos : Pos} {l : MP.Le} (x : XOk h k X C P sc) (hc : ckL h X.N l sc (.ListComp elt gs cs pos) = true) {i : Nat} {y : Str} {py spos : Pos} (hy : X.N[i]? = some y) (hyl : sc.names.lookup y = some .local) (hln : (py.line == pos.line) = true) (hb : lcBound cs y = false) (hk : X.env.scope.kind = .function) :
    PS X (.Assign [.Name y py] (.ListComp elt gs cs pos) spos) (tAsg (tL X.K C P l) (gName i)) := by
  cases l with
  | disp es => unfold ckL at hc; cases hc
  | of e => unfold ckL at hc; cases hc
  | srt e => unfold ckL at hc; cases hc
  | srtS t it c e => unfold ckL at hc; cases hc
  | srtK g e => unfold ckL at hc; cases hc
  | items e => unfold ckL at hc; cases hc
  | comp t it c e =>
    unfold ckL at hc
    split at hc
    · rename_i heq
      cases heq
      rename_i tg iter ifs
      simp only [Bool.and_eq_true] at hc
      obtain ⟨⟨⟨⟨⟨h1, h2⟩, h3⟩, h4⟩, h5⟩, h6⟩ := hc
      have ok := blkOk_by h1
      rw [← x.sc] at ok hyl
      have z := ps_setLc (py := py) (spos := spos) (pos := pos) x.calm x.nd hy hyl (sw_true hk hyl hln hb) (okI it x tg iter h4) ok (g := gTg X.K t) (fun s H c cl fp => pg_tg (X := X.blk s H cs (compEnvC cs cl c X.env) fp) x.calm x.nd (locOf_blk x cs s H c cl fp) h2)
        (ifs := ifs) (tt := tT X.K C noP c) (te := tE X.K C noP e) (fun s H cc cl fp => ?_) (fun s H cc cl fp => okE e (x.blk cs s H cc cl fp) elt h5) (noSet_fold h3)
      · rw [ownOf_ix] at z
        exact PS.imp z fun D σ H q => comp_read q
      · split at h6
        · obtain rfl := ckL_yes h6
          exact PTs.imp pts_nil fun σ H Q q => lits q
        · exact pts_one (okT c (x.blk cs s H cc cl fp) _ h6).1
        · cases h6
    · cases hc
theorem dcs_parts {cs : Scope} {kx vx : Expr} {gs : List Comprehension} {pos : Pos} {t : MP.Tg} {it : MP.It} {c : MP.Tt} {ek ev : MP.Ex} (x : XOk h k X C P sc) (hc : ckE h X.N (.dcomp t it c ek ev) sc (.DictComp kx vx gs cs pos) = true) {i : Nat} {y : Str} {py spos : Pos} (hy : X.N[i]? = some y) (hyl : sc.names.lookup y = some .local) (hln : (py.line == pos.line) = true) (hb : lcBound cs y = false) (hk : X.env.scope.kind = .function) :
    PS X (.Assign [.Name y py] (.DictComp kx vx gs cs pos) spos) (tAsg (tDc (tI X.K C P it) (gTg X.K t) (tT X.K C noP c) (tE X.K C noP ek) (tE X.K C noP ev) (tgs t)) (gName i)) := by
  unfold ckE at hc
  split at hc
  · rename_i heq
    cases heq
    rename_i tg iter ifs
    simp only [Bool.and_eq_true] at hc
    obtain ⟨⟨⟨⟨⟨⟨h1, h2⟩, h3⟩, h4⟩, h5⟩, h5'⟩, h6⟩ := hc
    have ok := blkOk_by h1
    rw [← x.sc] at ok hyl
    have z := ps_setDc (py := py) (spos := spos) (pos := pos) x.calm x.nd hy hyl (sw_dict hk hyl hln hb) (okI it x tg iter h4) ok (g := gTg X.K t) (fun s H c cl fp => pg_tg (X := X.blk s H cs (compEnvC cs cl c X.env) fp) x.calm x.nd (locOf_blk x cs s H c cl fp) h2)
      (ifs := ifs) (tt := tT X.K C noP c) (tk := tE X.K C noP ek) (tv := tE X.K C noP ev) (fun s H cc cl fp => ?_) (fun s H cc cl fp => okE ek (x.blk cs s H cc cl fp) kx h5) (fun s H cc cl fp => okE ev (x.blk cs s H cc cl fp) vx h5') (noSet_fold h3)
    · rw [ownOf_ix] at z
      exact z
    · split at h6
      · obtain rfl := ckL_yes h6
        exact PTs.imp pts_nil fun σ H Q q => lits q
      · exact pts_one (okT c (x.blk cs s H cc cl fp) _ h6).1
      · cases h6
  · cases hc
theorem cel_swaps {y : Str} {v : Expr} {py : Pos} {n : Nat} {env : Env} (h : env.scope.names.lookup y = some .cell) : swapsWith v (some (.Name y py)) n env = pure false := by
  have kc : (env.kindOf y == some .local) = false := by
    have : env.kindOf y = some .cell := h
    rw [this]
    rfl
  unfold swapsWith
  cases v <;> first | rfl | (simp only [kc, Bool.and_false, Bool.false_and])
theorem is_asg {i : Nat} {e : MP.Ex} {y : Str} {py spos : Pos} {v : Expr} (x : SOk h k X C P sc) (hN : X.N[i]? = some y) (hl : locS sc y = true) (hc : ckE h X.N e sc v = true) (ho : ((noComp v || celS sc y) || (swOk sc y py v && (leComp e).isSome)) = true) :
    PS X (.Assign [.Name y py] v spos) (tS X.K C P (MP.evS C (.asg i e))) := by
  rw [Bool.or_eq_true] at ho
  rcases ho with ho | ho
  · rw [Bool.or_eq_true] at ho
    refine PS.imp (ps_set x.nd hN (x.loc hl) (okE e x.toXOk v hc) ?_ (.inl (x.fnT y))) fun D σ H q => asg_read q
    rcases ho with ho | ho
    · exact noComp_swaps ho
    · unfold celS at ho
      rw [decide_eq_true_eq, ← x.sc] at ho
      exact cel_swaps ho
  · rw [Bool.and_eq_true] at ho
    obtain ⟨h1, h2⟩ := ho
    unfold swOk at h1
    split at h1
    · simp only [Bool.and_eq_true, decide_eq_true_eq, Bool.not_eq_true'] at h1
      obtain ⟨⟨a1, a2⟩, a3⟩ := h1
      cases e with
      | fz l =>
        unfold ckE at hc
        exact PS.imp (lc_parts x.toXOk hc hN a1 a2 a3 x.kd) fun D σ H q => fz_read (asg_read q)
      | own l =>
        unfold ckE at hc
        exact PS.imp (lc_parts x.toXOk hc hN a1 a2 a3 x.kd) fun D σ H q => own_read (asg_read q)
      | dcomp t it c ek ev =>
        unfold ckE at hc
        cases hc
      | _ => cases h2
    · simp only [Bool.and_eq_true, decide_eq_true_eq, Bool.not_eq_true'] at h1
      obtain ⟨⟨a1, a2⟩, a3⟩ := h1
      cases e with
      | fz l =>
        unfold ckE at hc
        cases l <;> (unfold ckL at hc; cases hc)
      | own l =>
        unfold ckE at hc
        cases l <;> (unfold ckL at hc; cases hc)
      | dcomp t it c ek ev => exact PS.imp (dcs_parts x.toXOk hc hN a1 a2 a3 x.kd) fun D σ H q => dc_read (asg_read q)
      | _ => cases h2
    · cases h1
end
mutual
theorem okS {h : Hd} {k : Nat} : ∀ (s : MP.Sm) {X : L2.Cx} {C : MP.Cx} {P : Post} {sc : Scope} (x : SOk h k X C P sc) (st : Stmt), ckS h X.N sc s st = true → PS X st (tS X.K C P (MP.evS C s))
  | .asg i e, X, C, P, sc, x, st, hc => by
    unfold ckS at hc
    split at hc
    · simp only [Bool.and_eq_true, decide_eq_true_eq] at hc
      exact is_asg x hc.1.1.1 hc.1.1.2 hc.1.2 hc.2
    · cases hc
  | .asgT is e, X, C, P, sc, x, st, hc => by
    unfold ckS at hc
    split at hc
    · split at hc
      · split at hc
        · simp only [Bool.and_eq_true, decide_eq_true_eq, Bool.not_eq_true'] at hc
          obtain ⟨⟨⟨⟨⟨⟨⟨⟨⟨⟨h1, h2⟩, h3⟩, h4⟩, h5⟩, h6⟩, h7⟩, h8⟩, h9⟩, h10⟩, h11⟩ := hc
          rw [← x.sc] at h5 h6
          exact PS.imp (ps_par x.calm x.nd h1 h2 h3 h5 h6 (okEs _ x.toXOk _ h11) (par_sw x.kd h5 h6 h7 h4 h8 h9 h10)) fun D σ H q => par_read q
        · cases hc
      · simp only [Bool.and_eq_true] at hc
        obtain ⟨⟨⟨h1, h2⟩, h3⟩, h4⟩ := hc
        exact PS.imp (ps_asg (okE e x.toXOk _ h4) (pg_tg (t := .t is) x.calm x.nd x.hl h3) (noComp_sole h2) (notTup_sw h1)) fun D σ H q => asgT_read q
    · cases hc
  | .asgA a c f e, X, C, P, sc, x, st, hc => by
    unfold ckS at hc
    split at hc
    · simp only [Bool.and_eq_true, decide_eq_true_eq] at hc
      obtain ⟨⟨⟨⟨⟨rfl, h1⟩, h2⟩, h3⟩, h4⟩, h5⟩ := hc
      exact PS.imp (ps_fld (okE a x.toXOk _ h4) (okE e x.toXOk _ h5) (noComp_swaps h3)) fun D σ H q => asgA_read x.toXOk h1 h2 q
    · cases hc
  | .asgI a b e, X, C, P, sc, x, st, hc => by
    unfold ckS at hc
    split at hc
    · simp only [Bool.and_eq_true] at hc
      obtain ⟨⟨⟨⟨h1, h2⟩, h3⟩, h4⟩, h5⟩ := hc
      exact PS.imp (ps_asg (okE e x.toXOk _ h5) (pg_sub (okE a x.toXOk _ h3) (okE b x.toXOk _ h4) (set_V x.tx.tw (by have := x.hu; omega)) (plainI_assign h2)) (noComp_sole h1)) fun D σ H q => asgI_read q
    · cases hc
  | .aug i o e, X, C, P, sc, x, st, hc => by
    unfold ckS at hc
    split at hc
    · simp only [Bool.and_eq_true, decide_eq_true_eq, Bool.or_eq_true] at hc
      obtain ⟨⟨⟨h1, h2⟩, h3⟩, h4⟩ := hc
      rcases h3 with ⟨rfl, rfl⟩ | ⟨rfl, rfl⟩
      · exact PS.imp (ps_aug x.nd h1 (x.loc h2) (okE e x.toXOk _ h4) ip_add (.inl (x.fnT _))) fun D σ H q => aug_read (fun _ _ => rfl) q
      · exact PS.imp (ps_aug x.nd h1 (x.loc h2) (okE e x.toXOk _ h4) ip_sub (.inl (x.fnT _))) fun D σ H q => aug_read (fun _ _ => rfl) q
    · cases hc
  | .ex e, X, C, P, sc, x, st, hc => by
    unfold ckS at hc
    split at hc
    · simp only [Bool.and_eq_true] at hc
      exact PS.imp (ps_expr (okE e x.toXOk _ hc.2) (noComp_swaps hc.1)) fun D σ H q => ex_read q
    · cases hc
  | .ret e, X, C, P, sc, x, st, hc => by
    unfold ckS at hc
    split at hc
    · exact PS.imp (ps_ret (okE e x.toXOk _ hc)) fun D σ H q => ret_read q
    · split at hc
      · exact PS.imp ps_retN fun D σ H q => retN_read q
      · cases hc
    · cases hc
  | .ifs c a b, X, C, P, sc, x, st, hc => by
    unfold ckS at hc
    split at hc
    · simp only [Bool.and_eq_true] at hc
      obtain ⟨⟨h1, h2⟩, h3⟩ := hc
      exact PS.imp (ps_if (okT c x.toXOk _ h1).1 (okSs a x _ h2) (okSs b x _ h3)) fun D σ H q => if_read q
    · cases hc
  | .for_ dr t it b, X, C, P, sc, x, st, hc => by
    unfold ckS at hc
    split at hc
    · rename_i tg iter body pos
      simp only [Bool.and_eq_true] at hc
      obtain ⟨⟨⟨h1, h2⟩, h3⟩, h4⟩ := hc
      have hb : PSs X body (tB X.K C P dr b) := by
        refine ⟨fun pins s σ H D I q => ?_⟩
        unfold tB at q
        split at q
        · obtain ⟨n, ns, q⟩ := q
          exact (okSs b (x.inner (n := n) (ns := ns)) _ h4).run pins s σ H D I q
        · exact (okSs b x _ h4).run pins s σ H D I q
      exact PS.imp (ps_for x.pass x.calm (okI it x.toXOk tg iter h3) (pg_tg x.calm x.nd x.hl h1) hb (noSet_fold h2)) fun D σ H q => forS_read q
    · cases hc
  | .whl c b, X, C, P, sc, x, st, hc => by
    unfold ckS at hc
    split at hc
    · simp only [Bool.and_eq_true] at hc
      exact PS.imp (ps_while x.pass (okT c x.toXOk _ hc.1).1 (okSs b x _ hc.2)) fun D σ H q => while_read q
    · cases hc
  | .pass, X, C, P, sc, x, st, hc => by
    unfold ckS at hc
    split at hc
    · exact PS.imp ps_pass fun D σ H ⟨G, S, W, hG, hS, q⟩ => by simp only [MP.evS] at q; exact q σ H W .refl hG hS
    · cases hc
  | .brk, X, C, P, sc, x, st, hc => by
    unfold ckS at hc
    split at hc
    · exact PS.imp ps_break fun D σ H ⟨G, S, W, hG, hS, q⟩ => by simp only [MP.evS] at q; exact q σ H W .refl hG hS
    · cases hc
  | .cont, X, C, P, sc, x, st, hc => by
    unfold ckS at hc
    split at hc
    · exact PS.imp ps_continue fun D σ H ⟨G, S, W, hG, hS, q⟩ => by simp only [MP.evS] at q; exact q σ H W .refl hG hS
    · cases hc
  | .frz i, X, C, P, sc, x, st, hc => by
    unfold ckS at hc
    cases hc
  | .bad, X, C, P, sc, x, st, hc => ⟨fun pins s σ H D I q => by
    obtain ⟨G, S, W, hG, hS, q⟩ := q
    simp only [MP.evS] at q
    exact q.elim⟩
theorem okSs {h : Hd} {k : Nat} : ∀ (ss : MP.Sms) {X : L2.Cx} {C : MP.Cx} {P : Post} {sc : Scope} (x : SOk h k X C P sc) (st : List Stmt), ckSs h X.N sc ss st = true → PSs X st (tS X.K C P (MP.evSs C ss))
  | .nil, X, C, P, sc, x, st, hc => by
    unfold ckSs at hc
    split at hc
    · exact PSs.imp pss_nil fun D σ H ⟨G, S, W, hG, hS, q⟩ => by simp only [MP.evSs] at q; exact q σ H W .refl hG hS
    · cases hc
  | .cons s ss, X, C, P, sc, x, st, hc => by
    unfold ckSs at hc
    split at hc
    · rename_i hg
      have hs := okSs ss x st hc
      cases s with
      | frz i => exact ghost_frz hs
      | _ => cases hg
    · split at hc
      · rename_i y ys
        simp only [Bool.and_eq_true] at hc
        exact PSs.imp (pss_cons (okS s x y hc.1) (okSs ss x ys hc.2)) fun D σ H ⟨G, S, W, hG, hS, q⟩ => by
          simp only [MP.evSs] at q
          exact ⟨G, S, W, hG, hS, q.next⟩
      · cases hc
end
end MS

set_option Elab.async false
set_option linter.all false
set_option maxRecDepth 100000
set_option autoImplicit false
set_option maxHeartbeats 4000000
/-! MS10: all defs keep what the evaluator promises; the facts of the head; the law's end. -/
namespace MS
open PySem PySem.Spec PyProof.Rows L2
variable [TW]

/-- a def of the text -/
structure DX where
  df : MP.Df
  qual : Str
  params : Arguments
  body : List Stmt
  scope : Scope
  N : List Str
  ps : List Str
  bind : ∀ (K : Fg) (f : Addr) (fd : FuncData), FunD K (so df.name) qual params body scope [] [] f fd → Binds K fd ps []
def DX.dd (d : DX) : He.DefD := ⟨(if d.df.cls = "" then (so d.df.name, none) else (so d.df.cls, some (so d.df.name))), so d.df.name, d.qual, d.params, d.body, d.scope, [], []⟩
def DX.ok (h : Hd) (d : DX) : Bool := C8.scC d.N d.ps d.scope && decide (d.ps.length = d.df.n) && decide (d.N.length = d.df.m) && decide (d.df.name ≠ "") && ckSs h d.N d.scope d.df.body d.body
/-! ### a def's body -/
section
variable {h : Hd} {K : Fg} {w : World} {mg : Str → Option Value} {base : Heap} {P : Program}
theorem start_rep {H : Hp} {W : Wd} {N : List Str} {m : Nat} {xs : List MP.Vl} {vs : List V} (r : RepVs K H W xs vs) (hm : N.length = m) : EnvR K H W (MP.startE m xs) (L2.start N vs) := by
  have hl := r.length
  unfold MP.startE L2.start
  refine ⟨by simp only [List.length_append, List.length_map, List.length_replicate]; omega, fun i x e => ?_⟩
  by_cases hi : i < xs.length
  · rw [List.getElem?_append_left (by simpa using hi), List.getElem?_map] at e
    cases ex : xs[i]? with
    | none => rw [ex] at e; cases e
    | some y =>
      rw [ex] at e
      cases e
      obtain ⟨v, e1, r1⟩ := r.get ex
      refine ⟨v, ?_, r1⟩
      rw [List.getElem?_append_left (by rw [List.length_map]; omega), List.getElem?_map, e1]
      rfl
  · rw [List.getElem?_append_right (by simpa using hi), List.getElem?_replicate] at e
    split at e <;> cases e
/-- the body's end -/
def endP (E : XK) : Post := fun x _ _ _ H => ∀ cls dd, ExnR K x cls dd → E cls dd H
theorem fin_keep {n0 : Nat} {H : Hp} {W : Wd} {n : Nat} {q : MP.Q} {Q : VK} {E : XK} (h : spR K n0 (MP.fin true n q) H W Q E) : wpS K n0 (endP (K := K) E) H W q { nx := fun _ H' => Q .non H', rt := Q } := by
  cases q with
  | ok f G S =>
    cases f with
    | nx => exact fun σ H' W' l e g => h .non H' W' l g rfl
    | rt v => exact fun u H' W' l g r => h u H' W' l g r
    | bk => exact h.elim
    | ct => exact h.elim
  | ex x G S => exact fun H' W' l g cls dd hx => h cls dd H' W' l g hx
  | no => exact h.elim
theorem fin_cut {n0 : Nat} {H : Hp} {W : Wd} {S0 : MP.St} {q : MP.Q} {Q : VK} {E : XK} (g0 : Good K n0 H W S0) (h : spR K n0 (MP.fin false S0.length q) H W Q E) :
    wpS K S0.length (endP (K := K) E) H ⟨W.F, W.mu, W.T, fun m => W.ns m ∨ m = n0⟩ q { nx := fun _ H' => Q .non H', rt := Q } := by
  have hn : W.mu.length ≤ S0.length := Nat.le_of_eq g0.len
  have c1 : ∀ {H' : Hp} {W' : Wd} {S : MP.St}, Le H ⟨W.F, W.mu, W.T, fun m => W.ns m ∨ m = n0⟩ H' W' → Good K S0.length H' W' S → Good K n0 H' (cutW S0.length W.ns W') (S.take S0.length) := fun l g => Good.cut g (l.nn _ (.inr rfl)) fun m hm => ⟨l.nn _ (.inl hm), g0.nle m hm⟩
  cases q with
  | ok f G S =>
    cases f with
    | nx => exact fun σ H' W' l e g => h .non H' _ (l.cut hn) (c1 l g) rfl
    | rt v =>
      intro u H' W' l g r
      cases v with
      | p i => exact h.elim
      | d x => exact h u H' _ (l.cut hn) (c1 l g) (rep_cut rfl r)
      | f x => exact h u H' _ (l.cut hn) (c1 l g) (rep_cut rfl r)
      | s x => exact h u H' _ (l.cut hn) (c1 l g) (rep_cut rfl r)
      | r x => exact h u H' _ (l.cut hn) (c1 l g) (rep_cut rfl r)
    | bk => exact h.elim
    | ct => exact h.elim
  | ex x G S => exact fun H' W' l g cls dd hx => h cls dd H' _ (l.cut hn) (c1 l g) hx
  | no => exact h.elim
theorem def_body {k : Nat} {d : MP.Df} {body : List Stmt} {scope : Scope} {N ps : List Str} {qual : Str} {f : Addr} (T : Tx K w mg h) (F : ∀ j, j ≤ k → Fns P w K mg base h j) (S : FnScope N ps scope) (hm : N.length = d.m) (hc : ckSs h N scope d.body body = true)
    (ha : h.P.at_ d.cls d.name = some d) (hne : d.name ≠ "") (cdv : Value) (A : Around) (outer : List Env) (s : Shared) (H : Hp) (vs : List V) (Q : VK) (E : XK) (hr : Room2 k (A.deeper (envOfC qual scope s.heap.objs.size f cdv))) (gu : h.top = true → A.guards = some []) (hsp : spD K h.P (k + 1) d vs H Q E) :
    ∃ t, PSs (cxOf (L2.CX P w) P w K mg base N qual scope f cdv A outer s H E) body t ∧ t { nx := fun _ H' => Q .non H', rt := Q } (L2.start N vs) H := by
  obtain ⟨n0, xs, S0, W, hl, rv, g, sp⟩ := hsp
  unfold MP.run at sp
  rw [if_neg hne, ha] at sp
  simp only [hl, if_pos] at sp
  have tk : Takes (cxOf (L2.CX P w) P w K mg base N qual scope f cdv A outer s H E) (fun cls d _ H => E cls d H) := takes_of rfl rfl rfl rfl
  have xok : ∀ n, SOk h k (cxOf (L2.CX P w) P w K mg base N qual scope f cdv A outer s H E) ⟨MP.run h.P k, n, h.P.gd, fun g => (h.P.at_ "" g).isSome⟩ (endP (K := K) E) scope := fun n =>
    ⟨⟨T, F k (Nat.le_refl _), fun j hj => F j (Nat.le_of_lt hj), rfl, S.nd, rfl, hr.1, hr.2, tk.imp fun cls dd σ H' q => by
      obtain ⟨x, G, S', W', hx, _, _, p⟩ := q
      exact p cls dd hx, rfl, gu⟩, fun _ => rfl, passes_of rfl, S.kind⟩
  cases hk : d.keep with
  | true =>
    rw [hk] at sp
    exact ⟨_, okSs d.body (xok n0) body hc, MP.startE d.m xs, S0, W, start_rep rv hm, g, fin_keep sp⟩
  | false =>
    rw [hk] at sp
    obtain ⟨g1, l1⟩ := g.inner
    exact ⟨_, okSs d.body (xok S0.length) body hc, MP.startE d.m xs, S0, _, start_rep (rv.mono l1) hm, g1, fin_cut g sp⟩
theorem at_find {l : List MP.Df} (nd : (l.map fun d => (d.cls, d.name)).Nodup) {d : MP.Df} (hd : d ∈ l) : (l.find? fun e => e.cls == d.cls && e.name == d.name) = some d := by
  induction l with
  | nil => cases hd
  | cons e l ih =>
    rw [List.map_cons, List.nodup_cons] at nd
    rcases List.mem_cons.mp hd with rfl | hd
    · rw [List.find?_cons]
      simp
    · rw [List.find?_cons]
      have ne : (e.cls == d.cls && e.name == d.name) = false := by
        rw [Bool.eq_false_iff]
        intro z
        rw [Bool.and_eq_true] at z
        refine nd.1 (List.mem_map.mpr ⟨d, hd, ?_⟩)
        rw [eq_of_beq z.1, eq_of_beq z.2]
      rw [ne]
      exact ih nd.2 hd
/-- every def of the text is there -/
structure Text (K : Fg) (h : Hd) (dxs : List DX) : Prop where
  nt : h.top = false
  defs : h.P.defs = dxs.map (·.df)
  nd : (h.P.defs.map fun d => (d.cls, d.name)).Nodup
  ok : ∀ d ∈ dxs, d.ok h = true
  fun_ : ∀ d ∈ dxs, ∃ fd, FunD K (so d.df.name) d.qual d.params d.body d.scope [] [] (dAd K d.df) fd
theorem fn_at {dxs : List DX} (T : Tx K w mg h) (X : Text K h dxs) {k : Nat} (ih : ∀ j, j < k → Fns P w K mg base h j) {dx : DX} (hx : dx ∈ dxs) {fd : FuncData} (FD : FunD K (so dx.df.name) dx.qual dx.params dx.body dx.scope [] [] (dAd K dx.df) fd) :
    FnOk P w K mg base (L2.CX P w) k (dAd K dx.df) fd dx.ps (spD K h.P k dx.df) := by
  have hok := X.ok dx hx
  have hd : dx.df ∈ h.P.defs := by
    rw [X.defs]
    exact List.mem_map.mpr ⟨dx, hx, rfl⟩
  unfold DX.ok at hok
  simp only [Bool.and_eq_true, decide_eq_true_eq] at hok
  obtain ⟨⟨⟨⟨h1, h2⟩, h3⟩, h4⟩, h5⟩ := hok
  have S := C8.fnScope_by h1
  have hlen : ∀ (j : Nat) (vs : List V) (H : Hp) (Q : VK) (E : XK), spD K h.P j dx.df vs H Q E → vs.length = dx.ps.length := fun j vs H Q E ⟨n0, xs, S0, W, hl, rv, _, _⟩ => by
    rw [rv.length, hl, h2]
  cases k with
  | zero =>
    refine ⟨hlen 0, fun A outer s H args us vs Q E hr e0 hb r hsp => ?_⟩
    obtain ⟨n0, xs, S0, W, hl, rv, g, sp⟩ := hsp
    exact sp.elim
  | succ k =>
    exact ⟨hlen (k + 1), fun A outer s H args us vs Q E hr e0 hb r hsp => def_here FD S hr e0 hb r (hlen (k + 1) vs H Q E hsp) fun cdv hr' => def_body T (fun j hj => ih j (Nat.lt_succ_of_le hj)) S h3 h5 (at_find X.nd hd) h4 cdv A outer s H vs Q E (room2_of hr hr') (fun z => by rw [X.nt] at z; cases z) hsp⟩
theorem fns_all {dxs : List DX} (T : Tx K w mg h) (X : Text K h dxs) : ∀ k, Fns P w K mg base h k := by
  intro k
  induction k using Nat.strongRecOn with
  | _ k ih =>
    refine ⟨fun d hd => ?_⟩
    rw [X.defs] at hd
    obtain ⟨dx, hx, rfl⟩ := List.mem_map.mp hd
    obtain ⟨fd, FD⟩ := X.fun_ dx hx
    exact ⟨fd, dx.ps, fn_at T X ih hx FD, dx.bind K _ fd FD, FD.kp⟩
end
/-! ### the head's facts -/
def faOf (h : Hd) : List He.Fa := (h.gis.map fun q => He.Fa.int (so q.1) q.2) ++ (h.free.map fun x => He.Fa.free (so x)) ++ (h.P.defs.map fun d => if d.cls = "" then He.Fa.glo (so d.name) else He.Fa.meth (so d.cls) (so d.name)) ++
  (h.P.cls.map fun c => He.Fa.cls (so c)) ++ (h.P.cls.map fun c => He.Fa.glo (so c)) ++ (h.P.cls.map fun c => He.Fa.mkr (so c)) ++ (h.attrs.map fun q => He.Fa.noat (so q.1) (so q.2)) ++ (h.tabs.map fun t => He.Fa.glo (so t.1))
def exB (h : Hd) (K : Fg) : Bool := h.tabs.all fun t => He.valsB K (He.ga K (so t.1)) (t.2.map fun q => (so q.1, He.Dv.glo (so q.2)))
def tsOf (h : Hd) : List He.Tab := h.tabs.map fun t => (fun K => He.ga K (so t.1), t.2.map fun q => so q.1)
section
variable {h : Hd} {K : Fg} {w : World} {mg : Str → Option Value} {hp : Heap} {fn : List He.DefD}
theorem keys_none {P : Params} {z : Str} : ∀ {l : List DictEntry} {ks : List Str}, l.map He.keyOf = He.keysIn P ks → z ∉ ks → l.find? (·.key.isStr z) = none ∧ l.any (·.refKey) = false
  | [], _, _, _ => ⟨rfl, rfl⟩
  | e :: r, [], h, _ => by cases h
  | e :: r, k :: ks, h, hz => by
    have h1 : He.keyOf e :: r.map He.keyOf = some (k, PyData.keyHash P k) :: He.keysIn P ks := h
    injection h1 with h2 h3
    obtain ⟨a1, a2⟩ := keys_none (z := z) h3 (fun q => hz (List.mem_cons_of_mem _ q))
    unfold He.keyOf at h2
    split at h2
    · rename_i x t q
      have h5 := (Prod.mk.inj (Option.some.inj h2)).1
      have ne : ¬ x = z := fun w => hz (by rw [← w, h5]; exact List.mem_cons_self)
      refine ⟨?_, ?_⟩
      · rw [List.find?_cons]
        have : e.key.isStr z = false := by
          rw [q]
          simp only [Value.isStr]
          first | exact decide_eq_false ne | exact beq_false_of_ne ne | simp [ne]
        rw [this]
        exact a1
      · rw [List.any_cons, a2, Bool.or_false]
        unfold DictEntry.refKey
        rw [q]
    · cases h2
theorem tab_keys {ts : List He.Tab} {fn : List He.DefD} {fa : List He.Fa} (c : He.SaysT fa fn ts w K) (i : Nat) {t : (PySem.W.Frag → Addr) × List Str} (h : ts[i]? = some t) : ∃ es n, KDict K w (t.1 K) es n ∧ ∀ z : Str, z ∉ t.2 → PySem.W.nsIn K (t.1 K) z = some none := by
  have e : ts.map (fun t => He.dicW K (t.1 K)) = ts.map fun t => some (He.keysIn w.params t.2) := congrArg (fun z : He.AlT => z.2) c
  have e2 : (ts.map fun t => He.dicW K (t.1 K))[i]? = (ts.map fun t => some (He.keysIn w.params t.2))[i]? := by rw [e]
  rw [List.getElem?_map, List.getElem?_map, h] at e2
  have e3 : He.dicW K (t.1 K) = some (He.keysIn w.params t.2) := Option.some.inj e2
  obtain ⟨es, n, kd⟩ := He.dicW_ok e3
  refine ⟨es, n, kd, fun z hz => ?_⟩
  unfold He.dicW at e3
  rw [kd.at_] at e3
  have e4 : es.toList.map He.keyOf = He.keysIn w.params t.2 := by
    simp only at e3
    split at e3
    · exact Option.some.inj e3
    · cases e3
  obtain ⟨a1, a2⟩ := keys_none (z := z) e4 hz
  unfold PySem.W.nsIn
  rw [kd.at_]
  simp only [a1, a2]
  rfl
theorem tx_of (hw : w = TW.w) {fa : List He.Fa} (KX : K.In hp) (G : hp.Ns mainGlobals mg) (c : He.SaysX fa fn (tsOf h) [] (exB h) w hp K) (hfa : ∀ f ∈ faOf h, f ∈ fa) (hg : (h.tabs.all fun t => decide (h.P.gd t.1 = some t.2)) = true) : Tx K w mg h := by
  have fc : ∀ f ∈ faOf h, f.ok K = true := fun f hf => c.t.d.facts (hfa f hf)
  unfold faOf at fc
  simp only [List.mem_append] at fc
  refine ⟨hw, fun q hq => ?_, fun x hx => ?_, fun d hd e => ?_, fun d hd e => ?_, fun cl hc => ⟨?_, ?_, ?_⟩, fun q hq => ?_, fun t ht => ?_⟩
  · exact He.int_ok KX G (fc _ (.inl (.inl (.inl (.inl (.inl (.inl (.inl (List.mem_map.mpr ⟨q, hq, rfl⟩)))))))))
  · exact He.free_ok KX G (fc _ (.inl (.inl (.inl (.inl (.inl (.inl (.inr (List.mem_map.mpr ⟨x, hx, rfl⟩)))))))))
  · have z := fc (He.Fa.glo (so d.name)) (.inl (.inl (.inl (.inl (.inl (.inr (List.mem_map.mpr ⟨d, hd, if_pos e⟩)))))))
    exact He.glo_ok KX G z
  · have z := fc (He.Fa.meth (so d.cls) (so d.name)) (.inl (.inl (.inl (.inl (.inl (.inr (List.mem_map.mpr ⟨d, hd, if_neg e⟩)))))))
    have z2 := He.meth_ok z
    unfold dAd
    rw [if_neg e]
    exact z2
  · exact He.cls_ok (fc _ (.inl (.inl (.inl (.inl (.inr (List.mem_map.mpr ⟨cl, hc, rfl⟩)))))))
  · exact He.glo_ok KX G (fc _ (.inl (.inl (.inl (.inr (List.mem_map.mpr ⟨cl, hc, rfl⟩))))))
  · exact He.mkr_ok (fc _ (.inl (.inl (.inr (List.mem_map.mpr ⟨cl, hc, rfl⟩)))))
  · exact He.noat_ok (fc _ (.inl (.inr (List.mem_map.mpr ⟨q, hq, rfl⟩))))
  · refine ⟨He.glo_ok KX G (fc _ (.inr (List.mem_map.mpr ⟨t, ht, rfl⟩))), fun q hq => ?_, ?_⟩
    · obtain ⟨i, hi, e⟩ := List.mem_iff_getElem.mp ht
      obtain ⟨es, n, hk⟩ := c.t.tab i (t := (fun K => He.ga K (so t.1), t.2.map fun q => so q.1)) (by unfold tsOf; rw [List.getElem?_map, List.getElem?_eq_getElem hi, e]; rfl)
      have hv := List.all_eq_true.mp c.more t ht
      obtain ⟨u, h1, h2⟩ := He.valsB_ok hv (q := (so q.1, He.Dv.glo (so q.2))) (List.mem_map.mpr ⟨q, hq, rfl⟩)
      exact ⟨es, n, u, hk.at_, hk.lit, h1, h2⟩
    · refine ⟨of_decide_eq_true (List.all_eq_true.mp hg t ht), ?_⟩
      obtain ⟨i, hi, e⟩ := List.mem_iff_getElem.mp ht
      obtain ⟨es, n, kd, f⟩ := tab_keys c.t i (t := (fun K => He.ga K (so t.1), t.2.map fun q => so q.1)) (by unfold tsOf; rw [List.getElem?_map, List.getElem?_eq_getElem hi, e]; rfl)
      refine ⟨es, n, kd, fun z hz => f z fun hm => ?_⟩
      obtain ⟨q, hq, e⟩ := List.mem_map.mp hm
      exact hz q hq e
theorem text_of {fa : List He.Fa} {dxs : List DX} (c : He.SaysX fa fn (tsOf h) [] (exB h) w hp K) (hsub : ∀ d ∈ dxs.map DX.dd, d ∈ fn) (nt : h.top = false) (hd : h.P.defs = dxs.map (·.df)) (nd : (h.P.defs.map fun d => (d.cls, d.name)).Nodup) (ok : (dxs.all fun d => d.ok h) = true) : Text K h dxs := by
  refine ⟨nt, hd, nd, List.all_eq_true.mp ok, fun d hdx => ?_⟩
  obtain ⟨fd, F⟩ := c.t.d.defs (d := d.dd) (hsub _ (List.mem_map.mpr ⟨d, hdx, rfl⟩))
  refine ⟨fd, ?_⟩
  have e : He.fAd K d.dd.at_ = dAd K d.df := by
    unfold DX.dd dAd He.fAd
    by_cases z : d.df.cls = ""
    · simp only [if_pos z]
    · simp only [if_neg z]
  rw [e] at F
  exact F
end
/-! ### the law's end -/
/-- what a law's def may let out: nothing that is wished -/
def CXL (P : Program) : CXT := fun outer H s E u s' => ∃ w, L2.CX P w outer H s E u s'
omit [TW] in
theorem cxl_none {P : Program} (H : Hp) (s : Shared) (e : Value) (s' : Shared) (h : CXL P [] H s (fun _ _ _ => False) e s') : False := by
  obtain ⟨w, _, _, _, _, _, _, _, _, _, _, _, _, z⟩ := h
  exact z
theorem fnok_l {P : Program} {w : World} {K : Fg} {mg : Str → Option Value} {base : Heap} {k : Nat} {f : Addr} {fd : FuncData} {ps : List Str} {sp : Sp} (F : FnOk P w K mg base (L2.CX P w) k f fd ps sp) : FnOk P w K mg base (CXL P) k f fd ps sp :=
  ⟨F.len, fun A outer s H args us vs Q E hr he hb hv hs => codeAny_mono (F.run A outer s H args us vs Q E hr he hb hv hs) fun r s' q => by
    cases r with
    | ok fl => cases fl <;> exact q
    | error e => exact ⟨w, q⟩⟩
/-- the script as the evaluator takes it -/
def scr (ns : List Int) : MP.Vl := .s (ns.map MP.D.int)
theorem script_rep {K : Fg} {H : Hp} {W : Wd} {a : Addr} {ns : List Int} (hO : Only H) (hS : SqL K H a (ns.map V.int)) : RepV K H W (scr ns) (.ref a) := by
  refine ⟨a, ns.map V.int, rfl, ?_, ?_⟩
  · rcases hS with (e | ⟨o, e⟩) | e
    · rcases hO a with z | ⟨o, xs, z⟩ <;> rw [z] at e <;> cases e
    · exact .inl ⟨o, e⟩
    · exact .inr e
  · clear hS
    induction ns with
    | nil => rfl
    | cons n ns ih => exact ⟨.int n, _, rfl, rfl, ih⟩
theorem law_sp {K : Fg} {P : MP.Pg} {k : Nat} {d : MP.Df} {S : MP.St} {H : Hp} {a : Addr} {ns : List Int} (hn : d.n = 1) (hO : Only H) (hS : SqL K H a (ns.map V.int)) (hr : MP.run P k 0 d.cls d.name [scr ns] [] = .ok (.d (.bl true)) S) :
    spD K P k d [.ref a] H (fun v _ => v = .bl true) fun _ _ _ => False := by
  refine ⟨0, [scr ns], [], ⟨fun _ => False, [], fun _ => False, fun _ => False⟩, hn.symm, ⟨_, _, rfl, script_rep hO hS, rfl⟩, ?_, ?_⟩
  · refine ⟨rfl, Nat.le_refl _, fun i c a h => ?_, fun i c a h => ?_, fun i j a c c' h => ?_, fun a h => h.elim, fun a h => h.elim, fun i c a h => ?_, fun i c h => ?_, fun n h => h.elim, fun n i c _ _ h => ?_⟩ <;> simp at h
  · rw [hr]
    intro v H' W' l g r
    exact r
end MS

set_option Elab.async false
set_option linter.all false
set_option maxRecDepth 100000
set_option autoImplicit false
set_option maxHeartbeats 4000000
/-! MST: a law's def as it is called at the top alone: what stands on the stack there is known. -/
namespace MS
open PySem PySem.Spec PyProof.Rows L2
variable [TW]
/-- what is asked of a law's def: its call at the top -/
def TopOk (P : Program) (w : World) (K : Fg) (mg : Str → Option Value) (CX : CXT) (n : Nat) (fa : Addr) : Prop :=
  ∀ (base : Heap) (s : Shared) (H : Hp) (a : Addr) (ns : List Int), K.In base → base.Ns mainGlobals mg → ns.length ≤ n → Only H → SqL K H a (ns.map V.int) → Env0 P w K mg base callerA [] s H →
    codeAny (model P w) callerA (.call (.ref fa) ⟨[.ref a], []⟩) (CR CX [] P w H s (fun v _ => v = .bl true) fun _ _ _ => False) s
omit [TW] in
/-- what the call leaves -/
theorem top_end {P : Program} {w : World} {CX : CXT} {H : Hp} {s : Shared} {r : Result} {s' : Shared} (none_ : ∀ e s', CX [] H s (fun _ _ _ => False) e s' → False) (hO : Only H) (hok : HOk P w H s.heap)
    (h : CR CX [] P w H s (fun v _ => v = .bl true) (fun _ _ _ => False) r s') : r = .ok (.ret (.bool true)) ∧ OldK s.heap s'.heap ∧ s'.os = s.os ∧ AllBare s'.gens := by
  cases r with
  | error e => exact (none_ e s' h).elim
  | ok fl =>
    cases fl with
    | ret u =>
      obtain ⟨v, H', os, bare, un, hok', rv, q⟩ := h
      obtain rfl : v = .bl true := q
      obtain rfl : u = Value.bool true := rv
      refine ⟨rfl, OldK.of_keep fun b o e => ?_, os, bare⟩
      rcases hO b with z | ⟨ob, xs, z⟩
      · exact un.keep b o e z (fun c => by cases c) (by simp)
      · have a1 := (hok b _ z).1
        have a2 := (hok' b _ (un.frzs b ob _ z)).1
        rw [e] at a1
        cases a1
        exact a2
    | next => exact False.elim h
    | brk => exact False.elim h
    | cont => exact False.elim h
omit [TW] in
theorem walk_top {l : PySem.W.OpenLaw} {n : Nat} {q : Program} {loose : List Str} {XP : (Str → Option Value) → Heap → Prop} {YP : World → Heap → Prop} {d : DefRec} {CX : CXT}
    (hn : l.most = some n) (hn2 : n ≤ sizeLine) (hdf : d.params.defaults = [])
    (F : ∀ (w : World) (mg : Str → Option Value) (fa : Addr) (h : Heap), YP w h → h.Ns mainGlobals mg → mg d.name = some (.ref fa) → ∃ K : Fg, K.In h ∧ TopOk l.prog w K mg CX n fa)
    (none_ : ∀ (H : Hp) (s : Shared) (e : Value) (s' : Shared), CX [] H s (fun _ _ _ => False) e s' → False) :
    PySem.W.WalkO q loose XP YP l.row.toRowW d [] (fun f vs => PySem.call f vs) := by
  refine Att.attach_call hn hdf fun w s₀ s₁ mg mb fa o pm cd doc a vs ns G Y ho hd hcd hmg hobj hints hlen hg => ?_
  obtain ⟨K, KX, top⟩ := F w mg fa _ Y G.T.g hmg
  have rv := vals_ints hints
  have lenV := hints.length
  -- from a heap in which at most the script is tracked
  have go : ∀ H : Hp, Only H → SqL K H a (ns.map V.int) → HOk l.prog w H s₁.heap → (∀ b, H b ≠ none → b = a) → (H a ≠ none → K.lookup a = none) →
      codeAny (model l.prog w) callerA (.call (.ref fa) ⟨[.ref a], []⟩) (fun r s' => r = .ok (.ret (.bool true)) ∧ OldK s₁.heap s'.heap ∧ s'.os = s₁.os ∧ AllBare s'.gens) s₁ := by
    intro H hO hS hok one out
    have others : ∀ {b : Addr}, b ≠ a → H b = none := fun {b} ne => by
      cases e : H b with
      | none => rfl
      | some u => exact absurd (one b (by rw [e]; simp)) ne
    have hidden : ∀ {b : Addr} {ob : Obj}, s₁.heap.get? b = some ob → H b = none → (hidT s₁.heap H).get? b = some ob := fun e z => hidT_get e z
    have kb : K.In (hidT s₁.heap H) := fun b ob e => hidden (KX b ob e) (by
      by_cases eb : b = a
      · subst eb
        cases z : H b with
        | none => rfl
        | some u =>
          have y := out (by rw [z]; simp)
          rw [y] at e
          cases e
      · exact others eb)
    have ns_ : ∀ {b : Addr} {m : Str → Option Value}, s₁.heap.Ns b m → (hidT s₁.heap H).Ns b m := by
      rintro b m ⟨ob, es, ep, e, d1, r⟩
      refine ⟨ob, es, ep, hidden e (others fun eb => ?_), d1, r⟩
      subst eb
      rw [hobj] at e
      cases e
      have d2 : Data.seq vs.toArray _ = Data.dict es ep := d1
      cases d2
    have lim : (hidT s₁.heap H).NoLimit := by
      obtain ⟨mc, h1, h2⟩ := G.T.nolimit
      exact ⟨mc, ns_ h1, h2⟩
    have e0 : Env0 l.prog w K mg (hidT s₁.heap H) callerA [] s₁ H :=
      ⟨rfl, ⟨kb, ns_ G.T.g, ⟨mb, ns_ G.T.b, G.T.builtins⟩, lim⟩, fun b ob e => of_hidT e, Nat.le_of_eq (hidT_size _ _), trivial, fun b hb => (by cases hb), hok, .of_eq hg⟩
    exact codeAny_mono (top _ s₁ H a ns kb (ns_ G.T.g) hlen hO hS e0) fun r s' h => top_end (none_ H s₁) hO hok h
  have big : ns.length ≤ sizeLine := Nat.le_trans hlen hn2
  cases hk : K.lookup a with
  | some ob =>
    have e := KX a ob hk
    rw [hobj] at e
    cases e
    refine go (fun _ => none) (fun _ => .inl rfl) (.inr ⟨_, vs.toArray, _, hk, rfl, rfl, rfl, by rw [List.size_toArray, lenV]; exact big, by simpa using rv⟩) (fun b u z => ?_) (fun b z => absurd rfl z) fun z => absurd rfl z
    have z : (none : Option HO) = some u := z
    cases z
  | none =>
    let Hs : Hp := fun b => if b = a then some (.frz { cls := .type "list", data := .seq vs.toArray } (.lst (ns.map V.int))) else none
    have at_ : Hs a = some (.frz { cls := .type "list", data := .seq vs.toArray } (.lst (ns.map V.int))) := if_pos rfl
    have off : ∀ {b}, b ≠ a → Hs b = none := fun ne => if_neg ne
    refine go Hs (fun b => ?_) (.inl (.inr ⟨_, at_⟩)) (fun b u z => ?_) (fun b z => Classical.byContradiction fun ne => z (off ne)) fun _ => hk
    · by_cases eb : b = a
      · subst eb
        exact .inr ⟨_, _, at_⟩
      · exact .inl (off eb)
    · by_cases eb : b = a
      · subst eb
        rw [at_] at z
        cases z
        exact ⟨hobj, by rw [List.length_map]; exact big, vs, _, rv, hobj⟩
      · rw [off eb] at z
        cases z
/-- the head's words, with leave to show data -/
def Hd.atTop (h : Hd) : Hd := ⟨h.P, h.gis, h.free, h.attrs, h.tabs, true⟩
/-- a def whose body ends as the evaluator tells, called at the top -/
theorem top_body {h : Hd} {K : Fg} {w : World} {mg : Str → Option Value} {base : Heap} {P : Program} {k : Nat} {d : MP.Df} {body : List Stmt} {scope : Scope} {N ps : List Str} {qual : Str} {f : Addr} (T : Tx K w mg h) (F : ∀ j, Fns P w K mg base h j) (S : FnScope N ps scope) (hm : N.length = d.m) (hc : ckSs h.atTop N scope d.body body = true)
    (hk : d.keep = false) (cdv : Value) (A : Around) (outer : List Env) (s : Shared) (H : Hp) (vs : List V) (xs : List MP.Vl) (W : Wd) (Q : VK) (E : XK) (hr : Room2 k (A.deeper (envOfC qual scope s.heap.objs.size f cdv))) (gu : A.guards = some []) (hl : xs.length = d.n)
    (rv : RepVs K H W xs vs) (g : Good K 0 H W []) (sp : spR K 0 (MP.runD h.P k d xs []) H W Q E) :
    ∃ t, PSs (cxOf (L2.CX P w) P w K mg base N qual scope f cdv A outer s H E) body t ∧ t { nx := fun _ H' => Q .non H', rt := Q } (L2.start N vs) H := by
  unfold MP.runD at sp
  simp only [hl, if_pos, hk] at sp
  have tk : Takes (cxOf (L2.CX P w) P w K mg base N qual scope f cdv A outer s H E) (fun cls d _ H => E cls d H) := takes_of rfl rfl rfl rfl
  have xok : SOk h.atTop k (cxOf (L2.CX P w) P w K mg base N qual scope f cdv A outer s H E) ⟨MP.run h.P k, 0, h.P.gd, fun g => (h.P.at_ "" g).isSome⟩ (endP (K := K) E) scope :=
    ⟨⟨⟨T.tw, T.gis, T.free, T.fn, T.mth, T.cls, T.noat, T.tab⟩, ⟨(F k).ok⟩, fun j _ => ⟨(F j).ok⟩, rfl, S.nd, rfl, hr.1, hr.2, tk.imp fun cls dd σ H' q => by
      obtain ⟨x, G, S', W', hx, _, _, p⟩ := q
      exact p cls dd hx, rfl, fun _ => gu⟩, fun _ => rfl, passes_of rfl, S.kind⟩
  obtain ⟨g1, l1⟩ := g.inner
  exact ⟨_, okSs d.body xok body hc, MP.startE d.m xs, [], _, start_rep (rv.mono l1) hm, g1, fin_cut g sp⟩
/-- the facts, the law's name too -/
def faT (h : Hd) (d : MP.Df) : List He.Fa := faOf h ++ [He.Fa.glo (so d.name)]
def DX.okT (h : Hd) (d : DX) : Bool := C8.scC d.N d.ps d.scope && decide (d.ps.length = d.df.n) && decide (d.N.length = d.df.m) && !d.df.keep && ckSs h.atTop d.N d.scope d.df.body d.body
theorem top_sp {K : Fg} {P : MP.Pg} {k : Nat} {d : MP.Df} {S : MP.St} {H : Hp} {a : Addr} {ns : List Int} (hO : Only H) (hS : SqL K H a (ns.map V.int)) (hr : MP.runD P k d [scr ns] [] = .ok (.d (.bl true)) S) :
    ∃ W : Wd, RepVs K H W [scr ns] [.ref a] ∧ Good K 0 H W [] ∧ spR K 0 (MP.runD P k d [scr ns] []) H W (fun v _ => v = .bl true) fun _ _ _ => False := by
  refine ⟨⟨fun _ => False, [], fun _ => False, fun _ => False⟩, ⟨_, _, rfl, script_rep hO hS, rfl⟩, ?_, ?_⟩
  · refine ⟨rfl, Nat.le_refl _, fun i c a h => ?_, fun i c a h => ?_, fun i j a c c' h => ?_, fun a h => h.elim, fun a h => h.elim, fun i c a h => ?_, fun i c h => ?_, fun n h => h.elim, fun n i c _ _ h => ?_⟩ <;> simp at h
  · rw [hr]
    intro v H' W' l g r
    exact r
omit [TW] in
/-- the law's def at the head's facts -/
theorem law_top {P : Program} {h : Hd} {dxs : List DX} {w : World} {K : Fg} {mg : Str → Option Value} {hp : Heap} {k : Nat} {fa : Addr} {dx : DX} {p : Str} {N : Nat} (KX : K.In hp) (G : hp.Ns mainGlobals mg) (c : He.SaysX (faT h dx.df) ((dx :: dxs).map DX.dd) (tsOf h) [] (exB h) w hp K)
    (room : Room (k + 1) callerA) (nt : h.top = false) (hg : (h.tabs.all fun t => decide (h.P.gd t.1 = some t.2)) = true) (hd : h.P.defs = dxs.map (·.df)) (nd : (h.P.defs.map fun d => (d.cls, d.name)).Nodup) (ok : (dxs.all fun d => d.ok h) = true) (okl : dx.okT h = true) (hc : dx.df.cls = "") (hps : dx.ps = [p])
    (hb : ∀ (fd : FuncData), FunD K (so dx.df.name) dx.qual dx.params dx.body dx.scope [] [] (dAd K dx.df) fd → ∀ (s : Shared) (u : Value), BindsTo s fd ⟨[u], []⟩ [(p, u)])
    (hmg : mg (so dx.df.name) = some (.ref fa)) (hn : dx.df.n = 1) (hr : ∀ ns : List Int, ns.length ≤ N → ∃ S, MP.runD h.P k dx.df [scr ns] [] = .ok (.d (.bl true)) S) : K.In hp ∧ TopOk P w K mg (CXL P) N fa := by
  letI : TW := ⟨w⟩
  have T := tx_of (w := w) rfl KX G c (fun f hf => List.mem_append_left _ hf) hg
  have X := text_of (dxs := dxs) c (fun d hd => List.mem_cons_of_mem _ hd) nt hd nd ok
  obtain ⟨fd, F⟩ := c.t.d.defs (d := dx.dd) List.mem_cons_self
  have ead : He.fAd K dx.dd.at_ = dAd K dx.df := by
    unfold DX.dd dAd He.fAd
    simp only [if_pos hc]
  rw [ead] at F
  have FD : FunD K (so dx.df.name) dx.qual dx.params dx.body dx.scope [] [] (dAd K dx.df) fd := F
  have eg := He.glo_ok KX G (c.t.d.facts (f := He.Fa.glo (so dx.df.name)) (List.mem_append_right _ List.mem_cons_self))
  rw [hmg] at eg
  have ea : fa = dAd K dx.df := by
    unfold dAd
    rw [if_pos hc]
    cases eg
    rfl
  subst ea
  unfold DX.okT at okl
  simp only [Bool.and_eq_true, decide_eq_true_eq, Bool.not_eq_true'] at okl
  obtain ⟨⟨⟨⟨h1, h2⟩, h3⟩, h4⟩, h5⟩ := okl
  have S := C8.fnScope_by h1
  rw [hps] at S h2
  refine ⟨KX, fun base s H a ns kb nb hl hO hS e0 => ?_⟩
  obtain ⟨St, er⟩ := hr ns hl
  obtain ⟨W, rv, g, sp⟩ := top_sp (K := K) (P := h.P) (k := k) (d := dx.df) hO hS er
  have run := def_here (CX := L2.CX P w) (us := [.ref a]) (vs := [.ref a]) (Q := fun v _ => v = .bl true) (E := fun _ _ _ => False) FD S room e0 (hb fd FD s (.ref a)) (.cons rfl .nil) rfl
    fun cdv hr' => top_body T (fun j => fns_all T X j) S h3 h5 h4 cdv callerA [] s H [.ref a] [scr ns] W _ _ (room2_of room hr') rfl hn.symm rv g sp
  refine codeAny_mono run fun r s' q => ?_
  cases r with
  | ok fl => cases fl <;> exact q
  | error e => exact ⟨w, q⟩
end MS

set_option Elab.async false
set_option linter.all false
set_option maxRecDepth 100000
/-! MW: what the evaluator comes to, by wishes. -/
namespace MP
def wp {α : Type} (r : R α) (Q : α → St → Prop) : Prop := match r with
  | .ok a S => Q a S
  | _ => False
@[simp] theorem wp_ok {α : Type} (a : α) (S : St) (Q : α → St → Prop) : wp (.ok a S) Q = Q a S := rfl
@[simp] theorem wp_ex {α : Type} (x : Exn) (S : St) (Q : α → St → Prop) : wp (.ex x S) Q = False := rfl
@[simp] theorem wp_no {α : Type} (Q : α → St → Prop) : wp (.no : R α) Q = False := rfl
@[simp] theorem wp_bind {α β : Type} (r : R α) (f : α → St → R β) (Q : β → St → Prop) : wp (r.bind f) Q = wp r fun a S => wp (f a S) Q := by cases r <;> rfl
@[simp] theorem wp_nox {α : Type} (r : R α) (Q : α → St → Prop) : wp r.nox Q = wp r Q := by cases r <;> rfl
theorem wp_of {α : Type} (o : Option α) (S : St) (Q : α → St → Prop) : wp (R.of o S) Q = ∃ a, o = some a ∧ Q a S := by cases o <;> simp [R.of]
@[simp] theorem wp_ite {α : Type} (c : Prop) [Decidable c] (a b : R α) (Q : α → St → Prop) : wp (if c then a else b) Q = if c then wp a Q else wp b Q := by split <;> rfl
theorem wp_mono {α : Type} {r : R α} {Q Q' : α → St → Prop} (h : wp r Q) (k : ∀ a S, Q a S → Q' a S) : wp r Q' := by
  cases r with
  | ok a S => exact k a S h
  | ex x S => exact h
  | no => exact h
theorem wp_run {α : Type} {r : R α} {Q : α → St → Prop} (h : wp r Q) : ∃ a S, r = .ok a S ∧ Q a S := by
  cases r with
  | ok a S => exact ⟨a, S, rfl, h⟩
  | ex x S => exact h.elim
  | no => exact h.elim
def wq (q : Q) (N : Fl → Env → St → Prop) : Prop := match q with
  | .ok f G S => N f G S
  | _ => False
@[simp] theorem wq_ok (f : Fl) (G : Env) (S : St) (N : Fl → Env → St → Prop) : wq (.ok f G S) N = N f G S := rfl
@[simp] theorem wq_ex (x : Exn) (G : Env) (S : St) (N : Fl → Env → St → Prop) : wq (.ex x G S) N = False := rfl
@[simp] theorem wq_no (N : Fl → Env → St → Prop) : wq .no N = False := rfl
@[simp] theorem wq_ite (c : Prop) [Decidable c] (a b : Q) (N : Fl → Env → St → Prop) : wq (if c then a else b) N = if c then wq a N else wq b N := by split <;> rfl
@[simp] theorem wq_go {α : Type} (r : R α) (G : Env) (f : α → St → Q) (N : Fl → Env → St → Prop) : wq (r.go G f) N = wp r fun a S => wq (f a S) N := by cases r <;> rfl
/-- on, or out -/
def on (K : Env → St → Prop) (N : Fl → Env → St → Prop) : Fl → Env → St → Prop
  | .nx, G, S => K G S
  | f, G, S => N f G S
@[simp] theorem on_nx (K : Env → St → Prop) (N : Fl → Env → St → Prop) (G : Env) (S : St) : on K N .nx G S = K G S := rfl
@[simp] theorem on_rt (K : Env → St → Prop) (N : Fl → Env → St → Prop) (v : Vl) (G : Env) (S : St) : on K N (.rt v) G S = N (.rt v) G S := rfl
@[simp] theorem on_bk (K : Env → St → Prop) (N : Fl → Env → St → Prop) (G : Env) (S : St) : on K N .bk G S = N .bk G S := rfl
@[simp] theorem on_ct (K : Env → St → Prop) (N : Fl → Env → St → Prop) (G : Env) (S : St) : on K N .ct G S = N .ct G S := rfl
@[simp] theorem wq_next (q : Q) (f : Env → St → Q) (N : Fl → Env → St → Prop) : wq (q.next f) N = wq q (on (fun G S => wq (f G S) N) N) := by
  cases q with
  | ok fl G S => cases fl <;> rfl
  | ex x G S => rfl
  | no => rfl
theorem wq_mono {q : Q} {N N' : Fl → Env → St → Prop} (h : wq q N) (k : ∀ f G S, N f G S → N' f G S) : wq q N' := by
  cases q with
  | ok f G S => exact k f G S h
  | ex x G S => exact h
  | no => exact h
/-- a turn's end -/
def tn (K : Env → St → Prop) (N : Fl → Env → St → Prop) : Fl → Env → St → Prop
  | .nx, G, S => K G S
  | .ct, G, S => K G S
  | .bk, G, S => N .nx G S
  | .rt v, G, S => N (.rt v) G S
@[simp] theorem tn_nx (K : Env → St → Prop) (N : Fl → Env → St → Prop) (G : Env) (S : St) : tn K N .nx G S = K G S := rfl
@[simp] theorem tn_ct (K : Env → St → Prop) (N : Fl → Env → St → Prop) (G : Env) (S : St) : tn K N .ct G S = K G S := rfl
@[simp] theorem tn_bk (K : Env → St → Prop) (N : Fl → Env → St → Prop) (G : Env) (S : St) : tn K N .bk G S = N .nx G S := rfl
@[simp] theorem tn_rt (K : Env → St → Prop) (N : Fl → Env → St → Prop) (v : Vl) (G : Env) (S : St) : tn K N (.rt v) G S = N (.rt v) G S := rfl
@[simp] theorem wq_turn (q : Q) (f : Env → St → Q) (N : Fl → Env → St → Prop) : wq (q.turn f) N = wq q (tn (fun G S => wq (f G S) N) N) := by
  cases q with
  | ok fl G S => cases fl <;> rfl
  | ex x G S => rfl
  | no => rfl
/-! ### loops -/
/-- a for loop: I by the number of turns -/
theorem wq_for {step : D → Env → St → Q} {ds : List D} {G : Env} {S : St} {N : Fl → Env → St → Prop} (I : Nat → Env → St → Prop) (h0 : I 0 G S)
    (hs : ∀ i d G S, ds[i]? = some d → I i G S → wq (step d G S) (tn (I (i + 1)) N)) (he : ∀ G S, I ds.length G S → N .nx G S) : wq (forL step ds G S) N := by
  have key : ∀ (es : List D) (j : Nat) (G : Env) (S : St), (∀ i d, es[i]? = some d → ds[j + i]? = some d) → j + es.length = ds.length → I j G S → wq (forL step es G S) N := by
    intro es
    induction es with
    | nil =>
      intro j G S _ hl hI
      have e : j = ds.length := by simpa using hl
      subst e
      exact he G S hI
    | cons d es ih =>
      intro j G S hd hl hI
      show wq ((step d G S).turn (forL step es)) N
      rw [wq_turn]
      refine wq_mono (hs j d G S (by simpa using hd 0 d rfl) hI) fun f G' S' q => ?_
      have go : I (j + 1) G' S' → wq (forL step es G' S') N := fun hI' => ih (j + 1) G' S' (fun i d hi => by
        have := hd (i + 1) d (by simpa using hi)
        rw [show j + 1 + i = j + (i + 1) by omega]
        exact this) (by simp at hl; omega) hI'
      cases f with
      | nx => exact go q
      | ct => exact go q
      | bk => exact q
      | rt v => exact q
  exact key ds 0 G S (fun i d h => by simpa using h) (by simp) h0
/-- a comprehension: I by the turn and what is made -/
theorem wp_comp {step : D → St → R (Option D)} {ds : List D} {S : St} {Q : List D → St → Prop} (I : Nat → List D → St → Prop) (h0 : I 0 [] S)
    (hs : ∀ i d acc S, ds[i]? = some d → I i acc S → wp (step d S) fun o S' => match o with
      | some y => acc.length < cap ∧ I (i + 1) (acc ++ [y]) S'
      | none => I (i + 1) acc S') (he : ∀ acc S, I ds.length acc S → Q acc S) : wp (compL step [] ds S) Q := by
  have key : ∀ (es : List D) (j : Nat) (acc : List D) (S : St), (∀ i d, es[i]? = some d → ds[j + i]? = some d) → j + es.length = ds.length → I j acc S → wp (compL step acc es S) Q := by
    intro es
    induction es with
    | nil =>
      intro j acc S _ hl hI
      have e : j = ds.length := by simpa using hl
      subst e
      exact he acc S hI
    | cons d es ih =>
      intro j acc S hd hl hI
      show wp ((step d S).bind _) Q
      rw [wp_bind]
      have hd' : ∀ i d, es[i]? = some d → ds[j + 1 + i]? = some d := fun i d hi => by
        have := hd (i + 1) d (by simpa using hi)
        rw [show j + 1 + i = j + (i + 1) by omega]
        exact this
      have hl' : j + 1 + es.length = ds.length := by simp at hl; omega
      refine wp_mono (hs j d acc S (by simpa using hd 0 d rfl) hI) fun o S' q => ?_
      cases o with
      | none => exact ih (j + 1) acc S' hd' hl' q
      | some y =>
        show wp (if acc.length < cap then compL step (acc ++ [y]) es S' else .no) Q
        rw [if_pos q.1]
        exact ih (j + 1) (acc ++ [y]) S' hd' hl' q.2
  exact key ds 0 [] S (fun i d h => by simpa using h) (by simp) h0
/-- a while loop: I with a measure -/
theorem wq_whl {test : Env → St → R Bool} {body : Env → St → Q} {N : Fl → Env → St → Prop} (I : Nat → Env → St → Prop)
    (hs : ∀ m G S, I m G S → wp (test G S) fun b S' => if b then wq (body G S') (tn (fun G S => ∃ m', m' < m ∧ I m' G S) N) else N .nx G S') :
    ∀ (k m : Nat) (G : Env) (S : St), m < k → I m G S → wq (whlL test body k G S) N := by
  intro k
  induction k with
  | zero => intro m G S h; omega
  | succ k ih =>
    intro m G S h hI
    show wq ((test G S).go G _) N
    rw [wq_go]
    refine wp_mono (hs m G S hI) fun b S' q => ?_
    cases b with
    | false => exact q
    | true =>
      simp only [if_true] at q ⊢
      rw [wq_turn]
      refine wq_mono q fun f G2 S2 q2 => ?_
      cases f with
      | nx =>
        obtain ⟨m', h1, h2⟩ := q2
        exact ih m' G2 S2 (by omega) h2
      | ct =>
        obtain ⟨m', h1, h2⟩ := q2
        exact ih m' G2 S2 (by omega) h2
      | bk => exact q2
      | rt v => exact q2
theorem whl_turn {test : Env → St → R Bool} {body : Env → St → Q} {k : Nat} {G : Env} {S : St} {N : Fl → Env → St → Prop}
    (h : wp (test G S) fun b S' => if b = true then wq (body G S') (tn (fun G S => wq (whlL test body k G S) N) N) else N .nx G S') : wq (whlL test body (k + 1) G S) N := by
  show wq ((test G S).go G _) N
  rw [wq_go]
  refine wp_mono h fun b S' q => ?_
  cases b with
  | false => exact q
  | true =>
    simp only [if_true] at q ⊢
    rw [wq_turn]
    exact q
theorem wq_drop {n : Nat} {q : Q} {N : Fl → Env → St → Prop} (h : wq q fun f G S => match f with
    | .rt v => belowV n (some v) = true ∧ N (.rt v) (cutE n G) (S.take n)
    | f => N f (cutE n G) (S.take n)) : wq (q.drop n) N := by
  cases q with
  | ok f G S =>
    cases f with
    | rt v =>
      obtain ⟨h1, h2⟩ := h
      show wq (if belowV n (some v) = true then _ else _) N
      rw [if_pos h1]
      exact h2
    | nx => exact h
    | bk => exact h
    | ct => exact h
  | ex x G S => exact h
  | no => exact h
/-! ### calls -/
def notP : Vl → Bool
  | .p _ => false
  | _ => true
theorem wp_fin_false {n : Nat} {q : Q} {P : Vl → St → Prop} (h : wq q fun f _ S => match f with
    | .rt v => notP v = true ∧ P v (S.take n)
    | .nx => P (.d .non) (S.take n)
    | _ => False) : wp (fin false n q) P := by
  cases q with
  | ok f G S =>
    cases f with
    | rt v =>
      cases v with
      | p i => exact absurd h.1 Bool.false_ne_true
      | d x => exact h.2
      | f x => exact h.2
      | s x => exact h.2
      | r x => exact h.2
    | nx => exact h
    | bk => exact h
    | ct => exact h
  | ex x G S => exact h
  | no => exact h
theorem wp_fin_true {n : Nat} {q : Q} {P : Vl → St → Prop} (h : wq q fun f _ S => match f with
    | .rt v => P v S
    | .nx => P (.d .non) S
    | _ => False) : wp (fin true n q) P := by
  cases q with
  | ok f G S =>
    cases f with
    | rt v => exact h
    | nx => exact h
    | bk => exact h
    | ct => exact h
  | ex x G S => exact h
  | no => exact h
/-- what a body runs in -/
abbrev cx (P : Pg) (k n0 : Nat) : Cx := ⟨run P k, n0, P.gd, fun g => (P.at_ "" g).isSome⟩
theorem wp_run_false {P : Pg} {k n0 : Nat} {c g : String} {d : Df} {vs : List Vl} {S : St} {Q : Vl → St → Prop} (e : P.at_ c g = some d) (hg : g ≠ "") (hl : vs.length = d.n) (hk : d.keep = false)
    (h : wq (evSs (cx P k S.length) d.body (startE d.m vs) S) fun f _ S' => match f with
      | .rt v => notP v = true ∧ Q v (S'.take S.length)
      | .nx => Q (.d .non) (S'.take S.length)
      | _ => False) : wp (run P (k + 1) n0 c g vs S) Q := by
  unfold run
  rw [if_neg hg, e]
  simp only [hl, if_pos, hk]
  exact wp_fin_false h
theorem wp_run_true {P : Pg} {k n0 : Nat} {c g : String} {d : Df} {vs : List Vl} {S : St} {Q : Vl → St → Prop} (e : P.at_ c g = some d) (hg : g ≠ "") (hl : vs.length = d.n) (hk : d.keep = true)
    (h : wq (evSs (cx P k n0) d.body (startE d.m vs) S) fun f _ S' => match f with
      | .rt v => Q v S'
      | .nx => Q (.d .non) S'
      | _ => False) : wp (run P (k + 1) n0 c g vs S) Q := by
  unfold run
  rw [if_neg hg, e]
  simp only [hl, if_pos, hk]
  exact wp_fin_true h
theorem wp_runD {P : Pg} {k : Nat} {d : Df} {vs : List Vl} {S : St} {Q : Vl → St → Prop} (hl : vs.length = d.n) (hk : d.keep = false)
    (h : wq (evSs (cx P k S.length) d.body (startE d.m vs) S) fun f _ S' => match f with
      | .rt v => notP v = true ∧ Q v (S'.take S.length)
      | .nx => Q (.d .non) (S'.take S.length)
      | _ => False) : wp (runD P k d vs S) Q := by
  unfold runD
  simp only [hl, if_pos, hk]
  exact wp_fin_false h
mutual
theorem idn_refl : ∀ d : D, d.idn d = true
  | .non => rfl
  | .bl _ => by simp [D.idn]
  | .int _ => by simp [D.idn]
  | .str _ => by simp [D.idn]
  | .tup ds => by simp only [D.idn, idns_refl ds]
  | .lst ds => by simp only [D.idn, idns_refl ds]
theorem idns_refl : ∀ ds : List D, D.idns ds ds = true
  | [] => rfl
  | d :: ds => by simp only [D.idns, idn_refl d, idns_refl ds, Bool.and_self]
end
theorem wp_make {P : Pg} {k n0 : Nat} {c : String} {vs : List Vl} {S : St} {Q : Vl → St → Prop} (hc : P.cls.contains c = true)
    (h : wp (run P k n0 c "__init__" (.p S.length :: vs) (S ++ [.ins c []])) fun v S' => v = .d .non ∧ Q (.p S.length) S') : wp (run P (k + 1) n0 c "" vs S) Q := by
  unfold run
  rw [if_pos rfl, if_pos hc, wp_bind]
  refine wp_mono h fun v S' q => ?_
  obtain ⟨rfl, q⟩ := q
  exact q

/-! ### the evaluator's steps -/
section
variable (C : Cx) (G : Env) (S : St)
@[simp] theorem eE_var (i : Nat) : evE C (.var i) G S = (match G[i]? with
    | some (some v) => .ok v S
    | _ => .no) := by first | (simp only [evE]; done) | (simp only [evE]; rfl)
@[simp] theorem eE_cst (d : D) : evE C (.cst d) G S = .ok (.d d) S := by first | (simp only [evE]; done) | (simp only [evE]; rfl)
@[simp] theorem eE_gint (x : String) (i : Int) : evE C (.gint x i) G S = .ok (.d (.int i)) S := by first | (simp only [evE]; done) | (simp only [evE]; rfl)
@[simp] theorem eE_bin (o : BOp) (a b : Ex) : evE C (.bin o a b) G S = (evE C a G S).bind fun x S => (evE C b G S).bind fun y S => R.of (binV o S x y) S := by first | (simp only [evE]; done) | (simp only [evE]; rfl)
@[simp] theorem eE_neg (a : Ex) : evE C (.neg a) G S = (evE C a G S).bind fun x S => match x with
    | .d (.int i) => .ok (.d (.int (-i))) S
    | _ => .no := by first | (simp only [evE]; done) | (simp only [evE]; rfl)
@[simp] theorem eE_cmp (o : COp) (a b : Ex) : evE C (.cmp o a b) G S = (evE C a G S).bind fun x S => (evE C b G S).bind fun y S => R.of ((cmpV o S x y).map fun b => .d (.bl b)) S := by first | (simp only [evE]; done) | (simp only [evE]; rfl)
@[simp] theorem eE_and (a b : Ex) : evE C (.andE a b) G S = (evE C a G S).bind fun x S => (R.of (truth S x) S).bind fun t S => if t then evE C b G S else .ok x S := by first | (simp only [evE]; done) | (simp only [evE]; rfl)
@[simp] theorem eE_or (a b : Ex) : evE C (.orE a b) G S = (evE C a G S).bind fun x S => (R.of (truth S x) S).bind fun t S => if t then .ok x S else evE C b G S := by first | (simp only [evE]; done) | (simp only [evE]; rfl)
@[simp] theorem eE_not (a : Ex) : evE C (.notE a) G S = (evE C a G S).bind fun x S => (R.of (truth S x) S).bind fun b S => .ok (.d (.bl (!b))) S := by first | (simp only [evE]; done) | (simp only [evE]; rfl)
@[simp] theorem eE_ite (c : Tt) (a b : Ex) : evE C (.ite c a b) G S = (evT C c G S).bind fun t S => if t then evE C a G S else evE C b G S := by first | (simp only [evE]; done) | (simp only [evE]; rfl)
/-- data alone -/
def datas : List Vl → Option (List D)
  | [] => some []
  | .d x :: vs => (datas vs).map (x :: ·)
  | _ :: _ => none
theorem mapM_datas : ∀ vs : List Vl, vs.mapM (fun v => match v with | .d x => some x | _ => none) = datas vs
  | [] => rfl
  | .d x :: vs => by
    rw [List.mapM_cons, mapM_datas vs]
    simp only [datas]
    cases datas vs <;> rfl
  | .p i :: vs => by rw [List.mapM_cons]; rfl
  | .f i :: vs => by rw [List.mapM_cons]; rfl
  | .s i :: vs => by rw [List.mapM_cons]; rfl
  | .r i :: vs => by rw [List.mapM_cons]; rfl
@[simp] theorem datas_nil : datas [] = some [] := rfl
@[simp] theorem datas_cons (x : D) (vs : List Vl) : datas (.d x :: vs) = (datas vs).map (x :: ·) := rfl
@[simp] theorem eE_tup (es : Exs) : evE C (.tup es) G S = (evEs C es G S).bind fun vs S => match datas vs with
    | some ds => if ds.length ≤ cap then .ok (.d (.tup ds)) S else .no
    | none => .no := by
  simp only [evE]
  congr 1
  funext vs S
  rw [← mapM_datas vs]
  all_goals rfl
@[simp] theorem eE_fz (l : Le) : evE C (.fz l) G S = (evL C l G S).bind fun ds S => .ok (.d (.lst ds)) S := by first | (simp only [evE]; done) | (simp only [evE]; rfl)
@[simp] theorem eE_own (l : Le) : evE C (.own l) G S = (evL C l G S).bind fun ds S => .ok (.p S.length) (S ++ [.lst ds]) := by first | (simp only [evE]; done) | (simp only [evE]; rfl)
@[simp] theorem eE_dnew (k : DK) : evE C (.dnew k) G S = .ok (.p S.length) (S ++ [.dic k []]) := by first | (simp only [evE]; done) | (simp only [evE]; rfl)
@[simp] theorem eE_ix (a b : Ex) : evE C (.ix a b) G S = (evE C a G S).bind fun x S => (evE C b G S).bind fun y S => R.of (ixV S x y) S := by first | (simp only [evE]; done) | (simp only [evE]; rfl)
@[simp] theorem eE_slF (a b : Ex) : evE C (.slF a b) G S = (evE C a G S).bind fun x S => (evE C b G S).bind fun y S => R.of ((slFV S x y).map .d) S := by first | (simp only [evE]; done) | (simp only [evE]; rfl)
@[simp] theorem eE_gdix (x : String) (e : Ex) : evE C (.gdix x e) G S = (evE C e G S).bind fun v S => R.of (gdixV C x v) S := by first | (simp only [evE]; done) | (simp only [evE]; rfl)
@[simp] theorem eE_attr (a : Ex) (c f : String) : evE C (.attr a c f) G S = (evE C a G S).bind fun x S => R.of (attrV S c f x) S := by first | (simp only [evE]; done) | (simp only [evE]; rfl)
@[simp] theorem eE_call (g : String) (es : Exs) : evE C (.call g es) G S = (evEs C es G S).bind fun vs S => C.call C.n0 "" g vs S := by first | (simp only [evE]; done) | (simp only [evE]; rfl)
@[simp] theorem eE_meth (a : Ex) (c m : String) (es : Exs) : evE C (.meth a c m es) G S = (evE C a G S).bind fun x S => if methOk S c m x then (evEs C es G S).bind fun vs S => C.call C.n0 c m (x :: vs) S else .no := by first | (simp only [evE]; done) | (simp only [evE]; rfl)
@[simp] theorem eE_make (c : String) (es : Exs) : evE C (.make c es) G S = (evEs C es G S).bind fun vs S => C.call C.n0 c "" vs S := by first | (simp only [evE]; done) | (simp only [evE]; rfl)
@[simp] theorem eE_callv (i : Nat) (es : Exs) : evE C (.callv i es) G S = (match G[i]? with
    | some (some (.f g)) => if C.has g then (evEs C es G S).bind fun vs S => C.call C.n0 "" g vs S else .no
    | _ => .no) := by first | (simp only [evE]; done) | (simp only [evE]; rfl)
@[simp] theorem eE_prim (o : Prim) (es : Exs) : evE C (.prim o es) G S = (evEs C es G S).bind fun vs S => R.of ((primV o S vs).map .d) S := by first | (simp only [evE]; done) | (simp only [evE]; rfl)
@[simp] theorem eE_isin (e : Ex) (ts : List Ty) : evE C (.isin e ts) G S = (evE C e G S).bind fun v S => R.of ((tysV S v ts).map fun b => .d (.bl b)) S := by first | (simp only [evE]; done) | (simp only [evE]; rfl)
@[simp] theorem eE_bm (m : BM) (a : Ex) (es : Exs) : evE C (.bm m a es) G S = (evE C a G S).bind fun x S => if isLst S x then (evEs C es G S).bind fun vs S => bmV m S x vs else .no := by first | (simp only [evE]; done) | (simp only [evE]; rfl)
@[simp] theorem eE_frz (e : Ex) : evE C (.frz e) G S = (evE C e G S).bind fun v S => frzV S v := by first | (simp only [evE]; done) | (simp only [evE]; rfl)
@[simp] theorem eE_ddis (kvs : List ((Option String × Int) × (Option String × Int))) : evE C (.ddis kvs) G S = .ok (.p S.length) (S ++ [.dic .k (putAll kvs)]) := by simp only [evE]
@[simp] theorem eE_slT (a b : Ex) : evE C (.slT a b) G S = (evE C a G S).bind fun x S => (evE C b G S).bind fun y S => R.of ((slTV S x y).map .d) S := by simp only [evE]
@[simp] theorem eE_index (a b : Ex) : evE C (.index a b) G S = (evE C a G S).bind fun x S => if isLd S x then (evE C b G S).bind fun y S => R.of ((indexV S x y).map .d) S else .no := by simp only [evE]
@[simp] theorem eE_chain (o p : COp) (a b c : Ex) : evE C (.chain o p a b c) G S = (evE C a G S).bind fun x S => (evE C b G S).bind fun y S => (R.of (cmpV o S x y) S).bind fun t S => if t then (evE C c G S).bind fun z S => R.of ((cmpV p S y z).map fun b => .d (.bl b)) S else .ok (.d (.bl false)) S := by simp only [evE]
@[simp] theorem eE_extK (mx : Bool) (g : String) (e : Ex) : evE C (.extK mx g e) G S = (evE C e G S).bind fun v S => match v with
    | .d (.lst ds) => (bestL mx (fun d S => C.call C.n0 "" g [.d d] S) none ds S).nox
    | _ => .no := by first | (simp only [evE]; done) | (simp only [evE]; rfl)
@[simp] theorem eE_ext2K (mx : Bool) (g : String) (a b : Ex) : evE C (.ext2K mx g a b) G S = (evE C a G S).bind fun x S => (evE C b G S).bind fun y S => match x, y with
    | .d d1, .d d2 => (bestL mx (fun d S => C.call C.n0 "" g [.d d] S) none [d1, d2] S).nox
    | _, _ => .no := by first | (simp only [evE]; done) | (simp only [evE]; rfl)
@[simp] theorem eE_inG (x : String) (e : Ex) : evE C (.inG x e) G S = (evE C e G S).bind fun v S => R.of ((inGV C x v).map fun b => .d (.bl b)) S := by simp only [evE]
@[simp] theorem eE_dget (a k x : Ex) : evE C (.dget a k x) G S = (evE C a G S).bind fun x1 S => if isDic S x1 then (evE C k G S).bind fun y S => (evE C x G S).bind fun z S => R.of (dgetV S x1 y z) S else .no := by simp only [evE]
@[simp] theorem eE_repr (e : Ex) : evE C (.repr e) G S = (evE C e G S).bind fun v S => R.of (reprV S v) S := by simp only [evE]
@[simp] theorem eE_starts (a b : Ex) : evE C (.starts a b) G S = (evE C a G S).bind fun x S => if isStr x then (evE C b G S).bind fun y S => R.of ((startsV S x y).map .d) S else .no := by simp only [evE]
/-- the turn of a dict's comprehension -/
def turnDC (C : Cx) (t : Tg) (c : Tt) (k v : Ex) (G : Env) : D → St → R (Option D) := fun d S => match t.set G d with
    | some G' => (evT C c G' S).bind fun b S => if b then (evE C k G' S).bind fun kv S => (evE C v G' S).bind fun vv S => (match kv, vv with
      | .d x, .d y => if keyD x then .ok (some (.tup [x, y])) S else .no
      | _, _ => .no) else .ok none S
    | none => .no
@[simp] theorem eE_dcomp (t : Tg) (it : It) (c : Tt) (k v : Ex) : evE C (.dcomp t it c k v) G S = (evI C it G S).bind fun ds S => (compL (turnDC C t c k v G) [] ds S).nox.bind fun ps S => .ok (.p S.length) (S ++ [.dic .k (putPairs [] ps)]) := by first | (simp only [evE]; done) | (simp only [evE]; rfl)
@[simp] theorem eE_ddiv (ks : List (Option String × D)) (es : Exs) : evE C (.ddiv ks es) G S = (evEs C es G S).bind fun vs S => match datas vs with
    | some ds => (match putAllV [] ks ds with
      | some m => .ok (.p S.length) (S ++ [.dic .k m])
      | none => .no)
    | none => .no := by
  simp only [evE]
  congr 1
  funext vs S
  rw [← mapM_datas vs]
  all_goals rfl
@[simp] theorem eEs_nil : evEs C .nil G S = .ok [] S := by first | (simp only [evEs]; done) | (simp only [evEs]; rfl)
@[simp] theorem eEs_cons (e : Ex) (es : Exs) : evEs C (.cons e es) G S = (evE C e G S).bind fun v S => (evEs C es G S).bind fun vs S => .ok (v :: vs) S := by first | (simp only [evEs]; done) | (simp only [evEs]; rfl)
@[simp] theorem eT_yes : evT C .yes G S = .ok true S := by first | (simp only [evT]; done) | (simp only [evT]; rfl)
@[simp] theorem eT_and (a b : Tt) : evT C (.and_ a b) G S = (evT C a G S).bind fun t S => if t then evT C b G S else .ok false S := by first | (simp only [evT]; done) | (simp only [evT]; rfl)
@[simp] theorem eT_or (a b : Tt) : evT C (.or_ a b) G S = (evT C a G S).bind fun t S => if t then .ok true S else evT C b G S := by first | (simp only [evT]; done) | (simp only [evT]; rfl)
@[simp] theorem eT_not (a : Tt) : evT C (.not_ a) G S = (evT C a G S).bind fun t S => .ok (!t) S := by first | (simp only [evT]; done) | (simp only [evT]; rfl)
@[simp] theorem eT_cmp (o : COp) (a b : Ex) : evT C (.cmp o a b) G S = (evE C a G S).bind fun x S => (evE C b G S).bind fun y S => R.of (cmpV o S x y) S := by first | (simp only [evT]; done) | (simp only [evT]; rfl)
@[simp] theorem eT_e (x : Ex) : evT C (.e x) G S = (evE C x G S).bind fun v S => R.of (truth S v) S := by first | (simp only [evT]; done) | (simp only [evT]; rfl)
@[simp] theorem eT_chain (o p : COp) (a b c : Ex) : evT C (.chain o p a b c) G S = (evE C a G S).bind fun x S => (evE C b G S).bind fun y S => (R.of (cmpV o S x y) S).bind fun t S => if t then (evE C c G S).bind fun z S => R.of (cmpV p S y z) S else .ok false S := by simp only [evT]
@[simp] theorem eT_inG (x : String) (e : Ex) : evT C (.inG x e) G S = (evE C e G S).bind fun v S => R.of (inGV C x v) S := by simp only [evT]
@[simp] theorem eI_enum (e : Ex) : evI C (.enum e) G S = (evE C e G S).bind fun v S => match v with
    | .d (.lst ds) => .ok (ds.zipIdx.map fun q => D.tup [.int (q.2 : Int), q.1]) S
    | _ => .no := by first | (simp only [evI]; done) | (simp only [evI]; rfl)
@[simp] theorem eI_rev (e : Ex) : evI C (.rev e) G S = (evE C e G S).bind fun v S => match v with
    | .d (.lst ds) => .ok ds.reverse S
    | .d (.tup ds) => .ok ds.reverse S
    | _ => .no := by first | (simp only [evI]; done) | (simp only [evI]; rfl)
@[simp] theorem eI_seq (e : Ex) : evI C (.seq e) G S = (evE C e G S).bind fun v S => match v with
    | .d (.lst ds) => .ok ds S
    | .d (.tup ds) => .ok ds S
    | _ => .no := by first | (simp only [evI]; done) | (simp only [evI]; rfl)
@[simp] theorem eI_rng (e : Ex) : evI C (.rng e) G S = (evE C e G S).bind fun v S => match v with
    | .d (.int n) => if -4611686018427387904 ≤ n ∧ n ≤ cap then .ok ((List.range n.toNat).map fun (i : Nat) => D.int (i : Int)) S else .no
    | _ => .no := by first | (simp only [evI]; done) | (simp only [evI]; rfl)
@[simp] theorem eL_disp (es : Exs) : evL C (.disp es) G S = (evEs C es G S).bind fun vs S => match datas vs with
    | some ds => if ds.length ≤ cap then .ok ds S else .no
    | none => .no := by
  simp only [evL]
  congr 1
  funext vs S
  rw [← mapM_datas vs]
  all_goals rfl
/-- a comprehension's turn -/
def turnC (C : Cx) (t : Tg) (c : Tt) (e : Ex) (G : Env) : D → St → R (Option D) := fun d S => match t.set G d with
    | some G' => (evT C c G' S).bind fun b S => if b then (evE C e G' S).bind fun v S => (match v with
      | .d y => .ok (some y) S
      | _ => .no) else .ok none S
    | none => .no
@[simp] theorem eL_comp (t : Tg) (it : It) (c : Tt) (e : Ex) : evL C (.comp t it c e) G S = (evI C it G S).bind fun ds S => (compL (turnC C t c e G) [] ds S).nox := by first | (simp only [evL]; done) | (simp only [evL]; rfl)
def turnS (C : Cx) (t : Tg) (c : Tt) (e : Ex) (G : Env) : D → St → R (Option Int) := fun d S => match t.set G d with
    | some G' => (evT C c G' S).bind fun b S => if b then (evE C e G' S).bind fun v S => (match v with
      | .d (.int y) => .ok (some y) S
      | _ => .no) else .ok none S
    | none => .no
@[simp] theorem eL_srtS (t : Tg) (it : It) (c : Tt) (e : Ex) : evL C (.srtS t it c e) G S = (evI C it G S).bind fun ds S => (setL (turnS C t c e G) [] ds S).nox.bind fun is S => .ok ((sortI is).map .int) S := by first | (simp only [evL]; done) | (simp only [evL]; rfl)
@[simp] theorem eL_srtK (g : String) (e : Ex) : evL C (.srtK g e) G S = (evE C e G S).bind fun v S => match dat S v with
    | some (.lst ds) => (keysL (fun d S => C.call C.n0 "" g [.d d] S) [] ds S).nox.bind fun ks S => if okKeys ks then .ok (sortK ds ks) S else .no
    | _ => .no := by first | (simp only [evL]; done) | (simp only [evL]; rfl)
@[simp] theorem eL_of (e : Ex) : evL C (.of e) G S = (evE C e G S).bind fun v S => match v with
    | .p i => match S[i]? with
      | some (.lst ds) => .ok ds S
      | some (.dic .k kvs) => .ok (kvs.map (·.1)) S
      | some (.dic .n kvs) => .ok (kvs.map (·.1)) S
      | _ => .no
    | .d (.lst ds) => .ok ds S
    | .d (.tup ds) => .ok ds S
    | .s ds => .ok ds S
    | _ => .no := by first | (simp only [evL]; done) | (simp only [evL]; rfl)
@[simp] theorem eL_items (e : Ex) : evL C (.items e) G S = (evE C e G S).bind fun v S => match v with
  | .p i => match S[i]? with
    | some (.dic .k kvs) => R.of (pairsD kvs) S
    | some (.dic .n kvs) => R.of (pairsD kvs) S
    | _ => .no
  | _ => .no := by first | (simp only [evL]; done) | (simp only [evL]; rfl)
@[simp] theorem eL_srt (e : Ex) : evL C (.srt e) G S = (evE C e G S).bind fun v S => match dat S v with
    | some (.lst ds) => (match intsD ds with
      | some is => .ok ((sortI is).map .int) S
      | none => .no)
    | _ => .no := by first | (simp only [evL]; done) | (simp only [evL]; rfl)
@[simp] theorem eS_asg (i : Nat) (e : Ex) : evS C (.asg i e) G S = (evE C e G S).go G fun v S => .ok .nx (G.set i (some v)) S := by first | (simp only [evS]; done) | (simp only [evS]; rfl)
@[simp] theorem eS_asgT (is : List Nat) (e : Ex) : evS C (.asgT is e) G S = (evE C e G S).go G fun v S => match v with
    | .d (.tup ds) => (match setsD G is ds with
      | some G' => .ok .nx G' S
      | none => .no)
    | _ => .no := by first | (simp only [evS]; done) | (simp only [evS]; rfl)
@[simp] theorem eS_asgA (a : Ex) (c f : String) (e : Ex) : evS C (.asgA a c f e) G S = (evE C e G S).go G fun v S => (evE C a G S).go G fun x S => match setA C.n0 S x c f v with
    | some S => .ok .nx G S
    | none => .no := by first | (simp only [evS]; done) | (simp only [evS]; rfl)
@[simp] theorem eS_asgI (a b e : Ex) : evS C (.asgI a b e) G S = (evE C e G S).go G fun v S => (evE C a G S).go G fun x S => (evE C b G S).go G fun y S => match setI C.n0 S x y v with
    | some S => .ok .nx G S
    | none => .no := by first | (simp only [evS]; done) | (simp only [evS]; rfl)
@[simp] theorem eS_aug (i : Nat) (o : BOp) (e : Ex) : evS C (.aug i o e) G S = (match G[i]? with
    | some (some (.d (.int x))) => (evE C e G S).go G fun y S => match y with
      | .d (.int y) => (match binD o (.int x) (.int y) with
        | some z => .ok .nx (G.set i (some (.d z))) S
        | none => .no)
      | _ => .no
    | _ => .no) := by first | (simp only [evS]; done) | (simp only [evS]; rfl)
@[simp] theorem eS_ex (e : Ex) : evS C (.ex e) G S = (evE C e G S).go G fun _ S => .ok .nx G S := by first | (simp only [evS]; done) | (simp only [evS]; rfl)
@[simp] theorem eS_ret (e : Ex) : evS C (.ret e) G S = (evE C e G S).go G fun v S => .ok (.rt v) G S := by first | (simp only [evS]; done) | (simp only [evS]; rfl)
@[simp] theorem eS_ifs (c : Tt) (a b : Sms) : evS C (.ifs c a b) G S = (evT C c G S).go G fun t S => if t then evSs C a G S else evSs C b G S := by first | (simp only [evS]; done) | (simp only [evS]; rfl)
/-- a for loop's turn -/
def turnF (C : Cx) (t : Tg) (b : Sms) : D → Env → St → Q := fun d G S => match t.set G d with
    | some G' => evSs C b G' S
    | none => .no
@[simp] theorem eS_for (t : Tg) (it : It) (b : Sms) : evS C (.for_ false t it b) G S = (evI C it G S).go G fun ds S => forL (turnF C t b) ds G S := by first | (simp only [evS]; done) | (simp only [evS]; rfl)
/-- a turn of a for loop that lets its cells go -/
def turnD (C : Cx) (t : Tg) (b : Sms) : D → Env → St → Q := fun d G S => match t.set G d with
    | some G' => (evSs { C with n0 := S.length } b G' S).drop S.length
    | none => .no
@[simp] theorem eS_ford (t : Tg) (it : It) (b : Sms) : evS C (.for_ true t it b) G S = (evI C it G S).go G fun ds S => forL (turnD C t b) ds G S := by first | (simp only [evS]; done) | (simp only [evS]; rfl)
@[simp] theorem eS_whl (c : Tt) (b : Sms) : evS C (.whl c b) G S = whlL (evT C c) (evSs C b) lots G S := by first | (simp only [evS]; done) | (simp only [evS]; rfl)
@[simp] theorem eS_pass : evS C .pass G S = .ok .nx G S := by first | (simp only [evS]; done) | (simp only [evS]; rfl)
@[simp] theorem eS_brk : evS C .brk G S = .ok .bk G S := by first | (simp only [evS]; done) | (simp only [evS]; rfl)
@[simp] theorem eS_cont : evS C .cont G S = .ok .ct G S := by first | (simp only [evS]; done) | (simp only [evS]; rfl)
@[simp] theorem eS_frz (i : Nat) : evS C (.frz i) G S = (match G[i]? with
    | some (some v) => (frzV S v).go G fun v S => .ok .nx (G.set i (some v)) S
    | _ => .no) := by first | (simp only [evS]; done) | (simp only [evS]; rfl)
@[simp] theorem eSs_nil : evSs C .nil G S = .ok .nx G S := by first | (simp only [evSs]; done) | (simp only [evSs]; rfl)
theorem eSs_cons (s : Sm) (ss : Sms) (N : Fl → Env → St → Prop) : wq (evSs C (.cons s ss) G S) N = wq (evS C s G S) (on (fun G S => wq (evSs C ss G S) N) N) := by simp only [evSs, wq_next]
end
/-! ### operations at constructors -/
section
variable {S : St} {a b k : Int} {x y : D} {ds es : List D}
@[simp] theorem dat_d : dat S (.d x) = some x := rfl
theorem dat_p {i : Nat} (h : S[i]? = some (.lst ds)) : dat S (.p i) = some (.lst ds) := by simp only [dat, h]
@[simp] theorem binV_d {o : BOp} : binV o S (.d x) (.d y) = (binD o x y).map .d := rfl
@[simp] theorem binD_add : binD .add (.int a) (.int b) = some (.int (a + b)) := rfl
@[simp] theorem binD_sub : binD .sub (.int a) (.int b) = some (.int (a - b)) := rfl
theorem binD_mul1 (h1 : -18446744073709551616 < a) (h2 : a < 18446744073709551616) : binD .mul (.int a) (.int b) = some (.int (a * b)) := by simp [binD, small_iff.mpr ⟨h1, h2⟩]
theorem binD_mul2 (h1 : -18446744073709551616 < b) (h2 : b < 18446744073709551616) : binD .mul (.int a) (.int b) = some (.int (a * b)) := by simp [binD, small_iff.mpr ⟨h1, h2⟩]
theorem binD_fdiv (h1 : 0 < b) (h2 : b < 100000000000000000000000000000) : binD .fdiv (.int a) (.int b) = some (.int (a / b)) := by
  have : b.natAbs.log2.blt 99 = true := by
    rw [Nat.blt_eq, Nat.log2_lt (by omega)]
    omega
  simp [binD, h1, this]
theorem binD_mod (h1 : 0 < b) : binD .mod (.int a) (.int b) = some (.int (a % b)) := by simp [binD, h1]
theorem binD_tup (h : ds.length + es.length ≤ cap) : binD .add (.tup ds) (.tup es) = some (.tup (ds ++ es)) := by simp [binD, h]
theorem binD_lst (h : ds.length + es.length ≤ cap) : binD .add (.lst ds) (.lst es) = some (.lst (ds ++ es)) := by simp [binD, h]
@[simp] theorem cmp_lt : cmpV .lt S (.d (.int a)) (.d (.int b)) = some (decide (a < b)) := by
  simp only [cmpV, ltD, D.alike, D.dep, D.lt]
  rfl
theorem cmp_ltD (h : x ≠ .non) (h1 : x.alike y = true) (h2 : x.dep ≤ 60) (h3 : y.dep ≤ 60) : cmpV .lt S (.d x) (.d y) = some (D.lt x y) := by
  have : ltD x y = if x.alike y = true ∧ x.dep ≤ 60 ∧ y.dep ≤ 60 then some (D.lt x y) else none := by cases x <;> first | rfl | exact absurd rfl h
  simp only [cmpV, this, h1, h2, h3, and_self, if_true]
@[simp] theorem cmp_le : cmpV .le S (.d (.int a)) (.d (.int b)) = some (decide (a ≤ b)) := rfl
@[simp] theorem cmp_gt : cmpV .gt S (.d (.int a)) (.d (.int b)) = some (decide (b < a)) := rfl
@[simp] theorem cmp_ge : cmpV .ge S (.d (.int a)) (.d (.int b)) = some (decide (b ≤ a)) := rfl
@[simp] theorem cmp_eqi : cmpV .eq S (.d (.int a)) (.d (.int b)) = some (decide (a = b)) := by
  simp only [cmpV, dat, eqD, D.dep, D.eq]
  rfl
@[simp] theorem cmp_nei : cmpV .ne S (.d (.int a)) (.d (.int b)) = some (decide (a ≠ b)) := by
  simp only [cmpV, dat, eqD, D.dep, D.eq]
  by_cases h : a = b <;> simp [h]
@[simp] theorem cmp_eqb (p q : Bool) : cmpV .eq S (.d (.bl p)) (.d (.bl q)) = some (p == q) := by
  simp only [cmpV, dat, eqD, D.dep, D.eq]
  rfl
@[simp] theorem cmp_neb (p q : Bool) : cmpV .ne S (.d (.bl p)) (.d (.bl q)) = some (p != q) := by
  simp only [cmpV, dat, eqD, D.dep, D.eq]
  rfl
@[simp] theorem cmp_eqs (p q : String) : cmpV .eq S (.d (.str p)) (.d (.str q)) = some (p == q) := by
  simp only [cmpV, dat, eqD, D.dep, D.eq]
  rfl
@[simp] theorem cmp_nes (p q : String) : cmpV .ne S (.d (.str p)) (.d (.str q)) = some (p != q) := by
  simp only [cmpV, dat, eqD, D.dep, D.eq]
  rfl
@[simp] theorem cmp_isd : cmpV .is_ S (.d .non) (.d .non) = some true := rfl
@[simp] theorem cmp_isi : cmpV .is_ S (.d (.int a)) (.d .non) = some false := rfl
@[simp] theorem cmp_ist : cmpV .is_ S (.d (.tup ds)) (.d .non) = some false := rfl
@[simp] theorem cmp_isbb (p q : Bool) : cmpV .is_ S (.d (.bl p)) (.d (.bl q)) = some (p == q) := rfl
@[simp] theorem cmp_isnb (q : Bool) : cmpV .is_ S (.d .non) (.d (.bl q)) = some false := rfl
@[simp] theorem cmp_isbn (q : Bool) : cmpV .is_ S (.d (.bl q)) (.d .non) = some false := rfl
@[simp] theorem cmp_isnbn (q : Bool) : cmpV .isnot S (.d (.bl q)) (.d .non) = some true := rfl
@[simp] theorem cmp_iss (s : String) : cmpV .is_ S (.d (.str s)) (.d .non) = some false := rfl
@[simp] theorem cmp_isns (s : String) : cmpV .isnot S (.d (.str s)) (.d .non) = some true := rfl
@[simp] theorem cmp_isl : cmpV .is_ S (.d (.lst ds)) (.d .non) = some false := rfl
@[simp] theorem cmp_isnl : cmpV .isnot S (.d (.lst ds)) (.d .non) = some true := rfl
@[simp] theorem cmp_isnd : cmpV .isnot S (.d .non) (.d .non) = some false := rfl
@[simp] theorem cmp_isni : cmpV .isnot S (.d (.int a)) (.d .non) = some true := rfl
@[simp] theorem cmp_isnt : cmpV .isnot S (.d (.tup ds)) (.d .non) = some true := rfl
theorem ix_p {i : Nat} (h : S[i]? = some (.lst ds)) : ixV S (.p i) (.d (.int k)) = (atI ds k).map .d := by simp only [ixV, h]
@[simp] theorem ix_l : ixV S (.d (.lst ds)) (.d (.int k)) = (atI ds k).map .d := rfl
@[simp] theorem ix_t : ixV S (.d (.tup ds)) (.d (.int k)) = (atI ds k).map .d := rfl
theorem atI_lt {α : Type} {xs : List α} {k : Int} (h0 : 0 ≤ k) (h1 : k < xs.length) : atI xs k = xs[k.toNat]? := by
  unfold atI ixN
  rw [if_pos h0, if_pos h1]
  rfl
@[simp] theorem atI_0 {α : Type} (x : α) (xs : List α) : atI (x :: xs) 0 = some x := by
  rw [atI_lt (by decide) (by simp)]
  rfl
@[simp] theorem atI_1 {α : Type} (x y : α) (xs : List α) : atI (x :: y :: xs) 1 = some y := by
  rw [atI_lt (by decide) (by simp; omega)]
  rfl
@[simp] theorem atI_2 {α : Type} (x y z : α) (xs : List α) : atI (x :: y :: z :: xs) 2 = some z := by
  rw [atI_lt (by decide) (by simp; omega)]
  rfl
@[simp] theorem atI_3 {α : Type} (x y z u : α) (xs : List α) : atI (x :: y :: z :: u :: xs) 3 = some u := by
  rw [atI_lt (by decide) (by simp; omega)]
  rfl
theorem setI_lst {n0 i j : Nat} (h : S[i]? = some (.lst ds)) (hj : ixN ds.length k = some j) : setI n0 S (.p i) (.d (.int k)) (.d x) = some (S.set i (.lst (ds.set j x))) := by simp only [setI, h, hj, Option.map_some]
theorem len_p {i : Nat} (h : S[i]? = some (.lst ds)) : primV .len S [.p i] = some (.int ds.length) := by simp only [primV, h]
@[simp] theorem len_l : primV .len S [.d (.lst ds)] = some (.int ds.length) := rfl
@[simp] theorem len_t : primV .len S [.d (.tup ds)] = some (.int ds.length) := rfl
@[simp] theorem abs_i : primV .abs S [.d (.int a)] = some (.int (if a < 0 then -a else a)) := rfl
@[simp] theorem int_i : primV .int S [.d (.int a)] = some (.int a) := rfl
@[simp] theorem int_b (p : Bool) : primV .int S [.d (.bl p)] = some (.int (if p then 1 else 0)) := rfl
@[simp] theorem min_i : primV .min2 S [.d (.int a), .d (.int b)] = some (.int (if b < a then b else a)) := rfl
@[simp] theorem max_i : primV .max2 S [.d (.int a), .d (.int b)] = some (.int (if b > a then b else a)) := rfl
@[simp] theorem truth_b (p : Bool) : truth S (.d (.bl p)) = some p := rfl
@[simp] theorem truth_i : truth S (.d (.int a)) = some (a != 0) := rfl
@[simp] theorem truth_n : truth S (.d .non) = some false := rfl
@[simp] theorem truth_l : truth S (.d (.lst ds)) = some (!ds.isEmpty) := rfl
theorem repr_l (h1 : (D.lst ds).shw = true) (h2 : (D.lst ds).dep ≤ 60) (h3 : (D.lst ds).wt ≤ 10000000) : reprV S (.d (.lst ds)) = some (.r (.lst ds)) := by
  simp only [reprV, dat, h1, h2, h3, and_self, if_true]
@[simp] theorem cmp_ner : cmpV .ne S (.r x) (.r x) = some false := by simp only [cmpV, idn_refl, if_true]
@[simp] theorem cmp_eqr : cmpV .eq S (.r x) (.r x) = some true := by simp only [cmpV, idn_refl, if_true]
@[simp] theorem notP_d : notP (.d x) = true := rfl
end
end MP

set_option Elab.async false
set_option linter.all false
set_option maxRecDepth 100000
/-! MU: loops by folds; steps. -/
namespace MP

-- one statement on
/-- a for loop as a fold; E tells the state after the turns -/
theorem wq_fold {σ α : Type} {step : D → Env → St → Q} {G : Env} {S : St} {N : Fl → Env → St → Prop} (enc : α → D) (xs : List α) (f : σ → α → σ) (s0 : σ) (E : σ → Env → St → Prop) (h0 : E s0 G S)
    (hs : ∀ pre x post G S, xs = pre ++ x :: post → E (pre.foldl f s0) G S → wq (step (enc x) G S) (tn (E (f (pre.foldl f s0) x)) N))
    (he : ∀ G S, E (xs.foldl f s0) G S → N .nx G S) : wq (forL step (xs.map enc) G S) N := by
  have key : ∀ (post pre : List α) (G : Env) (S : St), xs = pre ++ post → E (pre.foldl f s0) G S → wq (forL step (post.map enc) G S) N := by
    intro post
    induction post with
    | nil =>
      intro pre G S e h
      rw [List.append_nil] at e
      subst e
      exact he G S h
    | cons x post ih =>
      intro pre G S e h
      show wq ((step (enc x) G S).turn (forL step (post.map enc))) N
      rw [wq_turn]
      have go : ∀ G' S', E (f (pre.foldl f s0) x) G' S' → wq (forL step (post.map enc) G' S') N := fun G' S' h' =>
        ih (pre ++ [x]) G' S' (by simp [e]) (by rw [List.foldl_append]; exact h')
      refine wq_mono (hs pre x post G S e h) fun fl G' S' q => ?_
      cases fl with
      | nx => exact go G' S' q
      | ct => exact go G' S' q
      | bk => exact q
      | rt v => exact q
  exact key xs [] G S rfl h0
/-- a for loop by its prefix -/
theorem wq_pre {α : Type} {step : D → Env → St → Q} {G : Env} {S : St} {N : Fl → Env → St → Prop} (enc : α → D) (xs : List α) (E : List α → Env → St → Prop) (h0 : E [] G S)
    (hs : ∀ pre x post G S, xs = pre ++ x :: post → E pre G S → wq (step (enc x) G S) (tn (E (pre ++ [x])) N))
    (he : ∀ G S, E xs G S → N .nx G S) : wq (forL step (xs.map enc) G S) N := by
  have key : ∀ (post pre : List α) (G : Env) (S : St), xs = pre ++ post → E pre G S → wq (forL step (post.map enc) G S) N := by
    intro post
    induction post with
    | nil =>
      intro pre G S e h
      rw [List.append_nil] at e
      subst e
      exact he G S h
    | cons x post ih =>
      intro pre G S e h
      show wq ((step (enc x) G S).turn (forL step (post.map enc))) N
      rw [wq_turn]
      have go : ∀ G' S', E (pre ++ [x]) G' S' → wq (forL step (post.map enc) G' S') N := fun G' S' h' =>
        ih (pre ++ [x]) G' S' (by simp [e]) h'
      refine wq_mono (hs pre x post G S e h) fun fl G' S' q => ?_
      cases fl with
      | nx => exact go G' S' q
      | ct => exact go G' S' q
      | bk => exact q
      | rt v => exact q
  exact key xs [] G S rfl h0
/-- a comprehension that leaves the store: what each turn gives -/
theorem wp_fmap {α : Type} {step : D → St → R (Option D)} {S : St} {Q : List D → St → Prop} (enc : α → D) (xs : List α) (g : α → Option D) (hl : xs.length < cap)
    (hs : ∀ x Q', x ∈ xs → Q' (g x) S → wp (step (enc x) S) Q') (he : Q (xs.filterMap g) S) : wp (compL step [] (xs.map enc) S) Q := by
  have key : ∀ (post pre : List α), xs = pre ++ post → wp (compL step (pre.filterMap g) (post.map enc) S) Q := by
    intro post
    induction post with
    | nil =>
      intro pre e
      rw [List.append_nil] at e
      subst e
      exact he
    | cons x post ih =>
      intro pre e
      show wp ((step (enc x) S).bind _) Q
      rw [wp_bind]
      refine hs x _ (by simp [e]) ?_
      have := ih (pre ++ [x]) (by simp [e])
      rw [List.filterMap_append] at this
      cases hg : g x with
      | none => simpa [hg] using this
      | some y =>
        have hc : (pre.filterMap g).length < cap := by
          have h1 := List.length_filterMap_le g pre
          rw [e] at hl
          simp at hl
          omega
        simp only [if_pos hc]
        simpa [hg] using this
  exact key xs [] rfl
theorem wp_map {α : Type} {step : D → St → R (Option D)} {S : St} {Q : List D → St → Prop} (enc : α → D) (xs : List α) (g : α → D) (hl : xs.length < cap)
    (hs : ∀ x Q', x ∈ xs → Q' (some (g x)) S → wp (step (enc x) S) Q') (he : Q (xs.map g) S) : wp (compL step [] (xs.map enc) S) Q := by
  refine wp_fmap enc xs (fun x => some (g x)) hl hs ?_
  rw [List.filterMap_eq_map']
  exact he
theorem wp_filter {α : Type} {step : D → St → R (Option D)} {S : St} {Q : List D → St → Prop} (enc : α → D) (xs : List α) (p : α → Bool) (g : α → D) (hl : xs.length < cap)
    (hs : ∀ x Q', x ∈ xs → Q' (if p x then some (g x) else none) S → wp (step (enc x) S) Q') (he : Q ((xs.filter p).map g) S) : wp (compL step [] (xs.map enc) S) Q := by
  refine wp_fmap enc xs (fun x => if p x then some (g x) else none) hl hs ?_
  have : xs.filterMap (fun x => if p x then some (g x) else none) = (xs.filter p).map g := by
    clear hs hl he
    induction xs with
    | nil => rfl
    | cons x xs ih =>
      rw [List.filterMap_cons, List.filter_cons]
      by_cases h : p x = true
      · simp [h, ih]
      · simp [h, ih]
  rw [this]
  exact he
/-- a comprehension by its prefix -/
theorem wp_pre {α : Type} {step : D → St → R (Option D)} {S : St} {Q : List D → St → Prop} (enc : α → D) (xs : List α) (E : List α → List D → St → Prop) (h0 : E [] [] S)
    (hs : ∀ pre x post acc S, xs = pre ++ x :: post → E pre acc S → wp (step (enc x) S) fun o S' => match o with
      | some y => acc.length < cap ∧ E (pre ++ [x]) (acc ++ [y]) S'
      | none => E (pre ++ [x]) acc S') (he : ∀ acc S, E xs acc S → Q acc S) : wp (compL step [] (xs.map enc) S) Q := by
  have key : ∀ (post pre : List α) (acc : List D) (S : St), xs = pre ++ post → E pre acc S → wp (compL step acc (post.map enc) S) Q := by
    intro post
    induction post with
    | nil =>
      intro pre acc S e h
      rw [List.append_nil] at e
      subst e
      exact he acc S h
    | cons x post ih =>
      intro pre acc S e h
      show wp ((step (enc x) S).bind _) Q
      rw [wp_bind]
      refine wp_mono (hs pre x post acc S e h) fun o S' q => ?_
      cases o with
      | none => exact ih (pre ++ [x]) acc S' (by simp [e]) q
      | some y =>
        show wp (if acc.length < cap then compL step (acc ++ [y]) (post.map enc) S' else .no) Q
        rw [if_pos q.1]
        exact ih (pre ++ [x]) (acc ++ [y]) S' (by simp [e]) q.2
  exact key xs [] [] S rfl h0
/-- range's numbers -/
abbrev encI (i : Nat) : D := .int (i : Int)
theorem range_pre {n : Nat} {pre post : List Nat} {x : Nat} (h : List.range n = pre ++ x :: post) : pre = List.range x ∧ x < n := by
  have hx : (List.range n)[pre.length]? = some x := by rw [h]; simp
  obtain ⟨h1, h2⟩ := List.getElem?_eq_some_iff.mp hx
  rw [List.getElem_range] at h2
  rw [List.length_range] at h1
  subst h2
  refine ⟨?_, h1⟩
  have := congrArg (List.take pre.length) h
  rw [List.take_left' rfl, List.take_range, Nat.min_eq_left (by omega)] at this
  exact this.symm
/-! ### loops over written items -/
theorem wq_forL_nil {step : D → Env → St → Q} {G : Env} {S : St} {N : Fl → Env → St → Prop} : wq (forL step [] G S) N = N .nx G S := rfl
theorem wq_forL_cons {step : D → Env → St → Q} {x : D} {xs : List D} {G : Env} {S : St} {N : Fl → Env → St → Prop} : wq (forL step (x :: xs) G S) N = wq (step x G S) (tn (fun G S => wq (forL step xs G S) N) N) := by
  show wq ((step x G S).turn (forL step xs)) N = _
  rw [wq_turn]
/-! ### dicts with numbers as keys -/
theorem eq_ii (a b : Int) : D.eq (.int a) (.int b) = decide (a = b) := by
  simp only [D.eq]
  rfl
theorem any_int {α : Type} {k : α → Int} {v : α → Vl} {e : Int} : ∀ l : List α, ((l.map fun a => (D.int (k a), v a)).any fun q => D.eq q.1 (.int e)) = l.any fun a => decide (k a = e)
  | [] => rfl
  | a :: l => by simp only [List.map_cons, List.any_cons, eq_ii, any_int l]
theorem look_int {α : Type} {k : α → Int} {v : α → Vl} (inj : ∀ a b, k a = k b → a = b) {a : α} : ∀ {l : List α}, a ∈ l → look (l.map fun a => (D.int (k a), v a)) (.int (k a)) = some (v a)
  | [], h => by cases h
  | b :: l, h => by
    unfold look
    rw [List.map_cons, List.find?_cons, eq_ii]
    by_cases e : k b = k a
    · rw [decide_eq_true e, inj _ _ e]
      rfl
    · rw [decide_eq_false e]
      have : a ≠ b := fun z => e (by rw [z])
      exact look_int inj ((List.mem_cons.mp h).resolve_left this)
theorem look_intN {α : Type} {k : α → Int} {v : α → Vl} {e : Int} : ∀ {l : List α}, (∀ a ∈ l, k a ≠ e) → look (l.map fun a => (D.int (k a), v a)) (.int e) = none
  | [], _ => rfl
  | b :: l, h => by
    unfold look
    rw [List.map_cons, List.find?_cons, eq_ii, decide_eq_false (h b List.mem_cons_self)]
    exact look_intN fun a ha => h a (List.mem_cons_of_mem _ ha)
theorem put_int {α : Type} {k : α → Int} {v : α → Vl} {a : α} {l : List α} (h : ∀ b ∈ l, k b ≠ k a) : put (l.map fun a => (D.int (k a), v a)) (.int (k a)) (v a) = (l ++ [a]).map fun a => (D.int (k a), v a) := by
  unfold put
  have e : ((l.map fun a => (D.int (k a), v a)).any fun q => D.eq q.1 (.int (k a))) = false := by
    rw [any_int, List.any_eq_false]
    intro b hb
    simpa using h b hb
  rw [e, if_neg Bool.false_ne_true, List.map_append]
  rfl
end MP

set_option Elab.async false
set_option linter.all false
set_option maxRecDepth 100000
set_option maxHeartbeats 4000000
namespace LW
def d_law_draw : MP.Df := ⟨"", "_law_draw", 1, 1, true,
  (.cons (.ret (.own (.disp (.cons (.fz (.of (.var 0))) (.cons (.cst (.int 0)) (.cons (.cst (.int 0)) (.cons (.cst (.int 17)) .nil)))))))
    .nil)⟩
def d_law_entries : MP.Df := ⟨"", "_law_entries", 2, 5, false,
  (.cons (.asg 2 (.own (.disp .nil)))
    (.cons (.asg 3 (.call "_law_next" (.cons (.var 0) (.cons (.cst (.int 3)) .nil))))
    (.cons (.for_ false (.n 4) (.rng (.bin .add (.cst (.int 1)) (.call "_law_next" (.cons (.var 0) (.cons (.var 1) .nil))))) (.cons (.ex (.bm .append (.var 2) (.cons (.var 3) .nil)))
    (.cons (.asg 3 (.bin .add (.bin .add (.var 3) (.cst (.int 1))) (.bin .mul (.call "_law_next" (.cons (.var 0) (.cons (.cst (.int 2)) .nil))) (.call "_law_next" (.cons (.var 0) (.cons (.cst (.int 90)) .nil))))))
    .nil)))
    (.cons (.ret (.frz (.var 2)))
    .nil))))⟩
def d_law_tree : MP.Df := ⟨"", "_law_tree", 3, 5, false,
  (.cons (.asg 3 (.call "_law_next" (.cons (.var 0) (.cons (.cst (.int 9)) .nil))))
    (.cons (.ifs (.or_ (.cmp .eq (.var 2) (.cst (.int 0))) (.cmp .lt (.var 3) (.cst (.int 2)))) (.cons (.ifs (.cmp .eq (.call "_law_next" (.cons (.var 0) (.cons (.cst (.int 12)) .nil))) (.cst (.int 0))) (.cons (.ret (.tup (.cons (.cst (.str "constant")) (.cons (.call "_law_next" (.cons (.var 0) (.cons (.cst (.int 2)) .nil))) .nil))))
    .nil) .nil)
    (.cons (.ret (.tup (.cons (.cst (.str "there")) (.cons (.ix (.var 1) (.call "_law_next" (.cons (.var 0) (.cons (.prim .len (.cons (.var 1) .nil)) .nil)))) .nil))))
    .nil)) .nil)
    (.cons (.ifs (.cmp .eq (.var 3) (.cst (.int 2))) (.cons (.ret (.tup (.cons (.cst (.str "not")) (.cons (.call "_law_tree" (.cons (.var 0) (.cons (.var 1) (.cons (.bin .sub (.var 2) (.cst (.int 1))) .nil)))) .nil))))
    .nil) .nil)
    (.cons (.asg 4 (.call "_law_tree" (.cons (.var 0) (.cons (.var 1) (.cons (.bin .sub (.var 2) (.cst (.int 1))) .nil)))))
    (.cons (.ret (.tup (.cons (.ix (.fz (.disp (.cons (.cst (.str "and")) (.cons (.cst (.str "or")) (.cons (.cst (.str "differ")) .nil))))) (.bin .mod (.var 3) (.cst (.int 3)))) (.cons (.var 4) (.cons (.call "_law_tree" (.cons (.var 0) (.cons (.var 1) (.cons (.bin .sub (.var 2) (.cst (.int 1))) .nil)))) .nil)))))
    .nil)))))⟩
def d_law_next : MP.Df := ⟨"", "_law_next", 2, 4, false,
  (.cons (.ifs (.cmp .gt (.ix (.var 0) (.cst (.int 2))) (.cst (.int 0))) (.cons (.asg 2 (.bin .mod (.prim .int (.cons (.ix (.var 0) (.cst (.int 2))) .nil)) (.var 1)))
    (.cons (.asgI (.var 0) (.cst (.int 2)) (.bin .fdiv (.ix (.var 0) (.cst (.int 2))) (.var 1)))
    (.cons (.ret (.var 2))
    .nil))) .nil)
    (.cons (.ifs (.cmp .lt (.ix (.var 0) (.cst (.int 1))) (.prim .len (.cons (.ix (.var 0) (.cst (.int 0))) .nil))) (.cons (.asg 3 (.prim .abs (.cons (.ix (.ix (.var 0) (.cst (.int 0))) (.ix (.var 0) (.cst (.int 1)))) .nil)))
    (.cons (.asgI (.var 0) (.cst (.int 1)) (.bin .add (.ix (.var 0) (.cst (.int 1))) (.cst (.int 1))))
    (.cons (.ifs (.cmp .ge (.var 3) (.bin .pow (.cst (.int 10)) (.cst (.int 18)))) (.cons (.asgI (.var 0) (.cst (.int 2)) (.bin .fdiv (.var 3) (.var 1)))
    (.cons (.ret (.bin .mod (.prim .int (.cons (.var 3) .nil)) (.var 1)))
    .nil)) .nil)
    (.cons (.asgI (.var 0) (.cst (.int 3)) (.bin .mod (.prim .int (.cons (.bin .add (.bin .add (.bin .mul (.ix (.var 0) (.cst (.int 3))) (.cst (.int 48271))) (.var 3)) (.cst (.int 11))) .nil)) (.cst (.int 2147483647))))
    .nil)))) (.cons (.asgI (.var 0) (.cst (.int 3)) (.bin .mod (.prim .int (.cons (.bin .add (.bin .mul (.ix (.var 0) (.cst (.int 3))) (.cst (.int 48271))) (.cst (.int 12345))) .nil)) (.cst (.int 2147483647))))
    .nil))
    (.cons (.ret (.bin .mod (.bin .fdiv (.prim .int (.cons (.bin .mod (.bin .mul (.ix (.var 0) (.cst (.int 3))) (.cst (.int 69621))) (.cst (.int 2147483629))) .nil)) (.cst (.int 7))) (.var 1)))
    .nil)))⟩
def d_Diagrams_init0 : MP.Df := ⟨"Diagrams", "__init__", 1, 1, true,
  (.cons (.asgA (.var 0) "Diagrams" "_nodes" (.own (.disp (.cons (.cst .non) (.cons (.cst .non) .nil)))))
    (.cons (.asgA (.var 0) "Diagrams" "_numbers" (.dnew .t))
    (.cons (.asgA (.var 0) "Diagrams" "_results" (.dnew .t))
    .nil)))⟩
def d_law_build : MP.Df := ⟨"", "_law_build", 2, 4, false,
  (.cons (.ifs (.cmp .eq (.ix (.var 1) (.cst (.int 0))) (.cst (.str "constant"))) (.cons (.ret (.ix (.var 1) (.cst (.int 1))))
    .nil) .nil)
    (.cons (.ifs (.cmp .eq (.ix (.var 1) (.cst (.int 0))) (.cst (.str "there"))) (.cons (.ret (.meth (.var 0) "Diagrams" "there" (.cons (.ix (.var 1) (.cst (.int 1))) .nil)))
    .nil) .nil)
    (.cons (.asg 2 (.call "_law_build" (.cons (.var 0) (.cons (.ix (.var 1) (.cst (.int 1))) .nil))))
    (.cons (.ifs (.cmp .eq (.ix (.var 1) (.cst (.int 0))) (.cst (.str "not"))) (.cons (.ret (.meth (.var 0) "Diagrams" "negation" (.cons (.var 2) .nil)))
    .nil) .nil)
    (.cons (.asg 3 (.call "_law_build" (.cons (.var 0) (.cons (.ix (.var 1) (.cst (.int 2))) .nil))))
    (.cons (.ifs (.cmp .eq (.ix (.var 1) (.cst (.int 0))) (.cst (.str "and"))) (.cons (.ret (.meth (.var 0) "Diagrams" "conjunction" (.cons (.var 2) (.cons (.var 3) .nil))))
    .nil) .nil)
    (.cons (.ret (.ite (.cmp .eq (.ix (.var 1) (.cst (.int 0))) (.cst (.str "or"))) (.meth (.var 0) "Diagrams" "disjunction" (.cons (.var 2) (.cons (.var 3) .nil))) (.meth (.var 0) "Diagrams" "differs" (.cons (.var 2) (.cons (.var 3) .nil)))))
    .nil)))))))⟩
def d_law_subsets : MP.Df := ⟨"", "_law_subsets", 1, 4, false,
  (.cons (.asg 1 (.fz (.disp (.cons (.fz (.disp .nil)) .nil))))
    (.cons (.for_ false (.n 2) (.seq (.var 0)) (.cons (.asg 1 (.bin .add (.var 1) (.fz (.comp (.n 3) (.seq (.var 1)) .yes (.bin .add (.var 3) (.fz (.disp (.cons (.var 2) .nil))))))))
    .nil))
    (.cons (.ret (.var 1))
    .nil)))⟩
def d_law_true : MP.Df := ⟨"", "_law_true", 2, 4, false,
  (.cons (.ifs (.cmp .eq (.ix (.var 0) (.cst (.int 0))) (.cst (.str "constant"))) (.cons (.ret (.cmp .eq (.ix (.var 0) (.cst (.int 1))) (.cst (.int 1))))
    .nil) .nil)
    (.cons (.ifs (.cmp .eq (.ix (.var 0) (.cst (.int 0))) (.cst (.str "there"))) (.cons (.ret (.cmp .in_ (.ix (.var 0) (.cst (.int 1))) (.var 1)))
    .nil) .nil)
    (.cons (.asg 2 (.call "_law_true" (.cons (.ix (.var 0) (.cst (.int 1))) (.cons (.var 1) .nil))))
    (.cons (.ifs (.cmp .eq (.ix (.var 0) (.cst (.int 0))) (.cst (.str "not"))) (.cons (.ret (.notE (.var 2)))
    .nil) .nil)
    (.cons (.asg 3 (.call "_law_true" (.cons (.ix (.var 0) (.cst (.int 2))) (.cons (.var 1) .nil))))
    (.cons (.ifs (.cmp .eq (.ix (.var 0) (.cst (.int 0))) (.cst (.str "and"))) (.cons (.ret (.andE (.var 2) (.var 3)))
    .nil) .nil)
    (.cons (.ret (.ite (.cmp .eq (.ix (.var 0) (.cst (.int 0))) (.cst (.str "or"))) (.orE (.var 2) (.var 3)) (.cmp .ne (.var 2) (.var 3))))
    .nil)))))))⟩
def d_Diagrams_there : MP.Df := ⟨"Diagrams", "there", 2, 2, false,
  (.cons (.ret (.meth (.var 0) "Diagrams" "make" (.cons (.var 1) (.cons (.gint "NEVER" 0) (.cons (.gint "ALWAYS" 1) .nil)))))
    .nil)⟩
def d_Diagrams_negation : MP.Df := ⟨"Diagrams", "negation", 2, 2, false,
  (.cons (.ret (.meth (.var 0) "Diagrams" "differs" (.cons (.var 1) (.cons (.gint "ALWAYS" 1) .nil))))
    .nil)⟩
def d_Diagrams_conjunction : MP.Df := ⟨"Diagrams", "conjunction", 3, 3, false,
  (.cons (.ret (.meth (.var 0) "Diagrams" "_combined" (.cons (.cst (.str "and")) (.cons (.var 1) (.cons (.var 2) .nil)))))
    .nil)⟩
def d_Diagrams_disjunction : MP.Df := ⟨"Diagrams", "disjunction", 3, 3, false,
  (.cons (.ret (.meth (.var 0) "Diagrams" "_combined" (.cons (.cst (.str "or")) (.cons (.var 1) (.cons (.var 2) .nil)))))
    .nil)⟩
def d_Diagrams_differs : MP.Df := ⟨"Diagrams", "differs", 3, 3, false,
  (.cons (.ret (.meth (.var 0) "Diagrams" "_combined" (.cons (.cst (.str "differ")) (.cons (.var 1) (.cons (.var 2) .nil)))))
    .nil)⟩
def d_Diagrams_make : MP.Df := ⟨"Diagrams", "make", 4, 5, false,
  (.cons (.ifs (.cmp .eq (.var 2) (.var 3)) (.cons (.ret (.var 2))
    .nil) .nil)
    (.cons (.asg 4 (.tup (.cons (.var 1) (.cons (.var 2) (.cons (.var 3) .nil)))))
    (.cons (.ifs (.cmp .notin (.var 4) (.attr (.var 0) "Diagrams" "_numbers")) (.cons (.asgI (.attr (.var 0) "Diagrams" "_numbers") (.var 4) (.prim .len (.cons (.attr (.var 0) "Diagrams" "_nodes") .nil)))
    (.cons (.ex (.bm .append (.attr (.var 0) "Diagrams" "_nodes") (.cons (.var 4) .nil)))
    .nil)) .nil)
    (.cons (.ret (.ix (.attr (.var 0) "Diagrams" "_numbers") (.var 4)))
    .nil))))⟩
def d_Diagrams_combined : MP.Df := ⟨"Diagrams", "_combined", 4, 7, false,
  (.cons (.asg 4 (.gdix "LEAVES" (.var 1)))
    (.cons (.asg 5 (.callv 4 (.cons (.var 2) (.cons (.var 3) .nil))))
    (.cons (.ifs (.cmp .isnot (.var 5) (.cst .non)) (.cons (.ret (.var 5))
    .nil) .nil)
    (.cons (.asg 6 (.tup (.cons (.var 1) (.cons (.prim .min2 (.cons (.var 2) (.cons (.var 3) .nil))) (.cons (.prim .max2 (.cons (.var 2) (.cons (.var 3) .nil))) .nil)))))
    (.cons (.ifs (.cmp .notin (.var 6) (.attr (.var 0) "Diagrams" "_results")) (.cons (.asgI (.attr (.var 0) "Diagrams" "_results") (.var 6) (.meth (.var 0) "Diagrams" "_split" (.cons (.var 1) (.cons (.var 2) (.cons (.var 3) .nil)))))
    .nil) .nil)
    (.cons (.ret (.ix (.attr (.var 0) "Diagrams" "_results") (.var 6)))
    .nil))))))⟩
def d_and_leaf : MP.Df := ⟨"", "and_leaf", 2, 2, false,
  (.cons (.ifs (.or_ (.cmp .eq (.var 0) (.gint "NEVER" 0)) (.cmp .eq (.var 1) (.gint "NEVER" 0))) (.cons (.ret (.gint "NEVER" 0))
    .nil) .nil)
    (.cons (.ifs (.cmp .eq (.var 0) (.gint "ALWAYS" 1)) (.cons (.ret (.var 1))
    .nil) .nil)
    (.cons (.ret (.ite (.or_ (.cmp .eq (.var 1) (.gint "ALWAYS" 1)) (.cmp .eq (.var 0) (.var 1))) (.var 0) (.cst .non)))
    .nil)))⟩
def d_or_leaf : MP.Df := ⟨"", "or_leaf", 2, 2, false,
  (.cons (.ifs (.or_ (.cmp .eq (.var 0) (.gint "ALWAYS" 1)) (.cmp .eq (.var 1) (.gint "ALWAYS" 1))) (.cons (.ret (.gint "ALWAYS" 1))
    .nil) .nil)
    (.cons (.ifs (.cmp .eq (.var 0) (.gint "NEVER" 0)) (.cons (.ret (.var 1))
    .nil) .nil)
    (.cons (.ret (.ite (.or_ (.cmp .eq (.var 1) (.gint "NEVER" 0)) (.cmp .eq (.var 0) (.var 1))) (.var 0) (.cst .non)))
    .nil)))⟩
def d_differ_leaf : MP.Df := ⟨"", "differ_leaf", 2, 2, false,
  (.cons (.ifs (.cmp .eq (.var 0) (.var 1)) (.cons (.ret (.gint "NEVER" 0))
    .nil) .nil)
    (.cons (.ifs (.cmp .eq (.var 0) (.gint "NEVER" 0)) (.cons (.ret (.var 1))
    .nil) .nil)
    (.cons (.ret (.ite (.cmp .eq (.var 1) (.gint "NEVER" 0)) (.var 0) (.cst .non)))
    .nil)))⟩
def d_Diagrams_split : MP.Df := ⟨"Diagrams", "_split", 4, 7, false,
  (.cons (.asg 4 (.ix (.attr (.var 0) "Diagrams" "_nodes") (.var 2)))
    (.cons (.asg 5 (.ite (.cmp .gt (.var 3) (.cst (.int 1))) (.ix (.attr (.var 0) "Diagrams" "_nodes") (.var 3)) (.cst .non)))
    (.cons (.ifs (.or_ (.cmp .is_ (.var 4) (.cst .non)) (.and_ (.cmp .isnot (.var 5) (.cst .non)) (.cmp .lt (.ix (.var 5) (.cst (.int 0))) (.ix (.var 4) (.cst (.int 0)))))) (.cons (.ret (.meth (.var 0) "Diagrams" "_split" (.cons (.var 1) (.cons (.var 3) (.cons (.var 2) .nil)))))
    .nil) .nil)
    (.cons (.ifs (.or_ (.cmp .is_ (.var 5) (.cst .non)) (.cmp .lt (.ix (.var 4) (.cst (.int 0))) (.ix (.var 5) (.cst (.int 0))))) (.cons (.asg 5 (.tup (.cons (.ix (.var 4) (.cst (.int 0))) (.cons (.var 3) (.cons (.var 3) .nil)))))
    .nil) .nil)
    (.cons (.asg 6 (.meth (.var 0) "Diagrams" "_combined" (.cons (.var 1) (.cons (.ix (.var 4) (.cst (.int 1))) (.cons (.ix (.var 5) (.cst (.int 1))) .nil)))))
    (.cons (.ret (.meth (.var 0) "Diagrams" "make" (.cons (.ix (.var 4) (.cst (.int 0))) (.cons (.var 6) (.cons (.meth (.var 0) "Diagrams" "_combined" (.cons (.var 1) (.cons (.ix (.var 4) (.cst (.int 2))) (.cons (.ix (.var 5) (.cst (.int 2))) .nil)))) .nil)))))
    .nil))))))⟩
end LW

set_option Elab.async false
set_option linter.all false
set_option maxRecDepth 100000
set_option maxHeartbeats 4000000
/-! ML: what the law draws. -/
namespace LW
open MP
/-- the cell of a draw -/
def drC (xs : List Int) (a b c : Int) : Cell := .lst [.lst (xs.map .int), .int a, .int b, .int c]
def IsDr (c : Cell) : Prop := ∃ xs a b e, c = drC xs a b e ∧ 0 ≤ a
theorem next_run {P : Pg} (hP : P.at_ "" "_law_next" = some d_law_next) {k n0 d : Nat} {m : Int} {S : St} {c : Cell} (hd : S[d]? = some c) (hc : IsDr c) (h1 : 0 < m) (h2 : m < 100000000000000000000000000000) {Q : Vl → St → Prop}
    (hQ : ∀ r c', 0 ≤ r → r < m → IsDr c' → Q (.d (.int r)) (S.set d c')) : wp (run P (k + 1) n0 "" "_law_next" [.p d, .d (.int m)] S) Q := by
  obtain ⟨xs, a, b, e, rfl, ha⟩ := hc
  have hlt : d < S.length := (List.getElem?_eq_some_iff.mp hd).1
  refine wp_run_false hP (by decide) rfl rfl ?_
  have hset : ∀ c', (S.set d c')[d]? = some c' := fun c' => List.getElem?_set_self hlt
  have tk : ∀ c', (S.set d c').take S.length = S.set d c' := fun c' => List.take_of_length_le (by simp)
  have hd0 := hd
  unfold drC at hd0
  have mp : ∀ y : Int, 0 ≤ y % m := fun y => Int.emod_nonneg y (by omega)
  have ml : ∀ y : Int, y % m < m := fun y => Int.emod_lt_of_pos y h1
  -- the end
  have last : ∀ (a' b' e' : Int) (G : Env), 0 ≤ a' → wq (evSs (cx P k S.length) (.cons (.ret (.bin .mod (.bin .fdiv (.prim .int (.cons (.bin .mod (.bin .mul (.ix (.var 0) (.cst (.int 3))) (.cst (.int 69621))) (.cst (.int 2147483629))) .nil)) (.cst (.int 7))) (.var 1))) .nil) (some (.p d) :: some (.d (.int m)) :: G) (S.set d (drC xs a' b' e')))
      fun f _ S' => match f with
      | .rt v => notP v = true ∧ Q v (S'.take S.length)
      | .nx => Q (.d .non) (S'.take S.length)
      | _ => False := fun a' b' e' G h => by
    have hs0 : (S.set d (drC xs a' b' e'))[d]? = some (.lst [.lst (xs.map .int), .int a', .int b', .int e']) := hset _
    rw [eSs_cons]
    simp [ix_p hs0, binD_mod h1, binD_mod, binD_fdiv, binD_mul2, tk]
    exact hQ _ _ (mp _) (ml _) ⟨xs, a', b', e', rfl, h⟩
  unfold d_law_next startE
  rw [eSs_cons]
  simp [ix_p hd0]
  split
  · rw [eSs_cons]
    simp [ix_p hd0, binD_mod h1]
    rw [eSs_cons]
    simp [ix_p hd0, binD_fdiv h1 h2, setI_lst hd0 (j := 2) (k := 2) rfl]
    rw [eSs_cons]
    simp [tk]
    exact hQ _ _ (mp _) (ml _) ⟨xs, a, b / m, e, rfl, ha⟩
  · rw [eSs_cons]
    simp [ix_p hd0]
    split
    · rename_i hlt2
      have hx : ∃ x, xs[a.toNat]? = some x := ⟨xs[a.toNat]'(by omega), List.getElem?_eq_getElem (by omega)⟩
      obtain ⟨x, hx⟩ := hx
      have hix : atI (xs.map D.int) a = some (.int x) := by
        rw [atI_lt ha (by simpa using hlt2), List.getElem?_map, hx]
        rfl
      rw [eSs_cons]
      simp [ix_p hd0, hix]
      generalize (if x < 0 then -x else x) = y
      rw [eSs_cons]
      simp [ix_p hd0, setI_lst hd0 (j := 1) (k := 1) rfl]
      have hs := hset (Cell.lst [D.lst (List.map D.int xs), D.int (a + 1), D.int b, D.int e])
      rw [eSs_cons]
      simp [show binD .pow (.int 10) (.int 18) = some (.int 1000000000000000000) from rfl]
      split
      · rw [eSs_cons]
        simp [binD_fdiv h1 h2, setI_lst hs (j := 2) (k := 2) rfl]
        rw [eSs_cons]
        simp [binD_mod h1, tk]
        exact hQ _ _ (mp _) (ml _) ⟨xs, a + 1, _, e, rfl, by omega⟩
      · rw [eSs_cons]
        simp [ix_p hs, binD_mul2, binD_mod, setI_lst hs (j := 3) (k := 3) rfl]
        exact last _ _ _ _ (by omega)
    · rw [eSs_cons]
      simp [ix_p hd0, binD_mul2, binD_mod, setI_lst hd0 (j := 3) (k := 3) rfl]
      exact last _ _ _ _ ha

/-! ### stores -/
theorem set_app {S T : St} {d : Nat} {c : Cell} (h : d < S.length) : (S ++ T).set d c = S.set d c ++ T := by
  rw [List.set_append_left _ _ h]
theorem get_app {S T : St} {d : Nat} (h : d < S.length) : (S ++ T)[d]? = S[d]? := List.getElem?_append_left h
theorem get_new {S T : St} {c : Cell} : (S ++ c :: T)[S.length]? = some c := by
  rw [List.getElem?_append_right (Nat.le_refl _), Nat.sub_self]
  rfl
theorem set_new {S T : St} {c c' : Cell} : (S ++ c :: T).set S.length c' = S ++ c' :: T := by
  rw [List.set_append_right _ _ (Nat.le_refl _), Nat.sub_self]
  rfl
theorem get_set {S : St} {d : Nat} {c : Cell} (h : d < S.length) : (S.set d c)[d]? = some c := List.getElem?_set_self h
theorem take_set {S : St} {d : Nat} {c : Cell} : (S.set d c).take S.length = S.set d c := List.take_of_length_le (by simp)
theorem take_app {S T : St} {d : Nat} {c : Cell} : (S.set d c ++ T).take S.length = S.set d c := List.take_left' (by simp)
theorem lt_of {S : St} {d : Nat} {c : Cell} (h : S[d]? = some c) : d < S.length := (List.getElem?_eq_some_iff.mp h).1
/-- ascending from 0 -/
def Asc (es : List Int) : Prop := es.Pairwise (· < ·) ∧ ∀ e ∈ es, 0 ≤ e
theorem entries_run {P : Pg} (hP : P.at_ "" "_law_next" = some d_law_next) (hE : P.at_ "" "_law_entries" = some d_law_entries) {k n0 d : Nat} {m : Int} {S : St} {c : Cell} (hd : S[d]? = some c) (hc : IsDr c) (h1 : 0 < m) (h2 : m ≤ 50) {Q : Vl → St → Prop}
    (hQ : ∀ es c', Asc es → (∀ e ∈ es, e < 5000) → 1 ≤ es.length → es.length ≤ m.toNat → IsDr c' → Q (.d (.lst (es.map .int))) (S.set d c')) : wp (run P (k + 2) n0 "" "_law_entries" [.p d, .d (.int m)] S) Q := by
  have hlt := lt_of hd
  refine wp_run_false hE (by decide) rfl rfl ?_
  unfold d_law_entries startE
  rw [eSs_cons]
  simp
  rw [eSs_cons]
  simp
  refine next_run hP (c := c) (by rw [get_app hlt]; exact hd) hc (by decide) (by decide) fun r c1 r0 r1 hc1 => ?_
  rw [set_app hlt]
  rw [eSs_cons]
  simp
  refine next_run hP (c := c1) (by rw [get_app (by simpa using hlt)]; exact get_set hlt) hc1 h1 (by omega) fun q c2 q0 q1 hc2 => ?_
  rw [set_app (by simpa using hlt), List.set_set]
  have hcap : (cap : Int) = 1000000 := rfl
  simp
  refine ⟨⟨by omega, by omega⟩, ?_⟩
  let I : Nat → Env → St → Prop := fun i G S' => ∃ es c' last gk, G = [some (.p d), some (.d (.int m)), some (.p S.length), some (.d (.int last)), gk] ∧ S' = S.set d c' ++ [.lst (es.map .int)] ∧ IsDr c' ∧ es.length = i ∧ Asc es ∧ (∀ e ∈ es, e < last) ∧ 0 ≤ last ∧ last ≤ 2 + 90 * (i : Int)
  refine wq_for I
    ⟨[], c2, r, none, rfl, rfl, hc2, rfl, ⟨List.Pairwise.nil, fun e he => absurd he List.not_mem_nil⟩, fun e he => absurd he List.not_mem_nil, r0, by omega⟩ ?_ ?_
  · rintro i x G S' hx ⟨es, c', last, gk, rfl, rfl, hc', hl, ha, hla, h0, hub⟩
    have hi : i < (1 + q).toNat := by
      have := (List.getElem?_eq_some_iff.mp hx).1
      simpa using this
    have hlen : (S.set d c').length = S.length := List.length_set
    have hnew : (S.set d c' ++ [Cell.lst (es.map .int)])[S.length]? = some (.lst (es.map .int)) := by rw [← hlen]; exact get_new
    have hnew2 : ∀ z, (S.set d c' ++ [Cell.lst (es.map .int)]).set S.length z = S.set d c' ++ [z] := fun z => by rw [← hlen]; exact set_new
    unfold turnF
    simp [Tg.set]
    rw [eSs_cons]
    have hcp : es.length < cap := by show es.length < 1000000; omega
    simp [isLst, hnew, bmV, hcp, hnew2]
    rw [eSs_cons]
    simp
    refine next_run hP (c := c') (by rw [get_app (by simpa using hlt)]; exact get_set hlt) hc' (by decide) (by decide) fun u c3 u0 u1 hc3 => ?_
    rw [set_app (by simpa using hlt), List.set_set]
    refine next_run hP (c := c3) (by rw [get_app (by simpa using hlt)]; exact get_set hlt) hc3 (by decide) (by decide) fun v c4 v0 v1 hc4 => ?_
    rw [set_app (by simpa using hlt), List.set_set]
    simp [binD_mul1 (show (-18446744073709551616 : Int) < u by omega) (show u < 18446744073709551616 by omega)]
    have huv : 0 ≤ u * v := Int.mul_nonneg u0 v0
    have huv2 : u * v ≤ 89 := by
      have hu : u = 0 ∨ u = 1 := by omega
      rcases hu with rfl | rfl <;> omega
    refine ⟨es ++ [last], c4, _, _, rfl, by simp, hc4, by simp [hl], ⟨?_, ?_⟩, ?_, by omega, by omega⟩
    · rw [List.pairwise_append]
      exact ⟨ha.1, List.pairwise_singleton _ _, fun x hx y hy => by rw [List.mem_singleton.mp hy]; exact hla x hx⟩
    · intro e he
      rcases List.mem_append.mp he with he | he
      · exact ha.2 e he
      · rw [List.mem_singleton.mp he]; exact h0
    · intro e he
      rcases List.mem_append.mp he with he | he
      · have := hla e he
        omega
      · rw [List.mem_singleton.mp he]; omega
  · rintro G S' ⟨es, c', last, gk, rfl, rfl, hc', hl, ha, hla, h0, hub⟩
    have hlen : (S.set d c').length = S.length := List.length_set
    have hnew : (S.set d c' ++ [Cell.lst (es.map .int)])[S.length]? = some (.lst (es.map .int)) := by rw [← hlen]; exact get_new
    have hnew2 : ∀ z, (S.set d c' ++ [Cell.lst (es.map .int)]).set S.length z = S.set d c' ++ [z] := fun z => by rw [← hlen]; exact set_new
    simp
    rw [eSs_cons]
    simp [frzV, hnew, hnew2, take_app]
    simp at hl
    have hub : last ≤ 2 + 90 * ((1 + q).toNat : Int) := by simpa using hub
    exact hQ es c' ha (fun e he => by have := hla e he; omega) (by omega) (by omega) hc'
end LW

set_option Elab.async false
set_option linter.all false
set_option maxRecDepth 100000
set_option maxHeartbeats 4000000
/-! ML2: trees of conditions. -/
namespace LW
open MP
inductive T where
  | con (r : Bool) | there (e : Int) | neg (t : T) | con2 (a b : T) | dis (a b : T) | dif (a b : T)
def T.enc : T → D
  | .con r => .tup [.str "constant", .int (if r then 1 else 0)]
  | .there e => .tup [.str "there", .int e]
  | .neg t => .tup [.str "not", t.enc]
  | .con2 a b => .tup [.str "and", a.enc, b.enc]
  | .dis a b => .tup [.str "or", a.enc, b.enc]
  | .dif a b => .tup [.str "differ", a.enc, b.enc]
def T.ev (p : Int → Bool) : T → Bool
  | .con r => r
  | .there e => p e
  | .neg t => !t.ev p
  | .con2 a b => a.ev p && b.ev p
  | .dis a b => a.ev p || b.ev p
  | .dif a b => a.ev p != b.ev p
/-- over these entries, so high -/
def T.ok (es : List Int) : Nat → T → Prop
  | _, .con _ => True
  | _, .there e => e ∈ es
  | 0, _ => False
  | n + 1, .neg t => t.ok es n
  | n + 1, .con2 a b => a.ok es n ∧ b.ok es n
  | n + 1, .dis a b => a.ok es n ∧ b.ok es n
  | n + 1, .dif a b => a.ok es n ∧ b.ok es n
theorem atI_map {es : List Int} {r : Int} (h0 : 0 ≤ r) (h1 : r < es.length) : ∃ e ∈ es, atI (es.map D.int) r = some (.int e) := by
  have hx : es[r.toNat]? = some (es[r.toNat]'(by omega)) := List.getElem?_eq_getElem (by omega)
  refine ⟨es[r.toNat]'(by omega), List.getElem_mem _, ?_⟩
  rw [atI_lt h0 (by simpa using h1), List.getElem?_map, hx]
  rfl
theorem ite_or {A B : Prop} {p q : Prop} [Decidable p] [Decidable q] : (if p then A else if q then A else B) = if p ∨ q then A else B := by
  by_cases hp : p <;> by_cases hq : q <;> simp [hp, hq]
theorem next_K {P : Pg} (hP : P.at_ "" "_law_next" = some d_law_next) {K n0 d : Nat} (hK : 0 < K) {m : Int} {S : St} {c : Cell} (hd : S[d]? = some c) (hc : IsDr c) (h1 : 0 < m) (h2 : m < 100000000000000000000000000000) {Q : Vl → St → Prop}
    (hQ : ∀ r c', 0 ≤ r → r < m → IsDr c' → Q (.d (.int r)) (S.set d c')) : wp (run P K n0 "" "_law_next" [.p d, .d (.int m)] S) Q := by
  obtain ⟨k, rfl⟩ : ∃ k, K = k + 1 := ⟨K - 1, by omega⟩
  exact next_run hP hd hc h1 h2 hQ
theorem T.ok_leaf {es : List Int} {n : Nat} {r : Bool} : T.ok es n (.con r) := by cases n <;> trivial
theorem T.ok_there {es : List Int} {n : Nat} {e : Int} (h : e ∈ es) : T.ok es n (.there e) := by cases n <;> exact h
theorem tree_run {P : Pg} (hP : P.at_ "" "_law_next" = some d_law_next) (hT : P.at_ "" "_law_tree" = some d_law_tree) {d : Nat} {es : List Int} (he : 0 < es.length) (he2 : es.length < 1000) : ∀ (n K n0 : Nat) (hK : n + 2 ≤ K) {S : St} {c : Cell} (hd : S[d]? = some c) (hc : IsDr c) {Q : Vl → St → Prop}
    (hQ : ∀ t c', T.ok es n t → IsDr c' → Q (.d t.enc) (S.set d c')), wp (run P K n0 "" "_law_tree" [.p d, .d (.lst (es.map .int)), .d (.int n)] S) Q := by
  intro n
  induction n using Nat.strongRecOn with
  | _ n ih =>
    intro K n0 hK S c hd hc Q hQ
    have hlt := lt_of hd
    obtain ⟨K, rfl⟩ : ∃ k, K = k + 1 := ⟨K - 1, by omega⟩
    refine wp_run_false hT (by decide) rfl rfl ?_
    unfold d_law_tree startE
    rw [eSs_cons]
    simp
    refine next_K hP (by omega) hd hc (by decide) (by decide) fun f c1 f0 f1 hc1 => ?_
    rw [eSs_cons]
    simp
    rw [ite_or]
    split
    · rw [eSs_cons]
      simp
      refine next_K hP (by omega) (get_set hlt) hc1 (by decide) (by decide) fun r c2 r0 r1 hc2 => ?_
      simp
      split
      · rw [eSs_cons]
        simp
        refine next_K hP (by omega) (get_set hlt) hc2 (by decide) (by decide) fun u c3 u0 u1 hc3 => ?_
        simp [take_set, cap]
        have hu : u = 0 ∨ u = 1 := by omega
        rcases hu with rfl | rfl
        · exact hQ (.con false) c3 T.ok_leaf hc3
        · exact hQ (.con true) c3 T.ok_leaf hc3
      · rw [eSs_cons]
        simp
        refine next_K hP (by omega) (get_set hlt) hc2 (by omega) (by omega) fun u c3 u0 u1 hc3 => ?_
        obtain ⟨e, hm, ha⟩ := atI_map (es := es) u0 u1
        simp [take_set, cap, ha]
        exact hQ (.there e) c3 (T.ok_there hm) hc3
    · rename_i hn
      obtain ⟨m, rfl⟩ : ∃ m, n = m + 1 := ⟨n - 1, by omega⟩
      have hm1 : ((m + 1 : Nat) : Int) - 1 = (m : Int) := by omega
      have hm2 : (m : Int) + 1 - 1 = (m : Int) := by omega
      simp
      rw [eSs_cons]
      simp
      split
      · rw [eSs_cons]
        simp [hm1, hm2]
        refine ih m (by omega) K _ (by omega) (get_set hlt) hc1 fun t c2 ht hc2 => ?_
        simp [take_set, cap]
        exact hQ (.neg t) c2 ht hc2
      · rw [eSs_cons]
        simp [hm1, hm2]
        refine ih m (by omega) K _ (by omega) (get_set hlt) hc1 fun t c2 ht hc2 => ?_
        simp
        rw [eSs_cons]
        have hf : f % 3 = 0 ∨ f % 3 = 1 ∨ f % 3 = 2 := by omega
        simp [hm1, hm2, cap, binD_mod]
        rcases hf with hf | hf | hf
        all_goals
          simp [hf]
          refine ih m (by omega) K _ (by omega) (get_set hlt) hc2 fun t' c3 ht' hc3 => ?_
          simp [take_set]
        · exact hQ (.con2 t t') c3 ⟨ht, ht'⟩ hc3
        · exact hQ (.dis t t') c3 ⟨ht, ht'⟩ hc3
        · exact hQ (.dif t t') c3 ⟨ht, ht'⟩ hc3

def T.dp : T → Nat
  | .con _ => 0
  | .there _ => 0
  | .neg t => t.dp + 1
  | .con2 a b => max a.dp b.dp + 1
  | .dis a b => max a.dp b.dp + 1
  | .dif a b => max a.dp b.dp + 1
theorem T.ok_dp {es : List Int} : ∀ {n : Nat} {t : T}, T.ok es n t → t.dp ≤ n
  | _, .con _, _ => Nat.zero_le _
  | _, .there _, _ => Nat.zero_le _
  | 0, .neg _, h => h.elim
  | 0, .con2 _ _, h => h.elim
  | 0, .dis _ _, h => h.elim
  | 0, .dif _ _, h => h.elim
  | n + 1, .neg t, h => Nat.succ_le_succ (T.ok_dp (n := n) (t := t) h)
  | n + 1, .con2 a b, h => Nat.succ_le_succ (Nat.max_le.mpr ⟨T.ok_dp (n := n) (t := a) h.1, T.ok_dp (n := n) (t := b) h.2⟩)
  | n + 1, .dis a b, h => Nat.succ_le_succ (Nat.max_le.mpr ⟨T.ok_dp (n := n) (t := a) h.1, T.ok_dp (n := n) (t := b) h.2⟩)
  | n + 1, .dif a b, h => Nat.succ_le_succ (Nat.max_le.mpr ⟨T.ok_dp (n := n) (t := a) h.1, T.ok_dp (n := n) (t := b) h.2⟩)
theorem in_ints {S : St} {e : Int} {ps : List Int} : cmpV .in_ S (.d (.int e)) (.d (.lst (ps.map .int))) = some (decide (e ∈ ps)) := by
  have h1 : (ps.map D.int).all D.flat = true := by simp [List.all_eq_true, D.flat]
  simp only [cmpV, inV, inD, D.flat, h1, Bool.and_self, Bool.true_or, if_true]
  congr 1
  rw [List.any_map]
  induction ps with
  | nil => rfl
  | cons p ps ih =>
    have h2 : (ps.map D.int).all D.flat = true := by simp [List.all_eq_true, D.flat]
    rw [List.any_cons, ih h2]
    have e1 : (p == e) = decide (e = p) := by
      by_cases h : e = p
      · subst h; simp
      · rw [decide_eq_false h]; exact beq_false_of_ne (Ne.symm h)
    simp [D.eq, e1]
theorem true_run {P : Pg} (hT : P.at_ "" "_law_true" = some d_law_true) {ps : List Int} : ∀ (t : T) (K n0 : Nat) (hK : t.dp < K) {S : St} {Q : Vl → St → Prop} (hQ : Q (.d (.bl (t.ev fun e => decide (e ∈ ps)))) S), wp (run P K n0 "" "_law_true" [.d t.enc, .d (.lst (ps.map .int))] S) Q := by
  intro t
  induction t with
  | con r =>
    intro K n0 hK S Q hQ
    obtain ⟨K, rfl⟩ : ∃ k, K = k + 1 := ⟨K - 1, by omega⟩
    refine wp_run_false hT (by decide) rfl rfl ?_
    unfold d_law_true startE T.enc
    rw [eSs_cons]
    simp
    rw [eSs_cons]
    cases r <;> simpa [T.ev] using hQ
  | there e =>
    intro K n0 hK S Q hQ
    obtain ⟨K, rfl⟩ : ∃ k, K = k + 1 := ⟨K - 1, by omega⟩
    refine wp_run_false hT (by decide) rfl rfl ?_
    unfold d_law_true startE T.enc
    rw [eSs_cons]
    simp
    rw [eSs_cons]
    simp
    rw [eSs_cons]
    simp [in_ints]
    exact hQ
  | neg t ih =>
    intro K n0 hK S Q hQ
    obtain ⟨K, rfl⟩ : ∃ k, K = k + 1 := ⟨K - 1, by omega⟩
    refine wp_run_false hT (by decide) rfl rfl ?_
    unfold d_law_true startE T.enc
    simp only [T.dp] at hK
    rw [eSs_cons]
    simp
    rw [eSs_cons]
    simp
    rw [eSs_cons]
    simp
    refine ih K _ (by omega) ?_
    rw [eSs_cons]
    simp
    rw [eSs_cons]
    simp
    exact hQ
  | con2 a b iha ihb =>
    intro K n0 hK S Q hQ
    obtain ⟨K, rfl⟩ : ∃ k, K = k + 1 := ⟨K - 1, by omega⟩
    refine wp_run_false hT (by decide) rfl rfl ?_
    unfold d_law_true startE T.enc
    simp only [T.dp] at hK
    rw [eSs_cons]
    simp
    rw [eSs_cons]
    simp
    rw [eSs_cons]
    simp
    refine iha K _ (by omega) ?_
    rw [eSs_cons]
    simp
    rw [eSs_cons]
    simp
    refine ihb K _ (by omega) ?_
    rw [eSs_cons]
    simp
    rw [eSs_cons]
    simp [T.ev] at hQ ⊢
    cases h : a.ev fun e => decide (e ∈ ps) <;> simpa [h] using hQ
  | dis a b iha ihb =>
    intro K n0 hK S Q hQ
    obtain ⟨K, rfl⟩ : ∃ k, K = k + 1 := ⟨K - 1, by omega⟩
    refine wp_run_false hT (by decide) rfl rfl ?_
    unfold d_law_true startE T.enc
    simp only [T.dp] at hK
    rw [eSs_cons]
    simp
    rw [eSs_cons]
    simp
    rw [eSs_cons]
    simp
    refine iha K _ (by omega) ?_
    rw [eSs_cons]
    simp
    rw [eSs_cons]
    simp
    refine ihb K _ (by omega) ?_
    rw [eSs_cons]
    simp
    rw [eSs_cons]
    simp [T.ev] at hQ ⊢
    cases h : a.ev fun e => decide (e ∈ ps) <;> simpa [h] using hQ
  | dif a b iha ihb =>
    intro K n0 hK S Q hQ
    obtain ⟨K, rfl⟩ : ∃ k, K = k + 1 := ⟨K - 1, by omega⟩
    refine wp_run_false hT (by decide) rfl rfl ?_
    unfold d_law_true startE T.enc
    simp only [T.dp] at hK
    rw [eSs_cons]
    simp
    rw [eSs_cons]
    simp
    rw [eSs_cons]
    simp
    refine iha K _ (by omega) ?_
    rw [eSs_cons]
    simp
    rw [eSs_cons]
    simp
    refine ihb K _ (by omega) ?_
    rw [eSs_cons]
    simp
    rw [eSs_cons]
    simp [T.ev] at hQ ⊢
    exact hQ
/-- all subsets, as the law lists them -/
def subs (es : List Int) : List (List Int) := es.foldl (fun F e => F ++ F.map fun p => p ++ [e]) [[]]
def encS (F : List (List Int)) : List D := F.map fun p => .lst (p.map .int)
theorem subs_len (es : List Int) : (subs es).length = 2 ^ es.length := by
  have key : ∀ (es : List Int) (F : List (List Int)), (es.foldl (fun F e => F ++ F.map fun p => p ++ [e]) F).length = F.length * 2 ^ es.length := by
    intro es
    induction es with
    | nil => intro F; simp
    | cons e es ih =>
      intro F
      rw [List.foldl_cons, ih, List.length_append, List.length_map, List.length_cons, Nat.pow_succ, ← Nat.two_mul, Nat.mul_comm 2, Nat.mul_assoc, Nat.mul_comm 2]
  unfold subs
  rw [key]
  simp
theorem subs_snoc (es : List Int) (e : Int) : subs (es ++ [e]) = subs es ++ (subs es).map fun p => p ++ [e] := by
  unfold subs
  rw [List.foldl_append]
  rfl
theorem rev_ind {C : List Int → Prop} (h0 : C []) (hs : ∀ l e, C l → C (l ++ [e])) : ∀ l, C l := by
  intro l
  rw [← List.reverse_reverse l]
  induction l.reverse with
  | nil => exact h0
  | cons a r ih =>
    rw [List.reverse_cons]
    exact hs _ _ ih
theorem subs_sub : ∀ (es : List Int) (p : List Int), p ∈ subs es → p.Sublist es := by
  intro es
  induction es using rev_ind with
  | h0 =>
    intro p hp
    have : p = [] := by simpa [subs] using hp
    subst this
    exact List.Sublist.refl _
  | hs l e ih =>
    intro p hp
    rw [subs_snoc, List.mem_append] at hp
    rcases hp with hp | hp
    · exact (ih p hp).trans (List.sublist_append_left _ _)
    · obtain ⟨q, hq, rfl⟩ := List.mem_map.mp hp
      exact (ih q hq).append (List.Sublist.refl _)
theorem subs_filter (f : Int → Bool) : ∀ es : List Int, es.filter f ∈ subs es := by
  intro es
  induction es using rev_ind with
  | h0 => simp [subs]
  | hs l e ih =>
    rw [subs_snoc, List.filter_append, List.mem_append]
    cases h : f e with
    | false =>
      left
      simpa [h] using ih
    | true =>
      right
      refine List.mem_map.mpr ⟨l.filter f, ih, ?_⟩
      simp [h]
theorem subs_take (es : List Int) (i : Nat) (e : Int) (h : es[i]? = some e) : subs (es.take (i + 1)) = subs (es.take i) ++ (subs (es.take i)).map fun p => p ++ [e] := by
  have h1 : es.take (i + 1) = es.take i ++ [e] := by
    rw [List.take_add_one, h]
    rfl
  unfold subs
  rw [h1, List.foldl_append]
  rfl
theorem subsets_run {P : Pg} (hT : P.at_ "" "_law_subsets" = some d_law_subsets) {es : List Int} (hes : es.length ≤ 10) (K n0 : Nat) (hK : 0 < K) {S : St} {Q : Vl → St → Prop} (hQ : Q (.d (.lst (encS (subs es)))) S) : wp (run P K n0 "" "_law_subsets" [.d (.lst (es.map .int))] S) Q := by
  obtain ⟨K, rfl⟩ : ∃ k, K = k + 1 := ⟨K - 1, by omega⟩
  refine wp_run_false hT (by decide) rfl rfl ?_
  unfold d_law_subsets startE
  rw [eSs_cons]
  simp [cap]
  rw [eSs_cons]
  simp
  let I : Nat → Env → St → Prop := fun i G S' => ∃ g2 g3, G = [some (.d (.lst (es.map .int))), some (.d (.lst (encS (subs (es.take i))))), g2, g3] ∧ S' = S
  refine wq_for I ⟨none, none, rfl, rfl⟩ ?_ ?_
  · rintro i x G S' hx ⟨g2, g3, rfl, hSS⟩
    subst hSS
    rw [List.getElem?_map, Option.map_eq_some_iff] at hx
    obtain ⟨e, he, rfl⟩ := hx
    have hi : i < es.length := (List.getElem?_eq_some_iff.mp he).1
    have hlen : (subs (es.take i)).length ≤ 1000 := by
      rw [subs_len]
      exact Nat.le_trans (Nat.pow_le_pow_right (by decide) (show (es.take i).length ≤ 9 by rw [List.length_take]; omega)) (by decide)
    unfold turnF
    simp [Tg.set]
    rw [eSs_cons]
    simp
    let J : Nat → List D → St → Prop := fun j acc S'' => acc = encS (((subs (es.take i)).map fun p => p ++ [e]).take j) ∧ S'' = S'
    refine wp_comp J ⟨rfl, rfl⟩ ?_ ?_
    · rintro j y acc S'' hy ⟨rfl, rfl⟩
      unfold encS at hy
      rw [List.getElem?_map, Option.map_eq_some_iff] at hy
      obtain ⟨p, hp, rfl⟩ := hy
      unfold turnC
      have hpl : p.length ≤ 10 := by
        have := (subs_sub _ p (List.mem_of_getElem? hp)).length_le
        rw [List.length_take] at this
        omega
      simp [Tg.set, cap]
      rw [binD_lst (by simp [cap]; omega)]
      simp
      refine ⟨?_, ?_, rfl⟩
      · unfold encS
        rw [List.length_map, List.length_take, List.length_map]
        omega
      · unfold encS
        rw [List.take_add_one, List.getElem?_map, hp]
        simp
    · rintro acc S'' ⟨rfl, hS3⟩
      subst hS3
      have htk : ∀ F : List (List Int), ((F.map fun p => p ++ [e]).take (encS F).length) = F.map fun p => p ++ [e] := fun F => List.take_of_length_le (by simp [encS])
      rw [htk]
      have hl2 : (encS (subs (es.take i))).length + (encS ((subs (es.take i)).map fun p => p ++ [e])).length ≤ cap := by
        unfold encS
        simp [cap]
        omega
      simp [binD_lst hl2]
      refine ⟨some (.d (.int e)), g3, ?_, rfl⟩
      rw [subs_take es i e he]
      simp [encS]
  · rintro G S' ⟨g2, g3, rfl, rfl⟩
    simp
    rw [eSs_cons]
    simp
    exact hQ
end LW

set_option linter.all false
set_option maxHeartbeats 4000000
/-! MB: diagrams of conditions, in plain Lean. -/
namespace LW
abbrev Nd : Type := Int × Nat × Nat
def sem (N : List Nd) (p : Int → Bool) (c : Nat) : Bool :=
  if c = 0 then false else if c = 1 then true else match N[c - 2]? with
    | some (e, w, t) => if h : w < c ∧ t < c then (if p e then sem N p t else sem N p w) else false
    | none => false
termination_by c
decreasing_by
  · exact h.2
  · exact h.1
theorem sem_0 (N : List Nd) (p : Int → Bool) : sem N p 0 = false := by unfold sem; rfl
theorem sem_1 (N : List Nd) (p : Int → Bool) : sem N p 1 = true := by unfold sem; rfl
theorem sem_nd {N : List Nd} {c : Nat} {e : Int} {w t : Nat} (hc : 2 ≤ c) (h : N[c - 2]? = some (e, w, t)) (hw : w < c) (ht : t < c) (p : Int → Bool) : sem N p c = if p e then sem N p t else sem N p w := by
  rw [sem, if_neg (by omega), if_neg (by omega), h]
  simp only [dif_pos (And.intro hw ht)]
/-- the diagram's top stands behind e -/
def Abv (N : List Nd) (e : Int) (c : Nat) : Prop := c < 2 ∨ ∃ e' w t, 2 ≤ c ∧ N[c - 2]? = some (e', w, t) ∧ e < e'
structure WF (es : List Int) (N : List Nd) : Prop where
  nd : N.Nodup
  ok : ∀ (i : Nat) (e : Int) (w t : Nat), N[i]? = some (e, w, t) → w < i + 2 ∧ t < i + 2 ∧ w ≠ t ∧ Abv N e w ∧ Abv N e t ∧ e ∈ es
theorem abv_mono {N N' : List Nd} (h : ∀ (i : Nat) (n : Nd), N[i]? = some n → N'[i]? = some n) {e : Int} {c : Nat} (a : Abv N e c) : Abv N' e c := by
  rcases a with a | ⟨e', w, t, h1, h2, h3⟩
  · exact .inl a
  · exact .inr ⟨e', w, t, h1, h _ _ h2, h3⟩
theorem abv_trans {N : List Nd} {e e' : Int} {c : Nat} (h : e ≤ e') (a : Abv N e' c) : Abv N e c := by
  rcases a with a | ⟨e2, w, t, h1, h2, h3⟩
  · exact .inl a
  · exact .inr ⟨e2, w, t, h1, h2, by omega⟩
/-- Ext: more nodes -/
def Ext (N N' : List Nd) : Prop := ∃ M, N' = N ++ M
theorem Ext.get {N N' : List Nd} (h : Ext N N') {i : Nat} {n : Nd} (e : N[i]? = some n) : N'[i]? = some n := by
  obtain ⟨M, rfl⟩ := h
  have hi : i < N.length := (List.getElem?_eq_some_iff.mp e).1
  rw [List.getElem?_append_left hi]
  exact e
theorem Ext.refl {N : List Nd} : Ext N N := ⟨[], by simp⟩
theorem Ext.trans {A B C : List Nd} (h : Ext A B) (g : Ext B C) : Ext A C := by
  obtain ⟨M, rfl⟩ := h
  obtain ⟨L, rfl⟩ := g
  exact ⟨M ++ L, by simp⟩
theorem Ext.len {N N' : List Nd} (h : Ext N N') : N.length ≤ N'.length := by
  obtain ⟨M, rfl⟩ := h
  simp
theorem Ext.abv {N N' : List Nd} (h : Ext N N') {e : Int} {c : Nat} (a : Abv N e c) : Abv N' e c := abv_mono (fun i n e => h.get e) a
section
variable {es : List Int} {N N' : List Nd}
theorem nd_of {c : Nat} (hc : 2 ≤ c) (hl : c < N.length + 2) : ∃ e w t, N[c - 2]? = some (e, w, t) := by
  have h : c - 2 < N.length := by omega
  exact ⟨(N[c - 2]'h).1, (N[c - 2]'h).2.1, (N[c - 2]'h).2.2, List.getElem?_eq_getElem h⟩
theorem sem_ext (h : Ext N N') (wf : WF es N) (p : Int → Bool) : ∀ c, c < N.length + 2 → sem N' p c = sem N p c := by
  intro c
  induction c using Nat.strongRecOn with
  | _ c ih =>
    intro hl
    by_cases h0 : c = 0
    · subst h0; rw [sem_0, sem_0]
    · by_cases h1 : c = 1
      · subst h1; rw [sem_1, sem_1]
      · obtain ⟨e, w, t, hn⟩ := nd_of (N := N) (c := c) (by omega) hl
        obtain ⟨hw, ht, _⟩ := wf.ok _ _ _ _ hn
        have hw : w < c := by omega
        have ht : t < c := by omega
        rw [sem_nd (by omega) hn hw ht, sem_nd (by omega) (h.get hn) hw ht, ih w hw (by omega), ih t ht (by omega)]
/-- an entry that is not asked -/
theorem sem_abv (wf : WF es N) {e : Int} {p q : Int → Bool} (hp : ∀ x, e < x → p x = q x) : ∀ c, c < N.length + 2 → Abv N e c → sem N p c = sem N q c := by
  intro c
  induction c using Nat.strongRecOn with
  | _ c ih =>
    intro hl ha
    by_cases h0 : c = 0
    · subst h0; rw [sem_0, sem_0]
    · by_cases h1 : c = 1
      · subst h1; rw [sem_1, sem_1]
      · rcases ha with ha | ⟨e', w, t, _, hn, hlt⟩
        · omega
        · obtain ⟨hw, ht, _, aw, at', _⟩ := wf.ok _ _ _ _ hn
          have hw : w < c := by omega
          have ht : t < c := by omega
          rw [sem_nd (by omega) hn hw ht, sem_nd (by omega) hn hw ht, hp e' hlt, ih w hw (by omega) (abv_trans (by omega) aw), ih t ht (by omega) (abv_trans (by omega) at')]
def pu (p : Int → Bool) (e : Int) (b : Bool) : Int → Bool := fun x => if x = e then b else p x
theorem pu_abv (wf : WF es N) {e : Int} {c : Nat} (hl : c < N.length + 2) (ha : Abv N e c) (p : Int → Bool) (b : Bool) : sem N (pu p e b) c = sem N p c :=
  sem_abv wf (fun x hx => if_neg (by omega)) c hl ha
/-- conditions have one form -/
theorem canonN (wf : WF es N) : ∀ (n a b : Nat), a ≤ n → b ≤ n → a < N.length + 2 → b < N.length + 2 → (∀ p, sem N p a = sem N p b) → a = b := by
  intro n
  induction n with
  | zero => intro a b h h2; omega
  | succ n ih =>
    -- a node is not what stands behind its entry
    have key : ∀ (a b : Nat) (e : Int) (w t : Nat), a ≤ n + 1 → a < N.length + 2 → b < N.length + 2 → 2 ≤ a → N[a - 2]? = some (e, w, t) → Abv N e b → (∀ p, sem N p a = sem N p b) → False := by
      intro a b e w t hs ha hb h2 hn hab h
      obtain ⟨hw, ht, ne, aw, at', _⟩ := wf.ok _ _ _ _ hn
      have hw : w < a := by omega
      have ht : t < a := by omega
      refine ne (ih w t (by omega) (by omega) (by omega) (by omega) fun p => ?_)
      have q1 := h (pu p e true)
      have q0 := h (pu p e false)
      have p1 : pu p e true e = true := if_pos rfl
      have p0 : pu p e false e = false := if_pos rfl
      rw [sem_nd h2 hn hw ht, p1, pu_abv wf hb hab, if_pos rfl, pu_abv wf (by omega) at'] at q1
      rw [sem_nd h2 hn hw ht, p0, pu_abv wf hb hab, if_neg (by decide), pu_abv wf (by omega) aw] at q0
      rw [q0, q1]
    intro a b hs hs2 ha hb h
    by_cases a2 : a < 2
    · by_cases b2 : b < 2
      · have := h fun _ => true
        have ha' : a = 0 ∨ a = 1 := by omega
        have hb' : b = 0 ∨ b = 1 := by omega
        rcases ha' with rfl | rfl <;> rcases hb' with rfl | rfl <;> simp [sem_0, sem_1] at this <;> rfl
      · obtain ⟨e, w, t, hn⟩ := nd_of (N := N) (c := b) (by omega) hb
        exact (key b a e w t (by omega) hb ha (by omega) hn (.inl a2) fun p => (h p).symm).elim
    · obtain ⟨e, w, t, hn⟩ := nd_of (N := N) (c := a) (by omega) ha
      by_cases b2 : b < 2
      · exact (key a b e w t hs ha hb (by omega) hn (.inl b2) h).elim
      · obtain ⟨e', w', t', hn'⟩ := nd_of (N := N) (c := b) (by omega) hb
        by_cases h1 : e < e'
        · exact (key a b e w t hs ha hb (by omega) hn (.inr ⟨e', w', t', by omega, hn', h1⟩) h).elim
        · by_cases h3 : e' < e
          · exact (key b a e' w' t' (by omega) hb ha (by omega) hn' (.inr ⟨e, w, t, by omega, hn, h3⟩) fun p => (h p).symm).elim
          · have ee : e' = e := by omega
            subst ee
            obtain ⟨hw, ht, _, aw, at', _⟩ := wf.ok _ _ _ _ hn
            obtain ⟨hw', ht', _, aw', at'', _⟩ := wf.ok _ _ _ _ hn'
            have ew : w = w' := ih w w' (by omega) (by omega) (by omega) (by omega) fun p => by
              have q := h (pu p e' false)
              rw [sem_nd (by omega) hn (by omega) (by omega), sem_nd (by omega) hn' (by omega) (by omega), show pu p e' false e' = false from if_pos rfl, if_neg (by decide), if_neg (by decide), pu_abv wf (by omega) aw, pu_abv wf (by omega) aw'] at q
              exact q
            have et : t = t' := ih t t' (by omega) (by omega) (by omega) (by omega) fun p => by
              have q := h (pu p e' true)
              rw [sem_nd (by omega) hn (by omega) (by omega), sem_nd (by omega) hn' (by omega) (by omega), show pu p e' true e' = true from if_pos rfl, if_pos rfl, if_pos rfl, pu_abv wf (by omega) at', pu_abv wf (by omega) at''] at q
              exact q
            subst ew et
            have hi := (List.getElem?_eq_some_iff.mp hn).1
            have hj := (List.getElem?_eq_some_iff.mp hn').1
            have := (List.getElem_inj (h₀ := hi) (h₁ := hj) wf.nd).mp (by
              rw [(List.getElem?_eq_some_iff.mp hn).2, (List.getElem?_eq_some_iff.mp hn').2])
            omega
theorem canon (wf : WF es N) {a b : Nat} (ha : a < N.length + 2) (hb : b < N.length + 2) (h : ∀ p, sem N p a = sem N p b) : a = b := canonN wf (a + b) a b (by omega) (by omega) ha hb h
/-- a new node -/
theorem wf_snoc (wf : WF es N) {e : Int} {w t : Nat} (hw : w < N.length + 2) (ht : t < N.length + 2) (ne : w ≠ t) (aw : Abv N e w) (at' : Abv N e t) (he : e ∈ es) (hn : (e, w, t) ∉ N) : WF es (N ++ [(e, w, t)]) := by
  have hx : Ext N (N ++ [(e, w, t)]) := ⟨_, rfl⟩
  refine ⟨?_, fun i e' w' t' h => ?_⟩
  · rw [List.nodup_append]
    refine ⟨wf.nd, by simp, fun a ha b hb => ?_⟩
    rw [List.mem_singleton.mp hb]
    intro z
    subst z
    exact hn ha
  · by_cases hi : i < N.length
    · rw [List.getElem?_append_left hi] at h
      obtain ⟨h1, h2, h3, h4, h5, h6⟩ := wf.ok i e' w' t' h
      exact ⟨h1, h2, h3, hx.abv h4, hx.abv h5, h6⟩
    · rw [List.getElem?_append_right (by omega)] at h
      have e0 : i - N.length = 0 := by
        cases z : i - N.length with
        | zero => rfl
        | succ n => rw [z] at h; simp at h
      rw [e0] at h
      cases h
      have : i = N.length := by omega
      subst this
      exact ⟨hw, ht, ne, hx.abv aw, hx.abv at', he⟩
end
end LW

set_option Elab.async false
set_option linter.all false
set_option maxRecDepth 100000
set_option maxHeartbeats 4000000
/-! MB2: the store of diagrams. -/
namespace LW
open MP
structure Q4 where
  s : Nat
  i : Nat
  j : Nat
  l : Nat
def insC (q : Q4) : Cell := .ins "Diagrams" [("_nodes", .p q.i), ("_numbers", .p q.j), ("_results", .p q.l)]
def encN (n : Nd) : D := .tup [.int n.1, .int n.2.1, .int n.2.2]
def nodesL (N : List Nd) : List D := .non :: .non :: N.map encN
def numsL : Nat → List Nd → List (D × Vl)
  | _, [] => []
  | k, n :: r => (encN n, .d (.int k)) :: numsL (k + 1) r
structure Has (S : St) (q : Q4) (N : List Nd) (R : List (D × Vl)) : Prop where
  s : S[q.s]? = some (insC q)
  i : S[q.i]? = some (.lst (nodesL N))
  j : S[q.j]? = some (.dic .t (numsL 2 N))
  l : S[q.l]? = some (.dic .t R)
  ij : q.i ≠ q.j
  il : q.i ≠ q.l
  jl : q.j ≠ q.l
  si : q.s ≠ q.i
  sj : q.s ≠ q.j
  sl : q.s ≠ q.l
def up (S : St) (q : Q4) (N : List Nd) (R : List (D × Vl)) : St := ((S.set q.i (.lst (nodesL N))).set q.j (.dic .t (numsL 2 N))).set q.l (.dic .t R)
theorem up_len {S : St} {q : Q4} {N : List Nd} {R : List (D × Vl)} : (up S q N R).length = S.length := by simp [up]
theorem up_take {S : St} {q : Q4} {N : List Nd} {R : List (D × Vl)} : (up S q N R).take S.length = up S q N R := List.take_of_length_le (by rw [up_len]; exact Nat.le_refl _)
section
variable {S : St} {q : Q4} {N N' : List Nd} {R R' : List (D × Vl)}
theorem Has.up (h : Has S q N R) : Has (up S q N' R') q N' R' := by
  have h1 := lt_of h.i
  have h2 := lt_of h.j
  have h3 := lt_of h.l
  refine ⟨?_, ?_, ?_, ?_, h.ij, h.il, h.jl, h.si, h.sj, h.sl⟩ <;> unfold LW.up
  · rw [List.getElem?_set_ne h.sl.symm, List.getElem?_set_ne h.sj.symm, List.getElem?_set_ne h.si.symm]; exact h.s
  · rw [List.getElem?_set_ne h.il.symm, List.getElem?_set_ne h.ij.symm]; exact List.getElem?_set_self h1
  · rw [List.getElem?_set_ne h.jl.symm]; exact List.getElem?_set_self (by simpa using h2)
  · exact List.getElem?_set_self (by simpa using h3)
theorem up_up (h : Has S q N R) {N1 N2 : List Nd} {R1 R2 : List (D × Vl)} : LW.up (LW.up S q N1 R1) q N2 R2 = LW.up S q N2 R2 := by
  unfold LW.up
  rw [List.set_comm _ _ h.il.symm, List.set_comm _ _ h.ij.symm, List.set_set, List.set_comm _ _ h.jl.symm, List.set_set, List.set_set]
theorem set_same {c : Cell} {d : Nat} (h : S[d]? = some c) : S.set d c = S := by
  apply List.ext_getElem?
  intro k
  by_cases e : d = k
  · subst e
    rw [List.getElem?_set_self (lt_of h), h]
  · rw [List.getElem?_set_ne e]
theorem up_same (h : Has S q N R) : LW.up S q N R = S := by
  unfold LW.up
  rw [set_same h.i, set_same h.j, set_same h.l]
theorem up_get {d : Nat} (h1 : d ≠ q.i) (h2 : d ≠ q.j) (h3 : d ≠ q.l) : (LW.up S q N R)[d]? = S[d]? := by
  unfold LW.up
  rw [List.getElem?_set_ne h3.symm, List.getElem?_set_ne h2.symm, List.getElem?_set_ne h1.symm]
/-! ### keys -/
theorem eqN (a b : Nd) : D.eq (encN a) (encN b) = decide (a = b) := by
  obtain ⟨a1, a2, a3⟩ := a
  obtain ⟨b1, b2, b3⟩ := b
  simp only [encN, D.eq, D.eqs, Bool.and_true]
  by_cases h1 : a1 = b1 <;> by_cases h2 : a2 = b2 <;> by_cases h3 : a3 = b3 <;> simp [h1, h2, h3]
  all_goals omega
theorem nums_any (n : Nd) : ∀ (N : List Nd) (k : Nat), ((numsL k N).any fun x => D.eq x.1 (encN n)) = decide (n ∈ N)
  | [], _ => rfl
  | m :: N, k => by
    unfold numsL
    rw [List.any_cons, nums_any n N (k + 1), eqN]
    by_cases h : m = n
    · simp [h]
    · simp [h, Ne.symm h]
theorem nums_snoc (n : Nd) : ∀ (N : List Nd) (k : Nat), numsL k (N ++ [n]) = numsL k N ++ [(encN n, .d (.int ((k + N.length : Nat) : Int)))]
  | [], k => by simp [numsL]
  | m :: N, k => by
    rw [List.cons_append]
    unfold numsL
    rw [nums_snoc n N (k + 1), List.cons_append]
    simp only [List.length_cons]
    rw [show k + 1 + N.length = k + (N.length + 1) by omega]
theorem nums_put (n : Nd) (hn : n ∉ N) : put (numsL 2 N) (encN n) (.d (.int ((N.length : Int) + 2))) = numsL 2 (N ++ [n]) := by
  unfold put
  rw [nums_any, decide_eq_false hn, if_neg (by decide), nums_snoc]
  have e : ((2 + N.length : Nat) : Int) = (N.length : Int) + 2 := by omega
  rw [e]
theorem nums_look (n : Nd) : ∀ (N : List Nd) (k : Nat), n ∈ N → ∃ i, N[i]? = some n ∧ look (numsL k N) (encN n) = some (.d (.int ((k + i : Nat) : Int)))
  | [], _, h => by cases h
  | m :: N, k, h => by
    unfold numsL look
    rw [List.find?_cons, eqN]
    by_cases e : m = n
    · subst e
      simp only [decide_true]
      exact ⟨0, rfl, rfl⟩
    · rw [decide_eq_false e]
      simp only
      obtain ⟨i, h1, h2⟩ := nums_look n N (k + 1) ((List.mem_cons.mp h).resolve_left (Ne.symm e))
      refine ⟨i + 1, h1, ?_⟩
      unfold look at h2
      rw [h2, show k + 1 + i = k + (i + 1) by omega]
theorem nums_len : ∀ (N : List Nd) (k : Nat), (numsL k N).length = N.length
  | [], _ => rfl
  | m :: N, k => by
    unfold numsL
    rw [List.length_cons, List.length_cons, nums_len N (k + 1)]
theorem okN (n : Nd) : DK.ok .t (encN n) = true := rfl
/-! ### the fields -/
theorem Has.a1 (h : Has S q N R) : attrV S "Diagrams" "_nodes" (.p q.s) = some (.p q.i) := by simp [attrV, h.s, insC]
theorem Has.a2 (h : Has S q N R) : attrV S "Diagrams" "_numbers" (.p q.s) = some (.p q.j) := by simp [attrV, h.s, insC]; rfl
theorem Has.a3 (h : Has S q N R) : attrV S "Diagrams" "_results" (.p q.s) = some (.p q.l) := by simp [attrV, h.s, insC]; rfl
theorem Has.meth (h : Has S q N R) (m : String) (h1 : m ≠ "_nodes") (h2 : m ≠ "_numbers") (h3 : m ≠ "_results") : methOk S "Diagrams" m (.p q.s) = true := by
  simp [methOk, h.s, insC, List.lookup, h1, h2, h3, beq_false_of_ne]
theorem Has.notin (h : Has S q N R) (n : Nd) : cmpV .notin S (.d (encN n)) (.p q.j) = some (!decide (n ∈ N)) := by
  simp only [cmpV, inV, h.j, okN, if_true, nums_any, Option.map_some]
theorem Has.up1 (h : Has S q N R) (n : Nd) : (S.set q.j (.dic .t (numsL 2 (N ++ [n])))).set q.i (.lst (nodesL N ++ [encN n])) = LW.up S q (N ++ [n]) R := by
  have e : nodesL N ++ [encN n] = nodesL (N ++ [n]) := by simp [nodesL]
  unfold LW.up
  rw [e, List.set_comm _ _ h.ij.symm]
  exact (set_same (by rw [List.getElem?_set_ne h.jl, List.getElem?_set_ne h.il]; exact h.l)).symm
/-! ### make -/
theorem make_run {P : Pg} (hM : P.at_ "Diagrams" "make" = some d_Diagrams_make) {es : List Int} (wf : WF es N) {e : Int} {w t : Nat} (hw : w < N.length + 2) (ht : t < N.length + 2) (aw : Abv N e w) (at' : Abv N e t) (he : e ∈ es) (hN : N.length < 900000) (K n0 : Nat) (hK : 0 < K) (h : Has S q N R) {Q : Vl → St → Prop}
    (hQ : ∀ N' r, Ext N N' → WF es N' → N'.length ≤ N.length + 1 → r < N'.length + 2 → (∀ p, sem N' p r = if p e then sem N' p t else sem N' p w) → (∀ e0, e0 < e → Abv N' e0 r) → Q (.d (.int (r : Nat))) (LW.up S q N' R)) :
    wp (run P K n0 "Diagrams" "make" [.p q.s, .d (.int e), .d (.int (w : Nat)), .d (.int (t : Nat))] S) Q := by
  obtain ⟨K, rfl⟩ : ∃ k, K = k + 1 := ⟨K - 1, by omega⟩
  refine wp_run_false hM (by decide) rfl rfl ?_
  unfold d_Diagrams_make startE
  rw [eSs_cons]
  simp
  by_cases hwt : w = t
  · subst hwt
    simp
    rw [eSs_cons]
    simp
    have := hQ N w .refl wf (by omega) hw (fun p => by simp) (fun e0 h0 => abv_trans (by omega) aw)
    rw [up_same h] at this
    exact this
  · have hwt' : ¬ ((w : Int) = (t : Int)) := by omega
    simp [hwt, hwt']
    rw [eSs_cons]
    simp [cap]
    rw [eSs_cons]
    have hk : (D.tup [D.int e, D.int (w : Int), D.int (t : Int)]) = encN (e, w, t) := rfl
    rw [hk]
    simp [h.a2, h.a1, h.notin]
    by_cases hin : (e, w, t) ∈ N
    · simp [hin]
      rw [eSs_cons]
      obtain ⟨i, hi, hlk⟩ := nums_look (e, w, t) N 2 hin
      have hix : ixV S (.p q.j) (.d (encN (e, w, t))) = some (.d (.int ((2 + i : Nat) : Int))) := by simp only [ixV, h.j, okN, if_true, hlk]
      simp [h.a2, hix]
      have hil := (List.getElem?_eq_some_iff.mp hi).1
      have := hQ N (2 + i) .refl wf (by omega) (by omega) (fun p => sem_nd (by omega) (by rw [show 2 + i - 2 = i by omega]; exact hi) (by have := (wf.ok i e w t hi).1; omega) (by have := (wf.ok i e w t hi).2.1; omega) p)
        (fun e0 h0 => .inr ⟨e, w, t, by omega, by rw [show 2 + i - 2 = i by omega]; exact hi, h0⟩)
      rw [up_same h] at this
      simpa using this
    · simp [hin]
      rw [eSs_cons]
      have hl : primV .len S [.p q.i] = some (.int ((N.length : Int) + 2)) := by
        rw [len_p h.i]
        simp [nodesL]
        omega
      have hset : setI S.length S (.p q.j) (.d (encN (e, w, t))) (.d (.int ((N.length : Int) + 2))) = some (S.set q.j (.dic .t (numsL 2 (N ++ [(e, w, t)])))) := by
        simp only [setI, h.j, okN, okW, nums_len, nums_put _ hin, cap]
        simp
        omega
      have ha1 : attrV (S.set q.j (.dic .t (numsL 2 (N ++ [(e, w, t)])))) "Diagrams" "_nodes" (.p q.s) = some (.p q.i) := by
        simp [attrV, List.getElem?_set_ne h.sj.symm, h.s, insC]
      have hg : (S.set q.j (.dic .t (numsL 2 (N ++ [(e, w, t)]))))[q.i]? = some (.lst (nodesL N)) := by
        rw [List.getElem?_set_ne h.ij.symm]
        exact h.i
      have hcap : (nodesL N).length < cap := by
        simp [nodesL, cap]
        omega
      simp [h.a1, h.a2, hl, hset]
      rw [eSs_cons]
      simp [ha1, isLst, hg, bmV, hcap]
      rw [eSs_cons, h.up1]
      have H := h.up (N' := N ++ [(e, w, t)]) (R' := R)
      obtain ⟨i, hi, hlk⟩ := nums_look (e, w, t) (N ++ [(e, w, t)]) 2 (by simp)
      have hix : ixV (LW.up S q (N ++ [(e, w, t)]) R) (.p q.j) (.d (encN (e, w, t))) = some (.d (.int ((2 + i : Nat) : Int))) := by simp only [ixV, H.j, okN, if_true, hlk]
      simp [H.a2, hix, up_take]
      have wf' := wf_snoc wf hw ht hwt aw at' he hin
      have hil := (List.getElem?_eq_some_iff.mp hi).1
      have := hQ (N ++ [(e, w, t)]) (2 + i) ⟨_, rfl⟩ wf' (by simp) (by omega) (fun p => sem_nd (by omega) (by rw [show 2 + i - 2 = i by omega]; exact hi) (by have := (wf'.ok i e w t hi).1; omega) (by have := (wf'.ok i e w t hi).2.1; omega) p)
        (fun e0 h0 => .inr ⟨e, w, t, by omega, by rw [show 2 + i - 2 = i by omega]; exact hi, h0⟩)
      simpa using this
end
end LW

set_option Elab.async false
set_option linter.all false
set_option maxRecDepth 100000
set_option maxHeartbeats 4000000
/-! MB3: two conditions are joined. -/
namespace LW
open MP
inductive Op where | con | dis | dif
  deriving DecidableEq
def Op.nm : Op → String
  | .con => "and"
  | .dis => "or"
  | .dif => "differ"
def Op.lf : Op → String
  | .con => "and_leaf"
  | .dis => "or_leaf"
  | .dif => "differ_leaf"
def Op.fn : Op → Bool → Bool → Bool
  | .con, a, b => a && b
  | .dis, a, b => a || b
  | .dif, a, b => a != b
theorem Op.comm (o : Op) (a b : Bool) : o.fn a b = o.fn b a := by cases o <;> cases a <;> cases b <;> rfl
structure PD (P : Pg) : Prop where
  make : P.at_ "Diagrams" "make" = some d_Diagrams_make
  comb : P.at_ "Diagrams" "_combined" = some d_Diagrams_combined
  split : P.at_ "Diagrams" "_split" = some d_Diagrams_split
  there : P.at_ "Diagrams" "there" = some d_Diagrams_there
  neg : P.at_ "Diagrams" "negation" = some d_Diagrams_negation
  conj : P.at_ "Diagrams" "conjunction" = some d_Diagrams_conjunction
  disj : P.at_ "Diagrams" "disjunction" = some d_Diagrams_disjunction
  diff : P.at_ "Diagrams" "differs" = some d_Diagrams_differs
  init : P.at_ "Diagrams" "__init__" = some d_Diagrams_init0
  la : P.at_ "" "and_leaf" = some d_and_leaf
  lo : P.at_ "" "or_leaf" = some d_or_leaf
  ld : P.at_ "" "differ_leaf" = some d_differ_leaf
  gd : P.gd "LEAVES" = some [("and", "and_leaf"), ("or", "or_leaf"), ("differ", "differ_leaf")]
  cls : P.cls.contains "Diagrams" = true
/-- the part of it that joins -/
structure PC (P : Pg) : Prop where
  make : P.at_ "Diagrams" "make" = some d_Diagrams_make
  comb : P.at_ "Diagrams" "_combined" = some d_Diagrams_combined
  split : P.at_ "Diagrams" "_split" = some d_Diagrams_split
  la : P.at_ "" "and_leaf" = some d_and_leaf
  lo : P.at_ "" "or_leaf" = some d_or_leaf
  ld : P.at_ "" "differ_leaf" = some d_differ_leaf
  gd : P.gd "LEAVES" = some [("and", "and_leaf"), ("or", "or_leaf"), ("differ", "differ_leaf")]
theorem PD.pc {P : Pg} (h : PD P) : PC P := ⟨h.make, h.comb, h.split, h.la, h.lo, h.ld, h.gd⟩
def Lf : Op → Nat → Nat → Option Nat
  | .con, a, b => if a = 0 ∨ b = 0 then some 0 else if a = 1 then some b else if b = 1 ∨ a = b then some a else none
  | .dis, a, b => if a = 1 ∨ b = 1 then some 1 else if a = 0 then some b else if b = 0 ∨ a = b then some a else none
  | .dif, a, b => if a = b then some 0 else if a = 0 then some b else if b = 0 then some a else none
def encO : Option Nat → Vl
  | some r => .d (.int (r : Nat))
  | none => .d .non
theorem leaf_run {P : Pg} (D : PC P) (o : Op) (a b K n0 : Nat) (hK : 0 < K) {S : St} {Q : Vl → St → Prop} (hQ : Q (encO (Lf o a b)) S) : wp (run P K n0 "" o.lf [.d (.int (a : Nat)), .d (.int (b : Nat))] S) Q := by
  obtain ⟨K, rfl⟩ : ∃ k, K = k + 1 := ⟨K - 1, by omega⟩
  have c0 : ∀ x : Nat, ((x : Int) = 0) = (x = 0) := fun x => by simp
  have c1 : ∀ x : Nat, ((x : Int) = 1) = (x = 1) := fun x => by apply propext; omega
  have c2 : ∀ x y : Nat, ((x : Int) = y) = (x = y) := fun x y => by apply propext; omega
  cases o with
  | con =>
    refine wp_run_false D.la (by decide) rfl rfl ?_
    unfold d_and_leaf startE
    unfold Lf at hQ
    rw [eSs_cons]
    simp
    by_cases h0 : a = 0
    · simp [h0] at hQ ⊢
      rw [eSs_cons]
      simpa [encO] using hQ
    · by_cases h1 : b = 0
      · simp [h0, h1] at hQ ⊢
        rw [eSs_cons]
        simpa [encO] using hQ
      · simp [h0, h1] at hQ ⊢
        rw [eSs_cons]
        simp [c1]
        by_cases h2 : a = 1
        · simp [h2] at hQ ⊢
          rw [eSs_cons]
          simpa [encO] using hQ
        · simp [h2] at hQ ⊢
          rw [eSs_cons]
          simp [c1, c2]
          by_cases h3 : b = 1
          · simp [h3] at hQ ⊢
            simpa [encO] using hQ
          · by_cases h4 : a = b
            · simp [h3, h4] at hQ ⊢
              simpa [encO] using hQ
            · simp [h3, h4] at hQ ⊢
              simpa [encO] using hQ
  | dis =>
    refine wp_run_false D.lo (by decide) rfl rfl ?_
    unfold d_or_leaf startE
    unfold Lf at hQ
    rw [eSs_cons]
    simp [c1]
    by_cases h0 : a = 1
    · simp [h0] at hQ ⊢
      rw [eSs_cons]
      simpa [encO] using hQ
    · by_cases h1 : b = 1
      · simp [h0, h1] at hQ ⊢
        rw [eSs_cons]
        simpa [encO] using hQ
      · simp [h0, h1] at hQ ⊢
        rw [eSs_cons]
        simp
        by_cases h2 : a = 0
        · simp [h2] at hQ ⊢
          rw [eSs_cons]
          simpa [encO] using hQ
        · simp [h2] at hQ ⊢
          rw [eSs_cons]
          simp [c2]
          by_cases h3 : b = 0
          · simp [h3] at hQ ⊢
            simpa [encO] using hQ
          · by_cases h4 : a = b
            · simp [h3, h4] at hQ ⊢
              simpa [encO] using hQ
            · simp [h3, h4] at hQ ⊢
              simpa [encO] using hQ
  | dif =>
    refine wp_run_false D.ld (by decide) rfl rfl ?_
    unfold d_differ_leaf startE
    unfold Lf at hQ
    rw [eSs_cons]
    simp [c2]
    by_cases h0 : a = b
    · simp [h0] at hQ ⊢
      rw [eSs_cons]
      simpa [encO] using hQ
    · simp [h0] at hQ ⊢
      rw [eSs_cons]
      simp
      by_cases h2 : a = 0
      · simp [h2] at hQ ⊢
        rw [eSs_cons]
        simpa [encO] using hQ
      · simp [h2] at hQ ⊢
        rw [eSs_cons]
        simp
        by_cases h3 : b = 0
        · simp [h3] at hQ ⊢
          simpa [encO] using hQ
        · simp [h3] at hQ ⊢
          simpa [encO] using hQ
/-! ### ranks -/
def cnt (es : List Int) (e : Int) : Nat := (es.filter fun x => decide (e ≤ x)).length
def rk (es : List Int) (N : List Nd) (c : Nat) : Nat := if c < 2 then 0 else match N[c - 2]? with
  | some (e, _, _) => cnt es e
  | none => 0
theorem cnt_le (es : List Int) (e : Int) : cnt es e ≤ es.length := List.length_filter_le _ _
theorem rk_le (es : List Int) (N : List Nd) (c : Nat) : rk es N c ≤ es.length := by
  unfold rk
  split
  · exact Nat.zero_le _
  · split
    · exact cnt_le _ _
    · exact Nat.zero_le _
theorem flt_mono {e e' : Int} (h : e ≤ e') : ∀ es : List Int, (es.filter fun x => decide (e' ≤ x)).length ≤ (es.filter fun x => decide (e ≤ x)).length
  | [] => Nat.le_refl _
  | z :: es => by
    have ih := flt_mono h es
    simp only [List.filter_cons]
    by_cases h1 : e' ≤ z
    · have h2 : e ≤ z := by omega
      simp [h1, h2]
      exact ih
    · by_cases h2 : e ≤ z
      · simp [h1, h2]
        omega
      · simp [h1, h2]
        exact ih
theorem cnt_lt : ∀ (es : List Int) {e e' : Int}, e < e' → e ∈ es → cnt es e' < cnt es e
  | [], _, _, _, h => by cases h
  | x :: es, e, e', hlt, h => by
    have mono := flt_mono (show e ≤ e' by omega) es
    rcases List.mem_cons.mp h with rfl | h
    · unfold cnt
      simp only [List.filter_cons]
      simp [show ¬ e' ≤ e by omega]
      omega
    · have ih := cnt_lt es hlt h
      unfold cnt at *
      simp only [List.filter_cons]
      by_cases h1 : e' ≤ x
      · have h2 : e ≤ x := by omega
        simp [h1, h2]
        exact ih
      · by_cases h2 : e ≤ x
        · simp [h1, h2]
          omega
        · simp [h1, h2]
          exact ih
theorem cnt_pos {es : List Int} {e : Int} (h : e ∈ es) : 0 < cnt es e := by
  unfold cnt
  exact List.length_pos_of_mem (List.mem_filter.mpr ⟨h, by simp⟩)
section
variable {es : List Int} {N N' : List Nd}
theorem rk_abv {e : Int} {c : Nat} (he : e ∈ es) (h : Abv N e c) : rk es N c < cnt es e := by
  unfold rk
  by_cases h2 : c < 2
  · rw [if_pos h2]
    exact cnt_pos he
  · rw [if_neg h2]
    rcases h with h | ⟨e', w, t, _, hn, hlt⟩
    · exact absurd h h2
    · rw [hn]
      exact cnt_lt es hlt he
theorem rk_nd {e : Int} {w t c : Nat} (hc : 2 ≤ c) (h : N[c - 2]? = some (e, w, t)) : rk es N c = cnt es e := by
  unfold rk
  rw [if_neg (by omega), h]
theorem rk_ext (h : Ext N N') {c : Nat} (hc : c < N.length + 2) : rk es N' c = rk es N c := by
  unfold rk
  by_cases h2 : c < 2
  · rw [if_pos h2, if_pos h2]
  · rw [if_neg h2, if_neg h2]
    obtain ⟨e, w, t, hn⟩ := nd_of (N := N) (c := c) (by omega) hc
    rw [hn, h.get hn]
theorem abv_back (h : Ext N N') {e : Int} {c : Nat} (hc : c < N.length + 2) (a : Abv N' e c) : Abv N e c := by
  rcases a with a | ⟨e', w, t, h1, h2, h3⟩
  · exact .inl a
  · obtain ⟨e2, w2, t2, hn⟩ := nd_of (N := N) (c := c) h1 hc
    rw [h.get hn] at h2
    cases h2
    exact .inr ⟨e', w, t, h1, hn, h3⟩
/-! ### the leaves' law -/
theorem Lf_some {o : Op} {a b r : Nat} (h : Lf o a b = some r) : (r = 0 ∨ r = 1 ∨ r = a ∨ r = b) ∧ ∀ p, sem N p r = o.fn (sem N p a) (sem N p b) := by
  cases o <;> simp only [Lf] at h
  · split at h
    · rename_i z
      cases h
      refine ⟨by omega, fun p => ?_⟩
      rcases z with rfl | rfl <;> simp [sem_0, Op.fn]
    · split at h
      · rename_i z
        cases h
        subst z
        exact ⟨by omega, fun p => by simp [sem_1, Op.fn]⟩
      · split at h
        · rename_i z
          cases h
          refine ⟨by omega, fun p => ?_⟩
          rcases z with rfl | rfl <;> simp [sem_1, Op.fn]
        · cases h
  · split at h
    · rename_i z
      cases h
      refine ⟨by omega, fun p => ?_⟩
      rcases z with rfl | rfl <;> simp [sem_1, Op.fn]
    · split at h
      · rename_i z
        cases h
        subst z
        exact ⟨by omega, fun p => by simp [sem_0, Op.fn]⟩
      · split at h
        · rename_i z
          cases h
          refine ⟨by omega, fun p => ?_⟩
          rcases z with rfl | rfl <;> simp [sem_0, Op.fn]
        · cases h
  · split at h
    · rename_i z
      cases h
      subst z
      exact ⟨by omega, fun p => by simp [sem_0, Op.fn]⟩
    · split at h
      · rename_i z
        cases h
        subst z
        exact ⟨by omega, fun p => by simp [sem_0, Op.fn]⟩
      · split at h
        · rename_i z
          cases h
          subst z
          exact ⟨by omega, fun p => by simp [sem_0, Op.fn]⟩
        · cases h
theorem Lf_none {o : Op} {a b : Nat} (h : Lf o a b = none) : 2 ≤ a ∨ 2 ≤ b := by
  cases o <;> simp only [Lf] at h <;> (repeat (split at h <;> first | (cases h; done) | skip)) <;> omega
end
end LW

set_option Elab.async false
set_option linter.all false
set_option maxRecDepth 100000
set_option maxHeartbeats 4000000
/-! MB4: two conditions are joined: the store's methods. -/
namespace LW
open MP
def keyR (o : Op) (a b : Nat) : D := .tup [.str o.nm, .int (a : Nat), .int (b : Nat)]
theorem eqR {o o' : Op} {a b a' b' : Nat} (h : D.eq (keyR o a b) (keyR o' a' b') = true) : o = o' ∧ a = a' ∧ b = b' := by
  simp only [keyR, D.eq, D.eqs, Bool.and_true, Bool.and_eq_true, beq_iff_eq] at h
  obtain ⟨h1, h2, h3⟩ := h
  refine ⟨?_, by omega, by omega⟩
  cases o <;> cases o' <;> first | rfl | (exact absurd h1 (by decide))
theorem eqR_self (o : Op) (a b : Nat) : D.eq (keyR o a b) (keyR o a b) = true := by
  simp [keyR, D.eq, D.eqs]
/-- r is what the operation makes of a and b -/
def Jn (N : List Nd) (o : Op) (a b r : Nat) : Prop := r < N.length + 2 ∧ (∀ p, sem N p r = o.fn (sem N p a) (sem N p b)) ∧ ∀ e, Abv N e a → Abv N e b → Abv N e r
def RR (N : List Nd) (R : List (D × Vl)) : Prop := ∀ x ∈ R, ∃ o a b r, x = (keyR o a b, .d (.int (r : Nat))) ∧ a < N.length + 2 ∧ b < N.length + 2 ∧ Jn N o a b r
section
variable {es : List Int} {N N' : List Nd} {R R' : List (D × Vl)} {S : St} {q : Q4} {o : Op} {a b r : Nat}
theorem Jn.ext (h : Jn N o a b r) (x : Ext N N') (wf : WF es N) (ha : a < N.length + 2) (hb : b < N.length + 2) : Jn N' o a b r := by
  obtain ⟨h1, h2, h3⟩ := h
  have hl := x.len
  exact ⟨by omega, fun p => by rw [sem_ext x wf p r h1, sem_ext x wf p a ha, sem_ext x wf p b hb]; exact h2 p, fun e u v => x.abv (h3 e (abv_back x ha u) (abv_back x hb v))⟩
theorem Jn.comm (h : Jn N o a b r) : Jn N o b a r := ⟨h.1, fun p => by rw [h.2.1 p]; exact o.comm _ _, fun e u v => h.2.2 e v u⟩
theorem RR.ext (h : RR N R) (x : Ext N N') (wf : WF es N) : RR N' R := fun y hy => by
  obtain ⟨o, a, b, r, e, ha, hb, hj⟩ := h y hy
  have hl := x.len
  exact ⟨o, a, b, r, e, by omega, by omega, hj.ext x wf ha hb⟩
theorem RR.look (h : RR N R) (o : Op) (a b : Nat) : (∃ r, look R (keyR o a b) = some (.d (.int (r : Nat))) ∧ Jn N o a b r ∧ (R.any fun x => D.eq x.1 (keyR o a b)) = true) ∨ (R.any fun x => D.eq x.1 (keyR o a b)) = false := by
  cases hf : R.any fun x => D.eq x.1 (keyR o a b) with
  | false => exact .inr rfl
  | true =>
    left
    rw [List.any_eq_true] at hf
    obtain ⟨y, hy, hyk⟩ := hf
    cases hq : R.find? fun x => D.eq x.1 (keyR o a b) with
    | none =>
      rw [List.find?_eq_none] at hq
      exact absurd hyk (hq y hy)
    | some z =>
      obtain ⟨o', a', b', r, ez, ha, hb, hj⟩ := h z (List.mem_of_find?_eq_some hq)
      have hz := List.find?_some hq
      rw [ez] at hz
      obtain ⟨rfl, rfl, rfl⟩ := eqR hz
      refine ⟨r, ?_, hj, rfl⟩
      unfold MP.look
      rw [hq, ez]
      rfl
theorem look_put (R : List (D × Vl)) (k : D) (v : Vl) (hk : D.eq k k = true) : look (put R k v) k = some v := by
  unfold put
  split
  · rename_i h
    unfold look
    induction R with
    | nil => simp at h
    | cons x R ih =>
      rw [List.map_cons, List.find?_cons]
      cases hx : D.eq x.1 k with
      | true =>
        simp only [if_true, hx]
        rfl
      | false =>
        simp only [hx, Bool.false_eq_true, if_false]
        rw [List.any_cons, hx, Bool.false_or] at h
        exact ih h
  · rename_i h
    unfold look
    rw [List.find?_append]
    have : R.find? (fun q => D.eq q.1 k) = none := by
      rw [List.find?_eq_none]
      intro x hx hz
      exact h (List.any_eq_true.mpr ⟨x, hx, hz⟩)
    rw [this]
    simp [hk]
theorem put_len (R : List (D × Vl)) (k : D) (v : Vl) : (put R k v).length ≤ R.length + 1 := by
  unfold put
  split
  · simp
  · simp
theorem RR.put (h : RR N R) (ha : a < N.length + 2) (hb : b < N.length + 2) (hj : Jn N o a b r) : RR N (put R (keyR o a b) (.d (.int (r : Nat)))) := by
  intro x hx
  unfold MP.put at hx
  split at hx
  · obtain ⟨y, hy, e⟩ := List.mem_map.mp hx
    obtain ⟨o', a', b', r', ey, ha', hb', hj'⟩ := h y hy
    split at e
    · rename_i hk
      rw [ey] at hk
      obtain ⟨rfl, rfl, rfl⟩ := eqR hk
      exact ⟨o', a', b', r, by rw [← e, ey], ha, hb, hj⟩
    · exact ⟨o', a', b', r', by rw [← e, ey], ha', hb', hj'⟩
  · rcases List.mem_append.mp hx with hx | hx
    · exact h x hx
    · exact ⟨o, a, b, r, List.mem_singleton.mp hx, ha, hb, hj⟩
/-- what a join comes to -/
structure Res (es : List Int) (N : List Nd) (R : List (D × Vl)) (o : Op) (a b : Nat) (m d : Nat) (N' : List Nd) (R' : List (D × Vl)) (r : Nat) : Prop where
  ext : Ext N N'
  wf : WF es N'
  rr : RR N' R'
  jn : Jn N' o a b r
  ln : N'.length + 1 ≤ N.length + 2 ^ m
  lr : R'.length + d ≤ R.length + 2 ^ m
def CS (P : Pg) (es : List Int) (f : String) (m d K : Nat) : Prop := ∀ {N : List Nd} {R : List (D × Vl)} {S : St} {q : Q4} {o : Op} {a b : Nat} (n0 : Nat) {Q : Vl → St → Prop}, WF es N → RR N R → a < N.length + 2 → b < N.length + 2 → rk es N a ≤ m → rk es N b ≤ m → Lf o a b = none ∨ f = "_combined" →
  N.length + 2 ^ m ≤ 900000 → R.length + 2 ^ m ≤ 900000 → Has S q N R → (∀ N' R' r, Res es N R o a b m d N' R' r → Q (.d (.int (r : Nat))) (up S q N' R')) → wp (run P K n0 "Diagrams" f [.p q.s, .d (.str o.nm), .d (.int (a : Nat)), .d (.int (b : Nat))] S) Q
theorem node_at (c : Nat) (hc : c < N.length + 2) : (c < 2 ∧ atI (nodesL N) (c : Int) = some .non) ∨ ∃ e w t, 2 ≤ c ∧ N[c - 2]? = some (e, w, t) ∧ atI (nodesL N) (c : Int) = some (encN (e, w, t)) := by
  have hl : (nodesL N).length = N.length + 2 := by simp [nodesL]
  rw [atI_lt (by omega) (by rw [hl]; omega), Int.toNat_natCast]
  by_cases h2 : c < 2
  · left
    refine ⟨h2, ?_⟩
    have : c = 0 ∨ c = 1 := by omega
    rcases this with rfl | rfl <;> rfl
  · right
    obtain ⟨e, w, t, hn⟩ := nd_of (N := N) (c := c) (by omega) hc
    refine ⟨e, w, t, by omega, hn, ?_⟩
    obtain ⟨d, rfl⟩ : ∃ d, c = d + 2 := ⟨c - 2, by omega⟩
    rw [show d + 2 - 2 = d by omega] at hn
    unfold nodesL
    rw [List.getElem?_cons_succ, List.getElem?_cons_succ, List.getElem?_map, hn]
    rfl
@[simp] theorem ixE0 (S : St) (n : Nd) : ixV S (.d (encN n)) (.d (.int 0)) = some (.d (.int n.1)) := rfl
@[simp] theorem ixE1 (S : St) (n : Nd) : ixV S (.d (encN n)) (.d (.int 1)) = some (.d (.int (n.2.1 : Nat))) := rfl
@[simp] theorem ixE2 (S : St) (n : Nd) : ixV S (.d (encN n)) (.d (.int 2)) = some (.d (.int (n.2.2 : Nat))) := rfl
@[simp] theorem isE (S : St) (n : Nd) : cmpV .is_ S (.d (encN n)) (.d .non) = some false := rfl
@[simp] theorem isnE (S : St) (n : Nd) : cmpV .isnot S (.d (encN n)) (.d .non) = some true := rfl
theorem split_tail {P : Pg} (pd : PC P) {m K : Nat} (IH : CS P es "_combined" m 1 K) (hK : 0 < K) {N : List Nd} {R : List (D × Vl)} {S : St} {q : Q4} {o : Op} {a b : Nat} {e : Int} {w t w2 t2 : Nat} {f3 : Option Vl} {Q : Vl → St → Prop}
    (wf : WF es N) (rr : RR N R) (ha2 : 2 ≤ a) (hn : N[a - 2]? = some (e, w, t)) (hb : b < N.length + 2) (ra : rk es N a ≤ m + 1) (hw2 : w2 < N.length + 2) (ht2 : t2 < N.length + 2) (aw2 : Abv N e w2) (at2 : Abv N e t2) (sb : ∀ p, sem N p b = if p e then sem N p t2 else sem N p w2)
    (hN : N.length + 2 ^ (m + 1) ≤ 900000) (hR : R.length + 2 ^ (m + 1) ≤ 900000) (h : Has S q N R) (hQ : ∀ N' R' r, Res es N R o a b (m + 1) 2 N' R' r → Q (.d (.int (r : Nat))) (up S q N' R')) :
    wq (evSs (cx P K S.length) (.cons (.asg 6 (.meth (.var 0) "Diagrams" "_combined" (.cons (.var 1) (.cons (.ix (.var 4) (.cst (.int 1))) (.cons (.ix (.var 5) (.cst (.int 1))) .nil)))))
      (.cons (.ret (.meth (.var 0) "Diagrams" "make" (.cons (.ix (.var 4) (.cst (.int 0))) (.cons (.var 6) (.cons (.meth (.var 0) "Diagrams" "_combined" (.cons (.var 1) (.cons (.ix (.var 4) (.cst (.int 2))) (.cons (.ix (.var 5) (.cst (.int 2))) .nil)))) .nil))))) .nil))
      [some (.p q.s), some (.d (.str o.nm)), some (.d (.int (a : Nat))), f3, some (.d (encN (e, w, t))), some (.d (encN (e, w2, t2))), none] S)
      fun f _ S' => match f with
      | .rt v => notP v = true ∧ Q v (S'.take S.length)
      | .nx => Q (.d .non) (S'.take S.length)
      | _ => False := by
  obtain ⟨hw, ht, hne, aw, at', he⟩ := wf.ok _ _ _ _ hn
  have hal : a < N.length + 2 := by
    have := (List.getElem?_eq_some_iff.mp hn).1
    omega
  have rka := rk_nd (es := es) ha2 hn
  have k : ∀ {c : Nat}, Abv N e c → rk es N c ≤ m := fun {c} z => by
    have := rk_abv he z
    omega
  have pw : 2 ^ (m + 1) = 2 ^ m + 2 ^ m := by rw [Nat.pow_succ]; omega
  have pp : 0 < 2 ^ m := Nat.pos_of_ne_zero (by simp)
  rw [eSs_cons]
  simp [h.meth]
  refine IH _ wf rr (by omega) hw2 (k aw) (k aw2) (.inr rfl) (by omega) (by omega) h fun N1 R1 r1 q1 => ?_
  have H1 := h.up (N' := N1) (R' := R1)
  have l1 := q1.ext.len
  rw [eSs_cons]
  simp [H1.meth]
  have ln1 := q1.ln
  have lr1 := q1.lr
  refine IH _ q1.wf q1.rr (by omega) (by omega) (by rw [rk_ext q1.ext (by omega)]; exact k at') (by rw [rk_ext q1.ext ht2]; exact k at2) (.inr rfl) (by omega) (by omega) H1 fun N2 R2 r2 q2 => ?_
  have H2 := h.up (N' := N2) (R' := R2)
  have l2 := q2.ext.len
  have ln2 := q2.ln
  have lr2 := q2.lr
  rw [up_up h]
  have x02 := q1.ext.trans q2.ext
  have j1 := q1.jn.ext q2.ext q1.wf (show w < N1.length + 2 by omega) (show w2 < N1.length + 2 by omega)
  refine make_run pd.make q2.wf j1.1 q2.jn.1 (j1.2.2 e (x02.abv aw) (x02.abv aw2)) (q2.jn.2.2 e (x02.abv at') (x02.abv at2)) he (by omega) K _ hK H2 fun N3 r x3 wf3 ln3 hr s3 ab3 => ?_
  rw [up_up h]
  have x03 := x02.trans x3
  have l3 := x3.len
  simp
  have tk : ((up S q N3 R2).take S.length) = up S q N3 R2 := up_take
  rw [tk]
  refine hQ N3 R2 r ⟨x03, wf3, q2.rr.ext x3 q2.wf, ⟨hr, fun p => ?_, fun e0 u v => ?_⟩, by omega, by omega⟩
  · have g1 := j1.ext x3 q2.wf (show w < N2.length + 2 by omega) (show w2 < N2.length + 2 by omega)
    have g2 := q2.jn.ext x3 q2.wf (show t < N2.length + 2 by omega) (show t2 < N2.length + 2 by omega)
    have sa : sem N3 p a = if p e then sem N3 p t else sem N3 p w := sem_nd ha2 (x03.get hn) (by omega) (by omega) p
    have sb' : sem N3 p b = if p e then sem N3 p t2 else sem N3 p w2 := by
      rw [sem_ext x03 wf p b hb, sem_ext x03 wf p t2 ht2, sem_ext x03 wf p w2 hw2]
      exact sb p
    rw [s3 p, sa, sb', g1.2.1 p, g2.2.1 p]
    cases p e <;> rfl
  · rcases abv_back x03 hal u with z | ⟨e', w', t', _, hn', hlt⟩
    · omega
    · rw [hn] at hn'
      cases hn'
      exact ab3 e0 hlt
theorem Res.comm {m d : Nat} (h : Res es N R o b a m d N' R' r) : Res es N R o a b m d N' R' r := ⟨h.ext, h.wf, h.rr, h.jn.comm, h.ln, h.lr⟩
theorem split_direct {P : Pg} (pd : PC P) {m K : Nat} (IH : CS P es "_combined" m 1 K) (hK : 0 < K) {N : List Nd} {R : List (D × Vl)} {S : St} {q : Q4} {o : Op} {a b : Nat} {e : Int} {w t : Nat} (n0 : Nat) {Q : Vl → St → Prop}
    (wf : WF es N) (rr : RR N R) (ha2 : 2 ≤ a) (hn : N[a - 2]? = some (e, w, t)) (hb : b < N.length + 2) (hb2 : b < 2 ∨ ∃ e2 w2 t2, 2 ≤ b ∧ N[b - 2]? = some (e2, w2, t2) ∧ e ≤ e2) (ra : rk es N a ≤ m + 1)
    (hN : N.length + 2 ^ (m + 1) ≤ 900000) (hR : R.length + 2 ^ (m + 1) ≤ 900000) (h : Has S q N R) (hQ : ∀ N' R' r, Res es N R o a b (m + 1) 2 N' R' r → Q (.d (.int (r : Nat))) (up S q N' R')) :
    wp (run P (K + 1) n0 "Diagrams" "_split" [.p q.s, .d (.str o.nm), .d (.int (a : Nat)), .d (.int (b : Nat))] S) Q := by
  refine wp_run_false pd.split (by decide) rfl rfl ?_
  have hal : a < N.length + 2 := by
    have := (List.getElem?_eq_some_iff.mp hn).1
    omega
  have na : atI (nodesL N) (a : Int) = some (encN (e, w, t)) := by
    rcases node_at (N := N) a hal with ⟨z, _⟩ | ⟨e', w', t', _, hn', z⟩
    · omega
    · rw [hn] at hn'
      cases hn'
      exact z
  unfold d_Diagrams_split startE
  rw [eSs_cons]
  simp [h.a1, ix_p h.i, na]
  rw [eSs_cons]
  simp
  rcases hb2 with hb2 | ⟨e2, w2, t2, hb2, hnb, hle⟩
  · have nb1 : ¬ ((1 : Int) < (b : Int)) := by omega
    have nb2 : ¬ (1 < b) := by omega
    simp [nb1, nb2]
    rw [eSs_cons]
    simp
    rw [eSs_cons]
    simp
    rw [eSs_cons]
    simp [cap]
    exact split_tail (w2 := b) (t2 := b) pd IH hK wf rr ha2 hn hb ra hb hb (.inl hb2) (.inl hb2) (fun p => by simp) hN hR h hQ
  · have nb : atI (nodesL N) (b : Int) = some (encN (e2, w2, t2)) := by
      rcases node_at (N := N) b hb with ⟨z, _⟩ | ⟨e', w', t', _, hn', z⟩
      · omega
      · rw [hnb] at hn'
        cases hn'
        exact z
    have nb1 : (1 : Int) < (b : Int) := by omega
    have nb2 : 1 < b := by omega
    have hnl : ¬ e2 < e := by omega
    simp [nb1, nb2, h.a1, ix_p h.i, nb]
    rw [eSs_cons]
    simp [hnl]
    rw [eSs_cons]
    simp
    obtain ⟨hw2, ht2, _, aw2, at2, _⟩ := wf.ok _ _ _ _ hnb
    by_cases hlt : e < e2
    · simp [hlt]
      rw [eSs_cons]
      simp [cap]
      have ab : Abv N e b := .inr ⟨e2, w2, t2, hb2, hnb, hlt⟩
      exact split_tail (w2 := b) (t2 := b) pd IH hK wf rr ha2 hn hb ra hb hb ab ab (fun p => by simp) hN hR h hQ
    · have ee : e2 = e := by omega
      subst ee
      simp
      exact split_tail (w2 := w2) (t2 := t2) pd IH hK wf rr ha2 hn hb ra (by omega) (by omega) aw2 at2 (fun p => sem_nd hb2 hnb (by omega) (by omega) p) hN hR h hQ
theorem split_all {P : Pg} (pd : PC P) {m : Nat} (IH : ∀ K, 3 * m + 2 ≤ K → CS P es "_combined" m 1 K) : ∀ K, 3 * m + 4 ≤ K → CS P es "_split" (m + 1) 2 K := by
  intro K hK N R S q o a b n0 Q wf rr ha hb ra rb hl hN hR h hQ
  have h2 := Lf_none (hl.resolve_right (by decide))
  obtain ⟨K, rfl⟩ : ∃ k, K = k + 2 := ⟨K - 2, by omega⟩
  by_cases a2 : a < 2
  · have b2 : 2 ≤ b := by omega
    obtain ⟨e, w, t, hn⟩ := nd_of (N := N) (c := b) b2 hb
    refine wp_run_false pd.split (by decide) rfl rfl ?_
    have na : atI (nodesL N) (a : Int) = some .non := by
      rcases node_at (N := N) a ha with ⟨_, z⟩ | ⟨_, _, _, z, _⟩
      · exact z
      · omega
    have nb : atI (nodesL N) (b : Int) = some (encN (e, w, t)) := by
      rcases node_at (N := N) b hb with ⟨z, _⟩ | ⟨e', w', t', _, hn', z⟩
      · omega
      · rw [hn] at hn'
        cases hn'
        exact z
    have nb1 : (1 : Int) < (b : Int) := by omega
    have nb2 : 1 < b := by omega
    unfold d_Diagrams_split startE
    rw [eSs_cons]
    simp [h.a1, ix_p h.i, na]
    rw [eSs_cons]
    simp [nb1, nb2, h.a1, ix_p h.i, nb]
    rw [eSs_cons]
    simp
    rw [eSs_cons]
    simp [h.meth]
    refine split_direct pd (IH K (by omega)) (by omega) _ wf rr b2 hn ha (.inl a2) rb hN hR h fun N' R' r z => ?_
    simp [up_take]
    exact hQ N' R' r z.comm
  · obtain ⟨e, w, t, hn⟩ := nd_of (N := N) (c := a) (by omega) ha
    by_cases b2 : b < 2
    · exact split_direct pd (IH (K + 1) (by omega)) (by omega) _ wf rr (by omega) hn hb (.inl b2) ra hN hR h hQ
    · obtain ⟨e2, w2, t2, hnb⟩ := nd_of (N := N) (c := b) (by omega) hb
      by_cases hlt : e2 < e
      · refine wp_run_false pd.split (by decide) rfl rfl ?_
        have na : atI (nodesL N) (a : Int) = some (encN (e, w, t)) := by
          rcases node_at (N := N) a ha with ⟨z, _⟩ | ⟨e', w', t', _, hn', z⟩
          · omega
          · rw [hn] at hn'
            cases hn'
            exact z
        have nb : atI (nodesL N) (b : Int) = some (encN (e2, w2, t2)) := by
          rcases node_at (N := N) b hb with ⟨z, _⟩ | ⟨e', w', t', _, hn', z⟩
          · omega
          · rw [hnb] at hn'
            cases hn'
            exact z
        have nb1 : (1 : Int) < (b : Int) := by omega
        have nb2 : 1 < b := by omega
        unfold d_Diagrams_split startE
        rw [eSs_cons]
        simp [h.a1, ix_p h.i, na]
        rw [eSs_cons]
        simp [nb1, nb2, h.a1, ix_p h.i, nb]
        rw [eSs_cons]
        simp [hlt]
        rw [eSs_cons]
        simp [h.meth]
        refine split_direct pd (IH K (by omega)) (by omega) _ wf rr (by omega) hnb ha (.inr ⟨e, w, t, by omega, hn, by omega⟩) rb hN hR h fun N' R' r z => ?_
        simp [up_take]
        exact hQ N' R' r z.comm
      · exact split_direct pd (IH (K + 1) (by omega)) (by omega) _ wf rr (by omega) hn hb (.inr ⟨e2, w2, t2, by omega, hnb, by omega⟩) ra hN hR h hQ
end
end LW

set_option Elab.async false
set_option linter.all false
set_option maxRecDepth 100000
set_option maxHeartbeats 4000000
/-! MB5: two conditions are joined; what is built. -/
namespace LW
open MP
section
variable {es : List Int} {N N' : List Nd} {R R' : List (D × Vl)} {S : St} {q : Q4} {o : Op} {a b r : Nat}
theorem rk0 (wf : WF es N) {c : Nat} (hc : c < N.length + 2) (h : rk es N c = 0) : c < 2 := by
  by_cases h2 : c < 2
  · exact h2
  · obtain ⟨e, w, t, hn⟩ := nd_of (N := N) (c := c) (by omega) hc
    rw [rk_nd (by omega) hn] at h
    have := cnt_pos (wf.ok _ _ _ _ hn).2.2.2.2.2
    omega
theorem min_n (a b : Nat) : (if (b : Int) < (a : Int) then (b : Int) else (a : Int)) = ((min a b : Nat) : Int) := by
  by_cases h : b < a
  · have h' : (b : Int) < (a : Int) := by omega
    rw [if_pos h', Nat.min_eq_right (by omega)]
  · have h' : ¬ (b : Int) < (a : Int) := by omega
    rw [if_neg h', Nat.min_eq_left (by omega)]
theorem max_n (a b : Nat) : (if (b : Int) > (a : Int) then (b : Int) else (a : Int)) = ((max a b : Nat) : Int) := by
  by_cases h : a < b
  · have h' : (b : Int) > (a : Int) := by omega
    rw [if_pos h', Nat.max_eq_right (by omega)]
  · have h' : ¬ (b : Int) > (a : Int) := by omega
    rw [if_neg h', Nat.max_eq_left (by omega)]
theorem Jn.mm (h : Jn N o (min a b) (max a b) r) : Jn N o a b r := by
  by_cases z : a ≤ b
  · rw [Nat.min_eq_left z, Nat.max_eq_right z] at h
    exact h
  · rw [Nat.min_eq_right (by omega), Nat.max_eq_left (by omega)] at h
    exact h.comm
theorem Jn.mm' (h : Jn N o a b r) : Jn N o (min a b) (max a b) r := by
  by_cases z : a ≤ b
  · rw [Nat.min_eq_left z, Nat.max_eq_right z]
    exact h
  · rw [Nat.min_eq_right (by omega), Nat.max_eq_left (by omega)]
    exact h.comm
theorem okR (o : Op) (a b : Nat) : DK.ok .t (keyR o a b) = true := rfl
theorem Has.up3 (h : Has S q N R) : S.set q.l (.dic .t R') = LW.up S q N R' := by
  unfold LW.up
  rw [set_same h.i, set_same h.j]
theorem comb_all {P : Pg} (pd : PC P) : ∀ (m K : Nat), 3 * m + 2 ≤ K → CS P es "_combined" m 1 K := by
  intro m
  induction m using Nat.strongRecOn with
  | _ m ih =>
    intro K hK N R S q o a b n0 Q wf rr ha hb ra rb _ hN hR h hQ
    obtain ⟨K, rfl⟩ : ∃ k, K = k + 1 := ⟨K - 1, by omega⟩
    refine wp_run_false pd.comb (by decide) rfl rfl ?_
    have hg : gdixV (cx P K S.length) "LEAVES" (.d (.str o.nm)) = some (.f o.lf) := by
      simp only [gdixV, pd.gd]
      cases o <;> rfl
    have hh : (P.at_ "" o.lf).isSome = true := by
      cases o
      · show (P.at_ "" "and_leaf").isSome = true
        rw [pd.la]; rfl
      · show (P.at_ "" "or_leaf").isSome = true
        rw [pd.lo]; rfl
      · show (P.at_ "" "differ_leaf").isSome = true
        rw [pd.ld]; rfl
    unfold d_Diagrams_combined startE
    rw [eSs_cons]
    simp [hg]
    rw [eSs_cons]
    simp [hh]
    refine leaf_run pd o a b K _ (by omega) ?_
    rw [eSs_cons]
    have pp : 0 < 2 ^ m := Nat.pos_of_ne_zero (by simp)
    cases hl : Lf o a b with
    | some r =>
      simp [encO]
      rw [eSs_cons]
      simp
      obtain ⟨h1, h2⟩ := Lf_some (N := N) hl
      have := hQ N R r ⟨.refl, wf, rr, ⟨by omega, h2, fun e u v => by
        rcases h1 with rfl | rfl | rfl | rfl
        · exact .inl (by omega)
        · exact .inl (by omega)
        · exact u
        · exact v⟩, by omega, by omega⟩
      rw [up_same h] at this
      exact this
    | none =>
      simp [encO]
      rw [eSs_cons]
      have h2 := Lf_none hl
      obtain ⟨m, rfl⟩ : ∃ k, m = k + 1 := ⟨m - 1, by
        cases m with
        | zero =>
          have := rk0 wf ha (by omega)
          have := rk0 wf hb (by omega)
          omega
        | succ k => omega⟩
      have hk : D.tup [D.str o.nm, D.int (if b < a then (b : Int) else (a : Int)), D.int (if a < b then (b : Int) else (a : Int))] = keyR o (min a b) (max a b) := by
        have e1 : (if b < a then (b : Int) else (a : Int)) = ((min a b : Nat) : Int) := by
          by_cases h : b < a
          · rw [if_pos h, Nat.min_eq_right (by omega)]
          · rw [if_neg h, Nat.min_eq_left (by omega)]
        have e2 : (if a < b then (b : Int) else (a : Int)) = ((max a b : Nat) : Int) := by
          by_cases h : a < b
          · rw [if_pos h, Nat.max_eq_right (by omega)]
          · rw [if_neg h, Nat.max_eq_left (by omega)]
        rw [e1, e2]
        rfl
      simp [cap]
      rw [hk]
      rw [eSs_cons]
      have hni : cmpV .notin S (.d (keyR o (min a b) (max a b))) (.p q.l) = some (!(R.any fun x => D.eq x.1 (keyR o (min a b) (max a b)))) := by
        simp only [cmpV, inV, h.l, okR, if_true, Option.map_some]
      simp [h.a3, hni]
      rcases rr.look o (min a b) (max a b) with ⟨r, hlk, hj, hany⟩ | hany
      · rw [hany]
        simp
        rw [eSs_cons]
        have hix : ixV S (.p q.l) (.d (keyR o (min a b) (max a b))) = some (.d (.int (r : Nat))) := by simp only [ixV, h.l, okR, if_true, hlk]
        simp [h.a3, hix]
        have := hQ N R r ⟨.refl, wf, rr, hj.mm, by omega, by omega⟩
        rw [up_same h] at this
        exact this
      · rw [hany]
        simp
        rw [eSs_cons]
        simp [h.meth]
        refine split_all pd (fun K hK => ih m (by omega) K hK) K (by omega) _ wf rr ha hb ra rb (.inl hl) hN hR h fun N' R' r z => ?_
        have H := h.up (N' := N') (R' := R')
        have hlr := z.lr
        have hset : setI S.length (LW.up S q N' R') (.p q.l) (.d (keyR o (min a b) (max a b))) (.d (.int (r : Nat))) = some ((LW.up S q N' R').set q.l (.dic .t (put R' (keyR o (min a b) (max a b)) (.d (.int (r : Nat)))))) := by
          have hc : R'.length < cap := by show R'.length < 1000000; omega
          simp only [setI, H.l, okR, okW, hc, decide_true, Bool.and_self, if_true]
        simp [H.a3, hset]
        rw [eSs_cons, H.up3, up_up h]
        have H2 := h.up (N' := N') (R' := put R' (keyR o (min a b) (max a b)) (.d (.int (r : Nat))))
        have hix : ixV (LW.up S q N' (put R' (keyR o (min a b) (max a b)) (.d (.int (r : Nat))))) (.p q.l) (.d (keyR o (min a b) (max a b))) = some (.d (.int (r : Nat))) := by simp only [ixV, H2.l, okR, if_true, look_put _ _ _ (eqR_self _ _ _)]
        simp [H2.a3, hix, up_take]
        have hl1 := z.ext.len
        have hpl := put_len R' (keyR o (min a b) (max a b)) (.d (.int (r : Nat)))
        exact hQ N' _ r ⟨z.ext, z.wf, z.rr.put (by omega) (by omega) z.jn.mm', z.jn, z.ln, by omega⟩
end
end LW

set_option Elab.async false
set_option linter.all false
set_option maxRecDepth 100000
set_option maxHeartbeats 4000000
/-! MB6: what is built. -/
namespace LW
open MP
section
variable {es : List Int} {N N' : List Nd} {R R' : List (D × Vl)} {S : St} {q : Q4} {o : Op} {a b r : Nat}
def CM (P : Pg) (es : List Int) (f : String) (o : Op) (m K : Nat) : Prop := ∀ {N : List Nd} {R : List (D × Vl)} {S : St} {q : Q4} {a b : Nat} (n0 : Nat) {Q : Vl → St → Prop}, WF es N → RR N R → a < N.length + 2 → b < N.length + 2 → rk es N a ≤ m → rk es N b ≤ m →
  N.length + 2 ^ m ≤ 900000 → R.length + 2 ^ m ≤ 900000 → Has S q N R → (∀ N' R' r, Res es N R o a b m 1 N' R' r → Q (.d (.int (r : Nat))) (up S q N' R')) → wp (run P K n0 "Diagrams" f [.p q.s, .d (.int (a : Nat)), .d (.int (b : Nat))] S) Q
theorem conj_run {P : Pg} (pd : PD P) {m K : Nat} (hK : 3 * m + 3 ≤ K) : CM P es "conjunction" .con m K := by
  intro N R S q a b n0 Q wf rr ha hb ra rb hN hR h hQ
  obtain ⟨K, rfl⟩ : ∃ k, K = k + 1 := ⟨K - 1, by omega⟩
  refine wp_run_false pd.conj (by decide) rfl rfl ?_
  unfold d_Diagrams_conjunction startE
  rw [eSs_cons]
  simp [h.meth]
  refine comb_all pd.pc m K (by omega) (o := .con) _ wf rr ha hb ra rb (.inr rfl) hN hR h fun N' R' r z => ?_
  simp [up_take]
  exact hQ N' R' r z
theorem disj_runC {P : Pg} (pd : PC P) (hd : P.at_ "Diagrams" "disjunction" = some d_Diagrams_disjunction) {m K : Nat} (hK : 3 * m + 3 ≤ K) : CM P es "disjunction" .dis m K := by
  intro N R S q a b n0 Q wf rr ha hb ra rb hN hR h hQ
  obtain ⟨K, rfl⟩ : ∃ k, K = k + 1 := ⟨K - 1, by omega⟩
  refine wp_run_false hd (by decide) rfl rfl ?_
  unfold d_Diagrams_disjunction startE
  rw [eSs_cons]
  simp [h.meth]
  refine comb_all pd m K (by omega) (o := .dis) _ wf rr ha hb ra rb (.inr rfl) hN hR h fun N' R' r z => ?_
  simp [up_take]
  exact hQ N' R' r z
theorem disj_run {P : Pg} (pd : PD P) {m K : Nat} (hK : 3 * m + 3 ≤ K) : CM P es "disjunction" .dis m K := disj_runC pd.pc pd.disj hK
theorem diff_run {P : Pg} (pd : PD P) {m K : Nat} (hK : 3 * m + 3 ≤ K) : CM P es "differs" .dif m K := by
  intro N R S q a b n0 Q wf rr ha hb ra rb hN hR h hQ
  obtain ⟨K, rfl⟩ : ∃ k, K = k + 1 := ⟨K - 1, by omega⟩
  refine wp_run_false pd.diff (by decide) rfl rfl ?_
  unfold d_Diagrams_differs startE
  rw [eSs_cons]
  simp [h.meth]
  refine comb_all pd.pc m K (by omega) (o := .dif) _ wf rr ha hb ra rb (.inr rfl) hN hR h fun N' R' r z => ?_
  simp [up_take]
  exact hQ N' R' r z
theorem neg_run {P : Pg} (pd : PD P) {m K : Nat} (hK : 3 * m + 4 ≤ K) {N : List Nd} {R : List (D × Vl)} {S : St} {q : Q4} {a : Nat} (n0 : Nat) {Q : Vl → St → Prop} (wf : WF es N) (rr : RR N R) (ha : a < N.length + 2) (ra : rk es N a ≤ m)
    (hN : N.length + 2 ^ m ≤ 900000) (hR : R.length + 2 ^ m ≤ 900000) (h : Has S q N R) (hQ : ∀ N' R' r, Res es N R .dif a 1 m 1 N' R' r → Q (.d (.int (r : Nat))) (up S q N' R')) : wp (run P K n0 "Diagrams" "negation" [.p q.s, .d (.int (a : Nat))] S) Q := by
  obtain ⟨K, rfl⟩ : ∃ k, K = k + 1 := ⟨K - 1, by omega⟩
  refine wp_run_false pd.neg (by decide) rfl rfl ?_
  unfold d_Diagrams_negation startE
  rw [eSs_cons]
  simp [h.meth]
  refine diff_run pd (m := m) (K := K) (by omega) (b := 1) _ wf rr ha (by omega) ra (by unfold rk; rw [if_pos (by decide)]; exact Nat.zero_le _) hN hR h fun N' R' r z => ?_
  simp [up_take]
  exact hQ N' R' r z
theorem there_runC {P : Pg} (hm : P.at_ "Diagrams" "make" = some d_Diagrams_make) (ht : P.at_ "Diagrams" "there" = some d_Diagrams_there) {K : Nat} (hK : 2 ≤ K) {N : List Nd} {R : List (D × Vl)} {S : St} {q : Q4} {e : Int} (he : e ∈ es) (n0 : Nat) {Q : Vl → St → Prop} (wf : WF es N) (hN : N.length < 900000) (h : Has S q N R)
    (hQ : ∀ N' r, Ext N N' → WF es N' → N'.length ≤ N.length + 1 → r < N'.length + 2 → (∀ p, sem N' p r = p e) → Q (.d (.int (r : Nat))) (up S q N' R)) : wp (run P K n0 "Diagrams" "there" [.p q.s, .d (.int e)] S) Q := by
  obtain ⟨K, rfl⟩ : ∃ k, K = k + 1 := ⟨K - 1, by omega⟩
  refine wp_run_false ht (by decide) rfl rfl ?_
  unfold d_Diagrams_there startE
  rw [eSs_cons]
  simp [h.meth]
  refine make_run hm (w := 0) (t := 1) wf (by omega) (by omega) (.inl (by decide)) (.inl (by decide)) he hN K _ (by omega) h fun N' r x wf' hl hr hs _ => ?_
  simp [up_take]
  exact hQ N' r x wf' hl hr fun p => by
    rw [hs p, sem_1, sem_0]
    cases p e <;> rfl
theorem there_run {P : Pg} (pd : PD P) {K : Nat} (hK : 2 ≤ K) {N : List Nd} {R : List (D × Vl)} {S : St} {q : Q4} {e : Int} (he : e ∈ es) (n0 : Nat) {Q : Vl → St → Prop} (wf : WF es N) (hN : N.length < 900000) (h : Has S q N R)
    (hQ : ∀ N' r, Ext N N' → WF es N' → N'.length ≤ N.length + 1 → r < N'.length + 2 → (∀ p, sem N' p r = p e) → Q (.d (.int (r : Nat))) (up S q N' R)) : wp (run P K n0 "Diagrams" "there" [.p q.s, .d (.int e)] S) Q := there_runC pd.make pd.there hK he n0 wf hN h hQ
def T.sz : T → Nat
  | .con _ => 1
  | .there _ => 1
  | .neg t => t.sz + 1
  | .con2 a b => a.sz + b.sz + 1
  | .dis a b => a.sz + b.sz + 1
  | .dif a b => a.sz + b.sz + 1
/-- all of it is of these entries -/
def T.of (es : List Int) : T → Prop
  | .con _ => True
  | .there e => e ∈ es
  | .neg t => t.of es
  | .con2 a b => a.of es ∧ b.of es
  | .dis a b => a.of es ∧ b.of es
  | .dif a b => a.of es ∧ b.of es
theorem T.ok_of {es : List Int} : ∀ {n : Nat} {t : T}, T.ok es n t → t.of es
  | _, .con _, _ => True.intro
  | 0, .there _, h => h
  | _ + 1, .there _, h => h
  | 0, .neg _, h => h.elim
  | 0, .con2 _ _, h => h.elim
  | 0, .dis _ _, h => h.elim
  | 0, .dif _ _, h => h.elim
  | n + 1, .neg t, h => T.ok_of (n := n) (t := t) h
  | n + 1, .con2 a b, h => ⟨T.ok_of (n := n) (t := a) h.1, T.ok_of (n := n) (t := b) h.2⟩
  | n + 1, .dis a b, h => ⟨T.ok_of (n := n) (t := a) h.1, T.ok_of (n := n) (t := b) h.2⟩
  | n + 1, .dif a b, h => ⟨T.ok_of (n := n) (t := a) h.1, T.ok_of (n := n) (t := b) h.2⟩
theorem T.sz_le : ∀ t : T, t.sz + 1 ≤ 2 ^ (t.dp + 1)
  | .con _ => by simp [T.sz, T.dp]
  | .there _ => by simp [T.sz, T.dp]
  | .neg t => by
    have := T.sz_le t
    simp only [T.sz, T.dp, Nat.pow_succ] at *
    omega
  | .con2 a b => by
    have h1 := T.sz_le a
    have h2 := T.sz_le b
    have m1 : 2 ^ (a.dp + 1) ≤ 2 ^ (max a.dp b.dp + 1) := Nat.pow_le_pow_right (by decide) (by omega)
    have m2 : 2 ^ (b.dp + 1) ≤ 2 ^ (max a.dp b.dp + 1) := Nat.pow_le_pow_right (by decide) (by omega)
    simp only [T.sz, T.dp]
    rw [Nat.pow_succ]
    omega
  | .dis a b => by
    have h1 := T.sz_le a
    have h2 := T.sz_le b
    have m1 : 2 ^ (a.dp + 1) ≤ 2 ^ (max a.dp b.dp + 1) := Nat.pow_le_pow_right (by decide) (by omega)
    have m2 : 2 ^ (b.dp + 1) ≤ 2 ^ (max a.dp b.dp + 1) := Nat.pow_le_pow_right (by decide) (by omega)
    simp only [T.sz, T.dp]
    rw [Nat.pow_succ]
    omega
  | .dif a b => by
    have h1 := T.sz_le a
    have h2 := T.sz_le b
    have m1 : 2 ^ (a.dp + 1) ≤ 2 ^ (max a.dp b.dp + 1) := Nat.pow_le_pow_right (by decide) (by omega)
    have m2 : 2 ^ (b.dp + 1) ≤ 2 ^ (max a.dp b.dp + 1) := Nat.pow_le_pow_right (by decide) (by omega)
    simp only [T.sz, T.dp]
    rw [Nat.pow_succ]
    omega
/-- what is built of a tree -/
structure Bd (es : List Int) (N : List Nd) (R : List (D × Vl)) (n : Nat) (t : T) (N' : List Nd) (R' : List (D × Vl)) (c : Nat) : Prop where
  ext : Ext N N'
  wf : WF es N'
  rr : RR N' R'
  lt : c < N'.length + 2
  sm : ∀ p, sem N' p c = t.ev p
  ln : N'.length ≤ N.length + 32 * n
  lr : R'.length ≤ R.length + 32 * n
theorem build_run {P : Pg} (pd : PD P) (hB : P.at_ "" "_law_build" = some d_law_build) (hes : es.length ≤ 5) : ∀ (t : T) (K : Nat), 20 + t.dp ≤ K → ∀ {N : List Nd} {R : List (D × Vl)} {S : St} {q : Q4} (n0 : Nat) {Q : Vl → St → Prop}, t.of es → WF es N → RR N R → Has S q N R →
    N.length + 32 * t.sz ≤ 800000 → R.length + 32 * t.sz ≤ 800000 → (∀ N' R' c, Bd es N R t.sz t N' R' c → Q (.d (.int (c : Nat))) (up S q N' R')) → wp (run P K n0 "" "_law_build" [.p q.s, .d t.enc] S) Q := by
  intro t
  induction t with
  | con r =>
    intro K hK N R S q n0 Q hof wf rr h hN hR hQ
    obtain ⟨K, rfl⟩ : ∃ k, K = k + 1 := ⟨K - 1, by omega⟩
    refine wp_run_false hB (by decide) rfl rfl ?_
    unfold d_law_build startE T.enc
    rw [eSs_cons]
    simp
    rw [eSs_cons]
    simp
    have := hQ N R (if r then 1 else 0) ⟨.refl, wf, rr, by split <;> omega, fun p => by cases r <;> simp [T.ev, sem_0, sem_1], by omega, by omega⟩
    rw [up_same h] at this
    cases r <;> simpa using this
  | there e =>
    intro K hK N R S q n0 Q hof wf rr h hN hR hQ
    obtain ⟨K, rfl⟩ : ∃ k, K = k + 1 := ⟨K - 1, by omega⟩
    refine wp_run_false hB (by decide) rfl rfl ?_
    unfold d_law_build startE T.enc
    simp only [T.sz] at hN hR
    rw [eSs_cons]
    simp
    rw [eSs_cons]
    simp
    rw [eSs_cons]
    simp [h.meth]
    refine there_run pd (K := K) (by omega) hof _ wf (by omega) h fun N' r x wf' hl hr hs => ?_
    simp [up_take]
    exact hQ N' R r ⟨x, wf', rr.ext x wf, hr, hs, by simp only [T.sz]; omega, by simp only [T.sz]; omega⟩
  | neg t ih =>
    intro K hK N R S q n0 Q hof wf rr h hN hR hQ
    obtain ⟨K, rfl⟩ : ∃ k, K = k + 1 := ⟨K - 1, by omega⟩
    refine wp_run_false hB (by decide) rfl rfl ?_
    unfold d_law_build startE T.enc
    simp only [T.dp, T.sz] at hK hN hR
    rw [eSs_cons]
    simp
    rw [eSs_cons]
    simp
    rw [eSs_cons]
    simp
    refine ih K (by omega) _ hof wf rr h (by omega) (by omega) fun N1 R1 c1 z1 => ?_
    have H1 := h.up (N' := N1) (R' := R1)
    have k1 := z1.ln
    have k2 := z1.lr
    rw [eSs_cons]
    simp
    rw [eSs_cons]
    simp [H1.meth]
    refine neg_run pd (m := 5) (K := K) (by omega) _ z1.wf z1.rr z1.lt (Nat.le_trans (rk_le _ _ _) hes) (by omega) (by omega) H1 fun N3 R3 r z => ?_
    rw [up_up h]
    simp
    have tk : ((up S q N3 R3).take S.length) = up S q N3 R3 := up_take
    rw [tk]
    have k5 := z.ln
    have k6 := z.lr
    refine hQ N3 R3 r ⟨z1.ext.trans z.ext, z.wf, z.rr, z.jn.1, fun p => ?_, by simp only [T.sz]; omega, by simp only [T.sz]; omega⟩
    rw [z.jn.2.1 p, sem_ext z.ext z1.wf p c1 z1.lt, z1.sm p, sem_1]
    simp only [T.ev, Op.fn]
    cases t.ev p <;> rfl
  | con2 a b iha ihb =>
    intro K hK N R S q n0 Q hof wf rr h hN hR hQ
    obtain ⟨K, rfl⟩ : ∃ k, K = k + 1 := ⟨K - 1, by omega⟩
    refine wp_run_false hB (by decide) rfl rfl ?_
    unfold d_law_build startE T.enc
    simp only [T.dp, T.sz] at hK hN hR
    rw [eSs_cons]
    simp
    rw [eSs_cons]
    simp
    rw [eSs_cons]
    simp
    refine iha K (by omega) _ hof.1 wf rr h (by omega) (by omega) fun N1 R1 c1 z1 => ?_
    have H1 := h.up (N' := N1) (R' := R1)
    have k1 := z1.ln
    have k2 := z1.lr
    rw [eSs_cons]
    simp
    rw [eSs_cons]
    simp
    refine ihb K (by omega) _ hof.2 z1.wf z1.rr H1 (by omega) (by omega) fun N2 R2 c2 z2 => ?_
    have H2 := h.up (N' := N2) (R' := R2)
    have k3 := z2.ln
    have k4 := z2.lr
    have e2 := z2.ext.len
    have l1 := z1.lt
    have l2 := z2.lt
    rw [up_up h]
    rw [eSs_cons]
    simp
    rw [eSs_cons]
    simp [H2.meth]
    refine conj_run pd (m := 5) (K := K) (by omega) _ z2.wf z2.rr (by omega) (by omega) (Nat.le_trans (rk_le _ _ _) hes) (Nat.le_trans (rk_le _ _ _) hes) (by omega) (by omega) H2 fun N3 R3 r z => ?_
    rw [up_up h]
    simp
    have tk : ((up S q N3 R3).take S.length) = up S q N3 R3 := up_take
    rw [tk]
    have k5 := z.ln
    have k6 := z.lr
    refine hQ N3 R3 r ⟨(z1.ext.trans z2.ext).trans z.ext, z.wf, z.rr, z.jn.1, fun p => ?_, by simp only [T.sz]; omega, by simp only [T.sz]; omega⟩
    rw [z.jn.2.1 p, sem_ext z.ext z2.wf p c1 (by omega), sem_ext z.ext z2.wf p c2 (by omega), sem_ext z2.ext z1.wf p c1 (by omega), z1.sm p, z2.sm p]
    rfl
  | dis a b iha ihb =>
    intro K hK N R S q n0 Q hof wf rr h hN hR hQ
    obtain ⟨K, rfl⟩ : ∃ k, K = k + 1 := ⟨K - 1, by omega⟩
    refine wp_run_false hB (by decide) rfl rfl ?_
    unfold d_law_build startE T.enc
    simp only [T.dp, T.sz] at hK hN hR
    rw [eSs_cons]
    simp
    rw [eSs_cons]
    simp
    rw [eSs_cons]
    simp
    refine iha K (by omega) _ hof.1 wf rr h (by omega) (by omega) fun N1 R1 c1 z1 => ?_
    have H1 := h.up (N' := N1) (R' := R1)
    have k1 := z1.ln
    have k2 := z1.lr
    rw [eSs_cons]
    simp
    rw [eSs_cons]
    simp
    refine ihb K (by omega) _ hof.2 z1.wf z1.rr H1 (by omega) (by omega) fun N2 R2 c2 z2 => ?_
    have H2 := h.up (N' := N2) (R' := R2)
    have k3 := z2.ln
    have k4 := z2.lr
    have e2 := z2.ext.len
    have l1 := z1.lt
    have l2 := z2.lt
    rw [up_up h]
    rw [eSs_cons]
    simp
    rw [eSs_cons]
    simp [H2.meth]
    refine disj_run pd (m := 5) (K := K) (by omega) _ z2.wf z2.rr (by omega) (by omega) (Nat.le_trans (rk_le _ _ _) hes) (Nat.le_trans (rk_le _ _ _) hes) (by omega) (by omega) H2 fun N3 R3 r z => ?_
    rw [up_up h]
    simp
    have tk : ((up S q N3 R3).take S.length) = up S q N3 R3 := up_take
    rw [tk]
    have k5 := z.ln
    have k6 := z.lr
    refine hQ N3 R3 r ⟨(z1.ext.trans z2.ext).trans z.ext, z.wf, z.rr, z.jn.1, fun p => ?_, by simp only [T.sz]; omega, by simp only [T.sz]; omega⟩
    rw [z.jn.2.1 p, sem_ext z.ext z2.wf p c1 (by omega), sem_ext z.ext z2.wf p c2 (by omega), sem_ext z2.ext z1.wf p c1 (by omega), z1.sm p, z2.sm p]
    rfl
  | dif a b iha ihb =>
    intro K hK N R S q n0 Q hof wf rr h hN hR hQ
    obtain ⟨K, rfl⟩ : ∃ k, K = k + 1 := ⟨K - 1, by omega⟩
    refine wp_run_false hB (by decide) rfl rfl ?_
    unfold d_law_build startE T.enc
    simp only [T.dp, T.sz] at hK hN hR
    rw [eSs_cons]
    simp
    rw [eSs_cons]
    simp
    rw [eSs_cons]
    simp
    refine iha K (by omega) _ hof.1 wf rr h (by omega) (by omega) fun N1 R1 c1 z1 => ?_
    have H1 := h.up (N' := N1) (R' := R1)
    have k1 := z1.ln
    have k2 := z1.lr
    rw [eSs_cons]
    simp
    rw [eSs_cons]
    simp
    refine ihb K (by omega) _ hof.2 z1.wf z1.rr H1 (by omega) (by omega) fun N2 R2 c2 z2 => ?_
    have H2 := h.up (N' := N2) (R' := R2)
    have k3 := z2.ln
    have k4 := z2.lr
    have e2 := z2.ext.len
    have l1 := z1.lt
    have l2 := z2.lt
    rw [up_up h]
    rw [eSs_cons]
    simp
    rw [eSs_cons]
    simp [H2.meth]
    refine diff_run pd (m := 5) (K := K) (by omega) _ z2.wf z2.rr (by omega) (by omega) (Nat.le_trans (rk_le _ _ _) hes) (Nat.le_trans (rk_le _ _ _) hes) (by omega) (by omega) H2 fun N3 R3 r z => ?_
    rw [up_up h]
    simp
    have tk : ((up S q N3 R3).take S.length) = up S q N3 R3 := up_take
    rw [tk]
    have k5 := z.ln
    have k6 := z.lr
    refine hQ N3 R3 r ⟨(z1.ext.trans z2.ext).trans z.ext, z.wf, z.rr, z.jn.1, fun p => ?_, by simp only [T.sz]; omega, by simp only [T.sz]; omega⟩
    rw [z.jn.2.1 p, sem_ext z.ext z2.wf p c1 (by omega), sem_ext z.ext z2.wf p c2 (by omega), sem_ext z2.ext z1.wf p c1 (by omega), z1.sm p, z2.sm p]
    rfl
end
end LW

set_option Elab.async false
set_option linter.all false
set_option maxRecDepth 100000
set_option maxHeartbeats 4000000
/-! MB7: lists of what is built; truths. -/
namespace LW
open MP
def truL (es : List Int) (t : T) : List Bool := (subs es).map fun part => t.ev fun e => decide (e ∈ part)
def encB (bs : List Bool) : D := .lst (bs.map .bl)
theorem draw_run {P : Pg} (hD : P.at_ "" "_law_draw" = some d_law_draw) (ns : List Int) (K n0 : Nat) (hK : 0 < K) {S : St} {Q : Vl → St → Prop} (hQ : Q (.p S.length) (S ++ [drC ns 0 0 17])) : wp (run P K n0 "" "_law_draw" [.s (ns.map .int)] S) Q := by
  obtain ⟨K, rfl⟩ : ∃ k, K = k + 1 := ⟨K - 1, by omega⟩
  refine wp_run_true hD (by decide) rfl rfl ?_
  unfold d_law_draw startE
  rw [eSs_cons]
  simp [cap]
  exact hQ
theorem init_runC {P : Pg} (hc : P.cls.contains "Diagrams" = true) (hi : P.at_ "Diagrams" "__init__" = some d_Diagrams_init0) (K n0 : Nat) (hK : 2 ≤ K) {S : St} (hn : n0 ≤ S.length) {Q : Vl → St → Prop} (hQ : Has (S ++ [insC ⟨S.length, S.length + 1, S.length + 2, S.length + 3⟩, .lst [.non, .non], .dic .t [], .dic .t []]) ⟨S.length, S.length + 1, S.length + 2, S.length + 3⟩ [] [] → Q (.p S.length) (S ++ [insC ⟨S.length, S.length + 1, S.length + 2, S.length + 3⟩, .lst [.non, .non], .dic .t [], .dic .t []])) :
    wp (run P K n0 "Diagrams" "" [] S) Q := by
  obtain ⟨K, rfl⟩ : ∃ k, K = k + 2 := ⟨K - 2, by omega⟩
  refine wp_make hc ?_
  refine wp_run_true hi (by decide) rfl rfl ?_
  unfold d_Diagrams_init0 startE
  have g0 : ∀ T : St, ∀ c, (S ++ c :: T)[S.length]? = some c := fun T c => get_new
  have s0 : ∀ T : St, ∀ c c', (S ++ c :: T).set S.length c' = S ++ c' :: T := fun T c c' => set_new
  rw [eSs_cons]
  simp [cap, setA, g0, s0, okW, hn, putF]
  rw [eSs_cons]
  simp [setA, g0, s0, okW, hn, putF]
  rw [eSs_cons]
  simp [setA, g0, s0, okW, hn, putF]
  refine hQ ?_
  have g : ∀ i, (S ++ [insC ⟨S.length, S.length + 1, S.length + 2, S.length + 3⟩, .lst [.non, .non], .dic .t [], .dic .t []])[S.length + i]? = [insC ⟨S.length, S.length + 1, S.length + 2, S.length + 3⟩, .lst [.non, .non], .dic .t [], .dic .t []][i]? := fun i => by
    rw [List.getElem?_append_right (by omega), show S.length + i - S.length = i by omega]
  exact ⟨g 0, g 1, g 2, g 3, by simp, by simp, by simp, by simp, by simp, by simp⟩
theorem init_run {P : Pg} (pd : PD P) (K n0 : Nat) (hK : 2 ≤ K) {S : St} (hn : n0 ≤ S.length) {Q : Vl → St → Prop} (hQ : Has (S ++ [insC ⟨S.length, S.length + 1, S.length + 2, S.length + 3⟩, .lst [.non, .non], .dic .t [], .dic .t []]) ⟨S.length, S.length + 1, S.length + 2, S.length + 3⟩ [] [] → Q (.p S.length) (S ++ [insC ⟨S.length, S.length + 1, S.length + 2, S.length + 3⟩, .lst [.non, .non], .dic .t [], .dic .t []])) :
    wp (run P K n0 "Diagrams" "" [] S) Q := init_runC pd.cls pd.init K n0 hK hn hQ
/-- several conditions are built -/
structure Bs (es : List Int) (N : List Nd) (R : List (D × Vl)) (n : Nat) (ts : List T) (N' : List Nd) (R' : List (D × Vl)) (cs : List Nat) : Prop where
  ext : Ext N N'
  wf : WF es N'
  rr : RR N' R'
  len : cs.length = ts.length
  sm : ∀ (k c : Nat) (t : T), cs[k]? = some c → ts[k]? = some t → c < N'.length + 2 ∧ ∀ p, sem N' p c = t.ev p
  ln : N'.length ≤ N.length + n * ts.length
  lr : R'.length ≤ R.length + n * ts.length
def encC (cs : List Nat) : List D := cs.map fun c => .int (c : Nat)
theorem builds_run {P : Pg} (pd : PD P) (hB : P.at_ "" "_law_build" = some d_law_build) {es : List Int} (hes : es.length ≤ 5) {ts : List T} {B : Nat} (hts : ∀ t ∈ ts, t.of es ∧ 32 * t.sz ≤ B ∧ t.dp ≤ 100) {K n0 : Nat} (hK : 120 ≤ K) {N : List Nd} {R : List (D × Vl)} {S : St} {q : Q4} {Q : List D → St → Prop} {G : Env} {st v : Nat}
    (hst : G[st]? = some (some (.p q.s))) (hv : v < G.length) (hne : v ≠ st) (wf : WF es N) (rr : RR N R) (h : Has S q N R) (hN : N.length + B * ts.length ≤ 700000) (hR : R.length + B * ts.length ≤ 700000) (hlen : ts.length < 1000) (hB2 : B ≤ 100000)
    (hQ : ∀ N' R' cs, Bs es N R B ts N' R' cs → Q (encC cs) (up S q N' R')) :
    wp (compL (turnC (cx P K n0) (.n v) .yes (.call "_law_build" (.cons (.var st) (.cons (.var v) .nil))) G) [] (ts.map T.enc) S) Q := by
  let I : Nat → List D → St → Prop := fun i acc S' => ∃ N' R' cs, acc = encC cs ∧ S' = up S q N' R' ∧ Bs es N R B (ts.take i) N' R' cs
  refine wp_comp I ⟨N, R, [], rfl, (up_same h).symm, ⟨.refl, wf, rr, rfl, fun k c t e => by simp at e, by simp, by simp⟩⟩ ?_ ?_
  · rintro i d acc S' hd ⟨N1, R1, cs, rfl, rfl, z⟩
    rw [List.getElem?_map, Option.map_eq_some_iff] at hd
    obtain ⟨t, ht, rfl⟩ := hd
    have hi : i < ts.length := (List.getElem?_eq_some_iff.mp ht).1
    obtain ⟨h1, h2, h3⟩ := hts t (List.mem_of_getElem? ht)
    have tl : (ts.take i).length = i := by rw [List.length_take]; omega
    have H1 := h.up (N' := N1) (R' := R1)
    have l1 := z.ln
    have l2 := z.lr
    rw [tl] at l1 l2
    have hm : B * i + B ≤ B * ts.length := by
      have := Nat.mul_le_mul_left B (show i + 1 ≤ ts.length by omega)
      rw [Nat.mul_succ] at this
      exact this
    have gv : (G.set v (some (.d t.enc)))[v]? = some (some (.d t.enc)) := List.getElem?_set_self hv
    have gs : (G.set v (some (.d t.enc)))[st]? = some (some (.p q.s)) := by rw [List.getElem?_set_ne hne]; exact hst
    unfold turnC
    simp [Tg.set, gv, gs]
    refine build_run pd hB hes t K (by omega) _ h1 z.wf z.rr H1 (by omega) (by omega) fun N2 R2 c y => ?_
    simp
    rw [up_up h]
    refine ⟨?_, N2, R2, cs ++ [c], ?_, rfl, ⟨z.ext.trans y.ext, y.wf, y.rr, ?_, ?_, ?_, ?_⟩⟩
    · unfold encC
      rw [List.length_map, z.len, tl]
      show i < 1000000
      omega
    · simp [encC]
    · rw [List.length_append, z.len, tl, List.length_take]
      simp
      omega
    · intro k c' t' hc' ht'
      by_cases hk : k < cs.length
      · rw [List.getElem?_append_left hk] at hc'
        rw [z.len, tl] at hk
        rw [List.getElem?_take, if_pos (by omega)] at ht'
        obtain ⟨u1, u2⟩ := z.sm k c' t' hc' (by rw [List.getElem?_take, if_pos hk]; exact ht')
        have := y.ext.len
        exact ⟨by omega, fun p => by rw [sem_ext y.ext z.wf p c' u1]; exact u2 p⟩
      · have hlen' := (List.getElem?_eq_some_iff.mp hc').1
        rw [List.length_append] at hlen'
        simp at hlen'
        have ek : k = cs.length := by omega
        subst ek
        rw [List.getElem?_append_right (Nat.le_refl _), Nat.sub_self] at hc'
        cases hc'
        rw [z.len, tl, List.getElem?_take, if_pos (by omega), ht] at ht'
        cases ht'
        exact ⟨y.lt, y.sm⟩
    · have := y.ln
      rw [List.length_take, Nat.min_eq_left (by omega), Nat.mul_succ]
      omega
    · have := y.lr
      rw [List.length_take, Nat.min_eq_left (by omega), Nat.mul_succ]
      omega
  · rintro acc S' ⟨N1, R1, cs, rfl, rfl, z⟩
    rw [List.length_map, List.take_length] at z
    exact hQ N1 R1 cs z
/-- the truths of several trees -/
theorem truths_run {P : Pg} (hT : P.at_ "" "_law_true" = some d_law_true) (hS : P.at_ "" "_law_subsets" = some d_law_subsets) {es : List Int} (hes : es.length ≤ 10) {ts : List T} (hts : ∀ t ∈ ts, t.dp ≤ 100) {K n0 : Nat} (hK : 120 ≤ K) {S : St} {Q : List D → St → Prop} {G : Env} {en v w : Nat}
    (hen : G[en]? = some (some (.d (.lst (es.map .int))))) (hv : v < G.length) (hw : w < G.length) (hne : v ≠ en) (hne2 : w ≠ v) (hlen : ts.length < 1000) (hQ : Q (ts.map fun t => encB (truL es t)) S) :
    wp (compL (turnC (cx P K n0) (.n v) .yes (.fz (.comp (.n w) (.seq (.call "_law_subsets" (.cons (.var en) .nil))) .yes (.call "_law_true" (.cons (.var v) (.cons (.var w) .nil))))) G) [] (ts.map T.enc) S) Q := by
  let I : Nat → List D → St → Prop := fun i acc S' => acc = (ts.take i).map (fun t => encB (truL es t)) ∧ S' = S
  refine wp_comp I ⟨rfl, rfl⟩ ?_ ?_
  · rintro i d acc S' hd ⟨rfl, hS'⟩
    subst hS'
    rw [List.getElem?_map, Option.map_eq_some_iff] at hd
    obtain ⟨t, ht, rfl⟩ := hd
    have hi : i < ts.length := (List.getElem?_eq_some_iff.mp ht).1
    have h3 := hts t (List.mem_of_getElem? ht)
    have gv : (G.set v (some (.d t.enc)))[v]? = some (some (.d t.enc)) := List.getElem?_set_self hv
    have gs : (G.set v (some (.d t.enc)))[en]? = some (some (.d (.lst (es.map .int)))) := by rw [List.getElem?_set_ne hne]; exact hen
    unfold turnC
    simp [Tg.set, gs]
    refine subsets_run hS hes K _ (by omega) ?_
    simp
    have hsl : (subs es).length ≤ 1024 := by
      rw [subs_len]
      exact Nat.le_trans (Nat.pow_le_pow_right (by decide) hes) (by decide)
    let J : Nat → List D → St → Prop := fun j acc S'' => acc = ((subs es).take j).map (fun part => D.bl (t.ev fun e => decide (e ∈ part))) ∧ S'' = S'
    refine wp_comp J ⟨rfl, rfl⟩ ?_ ?_
    · rintro j y acc S'' hy ⟨rfl, hS2⟩
      subst hS2
      unfold encS at hy
      rw [List.getElem?_map, Option.map_eq_some_iff] at hy
      obtain ⟨p, hp, rfl⟩ := hy
      have g1 : ((G.set v (some (.d t.enc))).set w (some (.d (.lst (p.map .int)))))[w]? = some (some (.d (.lst (p.map .int)))) := List.getElem?_set_self (by simpa using hw)
      have g2 : ((G.set v (some (.d t.enc))).set w (some (.d (.lst (p.map .int)))))[v]? = some (some (.d t.enc)) := by rw [List.getElem?_set_ne hne2]; exact gv
      have hj : j < (subs es).length := (List.getElem?_eq_some_iff.mp hp).1
      unfold turnC
      simp [Tg.set, g1, g2]
      refine true_run hT t K _ (by omega) ?_
      simp
      refine ⟨?_, ?_, rfl⟩
      · show _ < 1000000
        omega
      · rw [List.take_add_one, hp]
        simp
    · rintro acc S'' ⟨rfl, hS2⟩
      subst hS2
      have hl : (encS (subs es)).length = (subs es).length := by simp [encS]
      rw [hl, List.take_length]
      refine ⟨?_, ?_, rfl⟩
      · show _ < 1000000
        omega
      · rw [List.take_add_one, ht]
        simp [encB, truL]
  · rintro acc S' ⟨rfl, hS'⟩
    subst hS'
    rw [List.length_map, List.take_length]
    exact hQ
/-- a tree asks for its entries alone -/
theorem ev_filter {es : List Int} {p : Int → Bool} : ∀ {t : T}, t.of es → (t.ev fun e => decide (e ∈ es.filter p)) = t.ev p
  | .con _, _ => rfl
  | .there e, h => by
    have h : e ∈ es := h
    simp only [T.ev, List.mem_filter]
    by_cases hp : p e = true
    · simp [hp, h]
    · simp [hp]
  | .neg t, h => by simp only [T.ev, ev_filter (t := t) h]
  | .con2 a b, h => by simp only [T.ev, ev_filter (t := a) h.1, ev_filter (t := b) h.2]
  | .dis a b, h => by simp only [T.ev, ev_filter (t := a) h.1, ev_filter (t := b) h.2]
  | .dif a b, h => by simp only [T.ev, ev_filter (t := a) h.1, ev_filter (t := b) h.2]
theorem tru_iff {es : List Int} {a b : T} (ha : a.of es) (hb : b.of es) : (∀ p, a.ev p = b.ev p) ↔ truL es a = truL es b := by
  constructor
  · intro h
    unfold truL
    exact List.map_congr_left fun part _ => h _
  · intro h p
    unfold truL at h
    have := List.map_inj_left.mp h (es.filter p) (subs_filter p es)
    rwa [ev_filter ha, ev_filter hb] at this
theorem tru_none {es : List Int} {a : T} (ha : a.of es) : (∀ p, a.ev p = false) ↔ (truL es a).any id = false := by
  constructor
  · intro h
    rw [List.any_eq_false]
    intro x hx
    obtain ⟨part, _, rfl⟩ := List.mem_map.mp hx
    rw [h]
    decide
  · intro h p
    rw [List.any_eq_false] at h
    have := h _ (List.mem_map.mpr ⟨es.filter p, subs_filter p es, rfl⟩)
    rw [ev_filter ha] at this
    simpa using this
theorem tru_all {es : List Int} {a : T} (ha : a.of es) : (∀ p, a.ev p = true) ↔ (truL es a).all id = true := by
  constructor
  · intro h
    rw [List.all_eq_true]
    intro x hx
    obtain ⟨part, _, rfl⟩ := List.mem_map.mp hx
    exact h _
  · intro h p
    rw [List.all_eq_true] at h
    have := h _ (List.mem_map.mpr ⟨es.filter p, subs_filter p es, rfl⟩)
    rw [ev_filter ha] at this
    exact this
/-! ### what the law asks of them -/
theorem bools_map : ∀ bs : List Bool, bools (bs.map D.bl) = some bs
  | [] => rfl
  | b :: bs => by
    show (bools (bs.map D.bl)).map (b :: ·) = _
    rw [bools_map bs]
    rfl
theorem any_B {S : St} (bs : List Bool) : primV .any S [.d (encB bs)] = some (.bl (bs.any id)) := by
  simp only [primV, dat, encB, bools_map, Option.map_some]
theorem all_B {S : St} (bs : List Bool) : primV .all S [.d (encB bs)] = some (.bl (bs.all id)) := by
  simp only [primV, dat, encB, bools_map, Option.map_some]
theorem eqs_bl : ∀ a b : List Bool, D.eqs (a.map D.bl) (b.map D.bl) = decide (a = b)
  | [], [] => by simp [D.eqs]
  | [], b :: bs => by simp [D.eqs]
  | a :: as, [] => by simp [D.eqs]
  | a :: as, b :: bs => by
    simp only [List.map_cons, D.eqs, D.eq, eqs_bl as bs, List.cons.injEq, Bool.decide_and]
    cases a <;> cases b <;> simp
theorem deps_bl : ∀ a : List Bool, D.deps (a.map D.bl) = 0
  | [] => by simp [D.deps]
  | a :: as => by simp [D.deps, D.dep, deps_bl as]
theorem eq_B {S : St} (a b : List Bool) : cmpV .eq S (.d (encB a)) (.d (encB b)) = some (decide (a = b)) := by
  simp only [cmpV, dat, eqD, encB, D.dep, deps_bl, D.eq, eqs_bl]
  rfl
section
variable {es : List Int} {N : List Nd} {a b : T} {c d : Nat}
theorem one_form (wf : WF es N) (hc : c < N.length + 2) (hd : d < N.length + 2) (sc : ∀ p, sem N p c = a.ev p) (sd : ∀ p, sem N p d = b.ev p) (ha : a.of es) (hb : b.of es) : (c = d) ↔ truL es a = truL es b := by
  rw [← tru_iff ha hb]
  constructor
  · intro e p
    subst e
    rw [← sc, ← sd]
  · intro h
    exact canon wf hc hd fun p => by rw [sc, sd, h]
theorem one_never (wf : WF es N) (hc : c < N.length + 2) (sc : ∀ p, sem N p c = a.ev p) (ha : a.of es) : (c = 0) ↔ (truL es a).any id = false := by
  rw [← tru_none ha]
  constructor
  · intro e p
    subst e
    rw [← sc, sem_0]
  · intro h
    exact canon wf hc (by omega) fun p => by rw [sc, h, sem_0]
theorem one_always (wf : WF es N) (hc : c < N.length + 2) (sc : ∀ p, sem N p c = a.ev p) (ha : a.of es) : (c = 1) ↔ (truL es a).all id = true := by
  rw [← tru_all ha]
  constructor
  · intro e p
    subst e
    rw [← sc, sem_1]
  · intro h
    exact canon wf hc (by omega) fun p => by rw [sc, h, sem_1]
end
end LW

set_option Elab.async false
set_option linter.all false
set_option maxRecDepth 100000
set_option maxHeartbeats 4000000
namespace LW
def d_law_same : MP.Df := ⟨"", "_law_same", 2, 3, false,
  (.cons (.ifs (.e (.isin (.var 1) [.list, .tuple])) (.cons (.ifs (.or_ (.cmp .ne (.isin (.var 1) [.list]) (.isin (.var 0) [.list])) (.cmp .ne (.isin (.var 1) [.tuple]) (.isin (.var 0) [.tuple]))) (.cons (.ret (.cst (.bl false)))
    .nil) .nil)
    (.cons (.ifs (.cmp .ne (.prim .len (.cons (.var 0) .nil)) (.prim .len (.cons (.var 1) .nil))) (.cons (.ret (.cst (.bl false)))
    .nil) .nil)
    (.cons (.ret (.prim .all (.cons (.fz (.comp (.n 2) (.rng (.prim .len (.cons (.var 1) .nil))) .yes (.call "_law_same" (.cons (.ix (.var 0) (.var 2)) (.cons (.ix (.var 1) (.var 2)) .nil))))) .nil)))
    .nil))) .nil)
    (.cons (.ifs (.cmp .is_ (.var 1) (.cst .non)) (.cons (.ret (.cmp .is_ (.var 0) (.cst .non)))
    .nil) .nil)
    (.cons (.ifs (.cmp .ne (.isin (.var 1) [.bool]) (.isin (.var 0) [.bool])) (.cons (.ret (.cst (.bl false)))
    .nil) .nil)
    (.cons (.ifs (.e (.isin (.var 1) [.str])) (.cons (.ret (.andE (.isin (.var 0) [.str]) (.cmp .eq (.var 0) (.var 1))))
    .nil) .nil)
    (.cons (.ret (.andE (.isin (.var 0) [.int]) (.cmp .eq (.var 0) (.var 1))))
    .nil)))))⟩
def d_Diagrams_holds : MP.Df := ⟨"Diagrams", "holds", 3, 6, false,
  (.cons (.whl (.cmp .gt (.var 1) (.gint "ALWAYS" 1)) (.cons (.asgT [3, 4, 5] (.ix (.attr (.var 0) "Diagrams" "_nodes") (.var 1)))
    (.cons (.asg 1 (.ite (.cmp .in_ (.var 3) (.var 2)) (.var 5) (.var 4)))
    .nil)))
    (.cons (.ret (.cmp .eq (.var 1) (.gint "ALWAYS" 1)))
    .nil))⟩
end LW

set_option Elab.async false
set_option linter.all false
set_option maxRecDepth 100000
set_option maxHeartbeats 4000000
/-! ML3: sameness; whether a condition holds. -/
namespace LW
open MP
mutual
/-- all lists within so long -/
def wide : D → Bool
  | .tup ds => decide (ds.length ≤ 900000) && wides ds
  | .lst ds => decide (ds.length ≤ 900000) && wides ds
  | _ => true
def wides : List D → Bool
  | [] => true
  | d :: ds => wide d && wides ds
end
theorem wides_mem : ∀ {ds : List D} {d : D}, wides ds = true → d ∈ ds → wide d = true
  | [], _, _, h => by cases h
  | x :: ds, d, h, hm => by
    simp only [wides, Bool.and_eq_true] at h
    rcases List.mem_cons.mp hm with rfl | hm
    · exact h.1
    · exact wides_mem h.2 hm
theorem dep_mem : ∀ {ds : List D} {d : D}, d ∈ ds → d.dep ≤ D.deps ds
  | [], _, h => by cases h
  | x :: ds, d, hm => by
    simp only [D.deps]
    rcases List.mem_cons.mp hm with rfl | hm
    · omega
    · have := dep_mem hm
      omega
theorem same_refl {P : Pg} (hS : P.at_ "" "_law_same" = some d_law_same) : ∀ (n : Nat) (d : D) (K n0 : Nat), d.dep ≤ n → n < K → wide d = true → ∀ {S : St} {Q : Vl → St → Prop}, Q (.d (.bl true)) S → wp (run P K n0 "" "_law_same" [.d d, .d d] S) Q := by
  intro n
  induction n using Nat.strongRecOn with
  | _ n ih =>
    intro d K n0 hd hK hw S Q hQ
    obtain ⟨K, rfl⟩ : ∃ k, K = k + 1 := ⟨K - 1, by omega⟩
    refine wp_run_false hS (by decide) rfl rfl ?_
    unfold d_law_same startE
    have go : ∀ (ds : List D), D.deps ds < n → ds.length ≤ 900000 → wides ds = true → ∀ (G : Env) (x : Nat → Vl), G.length = 3 → G[0]? = some (some (x 0)) → G[1]? = some (some (x 0)) → (∀ (S : St) (i : Nat) (e : D), ds[i]? = some e → ixV S (x 0) (.d (.int (i : Nat))) = some (.d e)) →
        wp (compL (turnC (cx P K S.length) (.n 2) .yes (.call "_law_same" (.cons (.ix (.var 0) (.var 2)) (.cons (.ix (.var 1) (.var 2)) .nil))) G) [] ((List.range ds.length).map fun (i : Nat) => D.int (i : Int)) S) fun bs S' => bs = (List.replicate ds.length (.bl true)) ∧ S' = S := by
      intro ds hds hl hw G x hG g0 g1 hix
      let I : Nat → List D → St → Prop := fun i acc S' => acc = List.replicate i (.bl true) ∧ S' = S
      refine wp_comp I ⟨rfl, rfl⟩ ?_ ?_
      · rintro i y acc S' hy ⟨rfl, hS'⟩
        subst hS'
        rw [List.getElem?_map, Option.map_eq_some_iff] at hy
        obtain ⟨j, hj, rfl⟩ := hy
        obtain ⟨hjr, hje⟩ := List.getElem?_eq_some_iff.mp hj
        rw [List.getElem_range] at hje
        subst hje
        rw [List.length_range] at hjr
        have e : ds[i]? = some (ds[i]) := List.getElem?_eq_getElem hjr
        have h0 : (G.set 2 (some (.d (.int (i : Nat)))))[0]? = some (some (x 0)) := by rw [List.getElem?_set_ne (by decide)]; exact g0
        have h1 : (G.set 2 (some (.d (.int (i : Nat)))))[1]? = some (some (x 0)) := by rw [List.getElem?_set_ne (by decide)]; exact g1
        have h2 : (G.set 2 (some (.d (.int (i : Nat)))))[2]? = some (some (.d (.int (i : Nat)))) := List.getElem?_set_self (by omega)
        have hm : ds[i] ∈ ds := List.getElem_mem hjr
        have hdm := dep_mem hm
        unfold turnC
        simp [Tg.set, h0, h1, h2, hix _ i _ e]
        refine ih (D.deps ds) (by omega) ds[i] K _ hdm (by omega) (wides_mem hw hm) ?_
        simp
        refine ⟨?_, by rw [List.replicate_succ'], rfl⟩
        show i < 1000000
        omega
      · rintro acc S' ⟨rfl, rfl⟩
        simp
    have fin : ∀ m : Nat, primV .all S [.d (.lst (List.replicate m (.bl true)))] = some (.bl true) := fun m => by
      have e : D.lst (List.replicate m (.bl true)) = encB (List.replicate m true) := by simp [encB]
      rw [e, all_B]
      congr 2
      rw [List.all_eq_true]
      intro x hx
      rw [List.eq_of_mem_replicate hx]
      rfl
    cases d with
    | lst ds =>
      simp only [D.dep] at hd
      simp only [wide, Bool.and_eq_true, decide_eq_true_eq] at hw
      rw [eSs_cons]
      simp [tysV, tyV]
      rw [eSs_cons]
      simp [tysV, tyV]
      rw [eSs_cons]
      simp
      rw [eSs_cons]
      simp [cap]
      refine ⟨by omega, wp_mono (go ds (by omega) hw.1 hw.2 _ (fun _ => .d (.lst ds)) rfl rfl rfl (fun S i e h => by
        rw [ix_l, atI_lt (by omega) (by have := (List.getElem?_eq_some_iff.mp h).1; omega), Int.toNat_natCast, h]
        rfl)) ?_⟩
      rintro bs S' ⟨rfl, rfl⟩
      simp [fin]
      exact hQ
    | tup ds =>
      simp only [D.dep] at hd
      simp only [wide, Bool.and_eq_true, decide_eq_true_eq] at hw
      rw [eSs_cons]
      simp [tysV, tyV]
      rw [eSs_cons]
      simp [tysV, tyV]
      rw [eSs_cons]
      simp
      rw [eSs_cons]
      simp [cap]
      refine ⟨by omega, wp_mono (go ds (by omega) hw.1 hw.2 _ (fun _ => .d (.tup ds)) rfl rfl rfl (fun S i e h => by
        rw [ix_t, atI_lt (by omega) (by have := (List.getElem?_eq_some_iff.mp h).1; omega), Int.toNat_natCast, h]
        rfl)) ?_⟩
      rintro bs S' ⟨rfl, rfl⟩
      simp [fin]
      exact hQ
    | non =>
      rw [eSs_cons]
      simp [tysV, tyV]
      rw [eSs_cons]
      simp
      rw [eSs_cons]
      simp
      exact hQ
    | bl b =>
      rw [eSs_cons]
      simp [tysV, tyV]
      rw [eSs_cons]
      simp [cmpV]
      rw [eSs_cons]
      simp [tysV, tyV]
      rw [eSs_cons]
      simp [tysV, tyV]
      rw [eSs_cons]
      simp [tysV, tyV]
      exact hQ
    | int i =>
      rw [eSs_cons]
      simp [tysV, tyV]
      rw [eSs_cons]
      simp [cmpV]
      rw [eSs_cons]
      simp [tysV, tyV]
      rw [eSs_cons]
      simp [tysV, tyV]
      rw [eSs_cons]
      simp [tysV, tyV]
      exact hQ
    | str x =>
      rw [eSs_cons]
      simp [tysV, tyV]
      rw [eSs_cons]
      simp [cmpV]
      rw [eSs_cons]
      simp [tysV, tyV]
      rw [eSs_cons]
      simp [tysV, tyV]
      rw [eSs_cons]
      simp [tysV, tyV]
      exact hQ
/-! ### stores beside -/
section
variable {S : St} {q : Q4} {N : List Nd} {R : List (D × Vl)} {es : List Int}
theorem Has.app (h : Has S q N R) (T : St) : Has (S ++ T) q N R := ⟨by rw [get_app (lt_of h.s)]; exact h.s, by rw [get_app (lt_of h.i)]; exact h.i, by rw [get_app (lt_of h.j)]; exact h.j, by rw [get_app (lt_of h.l)]; exact h.l, h.ij, h.il, h.jl, h.si, h.sj, h.sl⟩
theorem Has.set (h : Has S q N R) {d : Nat} {c : Cell} (h1 : d ≠ q.s) (h2 : d ≠ q.i) (h3 : d ≠ q.j) (h4 : d ≠ q.l) : Has (S.set d c) q N R :=
  ⟨by rw [List.getElem?_set_ne h1]; exact h.s, by rw [List.getElem?_set_ne h2]; exact h.i, by rw [List.getElem?_set_ne h3]; exact h.j, by rw [List.getElem?_set_ne h4]; exact h.l, h.ij, h.il, h.jl, h.si, h.sj, h.sl⟩
@[simp] theorem setsN (G : Env) (n : Nd) (i j k : Nat) : setsD G [i, j, k] [.int n.1, .int n.2.1, .int n.2.2] = some (((G.set i (some (.d (.int n.1)))).set j (some (.d (.int n.2.1)))).set k (some (.d (.int n.2.2)))) := rfl
/-- whether a condition holds for a set -/
theorem holds_run {P : Pg} (hH : P.at_ "Diagrams" "holds" = some d_Diagrams_holds) {ps : List Int} (wf : WF es N) {c : Nat} (hc : c < N.length + 2) (hN : N.length ≤ 900000) (K n0 : Nat) (hK : 0 < K) (h : Has S q N R) {Q : Vl → St → Prop} (hQ : Q (.d (.bl (sem N (fun e => decide (e ∈ ps)) c))) S) :
    wp (run P K n0 "Diagrams" "holds" [.p q.s, .d (.int (c : Nat)), .d (.lst (ps.map .int))] S) Q := by
  obtain ⟨K, rfl⟩ : ∃ k, K = k + 1 := ⟨K - 1, by omega⟩
  refine wp_run_false hH (by decide) rfl rfl ?_
  unfold d_Diagrams_holds startE
  rw [eSs_cons]
  simp
  let I : Nat → Env → St → Prop := fun m G S' => ∃ (c' : Nat) (g3 g4 g5 : Option Vl), m = c' ∧ G = [some (.p q.s), some (.d (.int (c' : Nat))), some (.d (.lst (ps.map .int))), g3, g4, g5] ∧ S' = S ∧ c' < N.length + 2 ∧ sem N (fun e => decide (e ∈ ps)) c' = sem N (fun e => decide (e ∈ ps)) c
  refine wq_whl I ?_ lots c _ _ (by show c < 1000000000; omega) ⟨c, none, none, none, rfl, rfl, rfl, hc, rfl⟩
  rintro m G S' ⟨c', g3, g4, g5, rfl, rfl, rfl, hc', hs⟩
  simp
  by_cases h1 : 1 < m
  · have h1' : (1 : Int) < (m : Int) := by omega
    obtain ⟨e, w, t, hn⟩ := nd_of (N := N) (c := m) (by omega) hc'
    obtain ⟨hw, ht, _⟩ := wf.ok _ _ _ _ hn
    have nb : atI (nodesL N) (m : Int) = some (.tup [.int e, .int (w : Nat), .int (t : Nat)]) := by
      rcases node_at (N := N) m hc' with ⟨z, _⟩ | ⟨e', w', t', _, hn', z⟩
      · omega
      · rw [hn] at hn'
        cases hn'
        exact z
    simp [h1']
    rw [eSs_cons]
    simp [h.a1, ix_p h.i, nb, setsD]
    rw [eSs_cons]
    simp [in_ints]
    have sm := sem_nd (N := N) (c := m) (by omega) hn (by omega) (by omega) fun e => decide (e ∈ ps)
    by_cases hin : e ∈ ps
    · simp [hin]
      rw [if_pos (by simpa using hin)] at sm
      exact ⟨t, by omega, t, _, _, _, rfl, rfl, rfl, by omega, by rw [← sm]; exact hs⟩
    · simp [hin]
      rw [if_neg (by simpa using hin)] at sm
      exact ⟨w, by omega, w, _, _, _, rfl, rfl, rfl, by omega, by rw [← sm]; exact hs⟩
  · have h1' : ¬ (1 : Int) < (m : Int) := by omega
    simp [h1']
    rw [eSs_cons]
    simp
    have hm : m = 0 ∨ m = 1 := by omega
    rcases hm with rfl | rfl
    · rw [sem_0] at hs
      rw [← hs] at hQ
      simpa using hQ
    · rw [sem_1] at hs
      rw [← hs] at hQ
      simpa using hQ
/-- what agrees on the entries is alike -/
theorem sem_es (wf : WF es N) {p p' : Int → Bool} (hp : ∀ e ∈ es, p e = p' e) : ∀ c, c < N.length + 2 → sem N p c = sem N p' c := by
  intro c
  induction c using Nat.strongRecOn with
  | _ c ih =>
    intro hl
    by_cases h0 : c = 0
    · subst h0; rw [sem_0, sem_0]
    · by_cases h1 : c = 1
      · subst h1; rw [sem_1, sem_1]
      · obtain ⟨e, w, t, hn⟩ := nd_of (N := N) (c := c) (by omega) hl
        obtain ⟨hw, ht, _, _, _, he⟩ := wf.ok _ _ _ _ hn
        have hw : w < c := by omega
        have ht : t < c := by omega
        rw [sem_nd (by omega) hn hw ht, sem_nd (by omega) hn hw ht, hp e he, ih w hw (by omega), ih t ht (by omega)]
end
theorem binD_rep {ds : List D} {k : Int} (h0 : 0 ≤ k) (h1 : k ≤ 1000000) (h2 : ds.length * k.toNat ≤ cap) : binD .mul (.lst ds) (.int k) = some (.lst (List.replicate k.toNat ds).flatten) := by simp [binD, h0, h1, h2]
theorem eqs_ints : ∀ ps : List Int, D.eqs (ps.map .int) (ps.map .int) = true
  | [] => rfl
  | p :: ps => by simp [D.eqs, D.eq, eqs_ints ps]
theorem deps_ints : ∀ ps : List Int, D.deps (ps.map .int) = 0
  | [] => by simp [D.deps]
  | p :: ps => by simp [D.deps, D.dep, deps_ints ps]
theorem ne_ints {S : St} (ps : List Int) : cmpV .ne S (.d (.lst (ps.map .int))) (.d (.lst (ps.map .int))) = some false := by
  simp only [cmpV, dat, eqD, D.dep, deps_ints, D.eq, eqs_ints]
  rfl
theorem rep_one (k : Nat) (x : Int) : (List.replicate k [D.int x]).flatten = (List.replicate k x).map D.int := by
  induction k with
  | zero => rfl
  | succ k ih => rw [List.replicate_succ, List.flatten_cons, ih, List.replicate_succ, List.map_cons]; rfl
end LW

set_option Elab.async false
set_option linter.all false
set_option maxRecDepth 100000
set_option maxHeartbeats 4000000
namespace LW
def d_law_cell : MP.Df := ⟨"", "_law_cell", 1, 2, false,
  (.cons (.asg 1 (.call "_law_next" (.cons (.var 0) (.cons (.cst (.int 7)) .nil))))
    (.cons (.ifs (.cmp .eq (.var 1) (.cst (.int 0))) (.cons (.ret (.cst .non))
    .nil) .nil)
    (.cons (.ret (.ite (.cmp .gt (.var 1) (.cst (.int 4))) (.ix (.fz (.disp (.cons (.cst (.str "a")) (.cons (.cst (.str "b")) (.cons (.cst (.str "ab")) (.cons (.cst (.str "")) .nil)))))) (.bin .add (.bin .mul (.cst (.int 2)) (.bin .sub (.var 1) (.cst (.int 5)))) (.call "_law_next" (.cons (.var 0) (.cons (.cst (.int 2)) .nil))))) (.bin .sub (.var 1) (.cst (.int 1)))))
    .nil)))⟩
def d_law_great : MP.Df := ⟨"", "_law_great", 2, 4, false,
  (.cons (.asg 2 (.own (.disp .nil)))
    (.cons (.for_ false (.n 3) (.seq (.var 1)) (.cons (.ifs (.and_ (.e (.isin (.var 3) [.int])) (.e (.call "_law_next" (.cons (.var 0) (.cons (.cst (.int 2)) .nil))))) (.cons (.asg 3 (.bin .mul (.bin .sub (.bin .pow (.cst (.int 10)) (.cst (.int 15))) (.var 3)) (.bin .sub (.cst (.int 1)) (.bin .mul (.cst (.int 2)) (.call "_law_next" (.cons (.var 0) (.cons (.cst (.int 2)) .nil)))))))
    .nil) .nil)
    (.cons (.ex (.bm .append (.var 2) (.cons (.var 3) .nil)))
    .nil)))
    (.cons (.frz 2)
    (.cons (.ret (.prim .tuple (.cons (.var 2) .nil)))
    .nil))))⟩
def d_law_expression : MP.Df := ⟨"", "_law_expression", 3, 8, false,
  (.cons (.asg 3 (.call "_law_next" (.cons (.var 0) (.cons (.cst (.int 12)) .nil))))
    (.cons (.ifs (.or_ (.cmp .eq (.var 2) (.cst (.int 0))) (.cmp .lt (.var 3) (.cst (.int 5)))) (.cons (.ifs (.or_ (.cmp .eq (.var 1) (.cst (.int 0))) (.cmp .eq (.call "_law_next" (.cons (.var 0) (.cons (.cst (.int 3)) .nil))) (.cst (.int 0)))) (.cons (.ret (.tup (.cons (.cst (.str "constant")) (.cons (.call "_law_cell" (.cons (.var 0) .nil)) .nil))))
    .nil) .nil)
    (.cons (.ret (.tup (.cons (.cst (.str "column")) (.cons (.call "_law_next" (.cons (.var 0) (.cons (.var 1) .nil))) .nil))))
    .nil)) .nil)
    (.cons (.ifs (.cmp .lt (.var 3) (.cst (.int 8))) (.cons (.asg 4 (.ix (.fz (.disp (.cons (.cst (.str "negate")) (.cons (.cst (.str "not")) (.cons (.cst (.str "missing")) (.cons (.cst (.str "length")) .nil)))))) (.call "_law_next" (.cons (.var 0) (.cons (.cst (.int 4)) .nil)))))
    (.cons (.ret (.tup (.cons (.var 4) (.cons (.call "_law_expression" (.cons (.var 0) (.cons (.var 1) (.cons (.bin .sub (.var 2) (.cst (.int 1))) .nil)))) .nil))))
    .nil)) .nil)
    (.cons (.asg 5 (.call "_law_expression" (.cons (.var 0) (.cons (.var 1) (.cons (.bin .sub (.var 2) (.cst (.int 1))) .nil)))))
    (.cons (.asg 6 (.call "_law_expression" (.cons (.var 0) (.cons (.var 1) (.cons (.bin .sub (.var 2) (.cst (.int 1))) .nil)))))
    (.cons (.ifs (.cmp .eq (.var 3) (.cst (.int 8))) (.cons (.ret (.tup (.cons (.cst (.str "choose")) (.cons (.call "_law_expression" (.cons (.var 0) (.cons (.var 1) (.cons (.bin .sub (.var 2) (.cst (.int 1))) .nil)))) (.cons (.var 5) (.cons (.var 6) .nil))))))
    .nil) .nil)
    (.cons (.asg 7 (.fz (.disp (.cons (.cst (.str "add")) (.cons (.cst (.str "subtract")) (.cons (.cst (.str "multiply")) (.cons (.cst (.str "divide")) (.cons (.cst (.str "remainder")) (.cons (.cst (.str "less")) (.cons (.cst (.str "equal")) (.cons (.cst (.str "and")) (.cons (.cst (.str "or")) (.cons (.cst (.str "starts")) .nil)))))))))))))
    (.cons (.ret (.tup (.cons (.ix (.var 7) (.call "_law_next" (.cons (.var 0) (.cons (.cst (.int 10)) .nil)))) (.cons (.var 5) (.cons (.var 6) .nil)))))
    .nil))))))))⟩
def d_law_due : MP.Df := ⟨"", "_law_due", 2, 5, false,
  (.cons (.asg 2 (.ix (.var 0) (.cst (.int 0))))
    (.cons (.ifs (.cmp .eq (.var 2) (.cst (.str "column"))) (.cons (.ret (.ix (.var 1) (.ix (.var 0) (.cst (.int 1)))))
    .nil) .nil)
    (.cons (.ifs (.cmp .eq (.var 2) (.cst (.str "constant"))) (.cons (.ret (.ix (.var 0) (.cst (.int 1))))
    .nil) .nil)
    (.cons (.ifs (.cmp .eq (.var 2) (.cst (.str "choose"))) (.cons (.ret (.call "_law_due" (.cons (.ite (.cmp .is_ (.call "_law_known" (.cons (.call "_law_due" (.cons (.ix (.var 0) (.cst (.int 1))) (.cons (.var 1) .nil))) .nil)) (.cst (.bl true))) (.ix (.var 0) (.cst (.int 2))) (.ix (.var 0) (.cst (.int 3)))) (.cons (.var 1) .nil))))
    .nil) .nil)
    (.cons (.asg 3 (.call "_law_due" (.cons (.ix (.var 0) (.cst (.int 1))) (.cons (.var 1) .nil))))
    (.cons (.ifs (.cmp .eq (.prim .len (.cons (.var 0) .nil)) (.cst (.int 2))) (.cons (.ret (.call "_law_single" (.cons (.var 2) (.cons (.var 3) .nil))))
    .nil) .nil)
    (.cons (.asg 4 (.call "_law_due" (.cons (.ix (.var 0) (.cst (.int 2))) (.cons (.var 1) .nil))))
    (.cons (.ifs (.cmp .in_ (.var 2) (.tup (.cons (.cst (.str "and")) (.cons (.cst (.str "or")) .nil)))) (.cons (.ret (.call "_law_logic" (.cons (.var 2) (.cons (.var 3) (.cons (.var 4) .nil)))))
    .nil) .nil)
    (.cons (.ifs (.cmp .eq (.var 2) (.cst (.str "starts"))) (.cons (.ifs (.or_ (.not_ (.e (.isin (.var 3) [.str]))) (.not_ (.e (.isin (.var 4) [.str])))) (.cons (.ret (.cst .non))
    .nil) .nil)
    (.cons (.ret (.prim .int (.cons (.cmp .eq (.slT (.var 3) (.prim .len (.cons (.var 4) .nil))) (.var 4)) .nil)))
    .nil)) .nil)
    (.cons (.ifs (.cmp .notin (.var 2) (.tup (.cons (.cst (.str "less")) (.cons (.cst (.str "equal")) .nil)))) (.cons (.ret (.call "_law_arithmetic" (.cons (.var 2) (.cons (.var 3) (.cons (.var 4) .nil)))))
    .nil) .nil)
    (.cons (.ifs (.or_ (.cmp .is_ (.var 3) (.cst .non)) (.cmp .is_ (.var 4) (.cst .non))) (.cons (.ret (.cst .non))
    .nil) .nil)
    (.cons (.ret (.prim .int (.cons (.ite (.cmp .eq (.var 2) (.cst (.str "less"))) (.cmp .lt (.call "_law_key" (.cons (.var 3) .nil)) (.call "_law_key" (.cons (.var 4) .nil))) (.cmp .eq (.call "_law_key" (.cons (.var 3) .nil)) (.call "_law_key" (.cons (.var 4) .nil)))) .nil)))
    .nil))))))))))))⟩
def d_evaluate : MP.Df := ⟨"", "evaluate", 2, 5, false,
  (.cons (.asg 2 (.ix (.var 0) (.cst (.int 0))))
    (.cons (.ifs (.cmp .eq (.var 2) (.cst (.str "column"))) (.cons (.ret (.ix (.var 1) (.ix (.var 0) (.cst (.int 1)))))
    .nil) .nil)
    (.cons (.ifs (.cmp .eq (.var 2) (.cst (.str "constant"))) (.cons (.ret (.ix (.var 0) (.cst (.int 1))))
    .nil) .nil)
    (.cons (.ifs (.cmp .eq (.var 2) (.cst (.str "choose"))) (.cons (.ifs (.e (.call "is_true" (.cons (.call "evaluate" (.cons (.ix (.var 0) (.cst (.int 1))) (.cons (.var 1) .nil))) .nil))) (.cons (.ret (.call "evaluate" (.cons (.ix (.var 0) (.cst (.int 2))) (.cons (.var 1) .nil))))
    .nil) .nil)
    (.cons (.ret (.call "evaluate" (.cons (.ix (.var 0) (.cst (.int 3))) (.cons (.var 1) .nil))))
    .nil)) .nil)
    (.cons (.asg 3 (.call "evaluate" (.cons (.ix (.var 0) (.cst (.int 1))) (.cons (.var 1) .nil))))
    (.cons (.ifs (.inG "ONE" (.var 2)) (.cons (.asg 4 (.gdix "ONE" (.var 2)))
    (.cons (.ret (.callv 4 (.cons (.var 3) .nil)))
    .nil)) .nil)
    (.cons (.ret (.call "apply_two" (.cons (.var 2) (.cons (.var 3) (.cons (.call "evaluate" (.cons (.ix (.var 0) (.cst (.int 2))) (.cons (.var 1) .nil))) .nil)))))
    .nil)))))))⟩
def d_law_known : MP.Df := ⟨"", "_law_known", 1, 1, false,
  (.cons (.ret (.ite (.or_ (.cmp .is_ (.var 0) (.cst .non)) (.e (.isin (.var 0) [.str]))) (.cst .non) (.cmp .ne (.var 0) (.cst (.int 0)))))
    .nil)⟩
def d_is_true : MP.Df := ⟨"", "is_true", 1, 1, false,
  (.cons (.ret (.andE (.isin (.var 0) [.int]) (.cmp .ne (.var 0) (.cst (.int 0)))))
    .nil)⟩
def d_law_single : MP.Df := ⟨"", "_law_single", 2, 2, false,
  (.cons (.ifs (.cmp .eq (.var 0) (.cst (.str "negate"))) (.cons (.ret (.call "_law_arithmetic" (.cons (.cst (.str "subtract")) (.cons (.cst (.int 0)) (.cons (.var 1) .nil)))))
    .nil) .nil)
    (.cons (.ifs (.cmp .eq (.var 0) (.cst (.str "missing"))) (.cons (.ret (.prim .int (.cons (.cmp .is_ (.var 1) (.cst .non)) .nil)))
    .nil) .nil)
    (.cons (.ifs (.cmp .eq (.var 0) (.cst (.str "length"))) (.cons (.ret (.ite (.e (.isin (.var 1) [.str])) (.prim .len (.cons (.var 1) .nil)) (.cst .non)))
    .nil) .nil)
    (.cons (.ret (.ite (.cmp .is_ (.call "_law_known" (.cons (.var 1) .nil)) (.cst .non)) (.cst .non) (.prim .int (.cons (.notE (.call "_law_known" (.cons (.var 1) .nil))) .nil))))
    .nil))))⟩
def d_law_logic : MP.Df := ⟨"", "_law_logic", 3, 6, false,
  (.cons (.asg 3 (.cmp .eq (.var 0) (.cst (.str "or"))))
    (.cons (.asg 4 (.call "_law_known" (.cons (.var 1) .nil)))
    (.cons (.asg 5 (.call "_law_known" (.cons (.var 2) .nil)))
    (.cons (.ifs (.or_ (.cmp .eq (.var 4) (.var 3)) (.cmp .eq (.var 5) (.var 3))) (.cons (.ret (.prim .int (.cons (.var 3) .nil)))
    .nil) .nil)
    (.cons (.ret (.ite (.or_ (.cmp .is_ (.var 4) (.cst .non)) (.cmp .is_ (.var 5) (.cst .non))) (.cst .non) (.prim .int (.cons (.notE (.var 3)) .nil))))
    .nil)))))⟩
def d_law_arithmetic : MP.Df := ⟨"", "_law_arithmetic", 3, 4, false,
  (.cons (.ifs (.or_ (.not_ (.e (.isin (.var 1) [.int]))) (.not_ (.e (.isin (.var 2) [.int])))) (.cons (.ret (.cst .non))
    .nil) .nil)
    (.cons (.ifs (.cmp .eq (.var 0) (.cst (.str "add"))) (.cons (.ret (.call "_law_bounded" (.cons (.bin .add (.var 1) (.var 2)) .nil)))
    .nil) .nil)
    (.cons (.ifs (.cmp .eq (.var 0) (.cst (.str "subtract"))) (.cons (.ret (.call "_law_bounded" (.cons (.bin .sub (.var 1) (.var 2)) .nil)))
    .nil) .nil)
    (.cons (.ifs (.cmp .eq (.var 0) (.cst (.str "multiply"))) (.cons (.ret (.call "_law_bounded" (.cons (.bin .mul (.var 1) (.var 2)) .nil)))
    .nil) .nil)
    (.cons (.ifs (.cmp .lt (.var 2) (.cst (.int 1))) (.cons (.ret (.cst .non))
    .nil) .nil)
    (.cons (.asg 3 (.bin .fdiv (.var 1) (.var 2)))
    (.cons (.ret (.ite (.cmp .eq (.var 0) (.cst (.str "divide"))) (.var 3) (.bin .sub (.var 1) (.bin .mul (.var 2) (.var 3)))))
    .nil)))))))⟩
def d_law_key : MP.Df := ⟨"", "_law_key", 1, 1, false,
  (.cons (.ifs (.cmp .is_ (.var 0) (.cst .non)) (.cons (.ret (.tup (.cons (.cst (.int 0)) (.cons (.cst (.int 0)) (.cons (.cst (.str "")) .nil)))))
    .nil) .nil)
    (.cons (.ifs (.e (.isin (.var 0) [.str])) (.cons (.ret (.tup (.cons (.cst (.int 2)) (.cons (.cst (.int 0)) (.cons (.var 0) .nil)))))
    .nil) .nil)
    (.cons (.ret (.tup (.cons (.cst (.int 1)) (.cons (.var 0) (.cons (.cst (.str "")) .nil)))))
    .nil)))⟩
def d_negate : MP.Df := ⟨"", "negate", 1, 1, false,
  (.cons (.ret (.ite (.e (.isin (.var 0) [.int])) (.call "bounded" (.cons (.neg (.var 0)) .nil)) (.cst .non)))
    .nil)⟩
def d_is_false : MP.Df := ⟨"", "is_false", 1, 2, false,
  (.cons (.asg 1 (.call "truth" (.cons (.var 0) .nil)))
    (.cons (.ret (.ite (.cmp .is_ (.var 1) (.cst .non)) (.cst .non) (.call "from_truth" (.cons (.notE (.var 1)) .nil))))
    .nil))⟩
def d_is_missing : MP.Df := ⟨"", "is_missing", 1, 1, false,
  (.cons (.ret (.ite (.cmp .is_ (.var 0) (.cst .non)) (.cst (.int 1)) (.cst (.int 0))))
    .nil)⟩
def d_length : MP.Df := ⟨"", "length", 1, 1, false,
  (.cons (.ret (.ite (.e (.isin (.var 0) [.str])) (.prim .len (.cons (.var 0) .nil)) (.cst .non)))
    .nil)⟩
def d_apply_two : MP.Df := ⟨"", "apply_two", 3, 4, false,
  (.cons (.ifs (.inG "NUMBERS" (.var 0)) (.cons (.ifs (.and_ (.e (.isin (.var 1) [.int])) (.e (.isin (.var 2) [.int]))) (.cons (.asg 3 (.gdix "NUMBERS" (.var 0)))
    (.cons (.ret (.callv 3 (.cons (.var 1) (.cons (.var 2) .nil))))
    .nil)) .nil)
    (.cons (.ret (.cst .non))
    .nil)) .nil)
    (.cons (.asg 3 (.gdix "TWO" (.var 0)))
    (.cons (.ret (.callv 3 (.cons (.var 1) (.cons (.var 2) .nil))))
    .nil)))⟩
def d_law_bounded : MP.Df := ⟨"", "_law_bounded", 1, 1, false,
  (.cons (.ret (.ite (.chain .le .le (.neg (.bin .pow (.cst (.int 10)) (.cst (.int 15)))) (.var 0) (.bin .pow (.cst (.int 10)) (.cst (.int 15)))) (.var 0) (.cst .non)))
    .nil)⟩
def d_bounded : MP.Df := ⟨"", "bounded", 1, 1, false,
  (.cons (.ifs (.chain .le .le (.neg (.gint "GREATEST" 1000000000000000)) (.var 0) (.gint "GREATEST" 1000000000000000)) (.cons (.ret (.var 0))
    .nil) .nil)
    (.cons (.ret (.cst .non))
    .nil))⟩
def d_truth : MP.Df := ⟨"", "truth", 1, 1, false,
  (.cons (.ifs (.e (.isin (.var 0) [.int])) (.cons (.ret (.cmp .ne (.var 0) (.cst (.int 0))))
    .nil) .nil)
    (.cons (.ret (.cst .non))
    .nil))⟩
def d_from_truth : MP.Df := ⟨"", "from_truth", 1, 1, false,
  (.cons (.ifs (.cmp .is_ (.var 0) (.cst .non)) (.cons (.ret (.cst .non))
    .nil) .nil)
    (.cons (.ret (.ite (.e (.var 0)) (.cst (.int 1)) (.cst (.int 0))))
    .nil))⟩
def d_add : MP.Df := ⟨"", "add", 2, 2, false,
  (.cons (.ret (.call "bounded" (.cons (.bin .add (.var 0) (.var 1)) .nil)))
    .nil)⟩
def d_subtract : MP.Df := ⟨"", "subtract", 2, 2, false,
  (.cons (.ret (.call "bounded" (.cons (.bin .sub (.var 0) (.var 1)) .nil)))
    .nil)⟩
def d_multiply : MP.Df := ⟨"", "multiply", 2, 2, false,
  (.cons (.ret (.call "bounded" (.cons (.bin .mul (.var 0) (.var 1)) .nil)))
    .nil)⟩
def d_divide : MP.Df := ⟨"", "divide", 2, 2, false,
  (.cons (.ret (.ite (.cmp .ge (.var 1) (.cst (.int 1))) (.call "bounded" (.cons (.bin .fdiv (.var 0) (.var 1)) .nil)) (.cst .non)))
    .nil)⟩
def d_remainder : MP.Df := ⟨"", "remainder", 2, 2, false,
  (.cons (.ret (.ite (.cmp .ge (.var 1) (.cst (.int 1))) (.call "bounded" (.cons (.bin .mod (.var 0) (.var 1)) .nil)) (.cst .non)))
    .nil)⟩
def d_is_less : MP.Df := ⟨"", "is_less", 2, 2, false,
  (.cons (.ifs (.or_ (.cmp .is_ (.var 0) (.cst .non)) (.cmp .is_ (.var 1) (.cst .non))) (.cons (.ret (.cst .non))
    .nil) .nil)
    (.cons (.ret (.ite (.cmp .lt (.call "value_key" (.cons (.var 0) .nil)) (.call "value_key" (.cons (.var 1) .nil))) (.cst (.int 1)) (.cst (.int 0))))
    .nil))⟩
def d_is_equal : MP.Df := ⟨"", "is_equal", 2, 2, false,
  (.cons (.ifs (.or_ (.cmp .is_ (.var 0) (.cst .non)) (.cmp .is_ (.var 1) (.cst .non))) (.cons (.ret (.cst .non))
    .nil) .nil)
    (.cons (.ret (.ite (.cmp .eq (.call "value_key" (.cons (.var 0) .nil)) (.call "value_key" (.cons (.var 1) .nil))) (.cst (.int 1)) (.cst (.int 0))))
    .nil))⟩
def d_conjunction : MP.Df := ⟨"", "conjunction", 2, 2, false,
  (.cons (.ret (.call "from_truth" (.cons (.call "both_true" (.cons (.call "truth" (.cons (.var 0) .nil)) (.cons (.call "truth" (.cons (.var 1) .nil)) .nil))) .nil)))
    .nil)⟩
def d_disjunction : MP.Df := ⟨"", "disjunction", 2, 2, false,
  (.cons (.ret (.call "from_truth" (.cons (.call "either_true" (.cons (.call "truth" (.cons (.var 0) .nil)) (.cons (.call "truth" (.cons (.var 1) .nil)) .nil))) .nil)))
    .nil)⟩
def d_starts : MP.Df := ⟨"", "starts", 2, 2, false,
  (.cons (.ifs (.and_ (.e (.isin (.var 0) [.str])) (.e (.isin (.var 1) [.str]))) (.cons (.ret (.ite (.e (.starts (.var 0) (.var 1))) (.cst (.int 1)) (.cst (.int 0))))
    .nil) .nil)
    (.cons (.ret (.cst .non))
    .nil))⟩
def d_value_key : MP.Df := ⟨"", "value_key", 1, 1, false,
  (.cons (.ifs (.cmp .is_ (.var 0) (.cst .non)) (.cons (.ret (.tup (.cons (.cst (.int 0)) (.cons (.cst (.int 0)) (.cons (.cst (.str "")) .nil)))))
    .nil) .nil)
    (.cons (.ifs (.e (.isin (.var 0) [.str])) (.cons (.ret (.tup (.cons (.cst (.int 2)) (.cons (.cst (.int 0)) (.cons (.var 0) .nil)))))
    .nil) .nil)
    (.cons (.ret (.tup (.cons (.cst (.int 1)) (.cons (.var 0) (.cons (.cst (.str "")) .nil)))))
    .nil)))⟩
def d_both_true : MP.Df := ⟨"", "both_true", 2, 2, false,
  (.cons (.ifs (.or_ (.cmp .is_ (.var 0) (.cst (.bl false))) (.cmp .is_ (.var 1) (.cst (.bl false)))) (.cons (.ret (.cst (.bl false)))
    .nil) .nil)
    (.cons (.ifs (.or_ (.cmp .is_ (.var 0) (.cst .non)) (.cmp .is_ (.var 1) (.cst .non))) (.cons (.ret (.cst .non))
    .nil) .nil)
    (.cons (.ret (.cst (.bl true)))
    .nil)))⟩
def d_either_true : MP.Df := ⟨"", "either_true", 2, 2, false,
  (.cons (.ifs (.or_ (.cmp .is_ (.var 0) (.cst (.bl true))) (.cmp .is_ (.var 1) (.cst (.bl true)))) (.cons (.ret (.cst (.bl true)))
    .nil) .nil)
    (.cons (.ifs (.or_ (.cmp .is_ (.var 0) (.cst .non)) (.cmp .is_ (.var 1) (.cst .non))) (.cons (.ret (.cst .non))
    .nil) .nil)
    (.cons (.ret (.cst (.bl false)))
    .nil)))⟩
end LW

set_option Elab.async false
set_option autoImplicit false
set_option linter.all false
set_option maxRecDepth 100000
set_option maxHeartbeats 4000000
/-! MX1: values and expressions: what the program and the law reckon. -/
namespace LW
open MP
structure PX (P : Pg) : Prop where
  law_expression : P.at_ "" "_law_expression" = some d_law_expression
  law_due : P.at_ "" "_law_due" = some d_law_due
  evaluate : P.at_ "" "evaluate" = some d_evaluate
  law_known : P.at_ "" "_law_known" = some d_law_known
  is_true : P.at_ "" "is_true" = some d_is_true
  law_single : P.at_ "" "_law_single" = some d_law_single
  law_logic : P.at_ "" "_law_logic" = some d_law_logic
  law_arithmetic : P.at_ "" "_law_arithmetic" = some d_law_arithmetic
  law_key : P.at_ "" "_law_key" = some d_law_key
  negate : P.at_ "" "negate" = some d_negate
  is_false : P.at_ "" "is_false" = some d_is_false
  is_missing : P.at_ "" "is_missing" = some d_is_missing
  length : P.at_ "" "length" = some d_length
  apply_two : P.at_ "" "apply_two" = some d_apply_two
  law_bounded : P.at_ "" "_law_bounded" = some d_law_bounded
  bounded : P.at_ "" "bounded" = some d_bounded
  truth : P.at_ "" "truth" = some d_truth
  from_truth : P.at_ "" "from_truth" = some d_from_truth
  add : P.at_ "" "add" = some d_add
  subtract : P.at_ "" "subtract" = some d_subtract
  multiply : P.at_ "" "multiply" = some d_multiply
  divide : P.at_ "" "divide" = some d_divide
  remainder : P.at_ "" "remainder" = some d_remainder
  is_less : P.at_ "" "is_less" = some d_is_less
  is_equal : P.at_ "" "is_equal" = some d_is_equal
  conjunction : P.at_ "" "conjunction" = some d_conjunction
  disjunction : P.at_ "" "disjunction" = some d_disjunction
  starts : P.at_ "" "starts" = some d_starts
  value_key : P.at_ "" "value_key" = some d_value_key
  both_true : P.at_ "" "both_true" = some d_both_true
  either_true : P.at_ "" "either_true" = some d_either_true
  gd1 : P.gd "ONE" = some [("negate", "negate"), ("not", "is_false"), ("missing", "is_missing"), ("length", "length")]
  gd2 : P.gd "NUMBERS" = some [("add", "add"), ("subtract", "subtract"), ("multiply", "multiply"), ("divide", "divide"), ("remainder", "remainder")]
  gd3 : P.gd "TWO" = some [("less", "is_less"), ("equal", "is_equal"), ("and", "conjunction"), ("or", "disjunction"), ("starts", "starts")]
inductive Vx where
  | n | i (x : Int) | s (x : String)
  deriving DecidableEq
def Vx.enc : Vx → D
  | .n => .non
  | .i x => .int x
  | .s x => .str x
def Vx.bd : Vx → Prop
  | .n => True
  | .i x => -1000000000000000 ≤ x ∧ x ≤ 1000000000000000
  | .s x => x.toList.length ≤ 100
def bnd (x : Int) : Vx := if -1000000000000000 ≤ x ∧ x ≤ 1000000000000000 then .i x else .n
theorem bnd_bd (x : Int) : (bnd x).bd := by
  unfold bnd
  split
  · assumption
  · trivial
def tru : Vx → Option Bool
  | .i x => some (x != 0)
  | _ => none
def encT3 : Option Bool → D
  | none => .non
  | some b => .bl b
def ofT : Option Bool → Vx
  | none => .n
  | some b => .i (if b then 1 else 0)
theorem ofT_bd (t : Option Bool) : (ofT t).bd := by
  cases t with
  | none => trivial
  | some b => cases b <;> (simp only [ofT, Vx.bd]; decide)
def and3 (a b : Option Bool) : Option Bool := if a = some false ∨ b = some false then some false else if a = none ∨ b = none then none else some true
def or3 (a b : Option Bool) : Option Bool := if a = some true ∨ b = some true then some true else if a = none ∨ b = none then none else some false
def keyX : Vx → D
  | .n => .tup [.int 0, .int 0, .str ""]
  | .i x => .tup [.int 1, .int x, .str ""]
  | .s x => .tup [.int 2, .int 0, .str x]
inductive O1 where | neg | not | mis | len
inductive O2 where | add | sub | mul | div | rem | lt | eq | and | or | sw
def O1.w : O1 → String
  | .neg => "negate"
  | .not => "not"
  | .mis => "missing"
  | .len => "length"
def O2.w : O2 → String
  | .add => "add"
  | .sub => "subtract"
  | .mul => "multiply"
  | .div => "divide"
  | .rem => "remainder"
  | .lt => "less"
  | .eq => "equal"
  | .and => "and"
  | .or => "or"
  | .sw => "starts"
def x1 : O1 → Vx → Vx
  | .neg, .i x => bnd (-x)
  | .neg, _ => .n
  | .not, v => ofT ((tru v).map (!·))
  | .mis, .n => .i 1
  | .mis, _ => .i 0
  | .len, .s x => .i x.toList.length
  | .len, _ => .n
def num2 : O2 → Int → Int → Vx
  | .add, a, b => bnd (a + b)
  | .sub, a, b => bnd (a - b)
  | .mul, a, b => bnd (a * b)
  | .div, a, b => if 1 ≤ b then bnd (a / b) else .n
  | .rem, a, b => if 1 ≤ b then bnd (a % b) else .n
  | _, _, _ => .n
def x2 : O2 → Vx → Vx → Vx
  | .and, a, b => ofT (and3 (tru a) (tru b))
  | .or, a, b => ofT (or3 (tru a) (tru b))
  | .sw, .s a, .s b => .i (if b.toList.isPrefixOf a.toList then 1 else 0)
  | .sw, _, _ => .n
  | .lt, .n, _ => .n
  | .lt, _, .n => .n
  | .lt, a, b => .i (if D.lt (keyX a) (keyX b) then 1 else 0)
  | .eq, .n, _ => .n
  | .eq, _, .n => .n
  | .eq, a, b => .i (if D.eq (keyX a) (keyX b) then 1 else 0)
  | o, .i a, .i b => num2 o a b
  | _, _, _ => .n
theorem if_bd (b : Bool) : (Vx.i (if b then 1 else 0)).bd := by cases b <;> (simp only [Vx.bd]; decide)
theorem x1_bd (o : O1) (v : Vx) (h : v.bd) : (x1 o v).bd := by
  cases o <;> cases v <;> simp only [x1] <;> first | exact bnd_bd _ | exact ofT_bd _ | trivial | (simp only [Vx.bd]; decide) | skip
  simp only [Vx.bd] at h ⊢
  omega
theorem num2_bd (o : O2) (a b : Int) : (num2 o a b).bd := by
  cases o <;> simp only [num2] <;> first | exact bnd_bd _ | trivial | (split <;> first | exact bnd_bd _ | trivial)
theorem x2_bd (o : O2) (a b : Vx) : (x2 o a b).bd := by
  cases o <;> cases a <;> cases b <;> simp only [x2] <;> first | exact num2_bd _ _ _ | exact ofT_bd _ | exact if_bd _ | trivial
inductive Xp where
  | con (v : Vx) | col (k : Nat) | one (o : O1) (e : Xp) | two (o : O2) (a b : Xp) | cho (c a b : Xp)
def Xp.enc : Xp → D
  | .con v => .tup [.str "constant", v.enc]
  | .col k => .tup [.str "column", .int (k : Nat)]
  | .one o e => .tup [.str o.w, e.enc]
  | .two o a b => .tup [.str o.w, a.enc, b.enc]
  | .cho c a b => .tup [.str "choose", c.enc, a.enc, b.enc]
def isT (v : Vx) : Bool := tru v == some true
def xev (row : List Vx) : Xp → Vx
  | .con v => v
  | .col k => row.getD k .n
  | .one o e => x1 o (xev row e)
  | .two o a b => x2 o (xev row a) (xev row b)
  | .cho c a b => if isT (xev row c) then xev row a else xev row b
/-- so high, over so many columns, with such values -/
def Xp.ok (w : Nat) : Nat → Xp → Prop
  | _, .con v => v.bd
  | _, .col k => k < w
  | 0, _ => False
  | n + 1, .one _ e => e.ok w n
  | n + 1, .two _ a b => a.ok w n ∧ b.ok w n
  | n + 1, .cho c a b => c.ok w n ∧ a.ok w n ∧ b.ok w n
def rowBd (row : List Vx) : Prop := ∀ v ∈ row, v.bd
theorem xev_bd {row : List Vx} (hr : rowBd row) : ∀ {n : Nat} {e : Xp}, e.ok row.length n → (xev row e).bd
  | n, .con v, h => by cases n <;> exact h
  | n, .col k, h => by
    have h : k < row.length := by cases n <;> exact h
    simp only [xev, List.getD_eq_getElem?_getD, List.getElem?_eq_getElem h]
    exact hr _ (List.getElem_mem h)
  | 0, .one _ _, h => h.elim
  | 0, .two _ _ _, h => h.elim
  | 0, .cho _ _ _, h => h.elim
  | n + 1, .one o e, h => x1_bd o _ (xev_bd (n := n) (e := e) hr h)
  | n + 1, .two o a b, h => x2_bd o _ _
  | n + 1, .cho c a b, h => by
    simp only [xev]
    split
    · exact xev_bd (n := n) (e := a) hr h.2.1
    · exact xev_bd (n := n) (e := b) hr h.2.2
theorem dec_ne (x : Int) : (!decide (x = 0)) = (x != 0) := by by_cases h : x = 0 <;> simp [h]
section
variable {P : Pg} {S : St} {Q : Vl → St → Prop} {n0 : Nat}
theorem isInt_v (v : Vx) : tysV S (.d v.enc) [.int] = some (match v with | .i _ => true | _ => false) := by cases v <;> rfl
theorem isStr_v (v : Vx) : tysV S (.d v.enc) [.str] = some (match v with | .s _ => true | _ => false) := by cases v <;> rfl
theorem isN_v (v : Vx) : cmpV .is_ S (.d v.enc) (.d .non) = some (match v with | .n => true | _ => false) := by cases v <;> rfl
theorem bounded_run (D : PX P) (x : Int) (K : Nat) (hK : 0 < K) (hQ : Q (.d (bnd x).enc) S) : wp (run P K n0 "" "bounded" [.d (.int x)] S) Q := by
  obtain ⟨K, rfl⟩ : ∃ k, K = k + 1 := ⟨K - 1, by omega⟩
  refine wp_run_false D.bounded (by decide) rfl rfl ?_
  unfold d_bounded startE
  rw [eSs_cons]
  unfold bnd at hQ
  by_cases h1 : -1000000000000000 ≤ x
  · by_cases h2 : x ≤ 1000000000000000
    · simp [h1, h2]
      (rw [eSs_cons]; simp)
      rw [if_pos ⟨h1, h2⟩] at hQ
      exact hQ
    · simp [h1, h2]
      (rw [eSs_cons]; simp)
      rw [if_neg (fun z => h2 z.2)] at hQ
      exact hQ
  · simp [h1]
    (rw [eSs_cons]; simp)
    rw [if_neg (fun z => h1 z.1)] at hQ
    exact hQ
theorem lbounded_run (D : PX P) (x : Int) (K : Nat) (hK : 0 < K) (hQ : Q (.d (bnd x).enc) S) : wp (run P K n0 "" "_law_bounded" [.d (.int x)] S) Q := by
  obtain ⟨K, rfl⟩ : ∃ k, K = k + 1 := ⟨K - 1, by omega⟩
  refine wp_run_false D.law_bounded (by decide) rfl rfl ?_
  unfold d_law_bounded startE
  have hp : binD .pow (.int 10) (.int 15) = some (.int 1000000000000000) := rfl
  rw [eSs_cons]
  unfold bnd at hQ
  by_cases h1 : -1000000000000000 ≤ x
  · by_cases h2 : x ≤ 1000000000000000
    · rw [if_pos ⟨h1, h2⟩] at hQ
      simp [h1, h2, hp]
      exact hQ
    · rw [if_neg (fun z => h2 z.2)] at hQ
      simp [h1, h2, hp]
      exact hQ
  · rw [if_neg (fun z => h1 z.1)] at hQ
    simp [h1, hp]
    exact hQ
theorem truth_run2 (D : PX P) (v : Vx) (K : Nat) (hK : 0 < K) (hQ : Q (.d (encT3 (tru v))) S) : wp (run P K n0 "" "truth" [.d v.enc] S) Q := by
  obtain ⟨K, rfl⟩ : ∃ k, K = k + 1 := ⟨K - 1, by omega⟩
  refine wp_run_false D.truth (by decide) rfl rfl ?_
  unfold d_truth startE
  rw [eSs_cons]
  cases v with
  | n => simp [isInt_v]; (rw [eSs_cons]; simp); exact hQ
  | s x => simp [isInt_v]; (rw [eSs_cons]; simp); exact hQ
  | i x =>
    simp [isInt_v]
    (rw [eSs_cons]; simp [Vx.enc])
    rw [dec_ne]
    exact hQ
theorem fromt_run (D : PX P) (t : Option Bool) (K : Nat) (hK : 0 < K) (hQ : Q (.d (ofT t).enc) S) : wp (run P K n0 "" "from_truth" [.d (encT3 t)] S) Q := by
  obtain ⟨K, rfl⟩ : ∃ k, K = k + 1 := ⟨K - 1, by omega⟩
  refine wp_run_false D.from_truth (by decide) rfl rfl ?_
  unfold d_from_truth startE
  rw [eSs_cons]
  cases t with
  | none => simp [encT3]; (rw [eSs_cons]; simp); exact hQ
  | some b => cases b <;> (simp [encT3]; (rw [eSs_cons]; simp); exact hQ)
theorem both_run (D : PX P) (a b : Option Bool) (K : Nat) (hK : 0 < K) (hQ : Q (.d (encT3 (and3 a b))) S) : wp (run P K n0 "" "both_true" [.d (encT3 a), .d (encT3 b)] S) Q := by
  obtain ⟨K, rfl⟩ : ∃ k, K = k + 1 := ⟨K - 1, by omega⟩
  refine wp_run_false D.both_true (by decide) rfl rfl ?_
  unfold d_both_true startE
  rcases a with _ | _ | _ <;> rcases b with _ | _ | _ <;> (rw [eSs_cons]; simp [encT3]; rw [eSs_cons]; simp; first | exact hQ | (rw [eSs_cons]; simp; exact hQ))
theorem either_run (D : PX P) (a b : Option Bool) (K : Nat) (hK : 0 < K) (hQ : Q (.d (encT3 (or3 a b))) S) : wp (run P K n0 "" "either_true" [.d (encT3 a), .d (encT3 b)] S) Q := by
  obtain ⟨K, rfl⟩ : ∃ k, K = k + 1 := ⟨K - 1, by omega⟩
  refine wp_run_false D.either_true (by decide) rfl rfl ?_
  unfold d_either_true startE
  rcases a with _ | _ | _ <;> rcases b with _ | _ | _ <;> (rw [eSs_cons]; simp [encT3]; rw [eSs_cons]; simp; first | exact hQ | (rw [eSs_cons]; simp; exact hQ))

theorem vkey_run (D : PX P) (v : Vx) (K : Nat) (hK : 0 < K) (hQ : Q (.d (keyX v)) S) : wp (run P K n0 "" "value_key" [.d v.enc] S) Q := by
  obtain ⟨K, rfl⟩ : ∃ k, K = k + 1 := ⟨K - 1, by omega⟩
  refine wp_run_false D.value_key (by decide) rfl rfl ?_
  unfold d_value_key startE
  rw [eSs_cons]
  cases v with
  | n => simp [isN_v]; (rw [eSs_cons]; simp [cap]); exact hQ
  | i x => simp [isN_v]; (rw [eSs_cons]; simp [isStr_v]); (rw [eSs_cons]; simp [cap, Vx.enc]); exact hQ
  | s x => simp [isN_v]; (rw [eSs_cons]; simp [isStr_v]); (rw [eSs_cons]; simp [cap, Vx.enc]); exact hQ
theorem lkey_run (D : PX P) (v : Vx) (K : Nat) (hK : 0 < K) (hQ : Q (.d (keyX v)) S) : wp (run P K n0 "" "_law_key" [.d v.enc] S) Q := by
  obtain ⟨K, rfl⟩ : ∃ k, K = k + 1 := ⟨K - 1, by omega⟩
  refine wp_run_false D.law_key (by decide) rfl rfl ?_
  unfold d_law_key startE
  rw [eSs_cons]
  cases v with
  | n => simp [isN_v]; (rw [eSs_cons]; simp [cap]); exact hQ
  | i x => simp [isN_v]; (rw [eSs_cons]; simp [isStr_v]); (rw [eSs_cons]; simp [cap, Vx.enc]); exact hQ
  | s x => simp [isN_v]; (rw [eSs_cons]; simp [isStr_v]); (rw [eSs_cons]; simp [cap, Vx.enc]); exact hQ
theorem key_alike (a b : Vx) : (keyX a).alike (keyX b) = true := by cases a <;> cases b <;> rfl
theorem key_dep (a : Vx) : (keyX a).dep ≤ 60 := by cases a <;> simp [keyX, D.dep, D.deps]
theorem key_lt (a b : Vx) : cmpV .lt S (.d (keyX a)) (.d (keyX b)) = some (D.lt (keyX a) (keyX b)) := cmp_ltD (by cases a <;> simp [keyX]) (key_alike a b) (key_dep a) (key_dep b)
theorem key_eq (a b : Vx) : cmpV .eq S (.d (keyX a)) (.d (keyX b)) = some (D.eq (keyX a) (keyX b)) := by
  simp only [cmpV, dat, eqD]
  rw [if_pos ⟨key_dep a, key_dep b⟩]
/-! ### the program's operations -/
def fnO1 : O1 → String
  | .neg => "negate"
  | .not => "is_false"
  | .mis => "is_missing"
  | .len => "length"
theorem one_run (D : PX P) (o : O1) (v : Vx) (hv : v.bd) (K : Nat) (hK : 2 < K) (hQ : Q (.d (x1 o v).enc) S) : wp (run P K n0 "" (fnO1 o) [.d v.enc] S) Q := by
  obtain ⟨K, rfl⟩ : ∃ k, K = k + 1 := ⟨K - 1, by omega⟩
  cases o with
  | neg =>
    refine wp_run_false D.negate (by decide) rfl rfl ?_
    unfold d_negate startE
    rw [eSs_cons]
    cases v with
    | n => simp [isInt_v]; exact hQ
    | s x => simp [isInt_v]; exact hQ
    | i x =>
      simp [isInt_v, Vx.enc]
      refine bounded_run D (-x) K (by omega) ?_
      simp only [x1] at hQ
      simp
      exact hQ
  | not =>
    refine wp_run_false D.is_false (by decide) rfl rfl ?_
    unfold d_is_false startE
    rw [eSs_cons]
    simp
    refine truth_run2 D v K (by omega) ?_
    rw [eSs_cons]
    simp only [x1] at hQ
    cases ht : tru v with
    | none =>
      rw [ht] at hQ
      simp [encT3]
      exact hQ
    | some b =>
      rw [ht] at hQ
      simp [encT3]
      exact fromt_run D (some !b) K (by omega) (by simpa using hQ)
  | mis =>
    refine wp_run_false D.is_missing (by decide) rfl rfl ?_
    unfold d_is_missing startE
    rw [eSs_cons]
    cases v <;> (simp [isN_v]; exact hQ)
  | len =>
    refine wp_run_false D.length (by decide) rfl rfl ?_
    unfold d_length startE
    rw [eSs_cons]
    cases v with
    | n => simp [isStr_v]; exact hQ
    | i x => simp [isStr_v]; exact hQ
    | s x =>
      have hl : x.toList.length ≤ cap := by
        have : x.toList.length ≤ 100 := hv
        show _ ≤ 1000000
        omega
      have : primV .len S [.d (Vx.s x).enc] = some (.int x.toList.length) := by simp only [primV, Vx.enc, if_pos hl]
      simp [isStr_v, this]
      simpa [x1, Vx.enc] using hQ
theorem bd_int {x : Int} (h : (Vx.i x).bd) : -18446744073709551616 < x ∧ x < 18446744073709551616 := by
  have h : -1000000000000000 ≤ x ∧ x ≤ 1000000000000000 := h
  omega
def fnO : O2 → String
  | .add => "add"
  | .sub => "subtract"
  | .mul => "multiply"
  | .div => "divide"
  | .rem => "remainder"
  | .lt => "is_less"
  | .eq => "is_equal"
  | .and => "conjunction"
  | .or => "disjunction"
  | .sw => "starts"
theorem num_run (D : PX P) (o : O2) (hn : o = .add ∨ o = .sub ∨ o = .mul ∨ o = .div ∨ o = .rem) (a b : Int) (ha : (Vx.i a).bd) (hb : (Vx.i b).bd) (K : Nat) (hK : 1 < K) (hQ : Q (.d (num2 o a b).enc) S) : wp (run P K n0 "" (fnO o) [.d (.int a), .d (.int b)] S) Q := by
  obtain ⟨K, rfl⟩ : ∃ k, K = k + 1 := ⟨K - 1, by omega⟩
  have ba := bd_int ha
  have bb := bd_int hb
  have bb2 : b ≤ 1000000000000000 := hb.2
  rcases hn with rfl | rfl | rfl | rfl | rfl
  · refine wp_run_false D.add (by decide) rfl rfl ?_
    unfold d_add startE
    (rw [eSs_cons]; simp)
    exact bounded_run D _ K (by omega) (by simpa [num2] using hQ)
  · refine wp_run_false D.subtract (by decide) rfl rfl ?_
    unfold d_subtract startE
    (rw [eSs_cons]; simp)
    exact bounded_run D _ K (by omega) (by simpa [num2] using hQ)
  · refine wp_run_false D.multiply (by decide) rfl rfl ?_
    unfold d_multiply startE
    (rw [eSs_cons]; simp [binD_mul1 ba.1 ba.2])
    exact bounded_run D _ K (by omega) (by simpa [num2] using hQ)
  · refine wp_run_false D.divide (by decide) rfl rfl ?_
    unfold d_divide startE
    rw [eSs_cons]
    simp only [num2] at hQ
    by_cases h1 : 1 ≤ b
    · rw [if_pos h1] at hQ
      have := binD_fdiv (a := a) (b := b) (by omega) (by omega)
      simp [h1, this]
      exact bounded_run D _ K (by omega) (by simpa [num2] using hQ)
    · rw [if_neg h1] at hQ
      simp [h1]
      exact hQ
  · refine wp_run_false D.remainder (by decide) rfl rfl ?_
    unfold d_remainder startE
    rw [eSs_cons]
    simp only [num2] at hQ
    by_cases h1 : 1 ≤ b
    · rw [if_pos h1] at hQ
      have := binD_mod (a := a) (b := b) (by omega)
      simp [h1, this]
      exact bounded_run D _ K (by omega) (by simpa [num2] using hQ)
    · rw [if_neg h1] at hQ
      simp [h1]
      exact hQ
theorem x2_num (o : O2) (hn : o = .add ∨ o = .sub ∨ o = .mul ∨ o = .div ∨ o = .rem) (a b : Vx) : x2 o a b = match a, b with
    | .i a, .i b => num2 o a b
    | _, _ => .n := by
  rcases hn with rfl | rfl | rfl | rfl | rfl <;> cases a <;> cases b <;> rfl
theorem cmp2_run (D : PX P) (o : O2) (hn : o = .lt ∨ o = .eq ∨ o = .and ∨ o = .or ∨ o = .sw) (a b : Vx) (ha : a.bd) (hb : b.bd) (K : Nat) (hK : 2 < K) (hQ : Q (.d (x2 o a b).enc) S) : wp (run P K n0 "" (fnO o) [.d a.enc, .d b.enc] S) Q := by
  obtain ⟨K, rfl⟩ : ∃ k, K = k + 1 := ⟨K - 1, by omega⟩
  rcases hn with rfl | rfl | rfl | rfl | rfl
  · refine wp_run_false D.is_less (by decide) rfl rfl ?_
    unfold d_is_less startE
    rw [eSs_cons]
    have go : a ≠ .n → b ≠ .n → wq (evSs (cx P K S.length) (.cons (.ret (.ite (.cmp .lt (.call "value_key" (.cons (.var 0) .nil)) (.call "value_key" (.cons (.var 1) .nil))) (.cst (.int 1)) (.cst (.int 0)))) .nil) [some (.d a.enc), some (.d b.enc)] S) fun f _ S' => match f with
        | .rt v => notP v = true ∧ Q v (S'.take S.length)
        | .nx => Q (.d .non) (S'.take S.length)
        | _ => False := fun na nb => by
      have e : x2 .lt a b = .i (if MP.D.lt (keyX a) (keyX b) then 1 else 0) := by cases a <;> cases b <;> first | rfl | exact absurd rfl na | exact absurd rfl nb
      rw [e] at hQ
      rw [eSs_cons]
      simp
      refine vkey_run D a K (by omega) ?_
      refine vkey_run D b K (by omega) ?_
      rw [key_lt]
      cases hl : MP.D.lt (keyX a) (keyX b) <;> (rw [hl] at hQ; simp; exact hQ)
    cases a with
    | n => simp [isN_v]; (rw [eSs_cons]; simp); exact hQ
    | i x =>
      cases b with
      | n => simp [isN_v]; (rw [eSs_cons]; simp); exact hQ
      | i y => simp [isN_v]; exact go (by simp) (by simp)
      | s y => simp [isN_v]; exact go (by simp) (by simp)
    | s x =>
      cases b with
      | n => simp [isN_v]; (rw [eSs_cons]; simp); exact hQ
      | i y => simp [isN_v]; exact go (by simp) (by simp)
      | s y => simp [isN_v]; exact go (by simp) (by simp)
  · refine wp_run_false D.is_equal (by decide) rfl rfl ?_
    unfold d_is_equal startE
    rw [eSs_cons]
    have go : a ≠ .n → b ≠ .n → wq (evSs (cx P K S.length) (.cons (.ret (.ite (.cmp .eq (.call "value_key" (.cons (.var 0) .nil)) (.call "value_key" (.cons (.var 1) .nil))) (.cst (.int 1)) (.cst (.int 0)))) .nil) [some (.d a.enc), some (.d b.enc)] S) fun f _ S' => match f with
        | .rt v => notP v = true ∧ Q v (S'.take S.length)
        | .nx => Q (.d .non) (S'.take S.length)
        | _ => False := fun na nb => by
      have e : x2 .eq a b = .i (if MP.D.eq (keyX a) (keyX b) then 1 else 0) := by cases a <;> cases b <;> first | rfl | exact absurd rfl na | exact absurd rfl nb
      rw [e] at hQ
      rw [eSs_cons]
      simp
      refine vkey_run D a K (by omega) ?_
      refine vkey_run D b K (by omega) ?_
      rw [key_eq]
      cases hl : MP.D.eq (keyX a) (keyX b) <;> (rw [hl] at hQ; simp; exact hQ)
    cases a with
    | n => simp [isN_v]; (rw [eSs_cons]; simp); exact hQ
    | i x =>
      cases b with
      | n => simp [isN_v]; (rw [eSs_cons]; simp); exact hQ
      | i y => simp [isN_v]; exact go (by simp) (by simp)
      | s y => simp [isN_v]; exact go (by simp) (by simp)
    | s x =>
      cases b with
      | n => simp [isN_v]; (rw [eSs_cons]; simp); exact hQ
      | i y => simp [isN_v]; exact go (by simp) (by simp)
      | s y => simp [isN_v]; exact go (by simp) (by simp)
  · refine wp_run_false D.conjunction (by decide) rfl rfl ?_
    unfold d_conjunction startE
    (rw [eSs_cons]; simp)
    refine truth_run2 D a K (by omega) ?_
    refine truth_run2 D b K (by omega) ?_
    refine both_run D (tru a) (tru b) K (by omega) ?_
    exact fromt_run D _ K (by omega) (by simpa [x2] using hQ)
  · refine wp_run_false D.disjunction (by decide) rfl rfl ?_
    unfold d_disjunction startE
    (rw [eSs_cons]; simp)
    refine truth_run2 D a K (by omega) ?_
    refine truth_run2 D b K (by omega) ?_
    refine either_run D (tru a) (tru b) K (by omega) ?_
    exact fromt_run D _ K (by omega) (by simpa [x2] using hQ)
  · refine wp_run_false D.starts (by decide) rfl rfl ?_
    unfold d_starts startE
    rw [eSs_cons]
    cases a with
    | n => simp [isStr_v]; (rw [eSs_cons]; simp); exact hQ
    | i x => simp [isStr_v]; (rw [eSs_cons]; simp); exact hQ
    | s x =>
      cases b with
      | n => simp [isStr_v]; (rw [eSs_cons]; simp); exact hQ
      | i y => simp [isStr_v]; (rw [eSs_cons]; simp); exact hQ
      | s y =>
        simp only [x2] at hQ
        simp [isStr_v]
        rw [eSs_cons]
        cases hp : y.toList.isPrefixOf x.toList <;> (rw [hp] at hQ; simp [Vx.enc, isStr, startsV, startsD, hp]; exact hQ)
end
end LW

set_option Elab.async false
set_option autoImplicit false
set_option linter.all false
set_option maxRecDepth 100000
set_option maxHeartbeats 4000000
/-! MX2: what an expression's evaluation gives. -/
namespace LW
open MP
def rowE (row : List Vx) : D := .tup (row.map Vx.enc)
theorem ix_row {S : St} {row : List Vx} {k : Nat} (h : k < row.length) : ixV S (.d (rowE row)) (.d (.int (k : Nat))) = some (.d (row.getD k .n).enc) := by
  unfold rowE
  rw [ix_t, atI_lt (by omega) (by simp; omega), Int.toNat_natCast]
  simp [List.getElem?_eq_getElem h, List.getD_eq_getElem?_getD]
section
variable {P : Pg} {S : St} {Q : Vl → St → Prop} {n0 : Nat}
theorem istrue_run (X : PX P) (v : Vx) (K : Nat) (hK : 0 < K) (hQ : Q (.d (.bl (isT v))) S) : wp (run P K n0 "" "is_true" [.d v.enc] S) Q := by
  obtain ⟨K, rfl⟩ : ∃ k, K = k + 1 := ⟨K - 1, by omega⟩
  refine wp_run_false X.is_true (by decide) rfl rfl ?_
  unfold d_is_true startE
  rw [eSs_cons]
  cases v with
  | n => simp [isInt_v]; exact hQ
  | s x => simp [isInt_v]; exact hQ
  | i x =>
    simp [isInt_v]
    have : isT (.i x) = !decide (x = 0) := by
      unfold isT tru
      by_cases h : x = 0 <;> simp [h]
    simp [Vx.enc]
    rw [← this]
    exact hQ
theorem two_run (X : PX P) (o : O2) (a b : Vx) (ha : a.bd) (hb : b.bd) (K : Nat) (hK : 4 < K) (hQ : Q (.d (x2 o a b).enc) S) : wp (run P K n0 "" "apply_two" [.d (.str o.w), .d a.enc, .d b.enc] S) Q := by
  obtain ⟨K, rfl⟩ : ∃ k, K = k + 1 := ⟨K - 1, by omega⟩
  refine wp_run_false X.apply_two (by decide) rfl rfl ?_
  unfold d_apply_two startE
  by_cases ho : o = .add ∨ o = .sub ∨ o = .mul ∨ o = .div ∨ o = .rem
  · have h1 : inGV (cx P K S.length) "NUMBERS" (.d (.str o.w)) = some true := by
      rcases ho with rfl | rfl | rfl | rfl | rfl <;> (simp only [inGV, cx, X.gd2]; rfl)
    have h2 : gdixV (cx P K S.length) "NUMBERS" (.d (.str o.w)) = some (.f (fnO o)) := by
      rcases ho with rfl | rfl | rfl | rfl | rfl <;> (simp only [gdixV, cx, X.gd2]; rfl)
    have h3 : (P.at_ "" (fnO o)).isSome = true := by
      rcases ho with rfl | rfl | rfl | rfl | rfl <;> simp [fnO, X.add, X.subtract, X.multiply, X.divide, X.remainder]
    have e := x2_num o ho
    rw [eSs_cons]
    cases a with
    | n => simp [h1, isInt_v]; rw [eSs_cons]; simp [isInt_v]; rw [eSs_cons]; simp; rw [e] at hQ; exact hQ
    | s x => simp [h1, isInt_v]; rw [eSs_cons]; simp [isInt_v]; rw [eSs_cons]; simp; rw [e] at hQ; exact hQ
    | i x =>
      cases b with
      | n => simp [h1, isInt_v]; rw [eSs_cons]; simp [isInt_v]; rw [eSs_cons]; simp; rw [e] at hQ; exact hQ
      | s y => simp [h1, isInt_v]; rw [eSs_cons]; simp [isInt_v]; rw [eSs_cons]; simp; rw [e] at hQ; exact hQ
      | i y =>
        simp [h1]
        rw [eSs_cons]
        simp [isInt_v]
        rw [eSs_cons]
        simp [h2]
        rw [eSs_cons]
        simp
        refine ⟨h3, ?_⟩
        refine num_run X o ho x y ha hb K (by omega) ?_
        rw [e] at hQ
        simpa using hQ
  · have ho2 : o = .lt ∨ o = .eq ∨ o = .and ∨ o = .or ∨ o = .sw := by
      cases o <;> simp at ho ⊢
    have h1 : inGV (cx P K S.length) "NUMBERS" (.d (.str o.w)) = some false := by
      rcases ho2 with rfl | rfl | rfl | rfl | rfl <;> (simp only [inGV, cx, X.gd2]; rfl)
    have h2 : gdixV (cx P K S.length) "TWO" (.d (.str o.w)) = some (.f (fnO o)) := by
      rcases ho2 with rfl | rfl | rfl | rfl | rfl <;> (simp only [gdixV, cx, X.gd3]; rfl)
    have h3 : (P.at_ "" (fnO o)).isSome = true := by
      rcases ho2 with rfl | rfl | rfl | rfl | rfl <;> simp [fnO, X.is_less, X.is_equal, X.conjunction, X.disjunction, X.starts]
    rw [eSs_cons]
    simp [h1]
    rw [eSs_cons]
    simp [h2]
    rw [eSs_cons]
    simp
    refine ⟨h3, ?_⟩
    refine cmp2_run X o ho2 a b ha hb K (by omega) ?_
    simpa using hQ
theorem evaluate_run (X : PX P) {row : List Vx} (hr : rowBd row) : ∀ (n : Nat) (e : Xp) (he : e.ok row.length n) (K n0 : Nat) (hK : n + 6 ≤ K) {S : St} {Q : Vl → St → Prop} (hQ : Q (.d (xev row e).enc) S), wp (run P K n0 "" "evaluate" [.d e.enc, .d (rowE row)] S) Q := by
  intro n
  induction n with
  | zero =>
    intro e he K n0 hK S Q hQ
    obtain ⟨K, rfl⟩ : ∃ k, K = k + 1 := ⟨K - 1, by omega⟩
    refine wp_run_false X.evaluate (by decide) rfl rfl ?_
    unfold d_evaluate startE
    cases e with
    | con v => (rw [eSs_cons]; simp [Xp.enc]); (rw [eSs_cons]; simp); (rw [eSs_cons]; simp); (rw [eSs_cons]; simp [Xp.enc]); exact hQ
    | col k => (rw [eSs_cons]; simp [Xp.enc]); (rw [eSs_cons]; simp [Xp.enc]); (rw [eSs_cons]; simp [ix_row (show k < row.length from he)]); exact hQ
    | one o e => exact he.elim
    | two o a b => exact he.elim
    | cho c a b => exact he.elim
  | succ n ih =>
    intro e he K n0 hK S Q hQ
    obtain ⟨K, rfl⟩ : ∃ k, K = k + 1 := ⟨K - 1, by omega⟩
    refine wp_run_false X.evaluate (by decide) rfl rfl ?_
    unfold d_evaluate startE
    cases e with
    | con v => (rw [eSs_cons]; simp [Xp.enc]); (rw [eSs_cons]; simp); (rw [eSs_cons]; simp); (rw [eSs_cons]; simp [Xp.enc]); exact hQ
    | col k => (rw [eSs_cons]; simp [Xp.enc]); (rw [eSs_cons]; simp [Xp.enc]); (rw [eSs_cons]; simp [ix_row (show k < row.length from he)]); exact hQ
    | one o e =>
      have h1 : inGV (cx P K S.length) "ONE" (.d (.str o.w)) = some true := by
        cases o <;> (simp only [inGV, cx, X.gd1]; rfl)
      have h2 : gdixV (cx P K S.length) "ONE" (.d (.str o.w)) = some (.f (fnO1 o)) := by
        cases o <;> (simp only [gdixV, cx, X.gd1]; rfl)
      have h3 : (P.at_ "" (fnO1 o)).isSome = true := by
        cases o <;> simp [fnO1, X.negate, X.is_false, X.is_missing, X.length]
      have w1 : (o.w = "column") = False := by cases o <;> simp [O1.w]
      have w2 : (o.w = "constant") = False := by cases o <;> simp [O1.w]
      have w3 : (o.w = "choose") = False := by cases o <;> simp [O1.w]
      (rw [eSs_cons]; simp [Xp.enc])
      (rw [eSs_cons]; simp [w1])
      (rw [eSs_cons]; simp [w2])
      (rw [eSs_cons]; simp [w3])
      (rw [eSs_cons]; simp)
      refine ih e he K _ (by omega) ?_
      (rw [eSs_cons]; simp [h1])
      (rw [eSs_cons]; simp [h2])
      (rw [eSs_cons]; simp)
      refine ⟨h3, ?_⟩
      refine one_run X o _ (xev_bd hr (n := n) he) K (by omega) ?_
      simpa [xev] using hQ
    | two o a b =>
      have h1 : inGV (cx P K S.length) "ONE" (.d (.str o.w)) = some false := by
        cases o <;> (simp only [inGV, cx, X.gd1]; rfl)
      have w1 : (o.w = "column") = False := by cases o <;> simp [O2.w]
      have w2 : (o.w = "constant") = False := by cases o <;> simp [O2.w]
      have w3 : (o.w = "choose") = False := by cases o <;> simp [O2.w]
      (rw [eSs_cons]; simp [Xp.enc])
      (rw [eSs_cons]; simp [w1])
      (rw [eSs_cons]; simp [w2])
      (rw [eSs_cons]; simp [w3])
      (rw [eSs_cons]; simp)
      refine ih a he.1 K _ (by omega) ?_
      (rw [eSs_cons]; simp [h1])
      (rw [eSs_cons]; simp)
      refine ih b he.2 K _ (by omega) ?_
      refine two_run X o _ _ (xev_bd hr (n := n) he.1) (xev_bd hr (n := n) he.2) K (by omega) ?_
      simpa [xev] using hQ
    | cho c a b =>
      (rw [eSs_cons]; simp [Xp.enc])
      (rw [eSs_cons]; simp)
      (rw [eSs_cons]; simp)
      (rw [eSs_cons]; simp)
      (rw [eSs_cons]; simp)
      refine ih c he.1 K _ (by omega) ?_
      refine istrue_run X _ K (by omega) ?_
      simp only [xev] at hQ
      cases ht : isT (xev row c) with
      | true =>
        rw [ht] at hQ
        simp
        (rw [eSs_cons]; simp)
        refine ih a he.2.1 K _ (by omega) ?_
        simpa using hQ
      | false =>
        rw [ht] at hQ
        simp
        (rw [eSs_cons]; simp)
        refine ih b he.2.2 K _ (by omega) ?_
        simpa using hQ
/-! ### the law's own reckoning -/
theorem in_ao (x : String) : cmpV .in_ S (.d (.str x)) (.d (.tup [.str "and", .str "or"])) = some (decide ("and" = x) || decide ("or" = x)) := by
  simp [cmpV, inV, MP.D.eq, MP.D.flat]
  rfl
theorem in_le (x : String) : cmpV .notin S (.d (.str x)) (.d (.tup [.str "less", .str "equal"])) = some (!(decide ("less" = x) || decide ("equal" = x))) := by
  simp [cmpV, inV, MP.D.eq, MP.D.flat]
  rfl
theorem eq_nb (b : Bool) : cmpV .eq S (.d .non) (.d (.bl b)) = some false := rfl
theorem known_run (X : PX P) (v : Vx) (K : Nat) (hK : 0 < K) (hQ : Q (.d (encT3 (tru v))) S) : wp (run P K n0 "" "_law_known" [.d v.enc] S) Q := by
  obtain ⟨K, rfl⟩ : ∃ k, K = k + 1 := ⟨K - 1, by omega⟩
  refine wp_run_false X.law_known (by decide) rfl rfl ?_
  unfold d_law_known startE
  rw [eSs_cons]
  cases v with
  | n => simp [isN_v]; exact hQ
  | s x => simp [isN_v, isStr_v]; exact hQ
  | i x =>
    simp [isN_v, isStr_v]
    simp [Vx.enc]
    rw [dec_ne]
    exact hQ
theorem logic_run (X : PX P) (c : Bool) (a b : Vx) (K : Nat) (hK : 1 < K) (hQ : Q (.d (ofT (if c then or3 (tru a) (tru b) else and3 (tru a) (tru b))).enc) S) : wp (run P K n0 "" "_law_logic" [.d (.str (if c then "or" else "and")), .d a.enc, .d b.enc] S) Q := by
  obtain ⟨K, rfl⟩ : ∃ k, K = k + 1 := ⟨K - 1, by omega⟩
  refine wp_run_false X.law_logic (by decide) rfl rfl ?_
  unfold d_law_logic startE
  cases c with
  | true =>
    (rw [eSs_cons]; simp)
    (rw [eSs_cons]; simp)
    refine known_run X a K (by omega) ?_
    (rw [eSs_cons]; simp)
    refine known_run X b K (by omega) ?_
    rw [if_pos rfl] at hQ
    generalize tru a = ta at hQ ⊢
    generalize tru b = tb at hQ ⊢
    rcases ta with _ | _ | _ <;> rcases tb with _ | _ | _ <;> (rw [eSs_cons]; simp [encT3, eq_nb]; rw [eSs_cons]; simp; exact hQ)
  | false =>
    (rw [eSs_cons]; simp)
    (rw [eSs_cons]; simp)
    refine known_run X a K (by omega) ?_
    (rw [eSs_cons]; simp)
    refine known_run X b K (by omega) ?_
    rw [if_neg Bool.false_ne_true] at hQ
    generalize tru a = ta at hQ ⊢
    generalize tru b = tb at hQ ⊢
    rcases ta with _ | _ | _ <;> rcases tb with _ | _ | _ <;> (rw [eSs_cons]; simp [encT3, eq_nb]; rw [eSs_cons]; simp; exact hQ)
theorem arith_run (X : PX P) (o : O2) (hn : o = .add ∨ o = .sub ∨ o = .mul ∨ o = .div ∨ o = .rem) (a b : Vx) (ha : a.bd) (hb : b.bd) (K : Nat) (hK : 1 < K) (hQ : Q (.d (x2 o a b).enc) S) : wp (run P K n0 "" "_law_arithmetic" [.d (.str o.w), .d a.enc, .d b.enc] S) Q := by
  obtain ⟨K, rfl⟩ : ∃ k, K = k + 1 := ⟨K - 1, by omega⟩
  refine wp_run_false X.law_arithmetic (by decide) rfl rfl ?_
  unfold d_law_arithmetic startE
  rw [x2_num o hn] at hQ
  rw [eSs_cons]
  cases a with
  | n => simp [isInt_v]; (rw [eSs_cons]; simp); exact hQ
  | s x => simp [isInt_v]; (rw [eSs_cons]; simp); exact hQ
  | i x =>
    cases b with
    | n => simp [isInt_v]; (rw [eSs_cons]; simp); exact hQ
    | s y => simp [isInt_v]; (rw [eSs_cons]; simp); exact hQ
    | i y =>
      have bx := bd_int ha
      have by' := bd_int hb
      have h1x : -1000000000000000 ≤ x ∧ x ≤ 1000000000000000 := ha
      have h1y : -1000000000000000 ≤ y ∧ y ≤ 1000000000000000 := hb
      have quo : 1 ≤ y → bnd (x / y) = .i (x / y) := fun hy => by
        unfold bnd
        have hbound : -1000000000000000 ≤ x / y ∧ x / y ≤ 1000000000000000 := by
          constructor
          · rw [Int.le_ediv_iff_mul_le (by omega)]
            have : -1000000000000000 * y ≤ -1000000000000000 * 1 := by omega
            omega
          · have h0 : x / y < 1000000000000001 := by
              rw [Int.ediv_lt_iff_lt_mul (by omega)]
              omega
            omega
        rw [if_pos hbound]
      have rem : 1 ≤ y → bnd (x % y) = .i (x % y) := fun hy => by
        unfold bnd
        have h1 := Int.emod_nonneg x (show y ≠ 0 by omega)
        have h2 := Int.emod_lt_of_pos x (show 0 < y by omega)
        rw [if_pos ⟨by omega, by omega⟩]
      simp [isInt_v]
      rcases hn with rfl | rfl | rfl | rfl | rfl
      · (rw [eSs_cons]; simp [O2.w])
        (rw [eSs_cons]; simp [Vx.enc])
        exact lbounded_run X _ K (by omega) (by simpa [num2] using hQ)
      · (rw [eSs_cons]; simp [O2.w])
        (rw [eSs_cons]; simp)
        (rw [eSs_cons]; simp [Vx.enc])
        exact lbounded_run X _ K (by omega) (by simpa [num2] using hQ)
      · (rw [eSs_cons]; simp [O2.w])
        (rw [eSs_cons]; simp)
        (rw [eSs_cons]; simp)
        (rw [eSs_cons]; simp [Vx.enc, binD_mul1 bx.1 bx.2])
        exact lbounded_run X _ K (by omega) (by simpa [num2] using hQ)
      · (rw [eSs_cons]; simp [O2.w])
        (rw [eSs_cons]; simp)
        (rw [eSs_cons]; simp)
        rw [eSs_cons]
        simp only [num2] at hQ
        by_cases h1 : 1 ≤ y
        · have hd := binD_fdiv (a := x) (b := y) (by omega) (by omega)
          rw [if_pos h1, quo h1] at hQ
          simp [Vx.enc, show ¬ y < 1 by omega]
          (rw [eSs_cons]; simp [hd])
          (rw [eSs_cons]; simp)
          exact hQ
        · rw [if_neg h1] at hQ
          simp [Vx.enc, show y < 1 by omega]
          (rw [eSs_cons]; simp)
          exact hQ
      · (rw [eSs_cons]; simp [O2.w])
        (rw [eSs_cons]; simp)
        (rw [eSs_cons]; simp)
        rw [eSs_cons]
        simp only [num2] at hQ
        by_cases h1 : 1 ≤ y
        · have hd := binD_fdiv (a := x) (b := y) (by omega) (by omega)
          rw [if_pos h1, rem h1] at hQ
          simp [Vx.enc, show ¬ y < 1 by omega]
          (rw [eSs_cons]; simp [hd])
          (rw [eSs_cons]; simp [binD_mul1 by'.1 by'.2])
          have : x - y * (x / y) = x % y := (Int.emod_def x y).symm
          rw [this]
          exact hQ
        · rw [if_neg h1] at hQ
          simp [Vx.enc, show y < 1 by omega]
          (rw [eSs_cons]; simp)
          exact hQ
theorem single_run (X : PX P) (o : O1) (v : Vx) (hv : v.bd) (K : Nat) (hK : 2 < K) (hQ : Q (.d (x1 o v).enc) S) : wp (run P K n0 "" "_law_single" [.d (.str o.w), .d v.enc] S) Q := by
  obtain ⟨K, rfl⟩ : ∃ k, K = k + 1 := ⟨K - 1, by omega⟩
  refine wp_run_false X.law_single (by decide) rfl rfl ?_
  unfold d_law_single startE
  cases o with
  | neg =>
    (rw [eSs_cons]; simp [O1.w])
    (rw [eSs_cons]; simp)
    refine arith_run X .sub (by simp) (.i 0) v (by simp only [Vx.bd]; decide) hv K (by omega) ?_
    simp
    have : x2 .sub (.i 0) v = x1 .neg v := by
      cases v <;> simp [x2, num2, x1]
    rw [this]
    exact hQ
  | mis =>
    (rw [eSs_cons]; simp [O1.w])
    (rw [eSs_cons]; simp)
    rw [eSs_cons]
    cases v <;> (simp [isN_v]; exact hQ)
  | len =>
    (rw [eSs_cons]; simp [O1.w])
    (rw [eSs_cons]; simp)
    (rw [eSs_cons]; simp)
    rw [eSs_cons]
    cases v with
    | n => simp [isStr_v]; exact hQ
    | i x => simp [isStr_v]; exact hQ
    | s x =>
      have hl : x.toList.length ≤ cap := by
        have : x.toList.length ≤ 100 := hv
        show _ ≤ 1000000
        omega
      have : primV .len S [.d (Vx.s x).enc] = some (.int x.toList.length) := by simp only [primV, Vx.enc, if_pos hl]
      simp [isStr_v, this]
      simpa [x1, Vx.enc] using hQ
  | not =>
    (rw [eSs_cons]; simp [O1.w])
    (rw [eSs_cons]; simp)
    (rw [eSs_cons]; simp)
    (rw [eSs_cons]; simp)
    refine known_run X v K (by omega) ?_
    simp only [x1] at hQ
    rcases ht : tru v with _ | b
    · rw [ht] at hQ
      simp [encT3]
      exact hQ
    · rw [ht] at hQ
      simp [encT3]
      refine known_run X v K (by omega) ?_
      rw [ht]
      cases b <;> (simp [encT3]; exact hQ)
theorem due_run (X : PX P) {row : List Vx} (hr : rowBd row) : ∀ (n : Nat) (e : Xp) (he : e.ok row.length n) (K n0 : Nat) (hK : n + 6 ≤ K) {S : St} {Q : Vl → St → Prop} (hQ : Q (.d (xev row e).enc) S), wp (run P K n0 "" "_law_due" [.d e.enc, .d (rowE row)] S) Q := by
  intro n
  induction n with
  | zero =>
    intro e he K n0 hK S Q hQ
    obtain ⟨K, rfl⟩ : ∃ k, K = k + 1 := ⟨K - 1, by omega⟩
    refine wp_run_false X.law_due (by decide) rfl rfl ?_
    unfold d_law_due startE
    cases e with
    | con v => (rw [eSs_cons]; simp [Xp.enc]); (rw [eSs_cons]; simp); (rw [eSs_cons]; simp); (rw [eSs_cons]; simp [Xp.enc]); exact hQ
    | col k => (rw [eSs_cons]; simp [Xp.enc]); (rw [eSs_cons]; simp [Xp.enc]); (rw [eSs_cons]; simp [ix_row (show k < row.length from he)]); exact hQ
    | one o e => exact he.elim
    | two o a b => exact he.elim
    | cho c a b => exact he.elim
  | succ n ih =>
    intro e he K n0 hK S Q hQ
    obtain ⟨K, rfl⟩ : ∃ k, K = k + 1 := ⟨K - 1, by omega⟩
    refine wp_run_false X.law_due (by decide) rfl rfl ?_
    unfold d_law_due startE
    cases e with
    | con v => (rw [eSs_cons]; simp [Xp.enc]); (rw [eSs_cons]; simp); (rw [eSs_cons]; simp); (rw [eSs_cons]; simp [Xp.enc]); exact hQ
    | col k => (rw [eSs_cons]; simp [Xp.enc]); (rw [eSs_cons]; simp [Xp.enc]); (rw [eSs_cons]; simp [ix_row (show k < row.length from he)]); exact hQ
    | one o e =>
      have w1 : (o.w = "column") = False := by cases o <;> simp [O1.w]
      have w2 : (o.w = "constant") = False := by cases o <;> simp [O1.w]
      have w3 : (o.w = "choose") = False := by cases o <;> simp [O1.w]
      (rw [eSs_cons]; simp [Xp.enc])
      (rw [eSs_cons]; simp [w1])
      (rw [eSs_cons]; simp [w2])
      (rw [eSs_cons]; simp [w3])
      (rw [eSs_cons]; simp)
      refine ih e he K _ (by omega) ?_
      (rw [eSs_cons]; simp [cap])
      (rw [eSs_cons]; simp)
      refine single_run X o _ (xev_bd hr (n := n) he) K (by omega) ?_
      simpa [xev] using hQ
    | cho c a b =>
      (rw [eSs_cons]; simp [Xp.enc])
      (rw [eSs_cons]; simp)
      (rw [eSs_cons]; simp)
      (rw [eSs_cons]; simp)
      (rw [eSs_cons]; simp)
      refine ih c he.1 K _ (by omega) ?_
      refine known_run X _ K (by omega) ?_
      simp only [xev] at hQ
      have ht : cmpV .is_ S (.d (encT3 (tru (xev row c)))) (.d (.bl true)) = some (isT (xev row c)) := by
        unfold isT
        rcases tru (xev row c) with _ | _ | _ <;> rfl
      rw [ht]
      cases ht : isT (xev row c) with
      | true =>
        rw [ht] at hQ
        simp
        refine ih a he.2.1 K _ (by omega) ?_
        simpa using hQ
      | false =>
        rw [ht] at hQ
        simp
        refine ih b he.2.2 K _ (by omega) ?_
        simpa using hQ
    | two o a b =>
      have w1 : (o.w = "column") = False := by cases o <;> simp [O2.w]
      have w2 : (o.w = "constant") = False := by cases o <;> simp [O2.w]
      have w3 : (o.w = "choose") = False := by cases o <;> simp [O2.w]
      have ba := xev_bd hr (n := n) he.1
      have bb := xev_bd hr (n := n) he.2
      have hQ : Q (.d (x2 o (xev row a) (xev row b)).enc) S := by simpa [xev] using hQ
      (rw [eSs_cons]; simp [Xp.enc])
      (rw [eSs_cons]; simp [w1])
      (rw [eSs_cons]; simp [w2])
      (rw [eSs_cons]; simp [w3])
      (rw [eSs_cons]; simp)
      refine ih a he.1 K _ (by omega) ?_
      (rw [eSs_cons]; simp [cap])
      (rw [eSs_cons]; simp)
      refine ih b he.2 K _ (by omega) ?_
      generalize xev row a = va at *
      generalize xev row b = vb at *
      by_cases hn : o = .add ∨ o = .sub ∨ o = .mul ∨ o = .div ∨ o = .rem
      · have i1 : cmpV .in_ S (.d (.str o.w)) (.d (.tup [.str "and", .str "or"])) = some false := by
          rcases hn with rfl | rfl | rfl | rfl | rfl <;> rfl
        have i2 : cmpV .notin S (.d (.str o.w)) (.d (.tup [.str "less", .str "equal"])) = some true := by
          rcases hn with rfl | rfl | rfl | rfl | rfl <;> rfl
        have w4 : (o.w = "starts") = False := by rcases hn with rfl | rfl | rfl | rfl | rfl <;> simp [O2.w]
        (rw [eSs_cons]; simp [i1, cap])
        (rw [eSs_cons]; simp [w4])
        (rw [eSs_cons]; simp [i2, cap])
        (rw [eSs_cons]; simp)
        refine arith_run X o hn va vb ba bb K (by omega) ?_
        simpa using hQ
      · have ho2 : o = .lt ∨ o = .eq ∨ o = .and ∨ o = .or ∨ o = .sw := by
          cases o <;> simp at hn ⊢
        have lg : ∀ c : Bool, o.w = (if c then "or" else "and") → x2 o va vb = ofT (if c then or3 (tru va) (tru vb) else and3 (tru va) (tru vb)) → wp (run P K S.length "" "_law_logic" [.d (.str o.w), .d va.enc, .d vb.enc] S) fun v S' => notP v = true ∧ Q v (S'.take S.length) := fun c hc h2 => by
          rw [hc]
          refine logic_run X c va vb K (by omega) ?_
          rw [h2] at hQ
          simpa using hQ
        rcases ho2 with rfl | rfl | rfl | rfl | rfl
        · (rw [eSs_cons]; simp [cap, O2.w, in_ao])
          (rw [eSs_cons]; simp)
          (rw [eSs_cons]; simp [cap, in_le])
          rw [eSs_cons]
          cases va with
          | n => simp [isN_v]; (rw [eSs_cons]; simp); exact hQ
          | i x =>
            cases vb with
            | n => simp [isN_v]; (rw [eSs_cons]; simp); exact hQ
            | i y =>
              simp [isN_v]
              (rw [eSs_cons]; simp)
              refine lkey_run X (.i x) K (by omega) ?_
              refine lkey_run X (.i y) K (by omega) ?_
              simp only [x2] at hQ
              rw [key_lt]
              cases hl : MP.D.lt (keyX (.i x)) (keyX (.i y)) <;> (rw [hl] at hQ; simp; exact hQ)
            | s y =>
              simp [isN_v]
              (rw [eSs_cons]; simp)
              refine lkey_run X (.i x) K (by omega) ?_
              refine lkey_run X (.s y) K (by omega) ?_
              simp only [x2] at hQ
              rw [key_lt]
              cases hl : MP.D.lt (keyX (.i x)) (keyX (.s y)) <;> (rw [hl] at hQ; simp; exact hQ)
          | s x =>
            cases vb with
            | n => simp [isN_v]; (rw [eSs_cons]; simp); exact hQ
            | i y =>
              simp [isN_v]
              (rw [eSs_cons]; simp)
              refine lkey_run X (.s x) K (by omega) ?_
              refine lkey_run X (.i y) K (by omega) ?_
              simp only [x2] at hQ
              rw [key_lt]
              cases hl : MP.D.lt (keyX (.s x)) (keyX (.i y)) <;> (rw [hl] at hQ; simp; exact hQ)
            | s y =>
              simp [isN_v]
              (rw [eSs_cons]; simp)
              refine lkey_run X (.s x) K (by omega) ?_
              refine lkey_run X (.s y) K (by omega) ?_
              simp only [x2] at hQ
              rw [key_lt]
              cases hl : MP.D.lt (keyX (.s x)) (keyX (.s y)) <;> (rw [hl] at hQ; simp; exact hQ)
        · (rw [eSs_cons]; simp [cap, O2.w, in_ao])
          (rw [eSs_cons]; simp)
          (rw [eSs_cons]; simp [cap, in_le])
          rw [eSs_cons]
          cases va with
          | n => simp [isN_v]; (rw [eSs_cons]; simp); exact hQ
          | i x =>
            cases vb with
            | n => simp [isN_v]; (rw [eSs_cons]; simp); exact hQ
            | i y =>
              simp [isN_v]
              (rw [eSs_cons]; simp)
              refine lkey_run X (.i x) K (by omega) ?_
              refine lkey_run X (.i y) K (by omega) ?_
              simp only [x2] at hQ
              rw [key_eq]
              cases hl : MP.D.eq (keyX (.i x)) (keyX (.i y)) <;> (rw [hl] at hQ; simp; exact hQ)
            | s y =>
              simp [isN_v]
              (rw [eSs_cons]; simp)
              refine lkey_run X (.i x) K (by omega) ?_
              refine lkey_run X (.s y) K (by omega) ?_
              simp only [x2] at hQ
              rw [key_eq]
              cases hl : MP.D.eq (keyX (.i x)) (keyX (.s y)) <;> (rw [hl] at hQ; simp; exact hQ)
          | s x =>
            cases vb with
            | n => simp [isN_v]; (rw [eSs_cons]; simp); exact hQ
            | i y =>
              simp [isN_v]
              (rw [eSs_cons]; simp)
              refine lkey_run X (.s x) K (by omega) ?_
              refine lkey_run X (.i y) K (by omega) ?_
              simp only [x2] at hQ
              rw [key_eq]
              cases hl : MP.D.eq (keyX (.s x)) (keyX (.i y)) <;> (rw [hl] at hQ; simp; exact hQ)
            | s y =>
              simp [isN_v]
              (rw [eSs_cons]; simp)
              refine lkey_run X (.s x) K (by omega) ?_
              refine lkey_run X (.s y) K (by omega) ?_
              simp only [x2] at hQ
              rw [key_eq]
              cases hl : MP.D.eq (keyX (.s x)) (keyX (.s y)) <;> (rw [hl] at hQ; simp; exact hQ)
        · (rw [eSs_cons]; simp [cap, O2.w, in_ao])
          (rw [eSs_cons]; simp)
          exact lg false rfl rfl
        · (rw [eSs_cons]; simp [cap, O2.w, in_ao])
          (rw [eSs_cons]; simp)
          exact lg true rfl rfl
        · (rw [eSs_cons]; simp [cap, O2.w, in_ao])
          (rw [eSs_cons]; simp)
          rw [eSs_cons]
          cases va with
          | n => simp [isStr_v]; (rw [eSs_cons]; simp); exact hQ
          | i x => simp [isStr_v]; (rw [eSs_cons]; simp); exact hQ
          | s x =>
            cases vb with
            | n => simp [isStr_v]; (rw [eSs_cons]; simp); exact hQ
            | i y => simp [isStr_v]; (rw [eSs_cons]; simp); exact hQ
            | s y =>
              simp only [x2] at hQ
              simp [isStr_v]
              have hl : y.toList.length ≤ cap := by
                have : y.toList.length ≤ 100 := bb
                show _ ≤ 1000000
                omega
              have hln : primV .len S [.d (Vx.s y).enc] = some (.int y.toList.length) := by simp only [primV, Vx.enc, if_pos hl]
              have hsl : slTV S (.d (Vx.s x).enc) (.d (.int y.toList.length)) = some (.str (String.ofList (x.toList.take y.toList.length))) := by
                have hx : x.toList.length ≤ cap := by
                  have : x.toList.length ≤ 100 := ba
                  show _ ≤ 1000000
                  omega
                simp only [slTV, Vx.enc, dat, if_pos hx]
                simp
              have hq : cmpV .eq S (.d (.str (String.ofList (x.toList.take y.toList.length)))) (.d (Vx.s y).enc) = some (y.toList.isPrefixOf x.toList) := by
                have h0 : cmpV .eq S (.d (.str (String.ofList (x.toList.take y.toList.length)))) (.d (Vx.s y).enc) = some (decide (String.ofList (x.toList.take y.toList.length) = y)) := rfl
                rw [h0]
                congr 1
                rw [Bool.eq_iff_iff, decide_eq_true_eq, List.isPrefixOf_iff_prefix, List.prefix_iff_eq_take]
                constructor
                · intro h
                  rw [← h]
                  simp
                · intro h
                  rw [← h]
                  simp
              (rw [eSs_cons]; simp [hln, hsl, hq])
              simp only [List.isPrefixOf_iff_prefix] at hQ
              exact hQ
end
end LW

set_option Elab.async false
set_option autoImplicit false
set_option linter.all false
set_option maxRecDepth 100000
set_option maxHeartbeats 4000000
/-! MX3: expressions drawn; how great they are. -/
namespace LW
open MP
/-- as drawn for a cell -/
def Vx.cell : Vx → Prop
  | .n => True
  | .i x => 0 ≤ x ∧ x ≤ 3
  | .s x => x.toList.length ≤ 2
theorem Vx.cell_bd {v : Vx} (h : v.cell) : v.bd := by
  cases v with
  | n => trivial
  | i x => exact ⟨by have := h.1; omega, by have := h.2; omega⟩
  | s x => exact Nat.le_trans h (by decide)
theorem cell_run {P : Pg} (hC : P.at_ "" "_law_cell" = some d_law_cell) (hP : P.at_ "" "_law_next" = some d_law_next) {d : Nat} {K n0 : Nat} (hK : 1 < K) {S : St} {c : Cell} (hd : S[d]? = some c) (hc : IsDr c) {Q : Vl → St → Prop}
    (hQ : ∀ (v : Vx) c', v.cell → IsDr c' → Q (.d v.enc) (S.set d c')) : wp (run P K n0 "" "_law_cell" [.p d] S) Q := by
  obtain ⟨K, rfl⟩ : ∃ k, K = k + 1 := ⟨K - 1, by omega⟩
  have hlt := lt_of hd
  refine wp_run_false hC (by decide) rfl rfl ?_
  unfold d_law_cell startE
  (rw [eSs_cons]; simp)
  refine next_K hP (by omega) hd hc (by decide) (by decide) fun f c1 f0 f1 hc1 => ?_
  have hf : f = 0 ∨ f = 1 ∨ f = 2 ∨ f = 3 ∨ f = 4 ∨ f = 5 ∨ f = 6 := by omega
  rcases hf with rfl | rfl | rfl | rfl | rfl | rfl | rfl
  · (rw [eSs_cons]; simp)
    (rw [eSs_cons]; simp [take_set])
    exact hQ .n _ trivial hc1
  · (rw [eSs_cons]; simp)
    (rw [eSs_cons]; simp [take_set])
    exact hQ (.i 0) _ (by simp [Vx.cell]) hc1
  · (rw [eSs_cons]; simp)
    (rw [eSs_cons]; simp [take_set])
    exact hQ (.i 1) _ (by simp [Vx.cell]) hc1
  · (rw [eSs_cons]; simp)
    (rw [eSs_cons]; simp [take_set])
    exact hQ (.i 2) _ (by simp [Vx.cell]) hc1
  · (rw [eSs_cons]; simp)
    (rw [eSs_cons]; simp [take_set])
    exact hQ (.i 3) _ (by simp [Vx.cell]) hc1
  · (rw [eSs_cons]; simp)
    (rw [eSs_cons]; simp [cap])
    refine next_K hP (by omega) (get_set hlt) hc1 (by decide) (by decide) fun u c2 u0 u1 hc2 => ?_
    have hu : u = 0 ∨ u = 1 := by omega
    rcases hu with rfl | rfl
    · simp [take_set]
      exact hQ (.s "a") _ (by simp [Vx.cell]) hc2
    · simp [take_set]
      exact hQ (.s "b") _ (by simp [Vx.cell]) hc2
  · (rw [eSs_cons]; simp)
    (rw [eSs_cons]; simp [cap])
    refine next_K hP (by omega) (get_set hlt) hc1 (by decide) (by decide) fun u c2 u0 u1 hc2 => ?_
    have hu : u = 0 ∨ u = 1 := by omega
    rcases hu with rfl | rfl
    · simp [take_set]
      exact hQ (.s "ab") _ (by simp [Vx.cell]) hc2
    · simp [take_set]
      exact hQ (.s "") _ (by simp [Vx.cell]) hc2
/-- what is asked of the cells drawn -/
def CellOk (P : Pg) : Prop := ∀ {d K n0 : Nat} (hK : 1 < K) {S : St} {c : Cell} (hd : S[d]? = some c) (hc : IsDr c) {Q : Vl → St → Prop} (hQ : ∀ (v : Vx) c', v.cell → IsDr c' → Q (.d v.enc) (S.set d c')), wp (run P K n0 "" "_law_cell" [.p d] S) Q
theorem cell_ok {P : Pg} (hC : P.at_ "" "_law_cell" = some d_law_cell) (hP : P.at_ "" "_law_next" = some d_law_next) : CellOk P := fun hK _ _ hd hc _ hQ => cell_run hC hP hK hd hc hQ
theorem great_run {P : Pg} (hG : P.at_ "" "_law_great" = some d_law_great) (hP : P.at_ "" "_law_next" = some d_law_next) {row : List Vx} (hr : ∀ v ∈ row, v.cell) (hw : row.length ≤ 1000) {d : Nat} {K n0 : Nat} (hK : 1 < K) {S : St} {c : Cell} (hd : S[d]? = some c) (hc : IsDr c) {Q : Vl → St → Prop}
    (hQ : ∀ row' c', rowBd row' → row'.length = row.length → IsDr c' → Q (.d (rowE row')) (S.set d c')) : wp (run P K n0 "" "_law_great" [.p d, .d (rowE row)] S) Q := by
  obtain ⟨K, rfl⟩ : ∃ k, K = k + 1 := ⟨K - 1, by omega⟩
  have hlt := lt_of hd
  refine wp_run_false hG (by decide) rfl rfl ?_
  unfold d_law_great startE
  (rw [eSs_cons]; simp)
  rw [eSs_cons]
  simp only [eS_for, eI_seq, eE_var, List.getElem?_cons_succ, List.getElem?_cons_zero, ok_bind, rowE, ok_go]
  have hln : ∀ c', (S.set d c').length = S.length := fun c' => List.length_set
  let I : List Vx → Env → St → Prop := fun pre G S' => ∃ vs c' gk, G = [some (.p d), some (.d (rowE row)), some (.p S.length), gk] ∧ S' = S.set d c' ++ [.lst (vs.map Vx.enc)] ∧ IsDr c' ∧ rowBd vs ∧ vs.length = pre.length
  have hset : S.set d c = S := by
    obtain ⟨hh, e⟩ := List.getElem?_eq_some_iff.mp hd
    rw [← e, List.set_getElem_self]
  have start : I [] [some (.p d), some (.d (rowE row)), some (.p S.length), none] (S ++ [.lst []]) := ⟨[], c, none, rfl, (by rw [hset]; rfl), hc, fun v h => (by cases h), rfl⟩
  have app : ∀ (vs : List Vx) (v : Vx), rowBd vs → v.bd → rowBd (vs ++ [v]) := fun vs v h1 h2 x hx => by
    rcases List.mem_append.mp hx with h | h
    · exact h1 x h
    · rw [List.mem_singleton.mp h]
      exact h2
  refine wq_pre Vx.enc row I start ?_ ?_
  · rintro pre x post G S' hp ⟨vs, c', gk, rfl, rfl, hc', hvs, hvl⟩
    have hxr : x.cell := hr x (by rw [hp]; simp)
    have hcl : vs.length < cap := by
      have : pre.length < row.length := by rw [hp]; simp
      show vs.length < 1000000
      omega
    have hnew : ∀ c', (S.set d c' ++ [Cell.lst (vs.map Vx.enc)])[S.length]? = some (.lst (vs.map Vx.enc)) := fun c' => by rw [← hln c']; exact get_new
    have hnew2 : ∀ c' z, (S.set d c' ++ [Cell.lst (vs.map Vx.enc)]).set S.length z = S.set d c' ++ [z] := fun c' z => by rw [← hln c']; exact set_new
    unfold turnF
    simp only [Tg.set]
    have fin : ∀ (v : Vx) (c2 : Cell) {N : Fl → Env → St → Prop}, v.bd → IsDr c2 → wq (evSs (cx P K S.length) (.cons (.ex (.bm .append (.var 2) (.cons (.var 3) .nil))) .nil) [some (.p d), some (.d (rowE row)), some (.p S.length), some (.d v.enc)] (S.set d c2 ++ [.lst (vs.map Vx.enc)])) (tn (I (pre ++ [x])) N) := fun v c2 {N} hv hc2 => by
      rw [eSs_cons]
      simp [isLst, hnew, bmV, hcl, hnew2]
      exact ⟨vs ++ [v], c2, some (.d v.enc), rfl, by simp, hc2, app vs v hvs hv, by simp [hvl]⟩
    rw [eSs_cons]
    cases x with
    | n => simp [isInt_v]; exact fin .n c' trivial hc'
    | s y => simp [isInt_v]; exact fin (.s y) c' (Vx.cell_bd hxr) hc'
    | i y =>
      simp [isInt_v]
      refine next_K hP (by omega) (by rw [get_app (by simpa using hlt)]; exact get_set hlt) hc' (by decide) (by decide) fun u c2 u0 u1 hc2 => ?_
      rw [set_app (by simpa using hlt), List.set_set]
      have hu : u = 0 ∨ u = 1 := by omega
      rcases hu with rfl | rfl
      · simp
        exact fin (.i y) c2 (Vx.cell_bd hxr) hc2
      · have hp : binD .pow (.int 10) (.int 15) = some (.int 1000000000000000) := rfl
        have hy : 0 ≤ y ∧ y ≤ 3 := hxr
        simp
        (rw [eSs_cons]; simp [hp, Vx.enc])
        refine next_K hP (by omega) (by rw [get_app (by simpa using hlt)]; exact get_set hlt) hc2 (by decide) (by decide) fun w c3 w0 w1 hc3 => ?_
        rw [set_app (by simpa using hlt), List.set_set]
        have hw : w = 0 ∨ w = 1 := by omega
        have m1 : binD .mul (.int (1000000000000000 - y)) (.int 1) = some (.int (1000000000000000 - y)) := by
          rw [binD_mul1 (by omega) (by omega), Int.mul_one]
        have m2 : binD .mul (.int (1000000000000000 - y)) (.int (-1)) = some (.int (-(1000000000000000 - y))) := by
          rw [binD_mul1 (by omega) (by omega)]
          congr 2
          omega
        rcases hw with rfl | rfl
        · simp [show binD .mul (.int 2) (.int 0) = some (.int 0) from binD_mul1 (by decide) (by decide), m1]
          exact fin (.i (1000000000000000 - y)) c3 ⟨by omega, by omega⟩ hc3
        · simp [show binD .mul (.int 2) (.int 1) = some (.int 2) from binD_mul1 (by decide) (by decide), m2]
          exact fin (.i (-(1000000000000000 - y))) c3 ⟨by omega, by omega⟩ hc3
  · rintro G S' ⟨vs, c', gk, rfl, rfl, hc', hvs, hvl⟩
    have hnew : (S.set d c' ++ [Cell.lst (vs.map Vx.enc)])[S.length]? = some (.lst (vs.map Vx.enc)) := by rw [← hln c']; exact get_new
    have hnew2 : ∀ z, (S.set d c' ++ [Cell.lst (vs.map Vx.enc)]).set S.length z = S.set d c' ++ [z] := fun z => by rw [← hln c']; exact set_new
    simp only [on_nx]
    (rw [eSs_cons]; simp [frzV, hnew, hnew2])
    have htp : primV .tuple (S.set d c' ++ [Cell.dead]) [.d (.lst (vs.map Vx.enc))] = some (rowE vs) := rfl
    (rw [eSs_cons]; simp [htp, take_app])
    exact hQ vs c' hvs hvl hc'
theorem Xp.ok_con {w n : Nat} {v : Vx} (h : v.bd) : Xp.ok w n (.con v) := by cases n <;> exact h
theorem Xp.ok_col {w n k : Nat} (h : k < w) : Xp.ok w n (.col k) := by cases n <;> exact h
theorem expression_run {P : Pg} (X : PX P) (hC : CellOk P) (hP : P.at_ "" "_law_next" = some d_law_next) {d w : Nat} (hw : w ≤ 1000) : ∀ (n K n0 : Nat) (hK : n + 3 ≤ K) {S : St} {c : Cell} (hd : S[d]? = some c) (hc : IsDr c) {Q : Vl → St → Prop}
    (hQ : ∀ (e : Xp) c', e.ok w n → IsDr c' → Q (.d e.enc) (S.set d c')), wp (run P K n0 "" "_law_expression" [.p d, .d (.int (w : Nat)), .d (.int (n : Nat))] S) Q := by
  intro n
  induction n using Nat.strongRecOn with
  | _ n ih =>
    intro K n0 hK S c hd hc Q hQ
    have hlt := lt_of hd
    obtain ⟨K, rfl⟩ : ∃ k, K = k + 1 := ⟨K - 1, by omega⟩
    refine wp_run_false X.law_expression (by decide) rfl rfl ?_
    unfold d_law_expression startE
    (rw [eSs_cons]; simp)
    refine next_K hP (by omega) hd hc (by decide) (by decide) fun f c1 f0 f1 hc1 => ?_
    (rw [eSs_cons]; simp)
    rw [ite_or]
    split
    · (rw [eSs_cons]; simp)
      by_cases hw0 : w = 0
      · subst hw0
        simp
        (rw [eSs_cons]; simp)
        refine hC (by omega) (get_set hlt) hc1 fun v c2 hv hc2 => ?_
        simp [take_set, cap]
        exact hQ (.con v) c2 (Xp.ok_con (Vx.cell_bd hv)) hc2
      · simp [hw0]
        refine next_K hP (by omega) (get_set hlt) hc1 (by decide) (by decide) fun u c2 u0 u1 hc2 => ?_
        simp
        split
        · (rw [eSs_cons]; simp)
          refine hC (by omega) (get_set hlt) hc2 fun v c3 hv hc3 => ?_
          simp [take_set, cap]
          exact hQ (.con v) c3 (Xp.ok_con (Vx.cell_bd hv)) hc3
        · (rw [eSs_cons]; simp)
          refine next_K hP (by omega) (get_set hlt) hc2 (by omega) (by omega) fun u c3 u0 u1 hc3 => ?_
          obtain ⟨k, rfl⟩ := Int.eq_ofNat_of_zero_le u0
          simp [take_set, cap]
          exact hQ (.col k) c3 (Xp.ok_col (by omega)) hc3
    · rename_i hn
      obtain ⟨m, rfl⟩ : ∃ m, n = m + 1 := ⟨n - 1, by omega⟩
      have hm1 : ((m + 1 : Nat) : Int) - 1 = (m : Int) := by omega
      have hm2 : (m : Int) + 1 - 1 = (m : Int) := by omega
      simp
      (rw [eSs_cons]; simp)
      split
      · (rw [eSs_cons]; simp [cap])
        refine next_K hP (by omega) (get_set hlt) hc1 (by decide) (by decide) fun u c2 u0 u1 hc2 => ?_
        have hu : u = 0 ∨ u = 1 ∨ u = 2 ∨ u = 3 := by omega
        rcases hu with rfl | rfl | rfl | rfl
        · simp
          (rw [eSs_cons]; simp [hm1, hm2])
          refine ih m (by omega) K _ (by omega) (get_set hlt) hc2 fun e c3 he hc3 => ?_
          simp [take_set, cap]
          exact hQ (.one .neg e) c3 he hc3
        · simp
          (rw [eSs_cons]; simp [hm1, hm2])
          refine ih m (by omega) K _ (by omega) (get_set hlt) hc2 fun e c3 he hc3 => ?_
          simp [take_set, cap]
          exact hQ (.one .not e) c3 he hc3
        · simp
          (rw [eSs_cons]; simp [hm1, hm2])
          refine ih m (by omega) K _ (by omega) (get_set hlt) hc2 fun e c3 he hc3 => ?_
          simp [take_set, cap]
          exact hQ (.one .mis e) c3 he hc3
        · simp
          (rw [eSs_cons]; simp [hm1, hm2])
          refine ih m (by omega) K _ (by omega) (get_set hlt) hc2 fun e c3 he hc3 => ?_
          simp [take_set, cap]
          exact hQ (.one .len e) c3 he hc3
      · (rw [eSs_cons]; simp [hm1, hm2])
        refine ih m (by omega) K _ (by omega) (get_set hlt) hc1 fun a c2 ha hc2 => ?_
        (rw [eSs_cons]; simp [hm1, hm2])
        refine ih m (by omega) K _ (by omega) (get_set hlt) hc2 fun b c3 hb hc3 => ?_
        (rw [eSs_cons]; simp)
        split
        · (rw [eSs_cons]; simp [hm1, hm2])
          refine ih m (by omega) K _ (by omega) (get_set hlt) hc3 fun cc c4 hcc hc4 => ?_
          simp [take_set, cap]
          exact hQ (.cho cc a b) c4 ⟨hcc, ha, hb⟩ hc4
        · (rw [eSs_cons]; simp [cap])
          (rw [eSs_cons]; simp)
          refine next_K hP (by omega) (get_set hlt) hc3 (by decide) (by decide) fun u c4 u0 u1 hc4 => ?_
          have hu : u = 0 ∨ u = 1 ∨ u = 2 ∨ u = 3 ∨ u = 4 ∨ u = 5 ∨ u = 6 ∨ u = 7 ∨ u = 8 ∨ u = 9 := by omega
          have go : ∀ o : O2, Q (.d (.tup [.str o.w, a.enc, b.enc])) (S.set d c4) := fun o => hQ (.two o a b) c4 ⟨ha, hb⟩ hc4
          rcases hu with rfl | rfl | rfl | rfl | rfl | rfl | rfl | rfl | rfl | rfl
          · simp [show atI [D.str "add", D.str "subtract", D.str "multiply", D.str "divide", D.str "remainder", D.str "less", D.str "equal", D.str "and", D.str "or", D.str "starts"] (0 : Int) = some (D.str "add") from rfl, take_set, cap]; exact go .add
          · simp [show atI [D.str "add", D.str "subtract", D.str "multiply", D.str "divide", D.str "remainder", D.str "less", D.str "equal", D.str "and", D.str "or", D.str "starts"] (1 : Int) = some (D.str "subtract") from rfl, take_set, cap]; exact go .sub
          · simp [show atI [D.str "add", D.str "subtract", D.str "multiply", D.str "divide", D.str "remainder", D.str "less", D.str "equal", D.str "and", D.str "or", D.str "starts"] (2 : Int) = some (D.str "multiply") from rfl, take_set, cap]; exact go .mul
          · simp [show atI [D.str "add", D.str "subtract", D.str "multiply", D.str "divide", D.str "remainder", D.str "less", D.str "equal", D.str "and", D.str "or", D.str "starts"] (3 : Int) = some (D.str "divide") from rfl, take_set, cap]; exact go .div
          · simp [show atI [D.str "add", D.str "subtract", D.str "multiply", D.str "divide", D.str "remainder", D.str "less", D.str "equal", D.str "and", D.str "or", D.str "starts"] (4 : Int) = some (D.str "remainder") from rfl, take_set, cap]; exact go .rem
          · simp [show atI [D.str "add", D.str "subtract", D.str "multiply", D.str "divide", D.str "remainder", D.str "less", D.str "equal", D.str "and", D.str "or", D.str "starts"] (5 : Int) = some (D.str "less") from rfl, take_set, cap]; exact go .lt
          · simp [show atI [D.str "add", D.str "subtract", D.str "multiply", D.str "divide", D.str "remainder", D.str "less", D.str "equal", D.str "and", D.str "or", D.str "starts"] (6 : Int) = some (D.str "equal") from rfl, take_set, cap]; exact go .eq
          · simp [show atI [D.str "add", D.str "subtract", D.str "multiply", D.str "divide", D.str "remainder", D.str "less", D.str "equal", D.str "and", D.str "or", D.str "starts"] (7 : Int) = some (D.str "and") from rfl, take_set, cap]; exact go .and
          · simp [show atI [D.str "add", D.str "subtract", D.str "multiply", D.str "divide", D.str "remainder", D.str "less", D.str "equal", D.str "and", D.str "or", D.str "starts"] (8 : Int) = some (D.str "or") from rfl, take_set, cap]; exact go .or
          · simp [show atI [D.str "add", D.str "subtract", D.str "multiply", D.str "divide", D.str "remainder", D.str "less", D.str "equal", D.str "and", D.str "or", D.str "starts"] (9 : Int) = some (D.str "starts") from rfl, take_set, cap]; exact go .sw
/-! ### sizes -/
theorem log2_lt {n k : Nat} (h : n < 2 ^ k) (hk : 0 < k) : n.log2 < k := by
  by_cases h0 : n = 0
  · subst h0
    simpa using hk
  · exact (Nat.log2_lt h0).mpr h
theorem vx_log {x : Int} (h : (Vx.i x).bd) : x.natAbs.log2 < 50 := by
  have h : -1000000000000000 ≤ x ∧ x ≤ 1000000000000000 := h
  exact log2_lt (by omega) (by decide)
theorem vx_wt {v : Vx} (h : v.bd) : v.enc.wt ≤ 1002 ∧ v.enc.shw = true ∧ v.enc.dep = 0 := by
  cases v with
  | n => exact ⟨by simp [Vx.enc, D.wt], rfl, rfl⟩
  | i x =>
    have := vx_log h
    refine ⟨?_, ?_, rfl⟩
    · simp only [Vx.enc, D.wt]
      omega
    · simp only [Vx.enc, D.shw, Nat.blt_eq]
      omega
  | s x =>
    have h : x.toList.length ≤ 100 := h
    refine ⟨?_, rfl, rfl⟩
    simp only [Vx.enc, D.wt]
    omega
theorem o1_wt (o : O1) : 10 * o.w.toList.length + 2 ≤ 102 := by cases o <;> decide
theorem o2_wt (o : O2) : 10 * o.w.toList.length + 2 ≤ 102 := by cases o <;> decide
theorem log_small {k : Nat} (h : k ≤ 1000) : k.log2 < 10 := log2_lt (by omega) (by decide)
/-- the greatest weight -/
def wtB : Nat → Nat
  | 0 => 1200
  | n + 1 => 3 * wtB n + 200
theorem xp_wt {w : Nat} (hw : w ≤ 1000) : ∀ {n : Nat} {e : Xp}, e.ok w n → e.enc.wt ≤ wtB n ∧ e.enc.shw = true ∧ e.enc.dep ≤ n + 1 := by
  have base : ∀ n, 1200 ≤ wtB n := fun n => by
    induction n with
    | zero => exact Nat.le_refl _
    | succ n ih => simp only [wtB]; omega
  intro n
  induction n with
  | zero =>
    intro e h
    cases e with
    | con v =>
      obtain ⟨a, b, c⟩ := vx_wt h
      refine ⟨?_, ?_, ?_⟩
      · have := base 0
        simp [Xp.enc, D.wt, D.wts]
        omega
      · simp [Xp.enc, D.shw, D.shws, b]
      · simp [Xp.enc, D.dep, D.deps, c]
    | col k =>
      have hk : k < w := h
      have := log_small (k := k) (by omega)
      refine ⟨?_, ?_, ?_⟩
      · have := base 0
        simp [Xp.enc, D.wt, D.wts]
        omega
      · simp [Xp.enc, D.shw, D.shws]
        omega
      · simp [Xp.enc, D.dep, D.deps]
    | one o e => exact h.elim
    | two o a b => exact h.elim
    | cho c a b => exact h.elim
  | succ n ih =>
    intro e h
    cases e with
    | con v =>
      obtain ⟨a, b, c⟩ := vx_wt h
      refine ⟨?_, ?_, ?_⟩
      · have := base (n + 1)
        simp [Xp.enc, D.wt, D.wts]
        omega
      · simp [Xp.enc, D.shw, D.shws, b]
      · simp [Xp.enc, D.dep, D.deps, c]
    | col k =>
      have hk : k < w := h
      have := log_small (k := k) (by omega)
      refine ⟨?_, ?_, ?_⟩
      · have := base (n + 1)
        simp [Xp.enc, D.wt, D.wts]
        omega
      · simp [Xp.enc, D.shw, D.shws]
        omega
      · simp [Xp.enc, D.dep, D.deps]
    | one o e =>
      obtain ⟨a, b, c⟩ := ih (e := e) h
      have := o1_wt o
      have := base n
      refine ⟨?_, ?_, ?_⟩
      · simp only [Xp.enc, D.wt, D.wts, wtB]
        omega
      · simp [Xp.enc, D.shw, D.shws, b]
      · simp only [Xp.enc, D.dep, D.deps]
        omega
    | two o x y =>
      obtain ⟨a, b, c⟩ := ih (e := x) h.1
      obtain ⟨a2, b2, c2⟩ := ih (e := y) h.2
      have := o2_wt o
      have := base n
      refine ⟨?_, ?_, ?_⟩
      · simp only [Xp.enc, D.wt, D.wts, wtB]
        omega
      · simp [Xp.enc, D.shw, D.shws, b, b2]
      · simp only [Xp.enc, D.dep, D.deps]
        omega
    | cho z x y =>
      obtain ⟨a, b, c⟩ := ih (e := x) h.2.1
      obtain ⟨a2, b2, c2⟩ := ih (e := y) h.2.2
      obtain ⟨a3, b3, c3⟩ := ih (e := z) h.1
      have := base n
      have hch : 10 * ("choose".toList.length) + 2 = 62 := by decide
      refine ⟨?_, ?_, ?_⟩
      · simp only [Xp.enc, D.wt, D.wts, wtB]
        omega
      · simp [Xp.enc, D.shw, D.shws, b, b2, b3]
      · simp only [Xp.enc, D.dep, D.deps]
        omega
theorem row_wt : ∀ {row : List Vx}, rowBd row → D.wts (row.map Vx.enc) ≤ 1004 * row.length ∧ D.shws (row.map Vx.enc) = true ∧ D.deps (row.map Vx.enc) = 0
  | [], _ => ⟨Nat.le_refl _, rfl, rfl⟩
  | v :: row, h => by
    obtain ⟨a, b, c⟩ := vx_wt (h v List.mem_cons_self)
    obtain ⟨a2, b2, c2⟩ := row_wt (row := row) fun x hx => h x (List.mem_cons_of_mem _ hx)
    refine ⟨?_, ?_, ?_⟩
    · simp only [List.map_cons, D.wts, List.length_cons]
      omega
    · simp only [List.map_cons, D.shws, b, b2, Bool.and_self]
    · simp only [List.map_cons, D.deps, c, c2, Nat.max_self]
/-- an expression and a row may be shown -/
theorem both_repr {S : St} {e : Xp} {row : List Vx} {n : Nat} (hn : n ≤ 5) (hr : rowBd row) (hl : row.length ≤ 1000) (he : e.ok row.length n) : reprV S (.d (.lst [e.enc, rowE row])) = some (.r (.lst [e.enc, rowE row])) := by
  obtain ⟨a, b, c⟩ := xp_wt hl he
  obtain ⟨a2, b2, c2⟩ := row_wt hr
  have hB : wtB n ≤ 400000 := by
    have : n = 0 ∨ n = 1 ∨ n = 2 ∨ n = 3 ∨ n = 4 ∨ n = 5 := by omega
    rcases this with rfl | rfl | rfl | rfl | rfl | rfl <;> decide
  have h1 : (D.lst [e.enc, rowE row]).shw = true := by simp [D.shw, D.shws, rowE, b, b2]
  have h2 : (D.lst [e.enc, rowE row]).dep ≤ 60 := by simp only [D.dep, D.deps, rowE, c2]; omega
  have h3 : (D.lst [e.enc, rowE row]).wt ≤ 10000000 := by simp only [D.wt, D.wts, rowE]; omega
  simp only [reprV, dat]
  rw [if_pos ⟨h1, h2, h3⟩]
end LW

set_option Elab.async false
set_option autoImplicit false
set_option linter.all false
set_option maxRecDepth 100000
set_option maxHeartbeats 4000000
/-! MY1: orders, sorting, the least and the greatest. -/
namespace LW
open MP
def vlt : Vx → Vx → Bool
  | .n, .n => false
  | .n, _ => true
  | .i _, .n => false
  | .i x, .i y => decide (x < y)
  | .i _, .s _ => true
  | .s x, .s y => decide (cpsOf x < cpsOf y)
  | .s _, _ => false
theorem key_vlt (a b : Vx) : MP.D.lt (keyX a) (keyX b) = vlt a b := by
  cases a <;> cases b <;> simp [keyX, vlt, D.lt, D.lts, D.eq]
  · intro h e
    omega
  · intro h e
    subst e
    exact List.lt_irrefl _ h
theorem cps_inj {a b : String} (h : cpsOf a = cpsOf b) : a = b := by
  unfold cpsOf at h
  have h2 : a.toList = b.toList := List.map_inj_right (fun x y e => Char.ext (UInt32.toNat_inj.mp e)) |>.mp h
  exact String.toList_inj.mp h2
theorem vlt_anti {a b : Vx} (h1 : vlt a b = false) (h2 : vlt b a = false) : a = b := by
  cases a <;> cases b <;> simp [vlt] at h1 h2 ⊢
  · omega
  · exact cps_inj (List.le_antisymm (List.not_lt.mp (by simpa using h2)) (List.not_lt.mp (by simpa using h1)))
theorem vlt_trans {a b c : Vx} (h1 : vlt a b = true) (h2 : vlt b c = true) : vlt a c = true := by
  cases a <;> cases b <;> cases c <;> simp [vlt] at h1 h2 ⊢
  · omega
  · exact List.lt_trans h1 h2
theorem vlt_irr (a : Vx) : vlt a a = false := by
  cases a <;> simp [vlt]
theorem vlt_asym {a b : Vx} (h : vlt a b = true) : vlt b a = false := by
  cases hb : vlt b a with
  | false => rfl
  | true =>
    have := vlt_trans h hb
    rw [vlt_irr] at this
    cases this
def vle (a b : Vx) : Bool := !vlt b a
theorem vle_trans (a b c : Vx) (h1 : vle a b = true) (h2 : vle b c = true) : vle a c = true := by
  unfold vle at *
  rw [Bool.not_eq_true'] at *
  cases h : vlt c a with
  | false => rfl
  | true =>
    cases hab : vlt a b with
    | true =>
      have := vlt_trans h hab
      rw [h2] at this
      cases this
    | false =>
      have e := vlt_anti hab h1
      subst e
      rw [h2] at h
      cases h
theorem vle_total (a b : Vx) : (vle a b || vle b a) = true := by
  unfold vle
  cases h : vlt b a with
  | false => rfl
  | true => rw [vlt_asym h]; rfl
/-! ### the keys of a list -/
theorem wp_keys {α : Type} {step : D → St → R Vl} {S : St} {Q : List D → St → Prop} (enc key : α → D) (xs : List α)
    (hs : ∀ x Q', x ∈ xs → Q' (.d (key x)) S → wp (step (enc x) S) Q') (he : Q (xs.map key) S) : wp (keysL step [] (xs.map enc) S) Q := by
  have go : ∀ (post pre : List α), xs = pre ++ post → wp (keysL step (pre.map key) (post.map enc) S) Q := by
    intro post
    induction post with
    | nil =>
      intro pre e
      rw [List.append_nil] at e
      subst e
      exact he
    | cons x post ih =>
      intro pre e
      show wp ((step (enc x) S).bind _) Q
      rw [wp_bind]
      refine hs x _ (by simp [e]) ?_
      have := ih (pre ++ [x]) (by simp [e])
      simpa using this
  exact go xs [] rfl
theorem sortK_map {α : Type} (enc key : α → D) (xs : List α) : sortK (xs.map enc) (xs.map key) = (xs.mergeSort fun a b => !MP.D.lt (key b) (key a)).map enc := by
  unfold sortK
  have e1 : (xs.map enc).zip (xs.map key) = xs.map fun x => (enc x, key x) := by
    induction xs with
    | nil => rfl
    | cons x xs ih => simp only [List.map_cons, List.zip_cons_cons, ih]
  rw [e1, ← List.map_mergeSort (f := fun x => (enc x, key x)) (r := fun a b => !MP.D.lt (key b) (key a)) (fun a _ b _ => rfl), List.map_map]
  rfl
/-- better, by min or max -/
def bt (mx : Bool) (x y : Vx) : Bool := if mx then vlt y x else vlt x y
theorem bt_trans {mx : Bool} {a b c : Vx} (h1 : bt mx a b = true) (h2 : bt mx b c = true) : bt mx a c = true := by
  cases mx with
  | false => exact vlt_trans (a := a) (b := b) (c := c) h1 h2
  | true => exact vlt_trans (a := c) (b := b) (c := a) h2 h1
theorem bet_key (mx : Bool) (a b : Vx) : betK mx (keyX a) (keyX b) = some (bt mx a b) := by
  have h1 := key_alike a b
  have h2 := key_alike b a
  have h3 := key_dep a
  have h4 := key_dep b
  have e : betK mx (keyX a) (keyX b) = if (keyX a).alike (keyX b) = true ∧ (keyX b).alike (keyX a) = true ∧ (keyX a).dep ≤ 60 ∧ (keyX b).dep ≤ 60 then some (if mx then MP.D.lt (keyX b) (keyX a) else MP.D.lt (keyX a) (keyX b)) else none := by
    cases a <;> rfl
  rw [e, if_pos ⟨h1, h2, h3, h4⟩, key_vlt, key_vlt]
  rfl
theorem wp_best {mx : Bool} {step : D → St → R Vl} {S : St} {Q : Vl → St → Prop} (xs : List Vx) (hne : xs ≠ [])
    (hs : ∀ x Q', x ∈ xs → Q' (.d (keyX x)) S → wp (step x.enc S) Q') (he : ∀ m ∈ xs, (∀ y ∈ xs, bt mx y m = false) → Q (.d m.enc) S) : wp (bestL mx step none (xs.map Vx.enc) S) Q := by
  have go : ∀ (post pre : List Vx) (m : Vx), xs = pre ++ post → m ∈ pre → (∀ y ∈ pre, bt mx y m = false) → wp (bestL mx step (some (m.enc, keyX m)) (post.map Vx.enc) S) Q := by
    intro post
    induction post with
    | nil =>
      intro pre m e hm hb
      rw [List.append_nil] at e
      subst e
      exact he m hm hb
    | cons x post ih =>
      intro pre m e hm hb
      show wp ((step x.enc S).bind _) Q
      rw [wp_bind]
      refine hs x _ (by simp [e]) ?_
      simp only [bet_key]
      cases hx : bt mx x m with
      | true =>
        simp only [if_true]
        refine ih (pre ++ [x]) x (by simp [e]) (by simp) fun y hy => ?_
        rcases List.mem_append.mp hy with hy | hy
        · cases hyx : bt mx y x with
          | false => rfl
          | true =>
            have := bt_trans hyx hx
            rw [hb y hy] at this
            cases this
        · rw [List.mem_singleton.mp hy]
          cases mx <;> exact vlt_irr x
      | false =>
        simp only [Bool.false_eq_true, if_false]
        refine ih (pre ++ [x]) m (by simp [e]) (by simp [hm]) fun y hy => ?_
        rcases List.mem_append.mp hy with hy | hy
        · exact hb y hy
        · rw [List.mem_singleton.mp hy]
          exact hx
  obtain ⟨x, t, rfl⟩ := List.exists_cons_of_ne_nil hne
  show wp ((step x.enc S).bind _) Q
  rw [wp_bind]
  refine hs x _ List.mem_cons_self ?_
  simp only
  refine go t [x] x rfl List.mem_cons_self fun y hy => ?_
  rw [List.mem_singleton.mp hy]
  cases mx <;> exact vlt_irr x
/-! ### what is distinct -/
def distL {α : Type} [DecidableEq α] (xs : List α) : List α := xs.foldl (fun acc x => if x ∈ acc then acc else acc ++ [x]) []
theorem distL_snoc {α : Type} [DecidableEq α] (xs : List α) (x : α) : distL (xs ++ [x]) = if x ∈ distL xs then distL xs else distL xs ++ [x] := by
  unfold distL
  rw [List.foldl_append]
  rfl
theorem distL_len {α : Type} [DecidableEq α] (xs : List α) : (distL xs).length ≤ xs.length := by
  have : ∀ (xs acc : List α), (xs.foldl (fun acc x => if x ∈ acc then acc else acc ++ [x]) acc).length ≤ acc.length + xs.length := by
    intro xs
    induction xs with
    | nil => intro acc; simp
    | cons x xs ih =>
      intro acc
      rw [List.foldl_cons]
      refine Nat.le_trans (ih _) ?_
      split
      · rw [List.length_cons]
        omega
      · rw [List.length_append, List.length_cons, List.length_cons, List.length_nil]
        omega
  have h := this xs []
  simpa [distL] using h
theorem distL_mem {α : Type} [DecidableEq α] {xs : List α} {y : α} (h : y ∈ distL xs) : y ∈ xs := by
  have : ∀ (xs acc : List α), y ∈ (xs.foldl (fun acc x => if x ∈ acc then acc else acc ++ [x]) acc) → y ∈ acc ∨ y ∈ xs := by
    intro xs
    induction xs with
    | nil => intro acc h; exact .inl h
    | cons x xs ih =>
      intro acc h
      rw [List.foldl_cons] at h
      rcases ih _ h with h | h
      · split at h
        · exact .inl h
        · rcases List.mem_append.mp h with h | h
          · exact .inl h
          · exact .inr (by rw [List.mem_singleton.mp h]; exact List.mem_cons_self)
      · exact .inr (List.mem_cons_of_mem _ h)
  exact (this xs [] h).elim (fun z => by cases z) id
end LW

set_option Elab.async false
set_option linter.all false
set_option maxRecDepth 100000
set_option maxHeartbeats 4000000
namespace LW
def d_law_ordered : MP.Df := ⟨"", "_law_ordered", 1, 1, false,
  (.cons (.ret (.fz (.srtK "_law_row_key" (.call "_law_distinct" (.cons (.var 0) .nil)))))
    .nil)⟩
def d_law_row_key : MP.Df := ⟨"", "_law_row_key", 1, 2, false,
  (.cons (.ret (.prim .tuple (.cons (.fz (.comp (.n 1) (.seq (.var 0)) .yes (.call "_law_key" (.cons (.var 1) .nil)))) .nil)))
    .nil)⟩
def d_law_distinct : MP.Df := ⟨"", "_law_distinct", 1, 3, false,
  (.cons (.asg 1 (.own (.disp .nil)))
    (.cons (.for_ false (.n 2) (.seq (.var 0)) (.cons (.ifs (.cmp .notin (.var 2) (.var 1)) (.cons (.ex (.bm .append (.var 1) (.cons (.var 2) .nil)))
    .nil) .nil)
    .nil))
    (.cons (.ret (.frz (.var 1)))
    .nil)))⟩
def d_row_key : MP.Df := ⟨"", "row_key", 1, 2, false,
  (.cons (.ret (.prim .tuple (.cons (.fz (.comp (.n 1) (.seq (.var 0)) .yes (.call "value_key" (.cons (.var 1) .nil)))) .nil)))
    .nil)⟩
end LW

set_option Elab.async false
set_option autoImplicit false
set_option linter.all false
set_option maxRecDepth 100000
set_option maxHeartbeats 4000000
/-! MY2: rows, in order, each once; of any program. -/
namespace LW
open MP
section
variable {P : Pg} {n0 : Nat} {S : St} {Q : Vl → St → Prop}
theorem vkeyG (hV : P.at_ "" "value_key" = some d_value_key) (v : Vx) (K : Nat) (hK : 0 < K) (hQ : Q (.d (keyX v)) S) : wp (run P K n0 "" "value_key" [.d v.enc] S) Q := by
  obtain ⟨K, rfl⟩ : ∃ k, K = k + 1 := ⟨K - 1, by omega⟩
  refine wp_run_false hV (by decide) rfl rfl ?_
  unfold d_value_key startE
  rw [eSs_cons]
  cases v with
  | n => simp [isN_v]; (rw [eSs_cons]; simp [cap]); exact hQ
  | i x => simp [isN_v]; (rw [eSs_cons]; simp [isStr_v]); (rw [eSs_cons]; simp [cap, Vx.enc]); exact hQ
  | s x => simp [isN_v]; (rw [eSs_cons]; simp [isStr_v]); (rw [eSs_cons]; simp [cap, Vx.enc]); exact hQ
theorem lkeyG (hV : P.at_ "" "_law_key" = some d_law_key) (v : Vx) (K : Nat) (hK : 0 < K) (hQ : Q (.d (keyX v)) S) : wp (run P K n0 "" "_law_key" [.d v.enc] S) Q := by
  obtain ⟨K, rfl⟩ : ∃ k, K = k + 1 := ⟨K - 1, by omega⟩
  refine wp_run_false hV (by decide) rfl rfl ?_
  unfold d_law_key startE
  rw [eSs_cons]
  cases v with
  | n => simp [isN_v]; (rw [eSs_cons]; simp [cap]); exact hQ
  | i x => simp [isN_v]; (rw [eSs_cons]; simp [isStr_v]); (rw [eSs_cons]; simp [cap, Vx.enc]); exact hQ
  | s x => simp [isN_v]; (rw [eSs_cons]; simp [isStr_v]); (rw [eSs_cons]; simp [cap, Vx.enc]); exact hQ
theorem enc_inj (a b : Vx) : MP.D.eq a.enc b.enc = decide (a = b) := by
  cases a <;> cases b <;> simp [Vx.enc, D.eq] <;> rfl
theorem encs_eq : ∀ a b : List Vx, D.eqs (a.map Vx.enc) (b.map Vx.enc) = decide (a = b)
  | [], [] => by simp [D.eqs]
  | [], _ :: _ => by simp [D.eqs]
  | _ :: _, [] => by simp [D.eqs]
  | a :: as, b :: bs => by
    simp only [List.map_cons, D.eqs, enc_inj, encs_eq as bs, List.cons.injEq]
    rw [Bool.decide_and]
theorem row_eq (a b : List Vx) : MP.D.eq (rowE a) (rowE b) = decide (a = b) := by
  simp only [rowE, D.eq, encs_eq]
theorem encs_dep (l : List Vx) : D.deps (l.map Vx.enc) = 0 := by
  induction l with
  | nil => simp [D.deps]
  | cons a l ih =>
    simp only [List.map_cons, D.deps, ih]
    cases a <;> rfl
theorem row_dep (r : List Vx) : (rowE r).dep = 1 := by simp only [rowE, D.dep, encs_dep]
theorem distinctG {α : Type} [DecidableEq α] (hD : P.at_ "" "_law_distinct" = some d_law_distinct) (enc : α → D) (heq : ∀ a b, MP.D.eq (enc a) (enc b) = decide (a = b)) (hd : ∀ a, (enc a).dep ≤ 50) {xs : List α} (hl : xs.length ≤ 1000) (K : Nat) (hK : 0 < K) (hQ : Q (.d (.lst ((distL xs).map enc))) S) :
    wp (run P K n0 "" "_law_distinct" [.d (.lst (xs.map enc))] S) Q := by
  obtain ⟨K, rfl⟩ : ∃ k, K = k + 1 := ⟨K - 1, by omega⟩
  refine wp_run_false (d := d_law_distinct) hD (by decide) rfl rfl ?_
  unfold d_law_distinct startE
  (rw [eSs_cons]; simp)
  rw [eSs_cons]
  simp only [eS_for, eI_seq, eE_var, List.getElem?_cons_succ, List.getElem?_cons_zero, ok_bind, ok_go]
  let I : List α → Env → St → Prop := fun pre G S' => ∃ g2, G = [some (.d (.lst (xs.map enc))), some (.p S.length), g2] ∧ S' = S ++ [.lst ((distL pre).map enc)]
  refine wq_pre enc xs I ⟨none, rfl, rfl⟩ ?_ ?_
  · rintro pre x post G S' hp ⟨g2, rfl, rfl⟩
    have hpl : (distL pre).length ≤ 1000 := by
      have h1 := distL_len pre
      have h2 := congrArg List.length hp
      simp at h2
      omega
    have hdep : D.deps ((distL pre).map enc) ≤ 60 := by
      have : ∀ l : List α, D.deps (l.map enc) ≤ 50 := fun l => by
        induction l with
        | nil => simp [D.deps]
        | cons a l ih =>
          simp only [List.map_cons, D.deps]
          have := hd a
          omega
      have := this (distL pre)
      omega
    have hin : cmpV .notin (S ++ [Cell.lst ((distL pre).map enc)]) (.d (enc x)) (.p S.length) = some (!decide (x ∈ distL pre)) := by
      have h0 : inV (S ++ [Cell.lst ((distL pre).map enc)]) (.d (enc x)) (.p S.length) = some (decide (x ∈ distL pre)) := by
        simp only [inV, get_new, inD]
        have := hd x
        rw [if_pos (by rw [Bool.or_eq_true, decide_eq_true_eq]; exact .inr ⟨by omega, hdep⟩)]
        congr 1
        rw [List.any_map]
        have : ∀ l : List α, l.any ((fun y => MP.D.eq y (enc x)) ∘ enc) = decide (x ∈ l) := fun l => by
          induction l with
          | nil => rfl
          | cons a l ih =>
            rw [List.any_cons, ih]
            simp only [Function.comp, heq, List.mem_cons]
            by_cases z : a = x
            · simp [z]
            · simp [z, Ne.symm z]
        exact this _
      simp only [cmpV, h0, Option.map_some]
    unfold turnF
    simp only [Tg.set]
    rw [eSs_cons]
    simp [hin, distL_snoc]
    by_cases hx : x ∈ distL pre
    · simp [hx]
      exact ⟨_, rfl, by rw [distL_snoc, if_pos hx]⟩
    · simp [hx]
      rw [eSs_cons]
      have hcp : (distL pre).length < cap := by show _ < 1000000; omega
      simp [isLst, get_new, bmV, hcp, set_new]
      exact ⟨_, rfl, by rw [distL_snoc, if_neg hx]; simp⟩
  · rintro G S' ⟨g2, rfl, rfl⟩
    simp only [on_nx]
    rw [eSs_cons]
    simp [frzV, get_new, set_new]
    exact hQ
/-! ### rows in order -/
def rkey (r : List Vx) : D := .tup (r.map keyX)
def rlt (a b : List Vx) : Bool := MP.D.lt (rkey a) (rkey b)
theorem lrowkeyG (hR : P.at_ "" "_law_row_key" = some d_law_row_key) (hV : P.at_ "" "_law_key" = some d_law_key) {r : List Vx} (hl : r.length ≤ 1000) (K : Nat) (hK : 1 < K) (hQ : Q (.d (rkey r)) S) : wp (run P K n0 "" "_law_row_key" [.d (rowE r)] S) Q := by
  obtain ⟨K, rfl⟩ : ∃ k, K = k + 1 := ⟨K - 1, by omega⟩
  refine wp_run_false (d := d_law_row_key) hR (by decide) rfl rfl ?_
  unfold d_law_row_key startE rowE
  rw [eSs_cons]
  simp
  refine wp_map Vx.enc r keyX (by show _ < 1000000; omega) ?_ ?_
  · intro x Q' _ hq
    unfold turnC
    simp [Tg.set]
    refine lkeyG hV x K (by omega) ?_
    simpa using hq
  · have htp : primV .tuple S [.d (.lst (r.map keyX))] = some (rkey r) := rfl
    simp [htp]
    exact hQ
theorem rowkeyG (hR : P.at_ "" "row_key" = some d_row_key) (hV : P.at_ "" "value_key" = some d_value_key) {r : List Vx} (hl : r.length ≤ 1000) (K : Nat) (hK : 1 < K) (hQ : Q (.d (rkey r)) S) : wp (run P K n0 "" "row_key" [.d (rowE r)] S) Q := by
  obtain ⟨K, rfl⟩ : ∃ k, K = k + 1 := ⟨K - 1, by omega⟩
  refine wp_run_false (d := d_row_key) hR (by decide) rfl rfl ?_
  unfold d_row_key startE rowE
  rw [eSs_cons]
  simp
  refine wp_map Vx.enc r keyX (by show _ < 1000000; omega) ?_ ?_
  · intro x Q' _ hq
    unfold turnC
    simp [Tg.set]
    refine vkeyG hV x K (by omega) ?_
    simpa using hq
  · have htp : primV .tuple S [.d (.lst (r.map keyX))] = some (rkey r) := rfl
    simp [htp]
    exact hQ
theorem keys_alike : ∀ a b : List Vx, D.alikes (a.map keyX) (b.map keyX) = true
  | [], b => by cases b <;> rfl
  | _ :: _, [] => rfl
  | a :: as, b :: bs => by
    simp only [List.map_cons, D.alikes, key_alike, keys_alike as bs, Bool.and_self]
theorem rkey_dep (r : List Vx) : (rkey r).dep ≤ 60 := by
  have : ∀ l : List Vx, D.deps (l.map keyX) ≤ 1 := fun l => by
    induction l with
    | nil => simp [D.deps]
    | cons a l ih =>
      simp only [List.map_cons, D.deps]
      have : (keyX a).dep ≤ 1 := by cases a <;> simp [keyX, D.dep, D.deps]
      omega
  simp only [rkey, D.dep]
  have := this r
  omega
theorem okK {α : Type} (row : α → List Vx) (xs : List α) (hne : ∀ x ∈ xs, row x ≠ []) (hl : xs.length ≤ 1000000) : okKeys (xs.map fun x => rkey (row x)) = true := by
  unfold okKeys
  simp only [Bool.and_eq_true, Bool.or_eq_true, List.all_eq_true, decide_eq_true_eq, List.length_map]
  refine ⟨⟨.inl fun y hy => ?_, fun y hy => ?_⟩, hl⟩
  · obtain ⟨r, hm, rfl⟩ := List.mem_map.mp hy
    have hn := hne r hm
    cases hr : row r with
    | nil => exact absurd hr hn
    | cons a l => rfl
  · obtain ⟨r, _, rfl⟩ := List.mem_map.mp hy
    refine ⟨rkey_dep _, fun z hz => ?_⟩
    obtain ⟨r', _, rfl⟩ := List.mem_map.mp hz
    simp only [rkey, D.alike]
    exact keys_alike _ _
/-- things in the order of their rows -/
def byR {α : Type} (row : α → List Vx) (xs : List α) : List α := xs.mergeSort fun a b => !rlt (row b) (row a)
theorem byR_map {α : Type} (row : α → List Vx) (xs : List α) : (byR row xs).map row = byR id (xs.map row) := by
  unfold byR
  rw [← List.map_mergeSort (f := row) (r := fun a b => !rlt (row b) (row a)) (fun a _ b _ => rfl)]
theorem byR_perm {α : Type} (row : α → List Vx) (xs : List α) : (byR row xs).Perm xs := List.mergeSort_perm xs _
/-- sorted(xs, key = ..) -/
theorem sortedG {α : Type} {C : Cx} (g : String) (enc : α → D) (row : α → List Vx) (xs : List α) {S : St} {Q : List D → St → Prop} (hne : ∀ x ∈ xs, row x ≠ []) (hl : xs.length ≤ 1000000)
    (hs : ∀ x Q', x ∈ xs → Q' (.d (rkey (row x))) S → wp (C.call C.n0 "" g [.d (enc x)] S) Q') (he : Q ((byR row xs).map enc) S) :
    wp ((keysL (fun d S => C.call C.n0 "" g [.d d] S) [] (xs.map enc) S).nox.bind fun ks S => if okKeys ks then .ok (sortK (xs.map enc) ks) S else .no) Q := by
  rw [wp_bind, wp_nox]
  refine wp_keys enc (fun x => rkey (row x)) xs hs ?_
  rw [okK row xs hne hl, if_pos rfl, sortK_map]
  exact he
theorem orderedG (hO : P.at_ "" "_law_ordered" = some d_law_ordered) (hD : P.at_ "" "_law_distinct" = some d_law_distinct) (hR : P.at_ "" "_law_row_key" = some d_law_row_key) (hV : P.at_ "" "_law_key" = some d_law_key) {rows : List (List Vx)} (hr : ∀ r ∈ rows, r ≠ [] ∧ r.length ≤ 1000) (hl : rows.length ≤ 1000) (K : Nat) (hK : 3 ≤ K)
    (hQ : Q (.d (.lst ((byR id (distL rows)).map rowE))) S) : wp (run P K n0 "" "_law_ordered" [.d (.lst (rows.map rowE))] S) Q := by
  obtain ⟨K, rfl⟩ : ∃ k, K = k + 1 := ⟨K - 1, by omega⟩
  refine wp_run_false (d := d_law_ordered) hO (by decide) rfl rfl ?_
  unfold d_law_ordered startE
  rw [eSs_cons]
  simp
  refine distinctG hD rowE row_eq (fun r => by rw [row_dep]; omega) hl K (by omega) ?_
  have hdl := Nat.le_trans (distL_len rows) hl
  have hmem : ∀ r ∈ distL rows, r ≠ [] ∧ r.length ≤ 1000 := fun r hm => hr r (distL_mem hm)
  generalize distL rows = ds at hdl hmem hQ
  simp [dat]
  refine wp_keys rowE rkey ds (fun r Q2 hm h2 => lrowkeyG hR hV (hmem r hm).2 K (by omega) h2) ?_
  have hok := okK id ds (fun r hm => (hmem r hm).1) (by omega)
  simp only [id] at hok
  have hsk := sortK_map rowE rkey ds
  simp [hok, hsk]
  exact hQ
end
end LW

set_option Elab.async false
set_option linter.all false
set_option maxRecDepth 100000
set_option maxHeartbeats 4000000
namespace K64
open LW
def d_law : MP.Df := ⟨"", "law", 1, 20, false,
  (.cons (.asg 1 (.call "_law_draw" (.cons (.var 0) .nil)))
    (.cons (.asg 2 (.fz (.comp (.n 3) (.rng (.bin .add (.cst (.int 1)) (.call "_law_next" (.cons (.var 1) (.cons (.cst (.int 2)) .nil))))) .yes (.bin .add (.cst (.int 1)) (.call "_law_next" (.cons (.var 1) (.cons (.cst (.int 2)) .nil)))))))
    (.cons (.asg 4 (.call "_law_inputs" (.cons (.var 1) (.cons (.var 2) (.cons (.cst (.int 6)) .nil)))))
    (.cons (.ifs (.and_ (.cmp .gt (.prim .len (.cons (.var 4) .nil)) (.cst (.int 1))) (.e (.call "_law_next" (.cons (.var 1) (.cons (.cst (.int 2)) .nil))))) (.cons (.asgT [5, 6, 7] (.ix (.var 4) (.neg (.cst (.int 1)))))
    (.cons (.asgI (.var 4) (.neg (.cst (.int 1))) (.tup (.cons (.var 5) (.cons (.ix (.ix (.var 4) (.cst (.int 0))) (.cst (.int 1))) (.cons (.ix (.ix (.var 4) (.cst (.int 0))) (.cst (.int 2))) .nil)))))
    .nil)) .nil)
    (.cons (.frz 4)
    (.cons (.asg 8 (.make "Diagrams" .nil))
    (.cons (.asg 9 (.repr (.var 4)))
    (.cons (.for_ false (.n 6) (.rng (.prim .len (.cons (.var 2) .nil))) (.cons (.asg 10 (.fz (.comp (.n 11) (.seq (.var 4)) (.cmp .eq (.ix (.var 11) (.cst (.int 1))) (.var 6)) (.var 11))))
    (.cons (.asg 12 (.call "_law_ordered" (.cons (.fz (.comp (.t [5, 13, 7]) (.seq (.var 10)) .yes (.var 7))) .nil)))
    (.cons (.asg 14 (.call "entry_candidates" (.cons (.var 8) (.cons (.var 4) (.cons (.var 6) .nil)))))
    (.cons (.ifs (.or_ (.not_ (.e (.isin (.var 14) [.list]))) (.not_ (.e (.prim .all (.cons (.fz (.comp (.n 15) (.seq (.var 14)) .yes (.andE (.isin (.var 15) [.tuple]) (.cmp .eq (.prim .len (.cons (.var 15) .nil)) (.cst (.int 2)))))) .nil))))) (.cons (.ret (.cst (.bl false)))
    .nil) .nil)
    (.cons (.ifs (.not_ (.e (.call "_law_same" (.cons (.fz (.comp (.t [7, 16]) (.seq (.var 14)) .yes (.var 7))) (.cons (.var 12) .nil))))) (.cons (.ret (.cst (.bl false)))
    .nil) .nil)
    (.cons (.for_ false (.n 17) (.seq (.call "_law_subsets" (.cons (.fz (.comp (.t [5, 13, 7]) (.seq (.var 4)) .yes (.var 5))) .nil))) (.cons (.for_ false (.t [7, 16]) (.seq (.var 14)) (.cons (.asg 18 (.prim .any (.cons (.fz (.comp (.t [5, 13, 19]) (.seq (.var 10)) (.cmp .eq (.var 19) (.var 7)) (.cmp .in_ (.var 5) (.var 17)))) .nil)))
    (.cons (.ifs (.not_ (.e (.call "_law_same" (.cons (.meth (.var 8) "Diagrams" "holds" (.cons (.var 16) (.cons (.var 17) .nil))) (.cons (.var 18) .nil))))) (.cons (.ret (.cst (.bl false)))
    .nil) .nil)
    .nil)))
    .nil))
    (.cons (.for_ false (.t [7, 16]) (.seq (.var 14)) (.cons (.ifs (.cmp .ne (.call "condition_of" (.cons (.var 14) (.cons (.var 7) .nil))) (.var 16)) (.cons (.ret (.cst (.bl false)))
    .nil) .nil)
    .nil))
    (.cons (.ifs (.not_ (.e (.call "_law_same" (.cons (.call "condition_of" (.cons (.var 14) (.cons (.bin .mul (.tup (.cons (.cst (.int 9)) .nil)) (.ix (.var 2) (.var 6))) .nil))) (.cons (.cst (.int 0)) .nil))))) (.cons (.ret (.cst (.bl false)))
    .nil) .nil)
    .nil)))))))))
    (.cons (.ret (.cmp .eq (.repr (.var 4)) (.var 9)))
    .nil)))))))))⟩
def d_law_inputs : MP.Df := ⟨"", "_law_inputs", 3, 8, true,
  (.cons (.asg 3 (.own (.disp .nil)))
    (.cons (.asg 4 (.call "_law_next" (.cons (.var 0) (.cons (.cst (.int 3)) .nil))))
    (.cons (.for_ false (.n 5) (.rng (.call "_law_next" (.cons (.var 0) (.cons (.bin .add (.var 2) (.cst (.int 1))) .nil)))) (.cons (.asg 6 (.call "_law_next" (.cons (.var 0) (.cons (.prim .len (.cons (.var 1) .nil)) .nil))))
    (.cons (.ex (.bm .append (.var 3) (.cons (.tup (.cons (.var 4) (.cons (.var 6) (.cons (.prim .tuple (.cons (.fz (.comp (.n 7) (.rng (.ix (.var 1) (.var 6))) .yes (.call "_law_cell" (.cons (.var 0) .nil)))) .nil)) .nil)))) .nil)))
    (.cons (.asg 4 (.bin .add (.bin .add (.var 4) (.cst (.int 1))) (.bin .mul (.call "_law_next" (.cons (.var 0) (.cons (.cst (.int 2)) .nil))) (.call "_law_next" (.cons (.var 0) (.cons (.cst (.int 50)) .nil))))))
    .nil))))
    (.cons (.ret (.var 3))
    .nil))))⟩
def d_entry_candidates : MP.Df := ⟨"", "entry_candidates", 3, 7, false,
  (.cons (.asg 3 (.dnew .n))
    (.cons (.for_ false (.t [4, 5, 6]) (.seq (.var 1)) (.cons (.ifs (.cmp .eq (.var 5) (.var 2)) (.cons (.asgI (.var 3) (.var 6) (.meth (.var 0) "Diagrams" "disjunction" (.cons (.dget (.var 3) (.var 6) (.gint "NEVER" 0)) (.cons (.meth (.var 0) "Diagrams" "there" (.cons (.var 4) .nil)) .nil))))
    .nil) .nil)
    .nil))
    (.cons (.ret (.fz (.srtK "by_row" (.fz (.items (.var 3))))))
    .nil)))⟩
def d_condition_of : MP.Df := ⟨"", "condition_of", 2, 4, false,
  (.cons (.for_ false (.t [2, 3]) (.seq (.var 0)) (.cons (.ifs (.cmp .eq (.var 2) (.var 1)) (.cons (.ret (.var 3))
    .nil) .nil)
    .nil))
    (.cons (.ret (.gint "NEVER" 0))
    .nil))⟩
def d_law_cell : MP.Df := ⟨"", "_law_cell", 1, 2, false,
  (.cons (.asg 1 (.call "_law_next" (.cons (.var 0) (.cons (.cst (.int 7)) .nil))))
    (.cons (.ifs (.cmp .eq (.var 1) (.cst (.int 0))) (.cons (.ret (.cst .non))
    .nil) .nil)
    (.cons (.ret (.ite (.cmp .gt (.var 1) (.cst (.int 4))) (.ix (.cst (.str "ab")) (.bin .sub (.var 1) (.cst (.int 5)))) (.bin .sub (.var 1) (.cst (.int 1)))))
    .nil)))⟩
def d_by_row : MP.Df := ⟨"", "by_row", 1, 1, false,
  (.cons (.ret (.call "row_key" (.cons (.ix (.var 0) (.cst (.int 0))) .nil)))
    .nil)⟩
def tabsL : List (String × List (String × String)) := [("LEAVES", [("and", "and_leaf"), ("or", "or_leaf"), ("differ", "differ_leaf")])]
def prog : MP.Pg := ⟨[d_law_draw, d_law_next, d_law_inputs, d_Diagrams_init0, d_law_ordered, d_entry_candidates, d_law_same, d_law_subsets, d_Diagrams_holds, d_condition_of, d_law_cell, d_law_row_key, d_law_distinct, d_Diagrams_disjunction, d_Diagrams_there, d_by_row, d_law_key, d_Diagrams_combined, d_Diagrams_make, d_row_key, d_and_leaf, d_or_leaf, d_differ_leaf, d_Diagrams_split, d_value_key], ["Diagrams"], fun x => tabsL.lookup x⟩
end K64

set_option Elab.async false
set_option autoImplicit false
set_option linter.all false
set_option maxRecDepth 100000
set_option maxHeartbeats 4000000
/-! K64P: the law of the candidates of tables. -/
namespace K64
open MP LW
theorem pc : PC prog := ⟨rfl, rfl, rfl, rfl, rfl, rfl, rfl⟩
theorem cell_ok64 : CellOk prog := by
  intro d K n0 hK S c hd hc Q hQ
  obtain ⟨K, rfl⟩ : ∃ k, K = k + 1 := ⟨K - 1, by omega⟩
  have hlt := lt_of hd
  refine wp_run_false (d := d_law_cell) rfl (by decide) rfl rfl ?_
  unfold d_law_cell startE
  (rw [eSs_cons]; simp)
  refine next_K rfl (by omega) hd hc (by decide) (by decide) fun f c1 f0 f1 hc1 => ?_
  have hf : f = 0 ∨ f = 1 ∨ f = 2 ∨ f = 3 ∨ f = 4 ∨ f = 5 ∨ f = 6 := by omega
  rcases hf with rfl | rfl | rfl | rfl | rfl | rfl | rfl
  · (rw [eSs_cons]; simp)
    (rw [eSs_cons]; simp [take_set])
    exact hQ .n _ trivial hc1
  · (rw [eSs_cons]; simp)
    (rw [eSs_cons]; simp [take_set])
    exact hQ (.i 0) _ (by simp [Vx.cell]) hc1
  · (rw [eSs_cons]; simp)
    (rw [eSs_cons]; simp [take_set])
    exact hQ (.i 1) _ (by simp [Vx.cell]) hc1
  · (rw [eSs_cons]; simp)
    (rw [eSs_cons]; simp [take_set])
    exact hQ (.i 2) _ (by simp [Vx.cell]) hc1
  · (rw [eSs_cons]; simp)
    (rw [eSs_cons]; simp [take_set])
    exact hQ (.i 3) _ (by simp [Vx.cell]) hc1
  · (rw [eSs_cons]; simp)
    have e : ∀ S', ixV S' (.d (.str "ab")) (.d (.int 0)) = some (.d (.str "a")) := fun _ => rfl
    (rw [eSs_cons]; simp [take_set, e])
    exact hQ (.s "a") _ (by simp [Vx.cell]) hc1
  · (rw [eSs_cons]; simp)
    have e : ∀ S', ixV S' (.d (.str "ab")) (.d (.int 1)) = some (.d (.str "b")) := fun _ => rfl
    (rw [eSs_cons]; simp [take_set, e])
    exact hQ (.s "b") _ (by simp [Vx.cell]) hc1
/-- an input row -/
structure En where
  n : Int
  t : Nat
  r : List Vx
def En.enc (e : En) : D := .tup [.int e.n, .int (e.t : Int), rowE e.r]
structure En.Ok (e : En) : Prop where
  n0 : 0 ≤ e.n
  n1 : e.n < 1000
  t1 : e.t < 10
  r0 : e.r ≠ []
  r1 : e.r.length ≤ 2
  cl : ∀ v ∈ e.r, v.cell
structure InOk (l : List En) : Prop where
  len : l.length ≤ 6
  asc : (l.map (·.n)).Pairwise (· < ·)
  ok : ∀ e ∈ l, e.Ok
/-- a row is drawn -/
theorem row_run {d j : Nat} {w : Nat} (hw : w ≤ 2) {K n0 : Nat} (hK : 1 < K) {G : Env} {S : St} {c : Cell} (hd : S[d]? = some c) (hc : IsDr c) (hG : G[0]? = some (some (.p d))) (hj : j ≠ 0) {Q : List D → St → Prop}
    (hQ : ∀ (r : List Vx) c', r.length = w → (∀ v ∈ r, v.cell) → IsDr c' → Q (r.map Vx.enc) (S.set d c')) :
    wp (compL (turnC (cx prog K n0) (.n j) .yes (.call "_law_cell" (.cons (.var 0) .nil)) G) [] ((List.range w).map encI) S) Q := by
  have hlt := lt_of hd
  let E : List Nat → List D → St → Prop := fun pre acc S' => ∃ (r : List Vx) (c' : Cell), acc = r.map Vx.enc ∧ r.length = pre.length ∧ (∀ v ∈ r, v.cell) ∧ S' = S.set d c' ∧ IsDr c'
  refine wp_pre encI (List.range w) E ⟨[], c, rfl, rfl, by simp, by rw [set_same hd], hc⟩ ?_ ?_
  · rintro pre x post acc S' hp ⟨r, c', rfl, hl, hv, rfl, hc'⟩
    have hpl : pre.length < 2 := by
      have := congrArg List.length hp
      simp at this
      omega
    unfold turnC
    have hg : (G.set j (some (.d (encI x))))[0]? = some (some (.p d)) := by rw [List.getElem?_set_ne hj]; exact hG
    simp [Tg.set, hg]
    refine cell_ok64 (by omega) (c := c') (get_set hlt) hc' fun v c2 hv2 hc2 => ?_
    exact ⟨by show _ < 1000000; omega, r ++ [v], c2, by simp, by simp [hl], fun y hy => by
      rcases List.mem_append.mp hy with hy | hy
      · exact hv y hy
      · rw [List.mem_singleton.mp hy]; exact hv2, by rw [List.set_set], hc2⟩
  · rintro acc S' ⟨r, c', rfl, hl, hv, rfl, hc'⟩
    exact hQ r c' (by simpa using hl) hv hc'
theorem inputs_run {ws : List Nat} (h0 : ws ≠ []) (hwl : ws.length ≤ 2) (hws : ∀ w ∈ ws, 1 ≤ w ∧ w ≤ 2) {d K n0 : Nat} (hK : 3 ≤ K) {S : St} {c : Cell} (hd : S[d]? = some c) (hc : IsDr c) {Q : Vl → St → Prop}
    (hQ : ∀ (l : List En) c', InOk l → IsDr c' → Q (.p S.length) (S.set d c' ++ [.lst (l.map En.enc)])) : wp (run prog K n0 "" "_law_inputs" [.p d, .d (.lst (ws.map encI)), .d (.int 6)] S) Q := by
  obtain ⟨K, rfl⟩ : ∃ k, K = k + 1 := ⟨K - 1, by omega⟩
  have hlt := lt_of hd
  have hwpos : 0 < ws.length := List.length_pos_iff.mpr h0
  refine wp_run_true (d := d_law_inputs) rfl (by decide) rfl rfl ?_
  unfold d_law_inputs startE
  have hlen : ∀ z, (S.set d z).length = S.length := fun z => List.length_set
  rw [eSs_cons]
  simp [cap]
  rw [eSs_cons]
  simp
  refine next_K rfl (by omega) (c := c) (by rw [get_app hlt]; exact hd) hc (by decide) (by decide) fun r c1 r0 r1 hc1 => ?_
  rw [set_app hlt]
  rw [eSs_cons]
  simp
  refine next_K rfl (by omega) (c := c1) (by rw [get_app (by rw [hlen]; exact hlt)]; exact get_set hlt) hc1 (by decide) (by decide) fun m c2 m0 m1 hc2 => ?_
  rw [set_app (by rw [hlen]; exact hlt), List.set_set]
  have hcap : (cap : Int) = 1000000 := rfl
  simp
  refine ⟨⟨by omega, by omega⟩, ?_⟩
  let I : Nat → Env → St → Prop := fun i G S' => ∃ (l : List En) (c' : Cell) (num : Int) (g5 g6 g7 : Option Vl), G = [some (.p d), some (.d (.lst (ws.map encI))), some (.d (.int 6)), some (.p S.length), some (.d (.int num)), g5, g6, g7] ∧ S' = S.set d c' ++ [.lst (l.map En.enc)] ∧ IsDr c' ∧ l.length = i ∧ (l.map (·.n)).Pairwise (· < ·) ∧ (∀ e ∈ l, e.Ok) ∧ (∀ e ∈ l, e.n < num) ∧ 0 ≤ num ∧ num ≤ 2 + 50 * (i : Int)
  refine wq_for I ⟨[], c2, r, none, none, none, rfl, rfl, hc2, rfl, by simp, by simp, by simp, r0, by omega⟩ ?_ ?_
  · rintro i y G S' hy ⟨l, c', num, g5, g6, g7, rfl, rfl, hc', hl, ha, hok, hlt2, n0', n1'⟩
    have hi : i < m.toNat := by
      have := (List.getElem?_eq_some_iff.mp hy).1
      simpa using this
    have hi6 : i < 6 := by omega
    unfold turnF
    simp [Tg.set]
    rw [eSs_cons]
    simp [hcap]
    have hwl2 : (ws.length : Int) < 100000000000000000000000000000 := by omega
    refine next_K rfl (by omega) (c := c') (by rw [get_app (by rw [hlen]; exact hlt)]; exact get_set hlt) hc' (by omega) hwl2 fun tb c3 t0 t1 hc3 => ?_
    rw [set_app (by rw [hlen]; exact hlt), List.set_set]
    obtain ⟨k, rfl⟩ : ∃ k : Nat, tb = (k : Int) := ⟨tb.toNat, by omega⟩
    have hk : k < ws.length := by omega
    have hwk := hws (ws[k]) (List.getElem_mem hk)
    have hix : ∀ S', ixV S' (.d (.lst (ws.map encI))) (.d (.int (k : Nat))) = some (.d (.int ((ws[k] : Nat) : Int))) := fun S' => by
      rw [ix_l, atI_lt (by omega) (by simp only [List.length_map]; omega), Int.toNat_natCast, List.getElem?_map, List.getElem?_eq_getElem hk]
      rfl
    rw [eSs_cons]
    have hnew : ∀ z x, (S.set d z ++ [Cell.lst x])[S.length]? = some (.lst x) := fun z x => by rw [← hlen z]; exact get_new
    have hnew2 : ∀ z x y, (S.set d z ++ [Cell.lst x]).set S.length y = S.set d z ++ [y] := fun z x y => by rw [← hlen z]; exact set_new
    simp [isLst, hnew, hix]
    refine ⟨Nat.le_trans hwk.2 (by decide), ?_⟩
    have hrg : ∀ w : Nat, ((List.range w).map fun i => D.int ((i : Nat) : Int)) = (List.range w).map encI := fun _ => rfl
    simp only [hrg]
    refine row_run (j := 7) (d := d) hwk.2 (by omega) (c := c3) (by rw [get_app (by rw [hlen]; exact hlt)]; exact get_set hlt) hc3 rfl (by decide) fun rw' c4 hrl hrc hc4 => ?_
    rw [set_app (by rw [hlen]; exact hlt), List.set_set]
    have htp : ∀ S', primV .tuple S' [.d (.lst (rw'.map Vx.enc))] = some (rowE rw') := fun _ => rfl
    have hcp : (l.map En.enc).length < cap := by
      rw [List.length_map]
      show _ < 1000000
      omega
    simp only [List.length_map] at hcp
    simp [htp, bmV, hnew, hcp, hnew2, hcap]
    refine ⟨by decide, ?_⟩
    rw [eSs_cons]
    simp
    refine next_K rfl (by omega) (c := c4) (by rw [get_app (by rw [hlen]; exact hlt)]; exact get_set hlt) hc4 (by decide) (by decide) fun u c5 u0 u1 hc5 => ?_
    rw [set_app (by rw [hlen]; exact hlt), List.set_set]
    refine next_K rfl (by omega) (c := c5) (by rw [get_app (by rw [hlen]; exact hlt)]; exact get_set hlt) hc5 (by decide) (by decide) fun v c6 v0 v1 hc6 => ?_
    rw [set_app (by rw [hlen]; exact hlt), List.set_set]
    simp [binD_mul1 (show (-18446744073709551616 : Int) < u by omega) (show u < 18446744073709551616 by omega)]
    have huv : 0 ≤ u * v := Int.mul_nonneg u0 v0
    have huv2 : u * v ≤ 49 := by
      have hu : u = 0 ∨ u = 1 := by omega
      rcases hu with rfl | rfl <;> omega
    refine ⟨l ++ [⟨num, k, rw'⟩], c6, _, _, _, _, rfl, by simp [En.enc], hc6, by simp [hl], ?_, ?_, ?_, by omega, by omega⟩
    · rw [List.map_append, List.pairwise_append]
      refine ⟨ha, List.pairwise_singleton _ _, fun x hx y hy => ?_⟩
      obtain ⟨e, he, rfl⟩ := List.mem_map.mp hx
      obtain ⟨e2, he2, rfl⟩ := List.mem_map.mp hy
      rw [List.mem_singleton.mp he2]
      exact hlt2 e he
    · intro e he
      rcases List.mem_append.mp he with he | he
      · exact hok e he
      · rw [List.mem_singleton.mp he]
        exact ⟨n0', by show num < 1000; omega, by show k < 10; omega, by intro z; have z : rw' = [] := z; rw [z] at hrl; simp at hrl; omega, by show rw'.length ≤ 2; omega, hrc⟩
    · intro e he
      rcases List.mem_append.mp he with he | he
      · have := hlt2 e he
        omega
      · rw [List.mem_singleton.mp he]
        show num < _
        omega
  · rintro G S' ⟨l, c', num, g5, g6, g7, rfl, rfl, hc', hl, ha, hok, hlt2, n0', n1'⟩
    simp
    rw [eSs_cons]
    simp
    simp at hl
    exact hQ l c' ⟨by omega, ha, hok⟩ hc'
/-! ### the candidates -/
theorem rev_indL {α : Type} {C : List α → Prop} (h0 : C []) (hs : ∀ l e, C l → C (l ++ [e])) : ∀ l, C l := by
  intro l
  have : ∀ l : List α, C l.reverse := fun l => by
    induction l with
    | nil => exact h0
    | cons a l ih =>
      rw [List.reverse_cons]
      exact hs _ _ ih
  have := this l.reverse
  rwa [List.reverse_reverse] at this
/-- the rows of a table -/
def rowsT (tb : Nat) (l : List En) : List (List Vx) := (l.filter fun e => decide (e.t = tb)).map (·.r)
def fdR (cf : List Vx → Nat) (L : List (List Vx)) : List (D × Vl) := L.map fun r => (rowE r, Vl.d (.int ((cf r : Nat) : Int)))
theorem fdR_any (cf : List Vx → Nat) (r : List Vx) : ∀ L : List (List Vx), ((fdR cf L).any fun q => MP.D.eq q.1 (rowE r)) = decide (r ∈ L)
  | [] => rfl
  | a :: L => by
    have ih := fdR_any cf r L
    unfold fdR at ih ⊢
    rw [List.map_cons, List.any_cons, ih, row_eq]
    simp only [List.mem_cons]
    by_cases z : a = r
    · simp [z]
    · simp [z, Ne.symm z]
theorem fdR_look (cf : List Vx → Nat) (r : List Vx) : ∀ L : List (List Vx), look (fdR cf L) (rowE r) = if r ∈ L then some (.d (.int ((cf r : Nat) : Int))) else none
  | [] => rfl
  | a :: L => by
    have ih := fdR_look cf r L
    unfold fdR look at ih ⊢
    simp only [List.map_cons, List.find?_cons, row_eq]
    by_cases z : a = r
    · simp [z]
    · simp only [z, decide_false]
      rw [ih]
      simp [Ne.symm z]
theorem fdR_put (cf : List Vx → Nat) (r : List Vx) (c : Nat) (L : List (List Vx)) : put (fdR cf L) (rowE r) (.d (.int ((c : Nat) : Int))) = fdR (fun x => if x = r then c else cf x) (if r ∈ L then L else L ++ [r]) := by
  unfold put
  rw [fdR_any]
  by_cases h : r ∈ L
  · simp only [h, decide_true, if_true]
    unfold fdR
    rw [List.map_map]
    refine List.map_congr_left fun x _ => ?_
    simp only [Function.comp, row_eq]
    by_cases z : x = r <;> simp [z]
  · simp only [h, decide_false, Bool.false_eq_true, if_false]
    unfold fdR
    rw [List.map_append]
    congr 1
    · refine List.map_congr_left fun x hx => ?_
      have : x ≠ r := fun z => h (by rw [← z]; exact hx)
      simp [this]
    · simp
theorem encs_nk : ∀ r : List Vx, D.nks (r.map Vx.enc) = true
  | [] => rfl
  | v :: r => by
    simp only [List.map_cons, D.nks, encs_nk r]
    cases v <;> rfl
theorem row_ok (r : List Vx) : DK.ok .n (rowE r) = true := by
  simp only [rowE, DK.ok, encs_nk, encs_dep]
  rfl
theorem rowsT_snoc (tb : Nat) (l : List En) (e : En) : rowsT tb (l ++ [e]) = if e.t = tb then rowsT tb l ++ [e.r] else rowsT tb l := by
  unfold rowsT
  rw [List.filter_append, List.map_append]
  by_cases h : e.t = tb <;> simp [h]
/-- is there one of the table's with this row -/
def hasR (tb : Nat) (l : List En) (r : List Vx) (p : Int → Bool) : Bool := l.any fun e => decide (e.t = tb) && decide (e.r = r) && p e.n
theorem byrow_run (r : List Vx) (hl : r.length ≤ 1000) (c : Nat) {K n0 : Nat} (hK : 3 ≤ K) {S : St} {Q : Vl → St → Prop} (hQ : Q (.d (rkey r)) S) : wp (run prog K n0 "" "by_row" [.d (.tup [rowE r, .int ((c : Nat) : Int)])] S) Q := by
  obtain ⟨K, rfl⟩ : ∃ k, K = k + 1 := ⟨K - 1, by omega⟩
  refine wp_run_false (d := d_by_row) rfl (by decide) rfl rfl ?_
  unfold d_by_row startE
  rw [eSs_cons]
  have e0 : atI [rowE r, D.int ((c : Nat) : Int)] 0 = some (rowE r) := rfl
  simp [e0]
  refine rowkeyG rfl rfl hl K (by omega) ?_
  simpa using hQ
section
variable {es : List Int} {N : List Nd} {R : List (D × Vl)} {S : St} {q : Q4}
structure CandOk (es : List Int) (N : List Nd) (tb : Nat) (l : List En) (N' : List Nd) (cf : List Vx → Nat) : Prop where
  lt : ∀ r ∈ rowsT tb l, cf r < N'.length + 2
  sm : ∀ r ∈ rowsT tb l, ∀ p, sem N' p (cf r) = hasR tb l r p
theorem up_app {T : St} {M : List Nd} {R2 : List (D × Vl)} (h : Has S q N R) : up (S ++ T) q M R2 = up S q M R2 ++ T := by
  unfold up
  rw [set_app (lt_of h.i), set_app (by simpa using lt_of h.j), set_app (by simpa using lt_of h.l)]
theorem cand_run (wf : WF es N) (rr : RR N R) (h6 : es.length ≤ 6) (tb : Nat) {l : List En} (hl : l.length ≤ 6) (hn : ∀ e ∈ l, e.n ∈ es) (hok : ∀ e ∈ l, e.Ok) (hN : N.length ≤ 500000) (hR : R.length ≤ 500000) {K n0 : Nat} (hK : 30 ≤ K) (h : Has S q N R) {Q : Vl → St → Prop}
    (hQ : ∀ N' R' cf, Ext N N' → WF es N' → RR N' R' → N'.length ≤ N.length + 1000 → R'.length ≤ R.length + 1000 → CandOk es N tb l N' cf → Q (.d (.lst ((byR id (distL (rowsT tb l))).map fun r => D.tup [rowE r, .int ((cf r : Nat) : Int)]))) (up S q N' R')) :
    wp (run prog K n0 "" "entry_candidates" [.p q.s, .d (.lst (l.map En.enc)), .d (.int (tb : Nat))] S) Q := by
  obtain ⟨K, rfl⟩ : ∃ k, K = k + 1 := ⟨K - 1, by omega⟩
  refine wp_run_false (d := d_entry_candidates) rfl (by decide) rfl rfl ?_
  unfold d_entry_candidates startE
  rw [eSs_cons]
  simp
  rw [eSs_cons]
  simp
  let I : List En → Env → St → Prop := fun pre G S' => ∃ (M : List Nd) (R' : List (D × Vl)) (cf : List Vx → Nat) (g4 g5 g6 : Option Vl), G = [some (.p q.s), some (.d (.lst (l.map En.enc))), some (.d (.int (tb : Nat))), some (.p S.length), g4, g5, g6] ∧ S' = up S q M R' ++ [.dic .n (fdR cf (distL (rowsT tb pre)))] ∧ Ext N M ∧ WF es M ∧ RR M R' ∧ M.length ≤ N.length + 100 * pre.length ∧ R'.length ≤ R.length + 100 * pre.length ∧ CandOk es N tb pre M cf
  refine wq_pre En.enc l I ⟨N, R, fun _ => 0, none, none, none, rfl, by rw [up_same h]; rfl, Ext.refl, wf, rr, by simp, by simp, ⟨fun r hr => by simp [rowsT] at hr, fun r hr => by simp [rowsT] at hr⟩⟩ ?_ ?_
  · rintro pre e post G S' hp ⟨M, R', cf, g4, g5, g6, rfl, rfl, xe, wm, rm, lM, lR, co⟩
    have hme : e ∈ l := by rw [hp]; simp
    have hpl : pre.length < 6 := by
      have := congrArg List.length hp
      simp at this
      omega
    have hke : e.n ∈ es := hn e hme
    unfold turnF
    simp [Tg.set, En.enc, setsD]
    rw [eSs_cons]
    simp
    by_cases ht : e.t = tb
    · have ht2 : ((e.t : Nat) : Int) = (tb : Nat) := by rw [ht]
      simp [ht]
      rw [eSs_cons]
      have hrd : rowsT tb (pre ++ [e]) = rowsT tb pre ++ [e.r] := by rw [rowsT_snoc, if_pos ht]
      have hdk : (distL (rowsT tb pre)).length ≤ 6 := by
        have h1 := distL_len (rowsT tb pre)
        have h2 : (rowsT tb pre).length ≤ pre.length := by
          unfold rowsT
          rw [List.length_map]
          exact List.length_filter_le _ _
        omega
      have hnew : ∀ M' R2 F, (up S q M' R2 ++ [Cell.dic .n F])[S.length]? = some (.dic .n F) := fun M' R2 F => by rw [← up_len (S := S) (q := q) (N := M') (R := R2)]; exact get_new
      have hnew2 : ∀ M' R2 F z, (up S q M' R2 ++ [Cell.dic .n F]).set S.length z = up S q M' R2 ++ [z] := fun M' R2 F z => by rw [← up_len (S := S) (q := q) (N := M') (R := R2)]; exact set_new
      have HM : Has (up S q M R' ++ [Cell.dic .n (fdR cf (distL (rowsT tb pre)))]) q M R' := (h.up).app _
      have hid : isDic (up S q M R' ++ [Cell.dic .n (fdR cf (distL (rowsT tb pre)))]) (.p S.length) = true := by simp only [isDic, hnew]
      have hdg : dgetV (up S q M R' ++ [Cell.dic .n (fdR cf (distL (rowsT tb pre)))]) (.p S.length) (.d (rowE e.r)) (.d (.int 0)) = some (.d (.int (((if e.r ∈ distL (rowsT tb pre) then cf e.r else 0 : Nat) : Nat) : Int))) := by
        simp only [dgetV, hnew, row_ok, if_true, fdR_look]
        by_cases z : e.r ∈ distL (rowsT tb pre) <;> simp [z]
      generalize hc0 : (if e.r ∈ distL (rowsT tb pre) then cf e.r else 0 : Nat) = c0 at hdg
      have hc0lt : c0 < M.length + 2 := by
        rw [← hc0]
        split
        · rename_i hz
          exact co.lt _ (distL_mem hz)
        · omega
      have hdr : ∀ r, r ∈ distL (rowsT tb pre) ↔ r ∈ rowsT tb pre := fun r => by
        constructor
        · exact distL_mem
        · intro hr
          have : ∀ (xs : List (List Vx)) (y : List Vx), y ∈ xs → y ∈ distL xs := fun xs => by
            refine rev_indL (C := fun xs => ∀ y : List Vx, y ∈ xs → y ∈ distL xs) ?_ ?_ xs
            · intro y hy
              cases hy
            · intro xs x ih y hy
              rw [distL_snoc]
              rcases List.mem_append.mp hy with hy | hy
              · split
                · exact ih y hy
                · exact List.mem_append_left _ (ih y hy)
              · rw [List.mem_singleton] at hy
                subst hy
                split
                · assumption
                · simp
          exact this _ _ hr
      have hsem0 : ∀ p, sem M p c0 = hasR tb pre e.r p := fun p => by
        rw [← hc0]
        split
        · rename_i hz
          exact co.sm _ (distL_mem hz) p
        · rename_i hz
          rw [sem_0]
          unfold hasR
          symm
          rw [List.any_eq_false]
          intro e2 he2
          have : ¬ (e2.t = tb ∧ e2.r = e.r) := fun ⟨z1, z2⟩ => hz ((hdr _).mpr (by
            unfold rowsT
            exact List.mem_map.mpr ⟨e2, List.mem_filter.mpr ⟨he2, by simpa using z1⟩, z2⟩))
          by_cases z1 : e2.t = tb
          · by_cases z2 : e2.r = e.r
            · exact absurd ⟨z1, z2⟩ this
            · simp [z2]
          · simp [z1]
      simp [HM.meth, hid, hdg]
      refine there_runC rfl rfl (by omega) hke _ wm (by omega) HM fun M1 rt x1 wm1 l1 r1 s1 => ?_
      rw [up_app (h.up), up_up h]
      have H1 : Has (up S q M1 R' ++ [Cell.dic .n (fdR cf (distL (rowsT tb pre)))]) q M1 R' := (h.up).app _
      have y1 := x1.len
      refine disj_runC pc rfl (m := 6) (es := es) (by omega) _ wm1 (rm.ext x1 wm) (a := c0) (b := rt) (by omega) r1 (Nat.le_trans (rk_le _ _ _) h6) (Nat.le_trans (rk_le _ _ _) h6) (by omega) (by omega) H1 fun M2 R2 c2 z => ?_
      rw [up_app (h.up), up_up h]
      have lz := z.ln
      have lrz := z.lr
      have hlen : (fdR cf (distL (rowsT tb pre))).length < cap := by
        simp only [fdR, List.length_map]
        show _ < 1000000
        omega
      have hset : ∀ n0, setI n0 (up S q M2 R2 ++ [Cell.dic .n (fdR cf (distL (rowsT tb pre)))]) (.p S.length) (.d (rowE e.r)) (.d (.int (c2 : Nat))) = some (up S q M2 R2 ++ [Cell.dic .n (fdR (fun x => if x = e.r then c2 else cf x) (distL (rowsT tb (pre ++ [e]))))]) := fun n0 => by
        simp only [setI, hnew, row_ok, okW, hlen, decide_true, Bool.and_self, if_true, fdR_put, hnew2, hrd, distL_snoc]
        by_cases hx : e.r ∈ distL (rowsT tb pre) <;> simp [hx]
      simp [hset]
      have xz := z.ext
      have hsm2 : ∀ p, sem M2 p c2 = (hasR tb pre e.r p || p e.n) := fun p => by
        rw [z.jn.2.1 p]
        simp only [Op.fn]
        rw [sem_ext xz wm1 p rt r1, s1, sem_ext xz wm1 p c0 (by omega), sem_ext x1 wm p c0 hc0lt, hsem0]
      refine ⟨M2, R2, _, _, _, _, rfl, rfl, (xe.trans x1).trans xz, z.wf, z.rr, ?_, ?_, ⟨fun r hr => ?_, fun r hr p => ?_⟩⟩
      · simp only [List.length_append, List.length_singleton]
        omega
      · simp only [List.length_append, List.length_singleton]
        omega
      · split
        · exact z.jn.1
        · rename_i hne
          rw [hrd] at hr
          rcases List.mem_append.mp hr with hr | hr
          · have := co.lt r hr
            have := xz.len
            omega
          · exact absurd (List.mem_singleton.mp hr) hne
      · have hh : hasR tb (pre ++ [e]) r p = (hasR tb pre r p || (decide (e.r = r) && p e.n)) := by
          unfold hasR
          rw [List.any_append]
          simp [ht]
        rw [hh]
        by_cases hne : r = e.r
        · subst hne
          simp [hsm2]
        · rw [hrd] at hr
          rcases List.mem_append.mp hr with hr | hr
          · have hlt := co.lt r hr
            simp only [hne, if_false]
            rw [sem_ext xz wm1 p _ (by omega), sem_ext x1 wm p _ hlt, co.sm r hr]
            simp [Ne.symm hne]
          · exact absurd (List.mem_singleton.mp hr) hne
    · have ht2 : ¬ ((e.t : Nat) : Int) = (tb : Nat) := by omega
      rw [if_neg ht2]
      refine ⟨M, R', cf, _, _, _, rfl, ?_, xe, wm, rm, by rw [List.length_append]; omega, by rw [List.length_append]; omega, ⟨fun r hr => ?_, fun r hr p => ?_⟩⟩
      · rw [rowsT_snoc, if_neg ht]
      · rw [rowsT_snoc, if_neg ht] at hr
        exact co.lt r hr
      · rw [rowsT_snoc, if_neg ht] at hr
        rw [co.sm r hr]
        unfold hasR
        rw [List.any_append]
        simp [ht]
  · rintro G S' ⟨M, R', cf, g4, g5, g6, rfl, rfl, xe, wm, rm, lM, lR, co⟩
    simp only [on_nx]
    rw [eSs_cons]
    have hnew : (up S q M R' ++ [Cell.dic .n (fdR cf (distL (rowsT tb l)))])[S.length]? = some (.dic .n (fdR cf (distL (rowsT tb l)))) := by rw [← up_len (S := S) (q := q) (N := M) (R := R')]; exact get_new
    have hpd : pairsD (fdR cf (distL (rowsT tb l))) = some ((distL (rowsT tb l)).map fun r => D.tup [rowE r, .int ((cf r : Nat) : Int)]) := by
      generalize distL (rowsT tb l) = L
      induction L with
      | nil => rfl
      | cons a L ih =>
        unfold fdR at ih ⊢
        simp only [List.map_cons, pairsD, ih, Option.map_some]
    have tk : (up S q M R' ++ [Cell.dic .n (fdR cf (distL (rowsT tb l)))]).take S.length = up S q M R' := List.take_left' up_len
    simp [hnew, hpd, dat]
    have hmr : ∀ r ∈ distL (rowsT tb l), r ≠ [] ∧ r.length ≤ 2 := fun r hr => by
      have := distL_mem hr
      unfold rowsT at this
      obtain ⟨e, he, rfl⟩ := List.mem_map.mp this
      have o := hok e (List.mem_filter.mp he).1
      exact ⟨o.r0, o.r1⟩
    have hdl : (distL (rowsT tb l)).length ≤ 6 := by
      have h1 := distL_len (rowsT tb l)
      have h2 : (rowsT tb l).length ≤ l.length := by
        unfold rowsT
        rw [List.length_map]
        exact List.length_filter_le _ _
      omega
    refine wp_keys (fun r => D.tup [rowE r, .int ((cf r : Nat) : Int)]) rkey (distL (rowsT tb l)) (fun r Q2 hm h2 => byrow_run r (by have := (hmr r hm).2; omega) (cf r) (by omega) h2) ?_
    have ok := okK id (distL (rowsT tb l)) (fun r hm => (hmr r hm).1) (by omega)
    simp only [id] at ok
    have hsk := sortK_map (fun r => D.tup [rowE r, .int ((cf r : Nat) : Int)]) rkey (distL (rowsT tb l))
    simp [ok, hsk, tk]
    exact hQ M R' cf xe wm rm (by omega) (by omega) co
end
/-! ### condition_of -/
theorem cond_run {cf : List Vx → Nat} {L : List (List Vx)} (x : List Vx) {K n0 : Nat} (hK : 0 < K) {S : St} {Q : Vl → St → Prop} (hQ : Q (.d (.int (((if x ∈ L then cf x else 0 : Nat) : Nat) : Int))) S) :
    wp (run prog K n0 "" "condition_of" [.d (.lst (L.map fun r => D.tup [rowE r, .int ((cf r : Nat) : Int)])), .d (rowE x)] S) Q := by
  obtain ⟨K, rfl⟩ : ∃ k, K = k + 1 := ⟨K - 1, by omega⟩
  refine wp_run_false (d := d_condition_of) rfl (by decide) rfl rfl ?_
  unfold d_condition_of startE
  rw [eSs_cons]
  simp
  let I : List (List Vx) → Env → St → Prop := fun pre G S' => ∃ (g2 g3 : Option Vl), G = [some (.d (.lst (L.map fun r => D.tup [rowE r, .int ((cf r : Nat) : Int)]))), some (.d (rowE x)), g2, g3] ∧ S' = S ∧ x ∉ pre
  refine wq_pre (fun r => D.tup [rowE r, .int ((cf r : Nat) : Int)]) L I ⟨none, none, rfl, rfl, by simp⟩ ?_ ?_
  · rintro pre r post G S' hp ⟨g2, g3, rfl, rfl, hx⟩
    have he : cmpV .eq S' (.d (rowE r)) (.d (rowE x)) = some (decide (r = x)) := by
      show eqD (rowE r) (rowE x) = _
      unfold eqD
      rw [row_dep, row_dep, if_pos (by omega), row_eq]
    unfold turnF
    simp [Tg.set, setsD]
    rw [eSs_cons]
    simp [he]
    by_cases z : r = x
    · subst z
      simp
      rw [eSs_cons]
      have hm : r ∈ L := by rw [hp]; simp
      rw [if_pos hm] at hQ
      simpa using hQ
    · simp [z]
      exact ⟨_, _, rfl, rfl, by simp [hx, Ne.symm z]⟩
  · rintro G S' ⟨g2, g3, rfl, rfl, hx⟩
    simp
    rw [eSs_cons]
    rw [if_neg hx] at hQ
    simpa using hQ
/-! ### what is shown -/
theorem en_wt {e : En} (h : e.Ok) : e.enc.shw = true ∧ e.enc.wt ≤ 3000 ∧ e.enc.dep = 2 := by
  obtain ⟨a, b, c⟩ := row_wt (row := e.r) fun v hv => Vx.cell_bd (h.cl v hv)
  have l1 : ∀ x : Int, 0 ≤ x → x < 1000 → (D.int x).shw = true ∧ (D.int x).wt ≤ 20 := fun x h0 h1 => by
    have : x.natAbs.log2 < 13 := log2_lt (by omega) (by decide)
    simp only [D.shw, D.wt, Nat.blt_eq]
    omega
  obtain ⟨a1, b1⟩ := l1 e.n h.n0 h.n1
  obtain ⟨a2, b2⟩ := l1 (e.t : Int) (by omega) (by have := h.t1; omega)
  have := h.r1
  refine ⟨?_, ?_, ?_⟩
  · simp only [En.enc, rowE, D.shw, D.shws] at a1 a2 ⊢
    simp only [a1, a2, b, Bool.and_self]
  · simp only [En.enc, rowE, D.wt, D.wts] at b1 b2 ⊢
    omega
  · simp only [En.enc, rowE, D.dep, D.deps, c]
    rfl
theorem ens_wt : ∀ l : List En, (∀ e ∈ l, e.Ok) → D.shws (l.map En.enc) = true ∧ D.wts (l.map En.enc) ≤ 3002 * l.length ∧ D.deps (l.map En.enc) ≤ 2
  | [], _ => ⟨rfl, Nat.le_refl _, by simp [D.deps]⟩
  | e :: l, h => by
    obtain ⟨a, b, c⟩ := en_wt (h e List.mem_cons_self)
    obtain ⟨a2, b2, c2⟩ := ens_wt l fun x hx => h x (List.mem_cons_of_mem _ hx)
    refine ⟨?_, ?_, ?_⟩
    · simp only [List.map_cons, D.shws, a, a2, Bool.and_self]
    · simp only [List.map_cons, D.wts, List.length_cons]
      omega
    · simp only [List.map_cons, D.deps, c]
      omega
theorem shown_in {l : List En} (h : InOk l) (S : St) : reprV S (.d (.lst (l.map En.enc))) = some (.r (.lst (l.map En.enc))) := by
  obtain ⟨a, b, c⟩ := ens_wt l h.ok
  have := h.len
  refine repr_l (by simp only [D.shw]; exact a) (by simp only [D.dep]; omega) ?_
  simp only [D.wt]
  omega
/-! ### the law -/
theorem at_last {α : Type} (xs : List α) (y : α) (h : xs.length < 1000) : atI (xs ++ [y]) (-1) = some y := by
  unfold atI ixN
  rw [if_neg (by omega), if_pos (by rw [List.length_append, List.length_singleton]; omega), Option.bind_some]
  have : ((-1 : Int) + ((xs ++ [y]).length : Int)).toNat = xs.length := by
    rw [List.length_append, List.length_singleton]
    omega
  rw [this]
  simp
theorem ix_last (n : Nat) (h : 0 < n) : ixN n (-1) = some (n - 1) := by
  unfold ixN
  rw [if_neg (by omega), if_pos (by omega)]
  congr 1
  omega
theorem wI : ∀ l : List Int, wides (l.map .int) = true := fun l => by
  induction l with
  | nil => rfl
  | cons x l ih => simp only [List.map_cons, wides, wide, ih]; rfl
theorem wR (L : List (List Vx)) (h : ∀ r ∈ L, r.length ≤ 1000) : wides (L.map rowE) = true := by
  have w1 : ∀ r : List Vx, wides (r.map Vx.enc) = true := fun r => by
    induction r with
    | nil => rfl
    | cons v r ih =>
      simp only [List.map_cons, wides, ih]
      cases v <;> rfl
  induction L with
  | nil => rfl
  | cons r L ih =>
    have h1 := h r List.mem_cons_self
    simp only [List.map_cons, wides, ih fun x hx => h x (List.mem_cons_of_mem _ hx), rowE, wide, w1, List.length_map, Bool.and_true, decide_eq_true_eq]
    omega
theorem rowsT_mem {tb : Nat} {l : List En} {r : List Vx} (h : r ∈ rowsT tb l) : ∃ e ∈ l, e.t = tb ∧ e.r = r := by
  unfold rowsT at h
  obtain ⟨e, he, rfl⟩ := List.mem_map.mp h
  obtain ⟨h1, h2⟩ := List.mem_filter.mp he
  exact ⟨e, h1, by simpa using h2, rfl⟩
theorem law_true (ns : List Int) (h : ns.length ≤ 63) : ∃ S, runD prog 199 d_law [.s (ns.map .int)] [] = .ok (.d (.bl true)) S := by
  have key : wp (runD prog 199 d_law [.s (ns.map .int)] []) fun v _ => v = .d (.bl true) := by
    refine wp_runD rfl rfl ?_
    unfold d_law startE
    (rw [eSs_cons]; simp)
    refine draw_run rfl ns 199 _ (by decide) ?_
    rw [eSs_cons]
    simp
    refine next_K rfl (by decide) (c := drC ns 0 0 17) rfl ⟨ns, 0, 0, 17, rfl, by decide⟩ (by decide) (by decide) fun r0 c1 r00 r01 hc1 => ?_
    have hcap : (cap : Int) = 1000000 := rfl
    simp
    refine ⟨⟨by omega, by omega⟩, ?_⟩
    have hrg : ∀ w : Nat, ((List.range w).map fun i => D.int ((i : Nat) : Int)) = (List.range w).map encI := fun _ => rfl
    simp only [hrg]
    let E : List Nat → List D → St → Prop := fun pre acc S' => ∃ (ws : List Nat) (c' : Cell), acc = ws.map encI ∧ ws.length = pre.length ∧ (∀ w ∈ ws, 1 ≤ w ∧ w ≤ 2) ∧ S' = [c'] ∧ IsDr c'
    refine wp_pre encI (List.range (1 + r0).toNat) E ⟨[], c1, rfl, rfl, by simp, rfl, hc1⟩ ?_ ?_
    · rintro pre x post acc S' hp ⟨ws, c', rfl, hl, hw, rfl, hc'⟩
      have hpl : pre.length < 2 := by
        have := congrArg List.length hp
        simp at this
        omega
      unfold turnC
      simp [Tg.set]
      refine next_K rfl (by decide) (c := c') rfl hc' (by decide) (by decide) fun u c2 u0 u1 hc2 => ?_
      simp
      refine ⟨by show _ < 1000000; omega, ws ++ [(1 + u).toNat], c2, ?_, by simp [hl], fun w hw' => ?_, rfl, hc2⟩
      · have : ((1 + u).toNat : Int) = 1 + u := by omega
        simp [encI, this]
      · rcases List.mem_append.mp hw' with hw' | hw'
        · exact hw w hw'
        · rw [List.mem_singleton.mp hw']
          omega
    rintro acc S' ⟨ws, c2, rfl, hwl, hws, rfl, hc2⟩
    simp at hwl
    have hw0 : ws ≠ [] := fun z => by rw [z] at hwl; simp at hwl; omega
    have hw2 : ws.length ≤ 2 := by omega
    rw [eSs_cons]
    simp
    refine inputs_run hw0 hw2 hws (K := 199) (by decide) (c := c2) rfl hc2 fun l c3 hin hc3 => ?_
    have hin6 := hin.len
    rw [eSs_cons]
    have hS : ([c2].set 0 c3 ++ [Cell.lst (l.map En.enc)] : St) = [c3, Cell.lst (l.map En.enc)] := rfl
    have hS1 : ([c2] : St).length = 1 := rfl
    rw [hS, hS1]
    refine wq_mono (N := fun f G S => f = .nx ∧ ∃ (l2 : List En) (c' : Cell) (g5 g6 g7 : Option Vl), InOk l2 ∧ G = [some (.s (ns.map .int)), some (.p 0), some (.d (.lst (ws.map encI))), none, some (.p 1), g5, g6, g7, none, none, none, none, none, none, none, none, none, none, none, none] ∧ S = [c', .lst (l2.map En.enc)]) ?_ ?_
    · have hln : ∀ z x, primV .len [z, Cell.lst x] [.p 1] = some (.int ((x.length : Nat) : Int)) := fun _ _ => rfl
      simp [hln]
      by_cases hl1 : 1 < l.length
      · have hl1' : (1 : Int) < (l.length : Int) := by omega
        simp [hl1']
        refine next_K rfl (by decide) (c := c3) rfl hc3 (by decide) (by decide) fun u c4 u0 u1 hc4 => ?_
        by_cases hu : u = 0
        · subst hu
          simp
          exact ⟨l, hin, rfl⟩
        · simp [hu]
          obtain ⟨a, l', rfl⟩ : ∃ a l', l = a :: l' := by
            cases l with
            | nil => simp at hl1
            | cons a l' => exact ⟨a, l', rfl⟩
          have hne : l' ≠ [] := fun z => by rw [z] at hl1; simp at hl1
          obtain ⟨l'', e, rfl⟩ : ∃ l'' e, l' = l'' ++ [e] := ⟨l'.dropLast, l'.getLast hne, (List.dropLast_concat_getLast hne).symm⟩
          have hl'' : l''.length ≤ 4 := by simp at hin6; omega
          have hs : ∀ x : En, (a :: (l'' ++ [x])).map En.enc = (a :: l'').map En.enc ++ [x.enc] := fun x => by simp
          rw [hs]
          have hxl : ((a :: l'').map En.enc).length ≤ 5 := by simp; omega
          have hx00 : ((a :: l'').map En.enc)[0]? = some (D.tup [.int a.n, .int (a.t : Int), rowE a.r]) := rfl
          generalize hxs : (a :: l'').map En.enc = xs at hxl hx00
          obtain ⟨ee, hee⟩ : ∃ d, e.enc = d := ⟨_, rfl⟩
          have hee2 : ee = D.tup [.int e.n, .int (e.t : Int), rowE e.r] := hee.symm
          rw [hee]
          have hx1 : ∀ z, ixV [z, Cell.lst (xs ++ [ee])] (.p 1) (.d (.int (-1))) = some (.d (D.tup [.int e.n, .int (e.t : Int), rowE e.r])) := fun z => by
            rw [ix_p (ds := xs ++ [ee]) rfl, at_last _ _ (by omega), hee2]
            rfl
          have hx0 : ∀ z, ixV [z, Cell.lst (xs ++ [ee])] (.p 1) (.d (.int 0)) = some (.d (D.tup [.int a.n, .int (a.t : Int), rowE a.r])) := fun z => by
            have hpos : 0 < xs.length := by rw [← hxs]; simp
            rw [ix_p (ds := xs ++ [ee]) rfl, atI_lt (by omega) (by rw [List.length_append]; omega), Int.toNat_zero, List.getElem?_append_left hpos, hx00]
            rfl
          have ea1 : ∀ S' x y z, ixV S' (.d (D.tup [x, y, z])) (.d (.int 1)) = some (.d y) := fun _ _ _ _ => rfl
          have ea2 : ∀ S' x y z, ixV S' (.d (D.tup [x, y, z])) (.d (.int 2)) = some (.d z) := fun _ _ _ _ => rfl
          have hst : ∀ n0 z (w : D), setI n0 [z, Cell.lst (xs ++ [ee])] (.p 1) (.d (.int (-1))) (.d w) = some [z, .lst (xs ++ [w])] := fun n0 z w => by
            have hz : [z, Cell.lst (xs ++ [ee])][1]? = some (Cell.lst (xs ++ [ee])) := rfl
            simp only [setI, hz]
            rw [ix_last _ (by simp), Option.map_some]
            have : (xs ++ [ee]).length - 1 = xs.length := by simp
            rw [this]
            congr 1
            simp
          clear hee2
          rw [eSs_cons]
          simp [hx1, setsD]
          rw [eSs_cons]
          simp [cap, hx0, ea1, ea2, hst]
          have oa := hin.ok a List.mem_cons_self
          have oe := hin.ok e (by simp)
          refine ⟨a :: (l'' ++ [⟨e.n, a.t, a.r⟩]), ⟨by simpa using hin.len, ?_, fun x hx => ?_⟩, by rw [hs, hxs]; rfl⟩
          · simpa using hin.asc
          · rcases List.mem_cons.mp hx with rfl | hx
            · exact oa
            · rcases List.mem_append.mp hx with hx | hx
              · exact hin.ok x (by simp [hx])
              · rw [List.mem_singleton.mp hx]
                exact ⟨oe.n0, oe.n1, oa.t1, oa.r0, oa.r1, oa.cl⟩
      · have hl1' : ¬ (1 : Int) < (l.length : Int) := by omega
        simp [hl1']
        exact ⟨l, hin, rfl⟩
    rintro f G S ⟨rfl, l2, c5, g5, g6, g7, hin2, rfl, rfl⟩
    simp only [on_nx]
    have hfz : frzV [c5, Cell.lst (l2.map En.enc)] (.p 1) = .ok (.d (.lst (l2.map En.enc))) [c5, .dead] := rfl
    rw [eSs_cons]
    simp [hfz]
    rw [eSs_cons]
    simp
    refine init_runC rfl rfl 199 _ (by decide) (Nat.zero_le _) fun H => ?_
    have hq : ([c5, Cell.dead] : St).length = 2 := rfl
    generalize ([c5, Cell.dead] ++ [insC ⟨([c5, Cell.dead] : St).length, ([c5, Cell.dead] : St).length + 1, ([c5, Cell.dead] : St).length + 2, ([c5, Cell.dead] : St).length + 3⟩, .lst [.non, .non], .dic .t [], .dic .t []] : St) = S at H
    rw [hq] at H
    let es : List Int := l2.map (·.n)
    have hes6 : es.length ≤ 6 := by
      show (l2.map (·.n)).length ≤ 6
      rw [List.length_map]
      exact hin2.len
    have hasc : es.Pairwise (· < ·) := hin2.asc
    have w0 : WF es [] := ⟨List.nodup_nil, fun i e w t z => by simp at z⟩
    have hnm : ∀ e ∈ l2, e.n ∈ es := fun e he => List.mem_map.mpr ⟨e, he, rfl⟩
    have hrep := shown_in hin2
    rw [eSs_cons]
    simp [hrep]
    rw [eSs_cons]
    simp [hwl, hcap]
    have hl6 := hin2.len
    refine ⟨⟨by omega, by omega⟩, ?_⟩
    let I : Nat → Env → St → Prop := fun i G S' => ∃ (N : List Nd) (R : List (D × Vl)) (g5 g6 g7 g10 g11 g12 g13 g14 g15 g16 g17 g18 g19 : Option Vl), G = [some (.s (ns.map .int)), some (.p 0), some (.d (.lst (ws.map encI))), none, some (.d (.lst (l2.map En.enc))), g5, g6, g7, some (.p 2), some (.r (.lst (l2.map En.enc))), g10, g11, g12, g13, g14, g15, g16, g17, g18, g19] ∧ Has S' ⟨2, 3, 4, 5⟩ N R ∧ WF es N ∧ RR N R ∧ N.length ≤ 1000 * i ∧ R.length ≤ 1000 * i
    refine wq_for I ⟨[], [], _, _, _, _, _, _, _, _, _, _, _, _, _, rfl, H, w0, (fun x hx => by cases hx), by simp, by simp⟩ ?_ ?_
    · rintro i y G S' hy ⟨N, R, g5, g6, g7, g10, g11, g12, g13, g14, g15, g16, g17, g18, g19, rfl, HS, wf, rr, lN, lR⟩
      rw [List.getElem?_map, Option.map_eq_some_iff] at hy
      obtain ⟨k, hk, rfl⟩ := hy
      obtain ⟨hk1, hk2⟩ := List.getElem?_eq_some_iff.mp hk
      rw [List.getElem_range] at hk2
      rw [List.length_range] at hk1
      subst hk2
      have hiw : i < ws.length := by omega
      have hwi := hws (ws[i]) (List.getElem_mem hiw)
      unfold turnF
      simp only [Tg.set]
      rw [eSs_cons]
      simp
      -- mine
      refine wp_filter En.enc l2 (fun e => decide (e.t = i)) En.enc (by show _ < 1000000; omega) ?_ ?_
      · intro e Q' he hq
        have e1 : ∀ S', ixV S' (.d e.enc) (.d (.int 1)) = some (.d (.int (e.t : Int))) := fun _ => rfl
        unfold turnC
        simp [Tg.set, e1]
        by_cases z : e.t = i
        · have z2 : ((e.t : Nat) : Int) = (i : Nat) := by omega
          simp [z2]
          simpa [z] using hq
        · have z2 : ¬ ((e.t : Nat) : Int) = (i : Nat) := by omega
          simp [z2]
          simpa [z] using hq
      generalize hmi : (l2.filter fun e => decide (e.t = i)) = mine
      have hmine : ∀ e ∈ mine, e ∈ l2 ∧ e.t = i := fun e he => by
        rw [← hmi] at he
        obtain ⟨a, b⟩ := List.mem_filter.mp he
        exact ⟨a, by simpa using b⟩
      have hml : mine.length ≤ 6 := by
        rw [← hmi]
        exact Nat.le_trans (List.length_filter_le _ _) hin2.len
      have hrows : mine.map (·.r) = rowsT i l2 := by rw [← hmi]; rfl
      rw [eSs_cons]
      simp
      refine wp_map En.enc mine (fun e => rowE e.r) (by show _ < 1000000; omega) ?_ ?_
      · intro e Q' he hq
        unfold turnC
        simp [Tg.set, En.enc, setsD]
        exact hq
      have hrm : mine.map (fun e => rowE e.r) = (rowsT i l2).map rowE := by rw [← hrows, List.map_map]; rfl
      have hrl : (rowsT i l2).length ≤ 6 := by rw [← hrows, List.length_map]; exact hml
      have hro : ∀ r ∈ rowsT i l2, r ≠ [] ∧ r.length ≤ 1000 := fun r hr => by
        obtain ⟨e, he, _, rfl⟩ := rowsT_mem hr
        have := hin2.ok e he
        exact ⟨this.r0, by have := this.r1; omega⟩
      rw [hrm]
      refine orderedG rfl rfl rfl rfl hro (by omega) 199 (by decide) ?_
      rw [eSs_cons]
      simp
      refine cand_run (q := ⟨2, 3, 4, 5⟩) wf rr hes6 i hin2.len hnm hin2.ok (by omega) (by omega) (by decide) HS fun N2 R2 cf x2 wf2 rr2 l2N l2R co => ?_
      have HU := HS.up (N' := N2) (R' := R2)
      generalize up S' ⟨2, 3, 4, 5⟩ N2 R2 = S2 at HU
      generalize hL : byR id (distL (rowsT i l2)) = L
      have hLm : ∀ r ∈ L, r ∈ rowsT i l2 := fun r hr => by
        rw [← hL] at hr
        exact distL_mem ((byR_perm id _).mem_iff.mp hr)
      have hLl : L.length ≤ 6 := by
        rw [← hL, (byR_perm id _).length_eq]
        exact Nat.le_trans (distL_len _) hrl
      -- the form
      rw [eSs_cons]
      have hil : ∀ S' x, tysV S' (.d (.lst x)) [.list] = some true := fun _ _ => rfl
      simp [hil]
      refine wp_map (fun r => D.tup [rowE r, .int ((cf r : Nat) : Int)]) L (fun _ => D.bl true) (by show _ < 1000000; omega) ?_ ?_
      · intro r Q' hr hq
        have hit : ∀ S' x, tysV S' (.d (.tup x)) [.tuple] = some true := fun _ _ => rfl
        unfold turnC
        simp [Tg.set, hit, truth]
        exact hq
      have hall : ∀ S', primV .all S' [.d (.lst (L.map fun _ => D.bl true))] = some (.bl true) := fun S' => by
        have e1 : (L.map fun _ => D.bl true) = (L.map fun _ => true).map D.bl := by simp
        have e2 := all_B (S := S') (L.map fun _ => true)
        unfold encB at e2
        rw [e1, e2]
        congr 2
        rw [List.all_eq_true]
        intro x hx
        obtain ⟨_, _, rfl⟩ := List.mem_map.mp hx
        rfl
      simp only [hall, Option.map_some, of_some, wp_ok, truth]
      simp
      -- the rows
      rw [eSs_cons]
      simp
      refine wp_map (fun r => D.tup [rowE r, .int ((cf r : Nat) : Int)]) L rowE (by show _ < 1000000; omega) ?_ ?_
      · intro r Q' hr hq
        unfold turnC
        simp [Tg.set, setsD]
        exact hq
      refine same_refl rfl 2 (.lst (L.map rowE)) 199 _ ?_ (by decide) ?_ ?_
      · have : ∀ M : List (List Vx), D.deps (M.map rowE) ≤ 1 := fun M => by
          induction M with
          | nil => simp [D.deps]
          | cons a M ih =>
            simp only [List.map_cons, D.deps, row_dep]
            omega
        have := this L
        simp only [D.dep]
        omega
      · have := wR L fun r hr => (hro r (hLm r hr)).2
        simp only [wide, this, List.length_map, Bool.and_true, decide_eq_true_eq]
        omega
      simp
      -- all sets
      rw [eSs_cons]
      simp
      refine wp_map En.enc l2 (fun e => D.int e.n) (by show _ < 1000000; omega) ?_ ?_
      · intro e Q' he hq
        unfold turnC
        simp [Tg.set, En.enc, setsD]
        exact hq
      have hnl : l2.map (fun e => D.int e.n) = es.map D.int := by
        show _ = (l2.map (·.n)).map D.int
        rw [List.map_map]
        rfl
      rw [hnl]
      refine subsets_run rfl (by omega) 199 _ (by decide) ?_
      simp [encS]
      have hsl : (subs es).length ≤ 64 := by
        rw [subs_len]
        exact Nat.le_trans (Nat.pow_le_pow_right (by decide) hes6) (by decide)
      let Gg : (Option Vl) → (Option Vl) → (Option Vl) → (Option Vl) → Env := fun a b c d => [some (.s (ns.map .int)), some (.p 0), some (.d (.lst (ws.map encI))), none, some (.d (.lst (l2.map En.enc))), g5, some (.d (.int (i : Nat))), a, some (.p 2), some (.r (.lst (l2.map En.enc))), some (.d (.lst (mine.map En.enc))), g11, some (.d (.lst (L.map rowE))), g13, some (.d (.lst (L.map fun r => D.tup [rowE r, .int ((cf r : Nat) : Int)]))), g15, b, c, d, g19]
      let J : List (List Int) → Env → St → Prop := fun pre G S'' => ∃ a b c d, G = Gg a b c d ∧ S'' = S2
      refine wq_pre (fun p : List Int => D.lst (p.map .int)) (subs es) J ⟨g7, g16, g17, g18, rfl, rfl⟩ ?_ ?_
      · rintro pre part post G S'' hp ⟨a, b, c, d, rfl, rfl⟩
        have hpm : part ∈ subs es := by rw [hp]; simp
        have hpl := (subs_sub es part hpm).length_le
        unfold turnF
        simp only [Tg.set, Gg]
        rw [eSs_cons]
        simp
        let J2 : List (List Vx) → Env → St → Prop := fun pre G T2 => ∃ a b d, G = Gg a b (some (.d (.lst (part.map .int)))) d ∧ T2 = S''
        refine wq_pre (fun r => D.tup [rowE r, .int ((cf r : Nat) : Int)]) L J2 ⟨a, b, d, rfl, rfl⟩ ?_ ?_
        · rintro pre r post G S3 hp2 ⟨a, b, d, rfl, rfl⟩
          have hrL : r ∈ L := by rw [hp2]; simp
          have hrT := hLm r hrL
          unfold turnF
          simp [Tg.set, Gg, setsD]
          rw [eSs_cons]
          simp
          refine wp_filter En.enc mine (fun e => decide (e.r = r)) (fun e => D.bl (decide (e.n ∈ part))) (by show _ < 1000000; omega) ?_ ?_
          · intro e Q' he hq
            have heq : ∀ S', cmpV .eq S' (.d (rowE e.r)) (.d (rowE r)) = some (decide (e.r = r)) := fun S' => by
              show eqD (rowE e.r) (rowE r) = _
              unfold eqD
              rw [row_dep, row_dep, if_pos (by omega), row_eq]
            unfold turnC
            simp [Tg.set, En.enc, setsD, heq]
            by_cases z : e.r = r
            · simp [z, in_ints]
              simpa [z] using hq
            · simp [z]
              simpa [z] using hq
          have ea : ((mine.filter fun e => decide (e.r = r)).map fun e => D.bl (decide (e.n ∈ part))) = ((mine.filter fun e => decide (e.r = r)).map fun e => decide (e.n ∈ part)).map D.bl := by simp
          have ea2 := any_B (S := S3) ((mine.filter fun e => decide (e.r = r)).map fun e => decide (e.n ∈ part))
          unfold encB at ea2
          rw [ea]
          simp only [ea2, Option.map_some, of_some, wp_ok]
          have hv : sem N2 (fun e => decide (e ∈ part)) (cf r) = ((mine.filter fun e => decide (e.r = r)).map fun e => decide (e.n ∈ part)).any id := by
            rw [co.sm r hrT, ← hmi]
            unfold hasR
            rw [Bool.eq_iff_iff, List.any_eq_true, List.any_eq_true]
            constructor
            · rintro ⟨e, he, h2⟩
              simp only [Bool.and_eq_true, decide_eq_true_eq] at h2
              refine ⟨true, List.mem_map.mpr ⟨e, List.mem_filter.mpr ⟨List.mem_filter.mpr ⟨he, by simpa using h2.1.1⟩, by simpa using h2.1.2⟩, by simpa using h2.2⟩, rfl⟩
            · rintro ⟨x, hx, h2⟩
              obtain ⟨e, he, rfl⟩ := List.mem_map.mp hx
              obtain ⟨he1, he2⟩ := List.mem_filter.mp he
              obtain ⟨he3, he4⟩ := List.mem_filter.mp he1
              refine ⟨e, he3, ?_⟩
              simp only [decide_eq_true_eq, id] at he2 he4 h2
              simp [he2, he4, h2]
          rw [eSs_cons]
          simp [HU.meth]
          refine holds_run rfl wf2 (co.lt r hrT) (by omega) 199 _ (by decide) HU ?_
          have hvs : ((mine.filter fun e => decide (e.r = r)).map fun e => decide (e.n ∈ part)).any id = (mine.any fun a => decide (a.r = r) && decide (a.n ∈ part)) := by simp
          rw [hv, hvs]
          refine same_refl rfl 0 (.bl _) 199 _ (by simp [D.dep]) (by decide) rfl ?_
          simp
          exact ⟨_, _, _, rfl, rfl⟩
        · rintro G S3 ⟨a, b, d, rfl, rfl⟩
          exact ⟨_, _, _, _, rfl, rfl⟩
      · rintro G S'' ⟨a, b, c, d, rfl, rfl⟩
        simp only [on_nx, Gg]
        rw [eSs_cons]
        simp
        let J3 : List (List Vx) → Env → St → Prop := fun pre G T2 => ∃ a b, G = Gg a b c d ∧ T2 = S''
        refine wq_pre (fun r => D.tup [rowE r, .int ((cf r : Nat) : Int)]) L J3 ⟨a, b, rfl, rfl⟩ ?_ ?_
        · rintro pre r post G S3 hp2 ⟨a, b, rfl, rfl⟩
          have hrL : r ∈ L := by rw [hp2]; simp
          unfold turnF
          simp [Tg.set, Gg, setsD]
          rw [eSs_cons]
          simp
          refine cond_run r (by decide) ?_
          rw [if_pos hrL]
          simp
          exact ⟨_, _, rfl, rfl⟩
        · rintro G S3 ⟨a, b, rfl, rfl⟩
          simp only [on_nx, Gg]
          have hix : ∀ S', ixV S' (.d (.lst (ws.map encI))) (.d (.int (i : Nat))) = some (.d (.int ((ws[i] : Nat) : Int))) := fun S' => by
            rw [ix_l, atI_lt (by omega) (by simp only [List.length_map]; omega), Int.toNat_natCast, List.getElem?_map, List.getElem?_eq_getElem hiw]
            rfl
          have hmul : binD .mul (.tup [.int 9]) (.int ((ws[i] : Nat) : Int)) = some (rowE (List.replicate (ws[i]) (.i 9))) := by
            have hw12 : ws[i] = 1 ∨ ws[i] = 2 := by omega
            rcases hw12 with z | z <;> (rw [z]; rfl)
          rw [eSs_cons]
          simp [cap, hix, hmul]
          refine cond_run (List.replicate (ws[i]) (.i 9)) (by decide) ?_
          have hno : List.replicate (ws[i]) (Vx.i 9) ∉ L := fun z => by
            obtain ⟨e, he, _, er⟩ := rowsT_mem (hLm _ z)
            have := (hin2.ok e he).cl (.i 9) (by rw [er]; simp; omega)
            simp [Vx.cell] at this
          rw [if_neg hno]
          refine same_refl rfl 0 (.int 0) 199 _ (by simp [D.dep]) (by decide) rfl ?_
          simp
          exact ⟨N2, R2, _, _, _, _, _, _, _, _, _, _, _, _, _, rfl, HU, wf2, rr2, by omega, by omega⟩
    · rintro G S' ⟨N, R, g5, g6, g7, g10, g11, g12, g13, g14, g15, g16, g17, g18, g19, rfl, HS, wf, rr, lN, lR⟩
      simp only [on_nx]
      rw [eSs_cons]
      simp [hrep]
  obtain ⟨v, S, e, rfl⟩ := wp_run key
  exact ⟨S, e⟩
end K64

set_option Elab.async false
set_option linter.all false
set_option maxRecDepth 100000
set_option maxHeartbeats 4000000
namespace K64
open PySem PySem.Spec PyProof.Rows L2 MS LW
def hd : Hd := ⟨prog, [("ALWAYS", 1), ("NEVER", 0)], ["abs", "all", "any", "bool", "int", "isinstance", "len", "list", "max", "min", "range", "repr", "sorted", "str", "tuple"], [("Diagrams", "_nodes"), ("Diagrams", "_numbers"), ("Diagrams", "_results")], tabsL, false⟩
def topS (i : Nat) : Stmt := PySem.Challenge.pw_lineworks_k64_candidates_of_tables.main.body.getD i (.Pass ⟨0, 0, 0, 0⟩)
def mthS (i j : Nat) : Stmt := match topS i with
  | .ClassDef _ _ _ b _ _ _ _ _ _ _ => b.getD j (.Pass ⟨0, 0, 0, 0⟩)
  | x => x
def x_law : DX := ⟨d_law, "law", defArgs (topS 37), defBody (topS 37), defScope (topS 37), ["script", "draw", "widths", "k", "entries", "number", "table", "row", "store", "kept", "mine", "entry", "due", "place", "found", "pair", "condition", "part", "held", "other"], ["script"], fun _ _ _ F => F.bindsN fun _ _ _ _ _ _ us hl => match us, hl with | [_], _ => rfl⟩
def x_law_draw : DX := ⟨d_law_draw, "_law_draw", defArgs (topS 17), defBody (topS 17), defScope (topS 17), ["script"], ["script"], fun _ _ _ F => F.bindsN fun _ _ _ _ _ _ us hl => match us, hl with | [_], _ => rfl⟩
def x_law_next : DX := ⟨d_law_next, "_law_next", defArgs (topS 18), defBody (topS 18), defScope (topS 18), ["draw", "many", "found", "cell"], ["draw", "many"], fun _ _ _ F => F.bindsN fun _ _ _ _ _ _ us hl => match us, hl with | [_, _], _ => rfl⟩
def x_law_inputs : DX := ⟨d_law_inputs, "_law_inputs", defArgs (topS 36), defBody (topS 36), defScope (topS 36), ["draw", "widths", "most", "entries", "number", "k", "table", "j"], ["draw", "widths", "most"], fun _ _ _ F => F.bindsN fun _ _ _ _ _ _ us hl => match us, hl with | [_, _, _], _ => rfl⟩
def x_Diagrams_init0 : DX := ⟨d_Diagrams_init0, "Diagrams.__init__", defArgs (mthS 8 0), defBody (mthS 8 0), defScope (mthS 8 0), ["self"], ["self"], fun _ _ _ F => F.bindsN fun _ _ _ _ _ _ us hl => match us, hl with | [_], _ => rfl⟩
def x_law_ordered : DX := ⟨d_law_ordered, "_law_ordered", defArgs (topS 24), defBody (topS 24), defScope (topS 24), ["rows"], ["rows"], fun _ _ _ F => F.bindsN fun _ _ _ _ _ _ us hl => match us, hl with | [_], _ => rfl⟩
def x_entry_candidates : DX := ⟨d_entry_candidates, "entry_candidates", defArgs (topS 15), defBody (topS 15), defScope (topS 15), ["store", "entries", "table", "found", "number", "place", "row"], ["store", "entries", "table"], fun _ _ _ F => F.bindsN fun _ _ _ _ _ _ us hl => match us, hl with | [_, _, _], _ => rfl⟩
def x_law_same : DX := ⟨d_law_same, "_law_same", defArgs (topS 19), defBody (topS 19), defScope (topS 19), ["actual", "due", "k"], ["actual", "due"], fun _ _ _ F => F.bindsN fun _ _ _ _ _ _ us hl => match us, hl with | [_, _], _ => rfl⟩
def x_law_subsets : DX := ⟨d_law_subsets, "_law_subsets", defArgs (topS 35), defBody (topS 35), defScope (topS 35), ["entries", "found", "entry", "part"], ["entries"], fun _ _ _ F => F.bindsN fun _ _ _ _ _ _ us hl => match us, hl with | [_], _ => rfl⟩
def x_Diagrams_holds : DX := ⟨d_Diagrams_holds, "Diagrams.holds", defArgs (mthS 8 12), defBody (mthS 8 12), defScope (mthS 8 12), ["self", "condition", "present", "entry", "without", "there"], ["self", "condition", "present"], fun _ _ _ F => F.bindsN fun _ _ _ _ _ _ us hl => match us, hl with | [_, _, _], _ => rfl⟩
def x_condition_of : DX := ⟨d_condition_of, "condition_of", defArgs (topS 14), defBody (topS 14), defScope (topS 14), ["candidates", "row", "other", "condition"], ["candidates", "row"], fun _ _ _ F => F.bindsN fun _ _ _ _ _ _ us hl => match us, hl with | [_, _], _ => rfl⟩
def x_law_cell : DX := ⟨d_law_cell, "_law_cell", defArgs (topS 20), defBody (topS 20), defScope (topS 20), ["draw", "form"], ["draw"], fun _ _ _ F => F.bindsN fun _ _ _ _ _ _ us hl => match us, hl with | [_], _ => rfl⟩
def x_law_row_key : DX := ⟨d_law_row_key, "_law_row_key", defArgs (topS 22), defBody (topS 22), defScope (topS 22), ["row", "value"], ["row"], fun _ _ _ F => F.bindsN fun _ _ _ _ _ _ us hl => match us, hl with | [_], _ => rfl⟩
def x_law_distinct : DX := ⟨d_law_distinct, "_law_distinct", defArgs (topS 23), defBody (topS 23), defScope (topS 23), ["rows", "found", "row"], ["rows"], fun _ _ _ F => F.bindsN fun _ _ _ _ _ _ us hl => match us, hl with | [_], _ => rfl⟩
def x_Diagrams_disjunction : DX := ⟨d_Diagrams_disjunction, "Diagrams.disjunction", defArgs (mthS 8 7), defBody (mthS 8 7), defScope (mthS 8 7), ["self", "first", "second"], ["self", "first", "second"], fun _ _ _ F => F.bindsN fun _ _ _ _ _ _ us hl => match us, hl with | [_, _, _], _ => rfl⟩
def x_Diagrams_there : DX := ⟨d_Diagrams_there, "Diagrams.there", defArgs (mthS 8 2), defBody (mthS 8 2), defScope (mthS 8 2), ["self", "entry"], ["self", "entry"], fun _ _ _ F => F.bindsN fun _ _ _ _ _ _ us hl => match us, hl with | [_, _], _ => rfl⟩
def x_by_row : DX := ⟨d_by_row, "by_row", defArgs (topS 13), defBody (topS 13), defScope (topS 13), ["pair"], ["pair"], fun _ _ _ F => F.bindsN fun _ _ _ _ _ _ us hl => match us, hl with | [_], _ => rfl⟩
def x_law_key : DX := ⟨d_law_key, "_law_key", defArgs (topS 21), defBody (topS 21), defScope (topS 21), ["value"], ["value"], fun _ _ _ F => F.bindsN fun _ _ _ _ _ _ us hl => match us, hl with | [_], _ => rfl⟩
def x_Diagrams_combined : DX := ⟨d_Diagrams_combined, "Diagrams._combined", defArgs (mthS 8 4), defBody (mthS 8 4), defScope (mthS 8 4), ["self", "form", "first", "second", "action", "plain", "key"], ["self", "form", "first", "second"], fun _ _ _ F => F.bindsN fun _ _ _ _ _ _ us hl => match us, hl with | [_, _, _, _], _ => rfl⟩
def x_Diagrams_make : DX := ⟨d_Diagrams_make, "Diagrams.make", defArgs (mthS 8 1), defBody (mthS 8 1), defScope (mthS 8 1), ["self", "entry", "without", "there", "key"], ["self", "entry", "without", "there"], fun _ _ _ F => F.bindsN fun _ _ _ _ _ _ us hl => match us, hl with | [_, _, _, _], _ => rfl⟩
def x_row_key : DX := ⟨d_row_key, "row_key", defArgs (topS 11), defBody (topS 11), defScope (topS 11), ["row", "value"], ["row"], fun _ _ _ F => F.bindsN fun _ _ _ _ _ _ us hl => match us, hl with | [_], _ => rfl⟩
def x_and_leaf : DX := ⟨d_and_leaf, "and_leaf", defArgs (topS 4), defBody (topS 4), defScope (topS 4), ["first", "second"], ["first", "second"], fun _ _ _ F => F.bindsN fun _ _ _ _ _ _ us hl => match us, hl with | [_, _], _ => rfl⟩
def x_or_leaf : DX := ⟨d_or_leaf, "or_leaf", defArgs (topS 5), defBody (topS 5), defScope (topS 5), ["first", "second"], ["first", "second"], fun _ _ _ F => F.bindsN fun _ _ _ _ _ _ us hl => match us, hl with | [_, _], _ => rfl⟩
def x_differ_leaf : DX := ⟨d_differ_leaf, "differ_leaf", defArgs (topS 6), defBody (topS 6), defScope (topS 6), ["first", "second"], ["first", "second"], fun _ _ _ F => F.bindsN fun _ _ _ _ _ _ us hl => match us, hl with | [_, _], _ => rfl⟩
def x_Diagrams_split : DX := ⟨d_Diagrams_split, "Diagrams._split", defArgs (mthS 8 5), defBody (mthS 8 5), defScope (mthS 8 5), ["self", "form", "first", "second", "one", "two", "without"], ["self", "form", "first", "second"], fun _ _ _ F => F.bindsN fun _ _ _ _ _ _ us hl => match us, hl with | [_, _, _, _], _ => rfl⟩
def x_value_key : DX := ⟨d_value_key, "value_key", defArgs (topS 10), defBody (topS 10), defScope (topS 10), ["value"], ["value"], fun _ _ _ F => F.bindsN fun _ _ _ _ _ _ us hl => match us, hl with | [_], _ => rfl⟩
def dxs : List DX := [x_law_draw, x_law_next, x_law_inputs, x_Diagrams_init0, x_law_ordered, x_entry_candidates, x_law_same, x_law_subsets, x_Diagrams_holds, x_condition_of, x_law_cell, x_law_row_key, x_law_distinct, x_Diagrams_disjunction, x_Diagrams_there, x_by_row, x_law_key, x_Diagrams_combined, x_Diagrams_make, x_row_key, x_and_leaf, x_or_leaf, x_differ_leaf, x_Diagrams_split, x_value_key]
theorem all_ok : (dxs.all fun d => d.ok hd) = true := by decide +kernel
theorem law_ok : x_law.okT hd = true := by decide +kernel
abbrev Rw : PySem.W.OpenRow := PySem.W.OpenLaw.row PySem.Challenge.rw_lineworks_k64_candidates_of_tables
abbrev hk : PySem.W.Hook := He.hookX 5 (faT hd x_law.df) ((x_law :: dxs).map DX.dd) (tsOf hd) [] (exB hd)
def obH (s : PySem.W.SharedT) : He.AlX := He.obsX 5 (faT hd x_law.df) ((x_law :: dxs).map DX.dd) (tsOf hd) [] (exB hd) (HandSHeadRun.getT s)
theorem obH_eq (s : PySem.W.SharedT) : obH s = hk.obs s.abs := He.obsX_eq (HandSHeadRun.getT_eq s)
def looseN : List Str := (["_wall", "NEVER", "ALWAYS", "and_leaf", "or_leaf", "differ_leaf", "LEAVES", "Diagrams", "value_key", "row_key", "by_row", "condition_of", "entry_candidates", "_law_draw", "_law_next", "_law_same", "_law_cell", "_law_key", "_law_row_key", "_law_distinct", "_law_ordered", "_law_expression", "_law_known", "_law_bounded", "_law_arithmetic", "_law_logic", "_law_single", "_law_due", "_law_holds", "_law_total"] : List Str) ++ (["_law_form", "_law_subsets", "_law_inputs"] : List Str)
theorem runH (w : World) : HandSHeadRun.RunEq Rw (PySem.W.view Rw.prog [37]) hk obH 4000 looseN w := PySem.W.byRow2 "special-get-raises" (P := fun w => HandSHeadRun.RunEq Rw (PySem.W.view Rw.prog [37]) hk obH 4000 looseN w) (fun w os => by kernel_rfl) (fun w os => by kernel_rfl) w
theorem law_binds {K : Fg} (fd : FuncData) (F : FunD K (so x_law.df.name) x_law.qual x_law.params x_law.body x_law.scope [] [] (dAd K x_law.df) fd) (s : Shared) (u : Value) : BindsTo s fd ⟨[u], []⟩ [("script", u)] :=
  FunD.bindsA (ps := ["script"]) F (fun _ _ _ _ _ _ us hl => match us, hl with | [_], _ => rfl) s [u] rfl
abbrev lv : Nat := 199
theorem law_runs (ns : List Int) (h : ns.length ≤ 63) : ∃ S, MP.runD hd.P lv x_law.df [scr ns] [] = .ok (.d (.bl true)) S := law_true ns h
end K64
open PySem PySem.W PySem.Calls PyProof.Rows
theorem PySem.Challenge.cw_lineworks_k64_candidates_of_tables_holds : PySem.Challenge.rw_lineworks_k64_candidates_of_tables.Holds := by
  w_on; o_law
  refine HandSHeadRun.head_any (r := OpenLaw.row PySem.Challenge.rw_lineworks_k64_candidates_of_tables) (q := view (OpenLaw.row PySem.Challenge.rw_lineworks_k64_candidates_of_tables).prog [37]) (H := K64.hk) (ob := K64.obH) (M := 4000) (loose := K64.looseN) (d := HandSHeadRun.topDef (OpenLaw.row PySem.Challenge.rw_lineworks_k64_candidates_of_tables).prog 37) (kwd := []) K64.obH_eq
    (by kernel_rfl) (fun s => by kernel_rfl) K64.runH (by kernel_rfl) (by kernel_rfl) (by kernel_rfl) (by rfl) (by first | assumption | decide +kernel) (by decide +kernel) ⟨rfl, rfl, rfl, rfl, rfl, by decide +kernel⟩ ?hw ?hc
  case hw => w_witness2
  case hc =>
    refine MS.walk_top (l := PySem.Challenge.rw_lineworks_k64_candidates_of_tables) (n := 63) (CX := MS.CXL PySem.Challenge.pw_lineworks_k64_candidates_of_tables) rfl (by decide) (by kernel_rfl) ?F MS.cxl_none
    intro w mg fa h Y G hmg0
    obtain ⟨K, KX, c⟩ := Y
    have hmg : mg (MS.so "law") = some (.ref fa) := by
      have e : (HandSHeadRun.topDef (OpenLaw.row PySem.Challenge.rw_lineworks_k64_candidates_of_tables).prog 37).name = MS.so "law" := by kernel_rfl
      rw [← e]
      exact hmg0
    exact ⟨K, MS.law_top (dx := K64.x_law) KX G c ⟨rfl, by decide, by decide⟩ rfl (by decide +kernel) rfl (by decide +kernel) K64.all_ok K64.law_ok rfl rfl K64.law_binds hmg rfl K64.law_runs⟩

