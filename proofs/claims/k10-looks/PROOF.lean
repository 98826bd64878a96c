import PyProof.Rows.All
import Wide.All
import OpenK.AllK
import Wide.FinOn
import HandS.ForMost
import HandS.ForExc
import HandS.Deep
import HandS.TupAny
import HandS.IsInst
import HandS.Wide
import HandS.WideBits
import HandS.Style
import HandS.Conv
import HandS.TupMul
import HandS.SortInts
import HandS.More
import HandS.RaiseMore
import HandS.WordsDict
import HandS.Zip
import HandS.Lambda
import HandS.Defaults
import HandS.ExcInit
import HandS.ExcIs
import HandS.ExcField
import HandS.TryMany
import HandS.WordsExc
import KE.KExcIs
import HandS.Head0
import HandS.Head1
import HandS.Head2
import HandS.HeadEnd
import HandS.EndBits
import HandS.HeadHook1
import HandS.HeadHook2
import HandS.HeadHook4
import PySem.Challenge.RW_whateverdrops_k10_looks_at_scripts
section
set_option Elab.async false
set_option linter.all false
set_option maxRecDepth 100000
set_option maxHeartbeats 4000000
/-! WCore: pure values, pure heaps, the small language and its meaning (weakest preconditions). -/
namespace WD
open PySem PySem.Spec PyProof.Rows L2

/-- pure values: tuples by value, lists and dicts by location; rol: a list that is only read (the script) -/
inductive PV where
  | non | bl (b : Bool) | int (i : Int) | str (x : Str) | tup (xs : List PV) | rol (xs : List PV) | loc (l : Nat) | xc (c : Nat) (fs : List PV)

mutual
def PV.beq : PV → PV → Bool
  | .non, .non => true
  | .bl a, .bl b => a == b
  | .int a, .int b => decide (a = b)
  | .str a, .str b => decide (a = b)
  | .tup a, .tup b => PV.beqs a b
  | .rol a, .rol b => PV.beqs a b
  | .loc a, .loc b => decide (a = b)
  | .xc c a, .xc d b => decide (c = d) && PV.beqs a b
  | _, _ => false
def PV.beqs : List PV → List PV → Bool
  | [], [] => true
  | a :: as, b :: bs => PV.beq a b && PV.beqs as bs
  | _, _ => false
end
mutual
theorem PV.beq_self : ∀ a : PV, PV.beq a a = true
  | .non => rfl
  | .bl b => by simp [PV.beq]
  | .int a => by simp [PV.beq]
  | .str a => by simp [PV.beq]
  | .tup a => by simpa [PV.beq] using PV.beqs_self a
  | .rol a => by simpa [PV.beq] using PV.beqs_self a
  | .loc a => by simp [PV.beq]
  | .xc c a => by simpa [PV.beq] using PV.beqs_self a
theorem PV.beqs_self : ∀ a : List PV, PV.beqs a a = true
  | [] => rfl
  | a :: as => by simp [PV.beqs, PV.beq_self a, PV.beqs_self as]
end
mutual
theorem PV.eq_of_beq : ∀ a b : PV, PV.beq a b = true → a = b
  | .non, b, h => by cases b <;> simp_all [PV.beq]
  | .bl x, b, h => by cases b <;> simp_all [PV.beq]
  | .int x, b, h => by cases b <;> simp_all [PV.beq]
  | .str x, b, h => by cases b <;> simp_all [PV.beq]
  | .tup x, b, h => by
    cases b with
    | tup y => rw [PV.eq_of_beqs x y (by simpa [PV.beq] using h)]
    | _ => simp [PV.beq] at h
  | .rol x, b, h => by
    cases b with
    | rol y => rw [PV.eq_of_beqs x y (by simpa [PV.beq] using h)]
    | _ => simp [PV.beq] at h
  | .loc x, b, h => by cases b <;> simp_all [PV.beq]
  | .xc c x, b, h => by
    cases b with
    | xc d y =>
      simp only [PV.beq, Bool.and_eq_true, decide_eq_true_eq] at h
      rw [h.1, PV.eq_of_beqs x y h.2]
    | _ => simp [PV.beq] at h
theorem PV.eq_of_beqs : ∀ a b : List PV, PV.beqs a b = true → a = b
  | [], [], _ => rfl
  | [], _ :: _, h => by simp [PV.beqs] at h
  | _ :: _, [], h => by simp [PV.beqs] at h
  | a :: as, b :: bs, h => by
    simp only [PV.beqs, Bool.and_eq_true] at h
    rw [PV.eq_of_beq a b h.1, PV.eq_of_beqs as bs h.2]
end
instance : DecidableEq PV := fun a b => if h : PV.beq a b = true then .isTrue (PV.eq_of_beq a b h) else .isFalse fun e => h (e ▸ PV.beq_self a)
instance : Inhabited PV := ⟨.non⟩

/-- what stands at a location -/
inductive PO where
  | lst (xs : List PV)
  | dic (kvs : List (Key × PV))
abbrev PH := List PO
abbrev PSt := List (Option PV)
/-- what is wanted of a value, of an exception (its class and fields) -/
abbrev QV := PV → PH → Prop
abbrev QX := PV → PH → Prop

/-! ### the language -/
/-- built-in functions by values -/
inductive Bif where
  | len | int | str | abs | min2 | max2 | isT (t : String) | bool
  deriving DecidableEq, Repr
/-- built-in functions of a list's or a tuple's items -/
inductive Lif where
  | tuple | len | sum | max | min | all | any
  deriving DecidableEq, Repr
/-- methods that change or look at an object -/
inductive Mth where
  | append | pop | popAt | insert | reverse | get | getD
  deriving DecidableEq, Repr
/-- targets -/
inductive Tg where
  | slot (i : Nat) | tup (ts : List Tg)
  deriving Repr
instance : Inhabited Tg := ⟨.slot 0⟩

mutual
inductive Ex where
  | var (i : Nat)
  | non | bl (b : Bool) | int (i : Int) | str (x : Str)
  | cst (v : PV) (x : Str)
  | tup (es : Exs)
  | bin (o : Operator) (a b : Ex)
  | neg (a : Ex)
  | cmp (o : CmpOp) (a b : Ex)
  | chn (o o' : CmpOp) (a b c : Ex)
  | and (a b : Ex) | or (a b : Ex) | not (a : Ex)
  | ifx (c a b : Ex)
  | ix (a b : Ex)
  | sl (a : Ex) (lo hi : OEx)
  | call (f : Nat) (es : Exs)
  | bif (b : Bif) (es : Exs)
  | lif (b : Lif) (l : La)
  | mth (m : Mth) (a : Ex) (es : Exs)
  | ext (a : Ex) (l : La)
  | new (l : Lx)
  | dic (ps : Prs)
  | callk (f n m : Nat) (es ks : Exs) (ix : List Nat)
  | tupR (a b : OEx)
  | cin (neg : Bool) (ks : List Str) (a : Ex)
  | cix (ks : List Str) (xs : List PV) (a : Ex)
inductive Prs where
  | nil | cons (k v : Ex) (r : Prs)
inductive Exs where
  | nil | cons (e : Ex) (es : Exs)
inductive OEx where
  | no | some (e : Ex)
/-- what makes a new list -/
inductive Lx where
  | disp (es : Exs)
  | cat (a b : La)
  | rep (a : La) (n : Ex)
  | comp (own : List Nat) (elt : Ex) (tg : Tg) (it : Wk) (cond : OEx)
  | cut (a : La) (lo hi : OEx)
  | list (a : La)
  | sort (a : La)
  | rng (a b : OEx)
/-- a list (or a tuple) to be read: one that stands, or one just made -/
inductive La where
  | e (x : Ex) | l (x : Lx)
/-- what a loop walks -/
inductive Wk where
  | la (a : La)
  | range1 (a : Ex) | range2 (a b : Ex) | range3 (a b c : Ex)
  | enum (a : La) | zip (a b : La) | rev (a : La)
end

inductive Ct where
  | pass | brk | cnt
  deriving Repr

mutual
inductive Sm where
  | ct (c : Ct)
  | expr (e : Ex)
  | set (t : Tg) (e : Ex)
  | par (i j : Nat) (a b : Ex)
  | sub (o i e : Ex)
  | aug (i : Nat) (op : Operator) (e : Ex)
  | augS (o i : Ex) (op : Operator) (e : Ex)
  | ret (e : Ex)
  | retN
  | ifs (c : Ex) (a b : Sms)
  | fors (t : Tg) (it : Wk) (b : Sms)
  | whil (c : Ex) (b : Sms)
  | raise (k : Nat) (es : Exs)
  | tryx (b : Sms) (hs : Hds)
inductive Sms where
  | nil | cons (s : Sm) (r : Sms)
/-- except clauses: the class, the slot of the name, the suite -/
inductive Hds where
  | nil | cons (c : Nat) (i : Option Nat) (s : Sms) (r : Hds)
end
/-! ### the error classes: by number their names, the class above, the fields -/
def xTab : List (Str × Nat × List Str) := [("DropError", 0, []), ("DataError", 0, []), ("CallError", 0, []), ("TextError", 0, []), ("ShopError", 0, []),
  ("BadTree", 1, ["word"]), ("BadProgram", 1, ["word", "name"]), ("BadScript", 1, ["at", "word"]), ("BadCode", 1, ["at", "word"]), ("BadStrikes", 1, ["at", "word"]), ("BadDam", 1, ["at", "word"]), ("BadFloor", 1, ["at", "word"]),
  ("BadStep", 2, ["word"]), ("BadText", 3, ["line", "word"]), ("BadBytes", 3, ["at", "word"]), ("BadCommand", 3, ["line"]), ("NoSuch", 4, ["word", "name"]), ("Taken", 4, ["name"])]
def xName (k : Nat) : Str := (xTab.getD k ("", 0, [])).1
def xPar (k : Nat) : Nat := (xTab.getD k ("", 0, [])).2.1
def xFields (k : Nat) : List Str := (xTab.getD k ("", 0, [])).2.2
def xSub (k c : Nat) : Bool := decide (k = c) || (decide (xPar k = c) || decide (c = 0))
def atomP : PV → Bool
  | .non => true
  | .bl _ => true
  | .int _ => true
  | .str _ => true
  | _ => false
/-- the numbers by which a suite asks for a field; from 910000 on: whether the class is this one -/
def fidOf (f : Str) : Option Nat := if f = "word" then some 900000 else if f = "at" then some 900001 else if f = "line" then some 900002 else if f = "name" then some 900003 else none
def fName (i : Nat) : Option Str := if i = 900000 then some "word" else if i = 900001 then some "at" else if i = 900002 then some "line" else if i = 900003 then some "name" else none
def xGet (k : Nat) (fs : List PV) (f : Str) : Option PV := ((xFields k).zip fs).lookup f

/-! ### dicts -/
section
variable {α : Type}
def dGet (kvs : List (Key × α)) (k : Key) : Option α := (kvs.find? fun kv => decide (kv.1 = k)).map (·.2)
def dPut (kvs : List (Key × α)) (k : Key) (v : α) : List (Key × α) :=
  if (kvs.any fun kv => decide (kv.1 = k)) = true then kvs.map (fun kv => if kv.1 = k then (kv.1, v) else kv) else kvs ++ [(k, v)]
def dMerge (kvs more : List (Key × α)) : List (Key × α) := more.foldl (fun acc kv => dPut acc kv.1 kv.2) kvs
end
def keyP : PV → Option Key
  | .int i => some (.inl i)
  | .str x => some (.inr x)
  | _ => none
def kP : Key → PV
  | .inl i => .int i
  | .inr x => .str x
def keysOf : List (PV × PV) → Option (List (Key × PV))
  | [] => some []
  | (k, v) :: r => match keyP k, keysOf r with
    | some k', some r' => some ((k', v) :: r')
    | _, _ => none
def rodGet : List Str → List PV → Str → Option PV
  | k :: ks, x :: xs, z => if k = z then some x else rodGet ks xs z
  | _, _, _ => none
/-! ### operations by values -/
/-- the place that an index means -/
def ixP (n : Nat) (i : Int) : Option Nat := if 0 ≤ i then (if i < n then some i.toNat else none) else if -(n : Int) ≤ i then some (i + n).toNat else none
def getL (h : PH) (l : Nat) : Option (List PV) := match h[l]? with
  | some (.lst xs) => some xs
  | _ => none
/-- the items of what is a list or a tuple -/
def items (h : PH) : PV → Option (List PV)
  | .tup xs => some xs
  | .rol xs => some xs
  | .loc l => getL h l
  | _ => none
/-- the items of what is a list -/
def itemsL (h : PH) : PV → Option (List PV)
  | .rol xs => some xs
  | .loc l => getL h l
  | _ => none

/-- data: what == compares -/
def toD (h : PH) : Nat → PV → Option PyData
  | 0, _ => none
  | n + 1, v => match v with
    | .non => some .none
    | .bl b => some (.bool b)
    | .int i => some (.int i)
    | .str x => some (.str x)
    | .tup xs => (xs.mapM (toD h n)).map .tuple
    | .rol xs => (xs.mapM (toD h n)).map .list
    | .loc l => match getL h l with
      | some xs => (xs.mapM (toD h n)).map .list
      | none => none
    | _ => none
/-- the scalars -/
def scalP : PV → PV → Bool
  | .non, .non => true | .non, .int _ => true | .int _, .non => true | .non, .bl _ => true | .bl _, .non => true | .non, .str _ => true | .str _, .non => true
  | .int _, .int _ => true | .bl _, .bl _ => true | .str _, .str _ => true
  | .int _, .str _ => true | .str _, .int _ => true | .bl _, .str _ => true | .str _, .bl _ => true
  | _, _ => false
/-- == -/
def eqS (h : PH) (v w : PV) (q : Bool → Prop) : Prop :=
  (scalP v w = true ∧ q (decide (v = w))) ∨ ∃ d e, toD h 64 v = some d ∧ toD h 64 w = some e ∧ q (PyData.eqv d e)
/-- truth -/
def truS (h : PH) (v : PV) : Option Bool := match v with
  | .non => some false
  | .bl b => some b
  | .int i => some (i != 0)
  | .str x => if x.length ≤ sizeLine then some ((x.length : Int) != 0) else none
  | .tup xs => some !xs.isEmpty
  | .rol xs => some !xs.isEmpty
  | .loc l => match h[l]? with
    | some (.lst xs) => some !xs.isEmpty
    | some (.dic kvs) => some !kvs.isEmpty
    | none => none
  | _ => none
/-- v in w -/
def inS (h : PH) (v w : PV) (q : Bool → Prop) : Prop := match w with
  | .str z => ∃ y, v = .str y ∧ q (!(Builtin.Str.occurrences z y 0 z.length 1).isEmpty)
  | .loc l => ∃ o, h[l]? = some o ∧ match o with
    | .lst xs => ∃ d es, toD h 64 v = some d ∧ xs.mapM (toD h 63) = some es ∧ q (es.any fun z => PyData.eqv z d)
    | .dic kvs => ∃ k, keyP v = some k ∧ q (dGet kvs k).isSome
  | _ => ∃ d xs es, toD h 64 v = some d ∧ items h w = some xs ∧ xs.mapM (toD h 63) = some es ∧ q (es.any fun z => PyData.eqv z d)
def strMul (x : Str) (n : Int) : Str := ⟨(List.replicate n.toNat x.cps.toList).flatten.toArray⟩
def binS (o : Operator) (v w : PV) (h : PH) (q : QV) : Prop := match o, v, w with
  | .Add, .int i, .int j => q (.int (i + j)) h
  | .Add, .str a, .str b => a.length + b.length ≤ sizeLine ∧ q (.str (a ++ b)) h
  | .Add, .tup xs, .tup ys => xs.length + ys.length ≤ sizeLine ∧ q (.tup (xs ++ ys)) h
  | .Add, .loc a, .loc b => ∃ xs ys, getL h a = some xs ∧ getL h b = some ys ∧ xs.length + ys.length ≤ sizeLine ∧ q (.loc h.length) (h ++ [.lst (xs ++ ys)])
  | .Sub, .int i, .int j => q (.int (i - j)) h
  | .Mult, .int i, .int j => CMulX i j ∧ q (.int (i * j)) h
  | .Mult, .tup xs, .int n => (xs ≠ [] ∧ 2 ≤ n ∧ n ≤ 1000 ∧ xs.length ≤ 1000) ∧ q (.tup (List.replicate n.toNat xs).flatten) h
  | .Mult, .str x, .int n => n ≤ 1000000 ∧ -1000000 ≤ n ∧ x.length * n.toNat ≤ 16777216 ∧ q (.str (strMul x n)) h
  | .FloorDiv, .int i, .int j => CDivW i j ∧ q (.int (i / j)) h
  | .Mod, .int i, .int j => 0 < j ∧ q (.int (i % j)) h
  | .Pow, .int i, .int j => CPow i j ∧ q (.int (i ^ j.toNat)) h
  | .LShift, .int i, .int j => CPow i j ∧ q (.int (i * 2 ^ j.toNat)) h
  | .RShift, .int i, .int j => 0 ≤ j ∧ q (.int (i / 2 ^ j.toNat)) h
  | .BitAnd, .int i, .int j => q (.int (Builtin.bitAnd i j)) h
  | .BitOr, .int i, .int j => q (.int (Builtin.bitOr i j)) h
  | .BitXor, .int i, .int j => q (.int (Builtin.bitXor i j)) h
  | _, _, _ => False
def cmpS (o : CmpOp) (v w : PV) (h : PH) (q : Bool → Prop) : Prop := match o with
  | .Eq => eqS h v w q
  | .NotEq => eqS h v w fun b => q (!b)
  | .Lt => ∃ i j, v = .int i ∧ w = .int j ∧ q (decide (i < j))
  | .LtE => ∃ i j, v = .int i ∧ w = .int j ∧ q (decide (i ≤ j))
  | .Gt => ∃ i j, v = .int i ∧ w = .int j ∧ q (decide (j < i))
  | .GtE => ∃ i j, v = .int i ∧ w = .int j ∧ q (decide (j ≤ i))
  | .Is => (w = .non ∧ q (decide (v = .non))) ∨ ∃ a b, v = .bl a ∧ w = .bl b ∧ q (decide (a = b))
  | .IsNot => (w = .non ∧ q (!decide (v = .non))) ∨ ∃ a b, v = .bl a ∧ w = .bl b ∧ q (!decide (a = b))
  | .In => inS h v w q
  | .NotIn => inS h v w fun b => q (!b)
/-- o[w] -/
def ixO (o : PO) (w : PV) (h : PH) (q : QV) : Prop := match o with
  | .lst xs => ∃ i k x, w = .int i ∧ ixP xs.length i = some k ∧ xs[k]? = some x ∧ q x h
  | .dic kvs => ∃ k y, keyP w = some k ∧ dGet kvs k = some y ∧ q y h
/-- v[w] -/
def ixS (v w : PV) (h : PH) (q : QV) : Prop := match v with
  | .str z => ∃ i k c, w = .int i ∧ z.length ≤ sizeLine ∧ ixP z.length i = some k ∧ z.cps.toList[k]? = some c ∧ q (.str ⟨#[c]⟩) h
  | .loc l => ∃ o, h[l]? = some o ∧ ixO o w h q
  | _ => ∃ i xs k x, w = .int i ∧ items h v = some xs ∧ ixP xs.length i = some k ∧ xs[k]? = some x ∧ q x h
/-- v[w] of what can be written -/
def augG (v w : PV) (h : PH) (q : QV) : Prop := ∃ l o, v = .loc l ∧ h[l]? = some o ∧ ixO o w h q
/-- a slice's bound as a place -/
def bndP (n d : Nat) (o : Option Int) : Nat := HT.sIx n d o
def cutP {α : Type} (xs : List α) (lo hi : Option Int) : List α := (xs.drop (bndP xs.length 0 lo)).take (bndP xs.length xs.length hi - bndP xs.length 0 lo)
/-- v[lo:hi] of a tuple or a text -/
def slS (v : PV) (lo hi : Option Int) (h : PH) (q : QV) : Prop := match v with
  | .tup xs => q (.tup (cutP xs lo hi)) h
  | .str z => z.length ≤ sizeLine ∧ q (.str (cutS z lo hi)) h
  | v => ∃ xs, itemsL h v = some xs ∧ q (.loc h.length) (h ++ [.lst (cutP xs lo hi)])
def typB (t : String) (v : PV) (h : PH) : Option Bool := match v with
  | .non => kitB "NoneType" t
  | .bl _ => kitB "bool" t
  | .int _ => kitB "int" t
  | .str _ => kitB "str" t
  | .tup _ => kitB "tuple" t
  | .rol _ => kitB "list" t
  | .loc l => match h[l]? with
    | some (.lst _) => kitB "list" t
    | some (.dic _) => kitB "dict" t
    | none => none
  | .xc _ _ => none
/-- len -/
def lenP (h : PH) (v : PV) : Option Nat := match v with
  | .str x => if x.length ≤ sizeLine then some x.length else none
  | .tup xs => some xs.length
  | .rol xs => some xs.length
  | .loc l => match h[l]? with
    | some (.lst xs) => some xs.length
    | some (.dic kvs) => some kvs.length
    | none => none
  | _ => none
def intP : PV → Option Int
  | .int i => some i
  | .bl k => some (if k then 1 else 0)
  | _ => none
def boolP : PV → Option Bool
  | .int i => some (i != 0)
  | .bl k => some k
  | _ => none
def strP : PV → Option Str
  | .int i => if i.natAbs.log2 < 1920 then some (toString i : String) else none
  | .str x => some x
  | _ => none
def bifS (b : Bif) (vs : List PV) (h : PH) (q : QV) : Prop := match b with
  | .len => ∃ v n, vs = [v] ∧ lenP h v = some n ∧ q (.int n) h
  | .int => ∃ v i, vs = [v] ∧ intP v = some i ∧ q (.int i) h
  | .bool => ∃ v i, vs = [v] ∧ boolP v = some i ∧ q (.bl i) h
  | .str => ∃ v x, vs = [v] ∧ strP v = some x ∧ q (.str x) h
  | .abs => ∃ i, vs = [.int i] ∧ q (.int (if i < 0 then -i else i)) h
  | .min2 => ∃ i j, vs = [.int i, .int j] ∧ q (.int (if j < i then j else i)) h
  | .max2 => ∃ i j, vs = [.int i, .int j] ∧ q (.int (if j > i then j else i)) h
  | .isT t => ∃ v b, vs = [v] ∧ typB t v h = some b ∧ q (.bl b) h
def intsOf : List PV → Option (List Int)
  | [] => some []
  | .int i :: r => (intsOf r).map (i :: ·)
  | _ => none
def blsOf : List PV → Option (List Bool)
  | [] => some []
  | .bl i :: r => (blsOf r).map (i :: ·)
  | _ => none
def lifS (b : Lif) (xs : List PV) (h : PH) (q : QV) : Prop := match b with
  | .tuple => q (.tup xs) h
  | .len => q (.int xs.length) h
  | .sum => ∃ ns, intsOf xs = some ns ∧ q (.int ns.sum) h
  | .max => ∃ ns, intsOf xs = some ns ∧ 0 < ns.length ∧ ∀ m, m ∈ ns → (∀ y, y ∈ ns → y ≤ m) → q (.int m) h
  | .min => ∃ ns, intsOf xs = some ns ∧ 0 < ns.length ∧ ∀ m, m ∈ ns → (∀ y, y ∈ ns → m ≤ y) → q (.int m) h
  | .all => ∃ bs, blsOf xs = some bs ∧ q (.bl (bs.all id)) h
  | .any => ∃ bs, blsOf xs = some bs ∧ q (.bl (bs.any id)) h
def mthO (m : Mth) (o : PO) (vs : List PV) (l : Nat) (h : PH) (q : QV) : Prop := match m, o, vs with
  | .append, .lst xs, [y] => xs.length < sizeLine ∧ q .non (h.set l (.lst (xs ++ [y])))
  | .pop, .lst xs, [] => ∃ y, xs[xs.length - 1]? = some y ∧ q y (h.set l (.lst xs.dropLast))
  | .popAt, .lst xs, [.int i] => ∃ k y, (-(2 ^ 63) ≤ i ∧ i < 2 ^ 63) ∧ ixP xs.length i = some k ∧ xs[k]? = some y ∧ q y (h.set l (.lst (xs.eraseIdx k)))
  | .insert, .lst xs, [.int i, y] => xs.length < sizeLine ∧ 0 ≤ i ∧ i < 2 ^ 63 ∧ q .non (h.set l (.lst (xs.take i.toNat ++ y :: xs.drop i.toNat)))
  | .reverse, .lst xs, [] => q .non (h.set l (.lst xs.reverse))
  | .get, .dic kvs, [k] => ∃ k', keyP k = some k' ∧ q ((dGet kvs k').getD .non) h
  | .getD, .dic kvs, [k, x] => ∃ k', keyP k = some k' ∧ q ((dGet kvs k').getD x) h
  | _, _, _ => False
def mthS (m : Mth) (v : PV) (vs : List PV) (h : PH) (q : QV) : Prop := ∃ l o, v = .loc l ∧ h[l]? = some o ∧ mthO m o vs l h q
/-- the kind of object that has the method -/
def Mth.dict : Mth → Bool
  | .get => true
  | .getD => true
  | _ => false
def PO.isDic : PO → Bool
  | .dic _ => true
  | .lst _ => false
def isObj (m : Mth) (h : PH) (v : PV) : Prop := ∃ l o, v = .loc l ∧ h[l]? = some o ∧ o.isDic = m.dict
/-- it is a list that may be written -/
def isLst (h : PH) (v : PV) : Prop := ∃ l xs, v = .loc l ∧ getL h l = some xs
def setS (v i w : PV) (h : PH) (q : PH → Prop) : Prop := ∃ l o, v = .loc l ∧ h[l]? = some o ∧ match o with
  | .lst xs => ∃ k j, i = .int k ∧ ixP xs.length k = some j ∧ q (h.set l (.lst (xs.set j w)))
  | .dic kvs => ∃ k, keyP i = some k ∧ kvs.length < sizeLine ∧ q (h.set l (.dic (dPut kvs k w)))
def augB (o : Operator) (v w : PV) (h : PH) (q : QV) : Prop := match o, v, w with
  | .Add, .int i, .int j => q (.int (i + j)) h
  | .Sub, .int i, .int j => q (.int (i - j)) h
  | .Add, .str a, .str b => a.length + b.length ≤ sizeLine ∧ q (.str (a ++ b)) h
  | _, _, _ => False
/-! ### targets -/
mutual
def setT : Tg → PV → PSt → (PSt → Prop) → Prop
  | .slot i, v, ς, q => q (ς.set i (some v))
  | .tup ts, v, ς, q => ∃ xs, v = .tup xs ∧ setTs ts xs ς q
def setTs : List Tg → List PV → PSt → (PSt → Prop) → Prop
  | [], vs, ς, q => vs = [] ∧ q ς
  | t :: ts, vs, ς, q => ∃ v r, vs = v :: r ∧ setT t v ς fun ς' => setTs ts r ς' q
end
/-- the slots of a comprehension's own names forgotten -/
def wipeP (ς : PSt) : List Nat → PSt
  | [] => ς
  | v :: vs => (wipeP ς vs).set v none

/-- what is wanted behind a statement -/
structure KS where
  nx : PSt → PH → Prop
  rt : QV
  ex : PV → PSt → PH → Prop := fun _ _ _ => False
  bk : PSt → PH → Prop := fun _ _ => False
  ct : PSt → PH → Prop := fun _ _ => False

/-- a loop over items; g: what must hold of the heap (the walked list stands) -/
def forW (g : PH → Prop) (t : Tg) (body : KS → PSt → PH → Prop) (κ : KS) : List PV → PSt → PH → Prop
  | [], ς, h => g h ∧ κ.nx ς h
  | x :: r, ς, h => g h ∧ setT t x ς fun ς' => body { κ with nx := forW g t body κ r, ct := forW g t body κ r, bk := κ.nx } ς' h
def whileW (c : PSt → PH → (Bool → PH → Prop) → Prop) (body : KS → PSt → PH → Prop) (κ : KS) : Nat → PSt → PH → Prop
  | 0, _, _ => False
  | n + 1, ς, h => c ς h fun b h1 => if b = true then body { κ with nx := whileW c body κ n, ct := whileW c body κ n, bk := κ.nx } ς h1 else κ.nx ς h1
/-- a comprehension over items -/
def compW (g : PH → Prop) (t : Tg) (ς : PSt) (cond : PSt → PH → (Bool → PH → Prop) → Prop) (elt : PSt → PH → QV → Prop) (q : List PV → PH → Prop) : List PV → List PV → PH → Prop
  | [], acc, h => g h ∧ q acc h
  | x :: r, acc, h => g h ∧ setT t x ς fun ς' => cond ς' h fun b h1 => if b = true then elt ς' h1 fun y h2 => acc.length < sizeLine ∧ compW g t ς cond elt q r (acc ++ [y]) h2 else compW g t ς cond elt q r acc h1

/-- the meaning of defs: by number, arguments, heap, what is wanted of the value, of an exception -/
abbrev Phi := Nat → List PV → PH → QV → QX → Prop

def rangeL (lo : Int) : Nat → List PV
  | 0 => []
  | n + 1 => .int lo :: rangeL (lo + 1) n
/-- a value, or the items of a list just made -/
inductive LV where
  | v (v : PV) | t (xs : List PV)
def lvA (h : PH) : LV → Option (List PV)
  | .v v => items h v
  | .t xs => some xs
/-- the items of a list, a tuple; a dict's keys -/
def lvK (h : PH) : LV → Option (List PV)
  | .v (.loc l) => match h[l]? with
    | some (.lst xs) => some xs
    | some (.dic kvs) => some (kvs.map fun kv => kP kv.1)
    | none => none
  | u => lvA h u
def strsOf : List PV → Option (List Str)
  | [] => some []
  | .str i :: r => (strsOf r).map (i :: ·)
  | _ => none
/-- what sorted gives -/
def sortS (xs : List PV) (h : PH) (q : List PV → PH → Prop) : Prop :=
  (∃ ns, intsOf xs = some ns ∧ ∀ ms : List Int, ms.Perm ns → ms.Pairwise (· ≤ ·) → q (ms.map .int) h) ∨
  ∃ zs, strsOf xs = some zs ∧ zs.length < 64 ∧ ∀ ys : List Str, ys.Perm zs → sortedS ys = true → q (ys.map .str) h
def oI (d : Int) : Option Int → Int
  | none => d
  | some i => i
def rangeC (lo c : Int) : Nat → List PV
  | 0 => []
  | n + 1 => .int lo :: rangeC (lo + c) c n
def enumL (k : Int) : List PV → List PV
  | [] => []
  | x :: r => .tup [.int k, x] :: enumL (k + 1) r
def zipL : List PV → List PV → List PV
  | x :: r, y :: s => .tup [x, y] :: zipL r s
  | _, _ => []
def lvL (h : PH) : LV → Option (List PV)
  | .v v => itemsL h v
  | .t xs => some xs
def lvM (h : PH) : LV → Option (List PV)
  | .v (.loc l) => getL h l
  | .v _ => none
  | .t xs => some xs
/-- what is asked of sum, max, min, all, any: a list -/
def needL : Lif → Bool
  | .tuple => false
  | .len => false
  | _ => true
def lvB (b : Lif) (h : PH) (u : LV) : Option (List PV) := if needL b = true then lvL h u else lvA h u
/-- that the list at a location stands -/
def standsP (v : PV) (xs : List PV) (h : PH) : Prop := items h v = some xs
section
variable (Φ : Phi)
mutual
def wE : Ex → QX → PSt → PH → QV → Prop
  | .var i, x, ς, h, q => ∃ v, ς[i]? = some (some v) ∧ q v h
  | .non, x, _, h, q => q .non h
  | .bl b, x, _, h, q => q (.bl b) h
  | .int i, x, _, h, q => q (.int i) h
  | .str z, x, _, h, q => q (.str z) h
  | .cst v _, x, _, h, q => q v h
  | .tup es, x, ς, h, q => wEs es x ς h fun vs h1 => vs.length ≤ sizeLine ∧ q (.tup vs) h1
  | .bin o a b, x, ς, h, q => wE a x ς h fun v h1 => wE b x ς h1 fun w h2 => binS o v w h2 q
  | .neg a, x, ς, h, q => wE a x ς h fun v h1 => ∃ i, v = .int i ∧ q (.int (-i)) h1
  | .cmp o a b, x, ς, h, q => wE a x ς h fun v h1 => wE b x ς h1 fun w h2 => cmpS o v w h2 fun r => q (.bl r) h2
  | .chn o o' a b c, x, ς, h, q => wE a x ς h fun u h1 => wE b x ς h1 fun v h2 => cmpS o u v h2 fun r => if r = true then wE c x ς h2 fun w h3 => cmpS o' v w h3 fun r' => q (.bl r') h3 else q (.bl false) h2
  | .and a b, x, ς, h, q => wE a x ς h fun v h1 => ∃ r, v = .bl r ∧ if r = true then wE b x ς h1 q else q (.bl false) h1
  | .or a b, x, ς, h, q => wE a x ς h fun v h1 => ∃ r, v = .bl r ∧ if r = true then q (.bl true) h1 else wE b x ς h1 q
  | .not a, x, ς, h, q => wE a x ς h fun v h1 => ∃ r, v = .bl r ∧ q (.bl (!r)) h1
  | .ifx c a b, x, ς, h, q => wT c x ς h fun r h1 => if r = true then wE a x ς h1 q else wE b x ς h1 q
  | .ix a b, x, ς, h, q => wE a x ς h fun v h1 => wE b x ς h1 fun w h2 => ixS v w h2 q
  | .sl a lo hi, x, ς, h, q => wE a x ς h fun v h1 => wO lo x ς h1 fun l h2 => wO hi x ς h2 fun u h3 => slS v l u h3 q
  | .call f es, x, ς, h, q => wEs es x ς h fun vs h1 => Φ f vs h1 q x
  | .bif b es, x, ς, h, q => wEs es x ς h fun vs h1 => bifS b vs h1 q
  | .lif b l, x, ς, h, q => wLa l x ς h fun u h1 => ∃ xs, lvB b h1 u = some xs ∧ lifS b xs h1 q
  | .mth m a es, x, ς, h, q => wE a x ς h fun v h1 => isObj m h1 v ∧ wEs es x ς h1 fun vs h2 => mthS m v vs h2 q
  | .ext a l, x, ς, h, q => wE a x ς h fun v h1 => isLst h1 v ∧ wLa l x ς h1 fun u h2 => ∃ l xs ys, v = .loc l ∧ getL h2 l = some xs ∧ lvM h2 u = some ys ∧ xs.length + ys.length ≤ sizeLine ∧ q .non (h2.set l (.lst (xs ++ ys)))
  | .new l, x, ς, h, q => wL l x ς h fun xs h1 => q (.loc h1.length) (h1 ++ [.lst xs])
  | .dic ps, x, ς, h, q => wPs ps x ς h fun kvs h1 => ∃ ks, keysOf kvs = some ks ∧ ks.length ≤ 15 ∧ q (.loc h1.length) (h1 ++ [.dic (dMerge [] ks)])
  | .callk f n m es ks ix, x, ς, h, q => wEs es x ς h fun vs h1 => wEs ks x ς h1 fun zs h2 => vs.length = n ∧ zs.length = m ∧ ∃ ws, ix.mapM (fun i => (vs ++ zs)[i]?) = some ws ∧ Φ f ws h2 q x
  | .tupR a b, x, ς, h, q => wO a x ς h fun i h1 => wO b x ς h1 fun j h2 => RgOk (oI 0 i) (oI 0 j) ∧ q (.tup (rangeL (oI 0 i) (oI 0 j - oI 0 i).toNat)) h2
  | .cin neg ks a, x, ς, h, q => wE a x ς h fun v h1 => ∃ z, v = .str z ∧ q (.bl (if neg then !ks.contains z else ks.contains z)) h1
  | .cix ks xs a, x, ς, h, q => wE a x ς h fun v h1 => ∃ z y, v = .str z ∧ rodGet ks xs z = some y ∧ q y h1
def wPs : Prs → QX → PSt → PH → (List (PV × PV) → PH → Prop) → Prop
  | .nil, x, _, h, q => q [] h
  | .cons k v r, x, ς, h, q => wE k x ς h fun y h1 => wE v x ς h1 fun z h2 => wPs r x ς h2 fun kvs h3 => q ((y, z) :: kvs) h3
def wEs : Exs → QX → PSt → PH → (List PV → PH → Prop) → Prop
  | .nil, x, _, h, q => q [] h
  | .cons e es, x, ς, h, q => wE e x ς h fun v h1 => wEs es x ς h1 fun vs h2 => q (v :: vs) h2
def wO : OEx → QX → PSt → PH → (Option Int → PH → Prop) → Prop
  | .no, x, _, h, q => q none h
  | .some e, x, ς, h, q => wE e x ς h fun v h1 => ∃ i, v = .int i ∧ q (some i) h1
/-- a test -/
def wT : Ex → QX → PSt → PH → (Bool → PH → Prop) → Prop
  | .and a b, x, ς, h, q => wT a x ς h fun r h1 => if r = true then wT b x ς h1 q else q false h1
  | .or a b, x, ς, h, q => wT a x ς h fun r h1 => if r = true then q true h1 else wT b x ς h1 q
  | .not a, x, ς, h, q => wT a x ς h fun r h1 => q (!r) h1
  | .cmp o a b, x, ς, h, q => wE a x ς h fun v h1 => wE b x ς h1 fun w h2 => cmpS o v w h2 fun r => q r h2
  | .chn o o' a b c, x, ς, h, q => wE a x ς h fun u h1 => wE b x ς h1 fun v h2 => cmpS o u v h2 fun r => if r = true then wE c x ς h2 fun w h3 => cmpS o' v w h3 fun r' => q r' h3 else q false h2
  | .var i, x, ς, h, q => ∃ v, ς[i]? = some (some v) ∧ ∃ r, truS h v = some r ∧ q r h
  | .bl b, x, _, h, q => q b h
  | .cin neg ks a, x, ς, h, q => wE a x ς h fun v h1 => ∃ z, v = .str z ∧ q (if neg then !ks.contains z else ks.contains z) h1
  | .ix a b, x, ς, h, q => wE a x ς h fun v h1 => wE b x ς h1 fun w h2 => ixS v w h2 fun u h3 => ∃ r, truS h3 u = some r ∧ q r h3
  | .call f es, x, ς, h, q => wEs es x ς h fun vs h1 => Φ f vs h1 (fun v h2 => ∃ r, truS h2 v = some r ∧ q r h2) x
  | .bif b es, x, ς, h, q => wEs es x ς h fun vs h1 => bifS b vs h1 fun v h2 => ∃ r, truS h2 v = some r ∧ q r h2
  | .lif b l, x, ς, h, q => wLa l x ς h fun u h1 => ∃ xs, lvB b h1 u = some xs ∧ lifS b xs h1 fun v h2 => ∃ r, truS h2 v = some r ∧ q r h2
  | _, _, _, _, _ => False
def wL : Lx → QX → PSt → PH → (List PV → PH → Prop) → Prop
  | .disp es, x, ς, h, q => wEs es x ς h fun vs h1 => vs.length ≤ sizeLine ∧ q vs h1
  | .cat a b, x, ς, h, q => wLa a x ς h fun u h1 => wLa b x ς h1 fun w h2 => ∃ xs ys, lvM h2 u = some xs ∧ lvM h2 w = some ys ∧ xs.length + ys.length ≤ sizeLine ∧ q (xs ++ ys) h2
  | .rep a n, x, ς, h, q => wLa a x ς h fun u h1 => wE n x ς h1 fun w h2 => ∃ xs i, lvM h2 u = some xs ∧ w = .int i ∧ -(2 ^ 63) ≤ i ∧ i < 2 ^ 63 ∧ xs.length * i.toNat ≤ sizeLine ∧ q (List.replicate i.toNat xs).flatten h2
  | .comp own elt t it cond, x, ς, h, q => wI it x ς h fun xs g h1 => compW g t (wipeP ς own) (wC cond fun _ _ => False) (wE elt fun _ _ => False) q xs [] h1
  | .cut a lo hi, x, ς, h, q => wLa a x ς h fun u h1 => wO lo x ς h1 fun l h2 => wO hi x ς h2 fun w h3 => ∃ xs, lvL h3 u = some xs ∧ q (cutP xs l w) h3
  | .list a, x, ς, h, q => wLa a x ς h fun u h1 => ∃ xs, lvK h1 u = some xs ∧ q xs h1
  | .sort a, x, ς, h, q => wLa a x ς h fun u h1 => ∃ xs, lvL h1 u = some xs ∧ sortS xs h1 q
  | .rng a b, x, ς, h, q => wO a x ς h fun i h1 => wO b x ς h1 fun j h2 => RgOk (oI 0 i) (oI 0 j) ∧ q (rangeL (oI 0 i) (oI 0 j - oI 0 i).toNat) h2
/-- a list or tuple: the value, or the items of one just made -/
def wLa : La → QX → PSt → PH → (LV → PH → Prop) → Prop
  | .e e, x, ς, h, q => wE e x ς h fun v h1 => q (.v v) h1
  | .l l, x, ς, h, q => wL l x ς h fun xs h1 => q (.t xs) h1
def wC : OEx → QX → PSt → PH → (Bool → PH → Prop) → Prop
  | .no, x, _, h, q => q true h
  | .some e, x, ς, h, q => wT e x ς h q
def wI : Wk → QX → PSt → PH → (List PV → (PH → Prop) → PH → Prop) → Prop
  | .la (.e e), x, ς, h, q => wE e x ς h fun v h1 => (∃ xs, items h1 v = some xs ∧ q xs (standsP v xs) h1) ∨ ∃ z, v = .str z ∧ q (z.cps.toList.map fun c => .str ⟨#[c]⟩) (fun _ => True) h1
  | .la (.l l), x, ς, h, q => wL l x ς h fun xs h1 => q xs (fun _ => True) h1
  | .range1 a, x, ς, h, q => wE a x ς h fun v h1 => ∃ j : Int, v = .int j ∧ -(2 ^ 62) ≤ j ∧ j < 2 ^ 62 ∧ q (rangeL 0 j.toNat) (fun _ => True) h1
  | .range2 a b, x, ς, h, q => wE a x ς h fun v h1 => wE b x ς h1 fun w h2 => ∃ i j : Int, v = .int i ∧ w = .int j ∧ (-(2 ^ 62) ≤ i ∧ i < 2 ^ 62 ∧ -(2 ^ 62) ≤ j ∧ j < 2 ^ 62) ∧ q (rangeL i (j - i).toNat) (fun _ => True) h2
  | .range3 a b c, x, ς, h, q => wE a x ς h fun v h1 => wE b x ς h1 fun w h2 => wE c x ς h2 fun u h3 => ∃ (i j k : Int) (n : Nat), v = .int i ∧ w = .int j ∧ u = .int k ∧ RgC i j k n ∧ q (rangeC i k n) (fun _ => True) h3
  | .enum (.e e), x, ς, h, q => wE e x ς h fun v h1 => ∃ xs, items h1 v = some xs ∧ q (enumL 0 xs) (standsP v xs) h1
  | .enum (.l l), x, ς, h, q => wL l x ς h fun xs h1 => q (enumL 0 xs) (fun _ => True) h1
  | _, _, _, _, _ => False
end
end
/-- a suite's own calls: what it asks of the exception -/
def Φx (k : Nat) (fs : List PV) (Φ : Phi) : Phi := fun id vs h q x => match fName id with
  | some f => ∃ v, xGet k fs f = some v ∧ atomP v = true ∧ q v h
  | none => if 910000 ≤ id then q (.bl (xSub k (id - 910000))) h else Φ id vs h q x
/-- the slot of a clause's name holds nothing else -/
def unS : Option Nat → PSt → PSt
  | none, ς => ς
  | some i, ς => ς.set i none
def inSl : Option Nat → PSt → Prop
  | none, _ => True
  | some i, ς => i < ς.length
def unK (i : Option Nat) (κ : KS) : KS := { nx := fun ς h => κ.nx (unS i ς) h, rt := κ.rt, bk := fun ς h => κ.bk (unS i ς) h, ct := fun ς h => κ.ct (unS i ς) h }
mutual
def wS (Φ : Phi) : Sm → KS → PSt → PH → Prop
  | .ct .pass, κ, ς, h => κ.nx ς h
  | .ct .brk, κ, ς, h => κ.bk ς h
  | .ct .cnt, κ, ς, h => κ.ct ς h
  | .expr e, κ, ς, h => wE Φ e (fun e h => κ.ex e ς h) ς h fun _ h1 => κ.nx ς h1
  | .set t e, κ, ς, h => wE Φ e (fun e h => κ.ex e ς h) ς h fun v h1 => setT t v ς fun ς' => κ.nx ς' h1
  | .par i j a b, κ, ς, h => wE Φ a (fun e h => κ.ex e ς h) ς h fun v h1 => wE Φ b (fun e h => κ.ex e ς h) ς h1 fun w h2 => κ.nx ((ς.set i (some v)).set j (some w)) h2
  | .sub o i e, κ, ς, h => wE Φ e (fun e h => κ.ex e ς h) ς h fun w h1 => wE Φ o (fun e h => κ.ex e ς h) ς h1 fun v h2 => wE Φ i (fun e h => κ.ex e ς h) ς h2 fun k h3 => setS v k w h3 fun h4 => κ.nx ς h4
  | .aug i op e, κ, ς, h => ∃ v, ς[i]? = some (some v) ∧ wE Φ e (fun e h => κ.ex e ς h) ς h fun w h1 => augB op v w h1 fun u h2 => κ.nx (ς.set i (some u)) h2
  | .augS o i op e, κ, ς, h => wE Φ o (fun e h => κ.ex e ς h) ς h fun v h1 => wE Φ i (fun e h => κ.ex e ς h) ς h1 fun k h2 => augG v k h2 fun u h3 => wE Φ e (fun e h => κ.ex e ς h) ς h3 fun w h4 => augB op u w h4 fun z h5 => setS v k z h5 fun h6 => κ.nx ς h6
  | .ret e, κ, ς, h => wE Φ e (fun e h => κ.ex e ς h) ς h κ.rt
  | .retN, κ, _, h => κ.rt .non h
  | .ifs c a b, κ, ς, h => wT Φ c (fun e h => κ.ex e ς h) ς h fun r h1 => if r = true then wSs Φ a κ ς h1 else wSs Φ b κ ς h1
  | .fors t it b, κ, ς, h => wI Φ it (fun e h => κ.ex e ς h) ς h fun xs g h1 => forW g t (wSs Φ b) κ xs ς h1
  | .whil c b, κ, ς, h => ∃ n, whileW (fun ς h => wT Φ c (fun e h => κ.ex e ς h) ς h) (wSs Φ b) κ n ς h
  | .raise k es, κ, ς, h => wEs Φ es (fun e h => κ.ex e ς h) ς h fun vs h1 => vs.length = (xFields k).length ∧ vs.all atomP = true ∧ κ.ex (.xc k vs) ς h1
  | .tryx b hs, κ, ς, h => wSs Φ b { κ with ex := fun e ς' h' => wH Φ hs e κ ς' h' } ς h
def wSs (Φ : Phi) : Sms → KS → PSt → PH → Prop
  | .nil, κ, ς, h => κ.nx ς h
  | .cons s r, κ, ς, h => wS Φ s { κ with nx := wSs Φ r κ } ς h
def wH (Φ : Phi) : Hds → PV → KS → PSt → PH → Prop
  | .nil, e, κ, ς, h => κ.ex e ς h
  | .cons c i s r, e, κ, ς, h => match e with
    | .xc k fs => if xSub k c = true then inSl i ς ∧ wSs (Φx k fs Φ) s (unK i κ) (unS i ς) h else wH Φ r (.xc k fs) κ ς h
    | _ => False
end
/-- a def: how many parameters, how many slots, the body -/
structure Fn where
  ps : Nat
  ns : Nat
  body : Sms
abbrev Tab := Nat → Option Fn
/-- the meaning of the defs of a table, n calls deep -/
def den (T : Tab) (n : Nat) : Phi := match n with
  | 0 => fun _ _ _ _ _ => False
  | n + 1 => fun f vs h q x => ∃ F, T f = some F ∧ vs.length = F.ps ∧ wSs (den T n) F.body { nx := fun _ h' => q .non h', rt := q, ex := fun e _ h' => x e h' } (vs.map some ++ List.replicate (F.ns - F.ps) none) h
termination_by n
theorem den_zero {T : Tab} {f : Nat} {vs : List PV} {h : PH} {q : QV} {x : QX} (z : den T 0 f vs h q x) : False := by
  rw [den] at z
  exact z
theorem den_succ {T : Tab} {n f : Nat} {vs : List PV} {h : PH} {q : QV} {x : QX} : den T (n + 1) f vs h q x = ∃ F, T f = some F ∧ vs.length = F.ps ∧ wSs (den T n) F.body { nx := fun _ h' => q .non h', rt := q, ex := fun e _ h' => x e h' } (vs.map some ++ List.replicate (F.ns - F.ps) none) h := by
  rw [den]
end WD
end
section
set_option Elab.async false
set_option linter.all false
set_option maxRecDepth 100000
set_option autoImplicit false
set_option maxHeartbeats 4000000
/-! WRel: how pure values and heaps stand in the abstract heap of the layer. -/
namespace WD
open PySem PySem.Spec PyProof.Rows L2

/-- a list that no code may change: locked, or of the written part -/
def SqF (K : PySem.W.Frag) (H : Hp) (a : Addr) (vs : List V) : Prop := (∃ o, H a = some (.frz o (.lst vs))) ∨ SqL K (fun _ => none) a vs
mutual
inductive Rep (K : PySem.W.Frag) (ρ : Nat → Addr) (n : Nat) (H : Hp) : PV → V → Prop
  | non : Rep K ρ n H .non .non
  | bl (b : Bool) : Rep K ρ n H (.bl b) (.bl b)
  | int (i : Int) : Rep K ρ n H (.int i) (.int i)
  | str (x : Str) : PyData.strOk x = true → Rep K ρ n H (.str x) (.str x)
  | tup {xs : List PV} {a : Addr} {vs : List V} : SqT K H a vs → Reps K ρ n H xs vs → Rep K ρ n H (.tup xs) (.ref a)
  | rol {xs : List PV} {a : Addr} {vs : List V} : SqF K H a vs → Reps K ρ n H xs vs → Rep K ρ n H (.rol xs) (.ref a)
  | loc (l : Nat) : l < n → Rep K ρ n H (.loc l) (.ref (ρ l))
inductive Reps (K : PySem.W.Frag) (ρ : Nat → Addr) (n : Nat) (H : Hp) : List PV → List V → Prop
  | nil : Reps K ρ n H [] []
  | cons {x : PV} {u : V} {xs : List PV} {us : List V} : Rep K ρ n H x u → Reps K ρ n H xs us → Reps K ρ n H (x :: xs) (u :: us)
end
def kOk : Key → Bool
  | .inl _ => true
  | .inr x => PyData.strOk x
/-- the pairs of a dict -/
inductive RepD (K : PySem.W.Frag) (ρ : Nat → Addr) (n : Nat) (H : Hp) : List (Key × PV) → List (Key × V) → Prop
  | nil : RepD K ρ n H [] []
  | cons {k : Key} {x : PV} {u : V} {xs : List (Key × PV)} {us : List (Key × V)} : kOk k = true → Rep K ρ n H x u → RepD K ρ n H xs us → RepD K ρ n H ((k, x) :: xs) ((k, u) :: us)
/-- what stands at an address for an object -/
inductive OR (K : PySem.W.Frag) (ρ : Nat → Addr) (n : Nat) (H : Hp) : PO → Option HO → Prop
  | lst {xs : List PV} {vs : List V} : Reps K ρ n H xs vs → OR K ρ n H (.lst xs) (some (.lst vs))
  | dic {xs : List (Key × PV)} {vs : List (Key × V)} : RepD K ρ n H xs vs → OR K ρ n H (.dic xs) (some (.dK vs))
structure HR (K : PySem.W.Frag) (ρ : Nat → Addr) (h : PH) (H : Hp) : Prop where
  obj : ∀ l o, h[l]? = some o → OR K ρ h.length H o (H (ρ l))
  inj : ∀ l l', l < h.length → l' < h.length → ρ l = ρ l' → l = l'
structure Ext (ρ : Nat → Addr) (n : Nat) (H : Hp) (ρ' : Nat → Addr) (n' : Nat) (H' : Hp) : Prop where
  le : n ≤ n'
  eq : ∀ l, l < n → ρ' l = ρ l
  keep : ∀ a u, H a = some u → (∀ l, l < n → ρ l ≠ a) → H' a = some u
  new : ∀ l, n ≤ l → l < n' → H (ρ' l) = none

variable {K : PySem.W.Frag} {ρ ρ' ρ1 ρ2 : Nat → Addr} {n n' n1 n2 : Nat} {H H' H1 H2 : Hp} {h h' h1 h2 : PH} {v w : PV} {u : V} {xs ys : List PV} {us vs : List V} {a p : Addr} {l : Nat} {ς : PSt} {σ : L2.St}

theorem Reps.length : ∀ {xs : List PV} {us : List V}, Reps K ρ n H xs us → xs.length = us.length
  | _, _, .nil => rfl
  | _, _, .cons _ t => by simp [Reps.length t]
theorem Reps.get : ∀ {xs : List PV} {us : List V} {i : Nat} {x : PV}, Reps K ρ n H xs us → xs[i]? = some x → ∃ u, us[i]? = some u ∧ Rep K ρ n H x u
  | _, _, _, _, .nil, e => by simp at e
  | _, _, 0, _, .cons r _, e => by simp at e; subst e; exact ⟨_, rfl, r⟩
  | _, _, i + 1, x, .cons _ t, e => by
    obtain ⟨u, h1, h2⟩ := Reps.get (i := i) (x := x) t (by simpa using e)
    exact ⟨u, by simpa using h1, h2⟩
theorem Reps.get' : ∀ {xs : List PV} {us : List V} {i : Nat} {u : V}, Reps K ρ n H xs us → us[i]? = some u → ∃ x, xs[i]? = some x ∧ Rep K ρ n H x u
  | _, _, _, _, .nil, e => by simp at e
  | _, _, 0, _, .cons r _, e => by simp at e; subst e; exact ⟨_, rfl, r⟩
  | _, _, i + 1, u, .cons _ t, e => by
    obtain ⟨x, h1, h2⟩ := Reps.get' (i := i) (u := u) t (by simpa using e)
    exact ⟨x, by simpa using h1, h2⟩
theorem Reps.append : ∀ {xs ys : List PV} {us vs : List V}, Reps K ρ n H xs us → Reps K ρ n H ys vs → Reps K ρ n H (xs ++ ys) (us ++ vs)
  | _, _, _, _, .nil, s => s
  | _, _, _, _, .cons r t, s => .cons r (Reps.append t s)
theorem Reps.set {x : PV} {u : V} (r : Rep K ρ n H x u) : ∀ {xs : List PV} {us : List V} (i : Nat), Reps K ρ n H xs us → Reps K ρ n H (xs.set i x) (us.set i u)
  | _, _, _, .nil => .nil
  | _, _, 0, .cons _ t => .cons r t
  | _, _, i + 1, .cons q t => .cons q (Reps.set r i t)
theorem Reps.take : ∀ {xs : List PV} {us : List V} (k : Nat), Reps K ρ n H xs us → Reps K ρ n H (xs.take k) (us.take k)
  | _, _, 0, _ => .nil
  | _, _, _ + 1, .nil => .nil
  | _, _, k + 1, .cons r t => .cons r (Reps.take k t)
theorem Reps.drop : ∀ {xs : List PV} {us : List V} (k : Nat), Reps K ρ n H xs us → Reps K ρ n H (xs.drop k) (us.drop k)
  | _, _, 0, r => r
  | _, _, _ + 1, .nil => .nil
  | _, _, k + 1, .cons _ t => Reps.drop k t
theorem Reps.erase : ∀ {xs : List PV} {us : List V} (k : Nat), Reps K ρ n H xs us → Reps K ρ n H (xs.eraseIdx k) (us.eraseIdx k)
  | _, _, _, .nil => .nil
  | _, _, 0, .cons _ t => t
  | _, _, k + 1, .cons r t => .cons r (Reps.erase k t)
theorem Reps.reverse : ∀ {xs : List PV} {us : List V}, Reps K ρ n H xs us → Reps K ρ n H xs.reverse us.reverse
  | _, _, .nil => .nil
  | _, _, .cons r t => by simpa using (Reps.reverse t).append (.cons r .nil)
theorem Reps.dropLast {xs : List PV} {us : List V} (r : Reps K ρ n H xs us) : Reps K ρ n H xs.dropLast us.dropLast := by
  rw [List.dropLast_eq_take, List.dropLast_eq_take, r.length]; exact r.take _
theorem Reps.repl {xs : List PV} {us : List V} (r : Reps K ρ n H xs us) : ∀ k : Nat, Reps K ρ n H (List.replicate k xs).flatten (List.replicate k us).flatten
  | 0 => .nil
  | k + 1 => by simpa [List.replicate_succ] using r.append (Reps.repl r k)
theorem Reps.cut {xs : List PV} {us : List V} (r : Reps K ρ n H xs us) (lo hi : Option Int) : Reps K ρ n H (cutP xs lo hi) (cutV us lo hi) := by
  unfold cutP cutV bndP
  rw [r.length]
  exact (r.drop _).take _

theorem RepD.length : ∀ {xs : List (Key × PV)} {us : List (Key × V)}, RepD K ρ n H xs us → xs.length = us.length
  | _, _, .nil => rfl
  | _, _, .cons _ _ t => by simp [RepD.length t]
theorem RepD.keys : ∀ {xs : List (Key × PV)} {us : List (Key × V)}, RepD K ρ n H xs us → xs.map (·.1) = us.map (·.1)
  | _, _, .nil => rfl
  | _, _, .cons _ _ t => by simp [RepD.keys t]
theorem dGet_pos {α : Type} {p : Key × α} {r : List (Key × α)} {k : Key} (e : p.1 = k) : dGet (p :: r) k = some p.2 := by simp [dGet, List.find?_cons, e]
theorem dGet_neg {α : Type} {p : Key × α} {r : List (Key × α)} {k : Key} (e : ¬ p.1 = k) : dGet (p :: r) k = dGet r k := by simp [dGet, List.find?_cons, e]
theorem RepD.get : ∀ {xs : List (Key × PV)} {us : List (Key × V)}, RepD K ρ n H xs us → ∀ k : Key, (dGet xs k = none ∧ valV us k = none) ∨ ∃ x u, dGet xs k = some x ∧ valV us k = some u ∧ Rep K ρ n H x u
  | _, _, .nil, k => .inl ⟨rfl, rfl⟩
  | (k', x) :: xs, (_, u) :: us, .cons _ r t, k => by
    by_cases e : k' = k
    · exact .inr ⟨x, u, dGet_pos e, valV_pos e, r⟩
    · rw [dGet_neg (p := (k', x)) e, valV_neg (p := (k', u)) e]
      exact RepD.get t k
theorem RepD.append : ∀ {xs ys : List (Key × PV)} {us vs : List (Key × V)}, RepD K ρ n H xs us → RepD K ρ n H ys vs → RepD K ρ n H (xs ++ ys) (us ++ vs)
  | _, _, _, _, .nil, s => s
  | _, _, _, _, .cons o r t, s => .cons o r (RepD.append t s)
theorem RepD.repl {x : PV} {u : V} (r0 : Rep K ρ n H x u) (k : Key) : ∀ {xs : List (Key × PV)} {us : List (Key × V)}, RepD K ρ n H xs us → RepD K ρ n H (xs.map fun kv => if kv.1 = k then (kv.1, x) else kv) (us.map fun kv => if kv.1 = k then (kv.1, u) else kv)
  | _, _, .nil => .nil
  | (k', y) :: xs, (_, v) :: us, .cons o r t => by
    rw [List.map_cons, List.map_cons]
    by_cases e : k' = k
    · rw [if_pos e, if_pos e]
      exact .cons o r0 (RepD.repl r0 k t)
    · rw [if_neg e, if_neg e]
      exact .cons o r (RepD.repl r0 k t)
theorem RepD.any : ∀ {xs : List (Key × PV)} {us : List (Key × V)}, RepD K ρ n H xs us → ∀ k : Key, (xs.any fun kv => decide (kv.1 = k)) = us.any fun kv => decide (kv.1 = k)
  | _, _, .nil, k => rfl
  | _, _, .cons _ r t, k => by rw [List.any_cons, List.any_cons, RepD.any t k]
theorem RepD.put {x : PV} {u : V} {xs : List (Key × PV)} {us : List (Key × V)} (t : RepD K ρ n H xs us) (r : Rep K ρ n H x u) (k : Key) (ok : kOk k = true) : RepD K ρ n H (dPut xs k x) (putK us k u) := by
  unfold dPut putK
  rw [t.any k]
  split
  · exact t.repl r k
  · exact t.append (.cons ok r .nil)
theorem RepD.merge : ∀ {ys : List (Key × PV)} {vs : List (Key × V)}, RepD K ρ n H ys vs → ∀ {xs : List (Key × PV)} {us : List (Key × V)}, RepD K ρ n H xs us → RepD K ρ n H (dMerge xs ys) (mergeK us vs)
  | _, _, .nil, _, _, t => t
  | _, _, .cons o r s, _, _, t => RepD.merge s (t.put r _ o)
theorem RepD.vals : ∀ {xs : List (Key × PV)} {us : List (Key × V)}, RepD K ρ n H xs us → Reps K ρ n H (xs.map (·.2)) (us.map (·.2))
  | _, _, .nil => .nil
  | _, _, .cons _ r t => .cons r (RepD.vals t)
theorem RepD.keyReps : ∀ {xs : List (Key × PV)} {us : List (Key × V)}, RepD K ρ n H xs us → Reps K ρ n H (xs.map fun kv => kP kv.1) (us.map fun kv => kV kv.1)
  | _, _, .nil => .nil
  | (.inl i, _) :: _, (_, _) :: _, .cons _ _ t => .cons (.int i) (RepD.keyReps t)
  | (.inr x, _) :: _, (_, _) :: _, .cons o _ t => .cons (.str x o) (RepD.keyReps t)
def seqO : HO → Bool
  | .lst _ => true
  | .dK _ => true
  | _ => false
theorem HR.ntup (R : HR K ρ h H) {o : HO} (hl : l < h.length) (e : H (ρ l) = some o) : seqO o = true := by
  have q := R.obj l h[l] (List.getElem?_eq_getElem hl)
  rw [e] at q
  generalize h[l] = po at q
  cases q with
  | lst r => rfl
  | dic r => rfl
theorem HR.there (R : HR K ρ h H) (hl : l < h.length) : ∃ o, H (ρ l) = some o := by
  have q := R.obj l h[l] (List.getElem?_eq_getElem hl)
  generalize h[l] = po at q
  cases e : H (ρ l) with
  | some o => exact ⟨o, rfl⟩
  | none => rw [e] at q; cases q
theorem SqT.ext (R : HR K ρ h H) (E : Ext ρ h.length H ρ' n' H') (s : SqT K H a us) : SqT K H' a us := by
  rcases s with (s | ⟨o, s⟩) | s
  · exact .inl (.inl (E.keep a _ s fun l hl z => by
      rw [← z] at s
      cases R.ntup hl s))
  · exact .inl (.inr ⟨o, E.keep a _ s fun l hl z => by
      rw [← z] at s
      cases R.ntup hl s⟩)
  · exact .inr s
theorem SqF.sq (s : SqF K H a us) : SqL K H a us := by
  rcases s with ⟨o, s⟩ | s
  · exact .inl (.inr ⟨o, s⟩)
  · rcases s with (s | ⟨o, s⟩) | s
    · cases s
    · cases s
    · exact .inr s
theorem SqF.ext (R : HR K ρ h H) (E : Ext ρ h.length H ρ' n' H') (s : SqF K H a us) : SqF K H' a us := by
  rcases s with ⟨o, s⟩ | s
  · exact .inl ⟨o, E.keep a _ s fun l hl z => by
      rw [← z] at s
      cases R.ntup hl s⟩
  · exact .inr s
mutual
theorem Rep.ext (R : HR K ρ h H) (E : Ext ρ h.length H ρ' n' H') : ∀ {v : PV} {u : V}, Rep K ρ h.length H v u → Rep K ρ' n' H' v u
  | _, _, .non => .non
  | _, _, .bl b => .bl b
  | _, _, .int i => .int i
  | _, _, .str x e => .str x e
  | _, _, .tup s r => .tup (WD.SqT.ext R E s) (Reps.ext R E r)
  | _, _, .rol s r => .rol (SqF.ext R E s) (Reps.ext R E r)
  | _, _, .loc l hl => by
    rw [← E.eq l hl]
    exact .loc l (Nat.lt_of_lt_of_le hl E.le)
theorem Reps.ext (R : HR K ρ h H) (E : Ext ρ h.length H ρ' n' H') : ∀ {xs : List PV} {us : List V}, Reps K ρ h.length H xs us → Reps K ρ' n' H' xs us
  | _, _, .nil => .nil
  | _, _, .cons r t => .cons (Rep.ext R E r) (Reps.ext R E t)
end
theorem RepD.ext (R : HR K ρ h H) (E : Ext ρ h.length H ρ' n' H') : ∀ {xs : List (Key × PV)} {us : List (Key × V)}, RepD K ρ h.length H xs us → RepD K ρ' n' H' xs us
  | _, _, .nil => .nil
  | _, _, .cons o r t => .cons o (Rep.ext R E r) (RepD.ext R E t)
theorem OR.ext (R : HR K ρ h H) (E : Ext ρ h.length H ρ' n' H') {o : PO} {u : Option HO} (q : OR K ρ h.length H o u) : OR K ρ' n' H' o u := by
  cases q with
  | lst r => exact .lst (Reps.ext R E r)
  | dic r => exact .dic (RepD.ext R E r)
theorem Ext.refl : Ext ρ n H ρ n H := ⟨Nat.le_refl _, fun _ _ => rfl, fun _ _ e _ => e, fun l h1 h2 => absurd (Nat.lt_of_lt_of_le h2 h1) (Nat.lt_irrefl _)⟩
theorem Ext.trans (R1 : HR K ρ1 h1 H1) (A : Ext ρ n H ρ1 h1.length H1) (B : Ext ρ1 h1.length H1 ρ2 n2 H2) : Ext ρ n H ρ2 n2 H2 where
  le := Nat.le_trans A.le B.le
  eq := fun l hl => (B.eq l (Nat.lt_of_lt_of_le hl A.le)).trans (A.eq l hl)
  keep := fun a u e hn => B.keep a u (A.keep a u e hn) fun l hl z => by
    by_cases q : l < n
    · exact hn l q ((A.eq l q).symm.trans z)
    · have := A.new l (Nat.le_of_not_lt q) hl
      rw [z, e] at this
      cases this
  new := fun l hl hl2 => by
    by_cases q : l < h1.length
    · rw [B.eq l q]
      exact A.new l hl q
    · have z := B.new l (Nat.le_of_not_lt q) hl2
      cases e : H (ρ2 l) with
      | none => rfl
      | some u =>
        by_cases r : ∃ l', l' < n ∧ ρ l' = ρ2 l
        · obtain ⟨l', h3, h4⟩ := r
          obtain ⟨o, h5⟩ := R1.there (Nat.lt_of_lt_of_le h3 A.le)
          rw [A.eq l' h3, h4, z] at h5
          cases h5
        · have := A.keep _ u e fun l' h3 h4 => r ⟨l', h3, h4⟩
          rw [z] at this
          cases this
/-- the exception that a suite holds: its slot, object, dict, fields -/
structure XHt where
  i : Nat
  a : Addr
  d : Addr
  fs : List (Str × V)
/-- what is fixed: the written part, the exception classes; the exception at hand -/
structure GE where
  K : PySem.W.Frag
  cls : Nat → Option (Addr × List Str)
  xh : Option XHt
/-- a slot that holds no exception -/
def GE.free (G : GE) (i : Nat) : Prop := ∀ x, G.xh = some x → x.i ≠ i
theorem GE.free_none {G : GE} (h : G.xh = none) (i : Nat) : G.free i := fun x e => by rw [h] at e; cases e
/-- the slots -/
structure SR (G : GE) (ρ : Nat → Addr) (n : Nat) (H : Hp) (ς : PSt) (σ : L2.St) : Prop where
  len : ς.length = σ.length
  get : ∀ (i : Nat) (v : PV), ς[i]? = some (some v) → ∃ u, σ[i]? = some (some u) ∧ Rep G.K ρ n H v u
  gh : ∀ x, G.xh = some x → σ[x.i]? = some (some (.ref x.a)) ∧ H x.d = some (.xd x.fs)
section
variable {G : GE}
theorem HR.xd {fs : List (Str × V)} (R : HR K ρ h H) (e : H a = some (.xd fs)) : ∀ l, l < h.length → ρ l ≠ a := fun l hl z => by
  have r := R.obj l _ (List.getElem?_eq_getElem hl)
  rw [z, e] at r
  generalize h[l] = o at r
  cases r
theorem SR.ext (S : SR G ρ h.length H ς σ) (R : HR G.K ρ h H) (E : Ext ρ h.length H ρ' n' H') : SR G ρ' n' H' ς σ :=
  ⟨S.len, fun i v e => let ⟨u, a, b⟩ := S.get i v e; ⟨u, a, b.ext R E⟩, fun x e => ⟨(S.gh x e).1, E.keep _ _ (S.gh x e).2 (R.xd (S.gh x e).2)⟩⟩
theorem SR.set (S : SR G ρ n H ς σ) (i : Nat) (hi : G.free i) (r : Rep G.K ρ n H v u) : SR G ρ n H (ς.set i (some v)) (σ.set i (some u)) := by
  refine ⟨by simp [S.len], fun j w e => ?_, fun x e => ⟨by rw [List.getElem?_set_ne (Ne.symm (hi x e))]; exact (S.gh x e).1, (S.gh x e).2⟩⟩
  by_cases q : i = j
  · subst q
    by_cases hl : i < ς.length
    · rw [List.getElem?_set_self hl] at e
      cases e
      exact ⟨u, by rw [List.getElem?_set_self (by rw [← S.len]; exact hl)], r⟩
    · rw [List.getElem?_eq_none (by simpa using hl)] at e
      cases e
  · rw [List.getElem?_set_ne q] at e
    obtain ⟨u', a, b⟩ := S.get j w e
    exact ⟨u', by rw [List.getElem?_set_ne q]; exact a, b⟩
theorem unset_get (i : Nat) (o : Option V) (S : ∀ (i : Nat) (v : PV), ς[i]? = some (some v) → ∃ u, σ[i]? = some (some u) ∧ Rep K ρ n H v u) : ∀ (j : Nat) (w : PV), (ς.set i none)[j]? = some (some w) → ∃ u, (σ.set i o)[j]? = some (some u) ∧ Rep K ρ n H w u := by
  intro j w e
  by_cases q : i = j
  · subst q
    by_cases hl : i < ς.length
    · rw [List.getElem?_set_self hl] at e
      cases e
    · rw [List.getElem?_eq_none (by simpa using hl)] at e
      cases e
  · rw [List.getElem?_set_ne q] at e
    obtain ⟨u', a, b⟩ := S j w e
    exact ⟨u', by rw [List.getElem?_set_ne q]; exact a, b⟩
theorem SR.unset (S : SR G ρ n H ς σ) (i : Nat) (hi : G.free i) : SR G ρ n H (ς.set i none) (σ.set i none) :=
  ⟨by simp [S.len], unset_get i none S.get, fun x e => ⟨by rw [List.getElem?_set_ne (Ne.symm (hi x e))]; exact (S.gh x e).1, (S.gh x e).2⟩⟩
theorem SR.wipe (hx : G.xh = none) (S : SR G ρ n H ς σ) : ∀ vs : List Nat, SR G ρ n H (wipeP ς vs) (wipe σ vs)
  | [] => S
  | v :: vs => (SR.wipe hx S vs).unset v (GE.free_none hx v)
end

/-! ### steps of the heap -/
theorem getL_some (e : getL h l = some xs) : h[l]? = some (.lst xs) := by
  unfold getL at e
  split at e
  · cases e; assumption
  · cases e
theorem getL_lt (e : getL h l = some xs) : l < h.length := by
  have := getL_some e
  exact (List.getElem?_eq_some_iff.mp this).1
/-- a new untracked object -/
theorem Ext.fresh {o : HO} (hp : H p = none) : Ext ρ n H ρ n (upd H p o) :=
  ⟨Nat.le_refl _, fun _ _ => rfl, fun a u e _ => by rw [upd_ne (ne_of_none e hp)]; exact e, fun l h1 h2 => absurd (Nat.lt_of_lt_of_le h2 h1) (Nat.lt_irrefl _)⟩
theorem HR.fresh {o : HO} (R : HR K ρ h H) (hp : H p = none) : HR K ρ h (upd H p o) := by
  refine ⟨fun l o' e => ?_, R.inj⟩
  have hl : l < h.length := (List.getElem?_eq_some_iff.mp e).1
  have q := R.obj l o' e
  obtain ⟨o2, e2⟩ := R.there hl
  rw [e2] at q
  rw [upd_ne (ne_of_none e2 hp), e2]
  exact q.ext R (Ext.fresh hp)
/-- a list that stands at p, untracked, is tracked from now on -/
def ρadd (ρ : Nat → Addr) (n : Nat) (p : Addr) : Nat → Addr := fun l => if l = n then p else ρ l
theorem ρadd_lt {p : Addr} (hl : l < n) : ρadd ρ n p l = ρ l := by unfold ρadd; rw [if_neg (Nat.ne_of_lt hl)]
theorem ρadd_self {p : Addr} : ρadd ρ n p n = p := by unfold ρadd; rw [if_pos rfl]
/-- from H, where p is new, to H1, where the list stands at p -/
theorem Ext.track (E : Ext ρ n H ρ1 h1.length H1) (hp : H p = none) : Ext ρ n H (ρadd ρ1 h1.length p) (h1.length + 1) H1 where
  le := Nat.le_succ_of_le E.le
  eq := fun l hl => by rw [ρadd_lt (Nat.lt_of_lt_of_le hl E.le)]; exact E.eq l hl
  keep := E.keep
  new := fun l h1' h2' => by
    by_cases q : l = h1.length
    · rw [q, ρadd_self]; exact hp
    · have hl : l < h1.length := by omega
      rw [ρadd_lt hl]; exact E.new l h1' hl
mutual
theorem Rep.more (hn : ∀ l, l < n → ρ' l = ρ l) (hle : n ≤ n') : ∀ {v : PV} {u : V}, Rep K ρ n H v u → Rep K ρ' n' H v u
  | _, _, .non => .non
  | _, _, .bl b => .bl b
  | _, _, .int i => .int i
  | _, _, .str x e => .str x e
  | _, _, .tup s r => .tup s (Reps.more hn hle r)
  | _, _, .rol s r => .rol s (Reps.more hn hle r)
  | _, _, .loc l hl => by rw [← hn l hl]; exact .loc l (Nat.lt_of_lt_of_le hl hle)
theorem Reps.more (hn : ∀ l, l < n → ρ' l = ρ l) (hle : n ≤ n') : ∀ {xs : List PV} {us : List V}, Reps K ρ n H xs us → Reps K ρ' n' H xs us
  | _, _, .nil => .nil
  | _, _, .cons r t => .cons (Rep.more hn hle r) (Reps.more hn hle t)
end
theorem RepD.more (hn : ∀ l, l < n → ρ' l = ρ l) (hle : n ≤ n') : ∀ {xs : List (Key × PV)} {us : List (Key × V)}, RepD K ρ n H xs us → RepD K ρ' n' H xs us
  | _, _, .nil => .nil
  | _, _, .cons o r t => .cons o (Rep.more hn hle r) (RepD.more hn hle t)
theorem OR.more (hn : ∀ l, l < n → ρ' l = ρ l) (hle : n ≤ n') {o : PO} {u : Option HO} (q : OR K ρ n H o u) : OR K ρ' n' H o u := by
  cases q with
  | lst r => exact .lst (Reps.more hn hle r)
  | dic r => exact .dic (RepD.more hn hle r)
theorem HR.track {po : PO} {uo : HO} (R : HR K ρ h H) (hp : H p = some uo) (hn : ∀ l, l < h.length → ρ l ≠ p) (r : OR K ρ h.length H po (some uo)) : HR K (ρadd ρ h.length p) (h ++ [po]) H where
  obj := fun l o e => by
    by_cases q : l < h.length
    · rw [List.getElem?_append_left q] at e
      have z := R.obj l o e
      rw [ρadd_lt q]
      obtain ⟨o2, e2⟩ := R.there q
      rw [e2] at z ⊢
      exact z.more (fun l hl => ρadd_lt hl) (by simp)
    · have hl : l < (h ++ [po]).length := (List.getElem?_eq_some_iff.mp e).1
      have q2 : l = h.length := by simp at hl; omega
      subst q2
      simp at e
      subst e
      rw [ρadd_self, hp]
      exact r.more (fun l hl => ρadd_lt hl) (by simp)
  inj := fun l l' hl hl' e => by
    simp only [List.length_append, List.length_cons, List.length_nil] at hl hl'
    by_cases q : l < h.length <;> by_cases q' : l' < h.length
    · rw [ρadd_lt q, ρadd_lt q'] at e; exact R.inj l l' q q' e
    · have : l' = h.length := by omega
      subst this
      rw [ρadd_lt q, ρadd_self] at e
      exact absurd e (hn l q)
    · have : l = h.length := by omega
      subst this
      rw [ρadd_lt q', ρadd_self] at e
      exact absurd e.symm (hn l' q')
    · omega
/-- a tracked list is written -/
theorem Ext.write (R : HR K ρ h H) (hl : l < h.length) {o : HO} : Ext ρ h.length H ρ h.length (upd H (ρ l) o) :=
  ⟨Nat.le_refl _, fun _ _ => rfl, fun a u e hn => by rw [upd_ne (Ne.symm (hn l hl))]; exact e, fun l h1 h2 => absurd (Nat.lt_of_lt_of_le h2 h1) (Nat.lt_irrefl _)⟩
theorem HR.write {po : PO} {uo : HO} (R : HR K ρ h H) (hl : l < h.length) (r : OR K ρ h.length H po (some uo)) : HR K ρ (h.set l po) (upd H (ρ l) uo) := by
  have E : Ext ρ h.length H ρ (h.set l po).length (upd H (ρ l) uo) := by
    rw [List.length_set]
    exact Ext.write R hl
  refine ⟨fun j o e => ?_, fun j j' hj hj' e => R.inj j j' (by simpa using hj) (by simpa using hj') e⟩
  by_cases q : l = j
  · subst q
    rw [List.getElem?_set_self hl] at e
    cases e
    rw [upd_same]
    exact r.ext R E
  · rw [List.getElem?_set_ne q] at e
    have hj : j < h.length := (List.getElem?_eq_some_iff.mp e).1
    have z := R.obj j o e
    rw [upd_ne fun y => q (R.inj l j hl hj y.symm)]
    obtain ⟨o2, e2⟩ := R.there hj
    rw [e2] at z ⊢
    exact z.ext R E
theorem Ext.write' (R : HR K ρ h H) (hl : l < h.length) {o : HO} {po : PO} : Ext ρ h.length H ρ (h.set l po).length (upd H (ρ l) o) := by
  rw [List.length_set]
  exact Ext.write R hl
/-- what stands at a location -/
theorem HR.list (R : HR K ρ h H) (e : getL h l = some xs) : ∃ us, H (ρ l) = some (.lst us) ∧ Reps K ρ h.length H xs us := by
  have q := R.obj l _ (getL_some e)
  obtain ⟨o2, e2⟩ := R.there (getL_lt e)
  rw [e2] at q
  cases q with
  | lst r => exact ⟨_, e2, r⟩
theorem HR.dict {kvs : List (Key × PV)} (R : HR K ρ h H) (e : h[l]? = some (.dic kvs)) : ∃ us, H (ρ l) = some (.dK us) ∧ RepD K ρ h.length H kvs us := by
  have q := R.obj l _ e
  obtain ⟨o2, e2⟩ := R.there (List.getElem?_eq_some_iff.mp e).1
  rw [e2] at q
  cases q with
  | dic r => exact ⟨_, e2, r⟩
end WD
end
section
set_option Elab.async false
set_option linter.all false
set_option maxRecDepth 100000
set_option autoImplicit false
set_option maxHeartbeats 4000000
/-! WOps: each operation by values, seen in the abstract heap. -/
namespace WD
open PySem PySem.Spec PyProof.Rows L2

/-- an exception, as it flies -/
def XR (G : GE) (ρ : Nat → Addr) (n : Nat) (H : Hp) (e : PV) (c : Value) (d : Option Addr) : Prop :=
  ∃ k fs C ns dd vs fl, e = .xc k fs ∧ G.cls k = some (C, ns) ∧ c = .ref C ∧ d = some dd ∧ H dd = some (.xd fl) ∧ (∀ f, fl.lookup f = (ns.zip vs).lookup f) ∧ Reps G.K ρ n H fs vs ∧ vs.length = ns.length
/-- what follows is answered: for values related by R -/
def Cov {α β : Type} (G : GE) (R : (Nat → Addr) → Nat → Hp → α → β → Prop) (ρ : Nat → Addr) (h : PH) (H : Hp) (q : α → PH → Prop) (Q : β → Hp → Prop) : Prop :=
  ∀ ρ' h' H' v u, Ext ρ h.length H ρ' h'.length H' → HR G.K ρ' h' H' → R ρ' h'.length H' v u → q v h' → Q u H'
def CovX (G : GE) (ρ : Nat → Addr) (h : PH) (H : Hp) (x : QX) (σ : L2.St) (W : WX) : Prop :=
  ∀ ρ' h' H' e c d, Ext ρ h.length H ρ' h'.length H' → HR G.K ρ' h' H' → XR G ρ' h'.length H' e c d → x e h' → W c d σ H'

section
variable {α β : Type} {G : GE} {R : (Nat → Addr) → Nat → Hp → α → β → Prop} {ρ ρ1 : Nat → Addr} {h h1 : PH} {H H1 : Hp} {q : α → PH → Prop} {Q : β → Hp → Prop} {x : QX} {σ : L2.St} {W : WX}
theorem Cov.at (c : Cov G R ρ h H q Q) (R1 : HR G.K ρ1 h1 H1) (E : Ext ρ h.length H ρ1 h1.length H1) : Cov G R ρ1 h1 H1 q Q :=
  fun ρ' h' H' v u E' R' r k => c ρ' h' H' v u (E.trans R1 E') R' r k
theorem CovX.at (c : CovX G ρ h H x σ W) (R1 : HR G.K ρ1 h1 H1) (E : Ext ρ h.length H ρ1 h1.length H1) : CovX G ρ1 h1 H1 x σ W :=
  fun ρ' h' H' e k d E' R' r z => c ρ' h' H' e k d (E.trans R1 E') R' r z
theorem CovX.none : CovX G ρ h H (fun _ _ => False) σ W := fun _ _ _ _ _ _ _ _ _ z => z.elim
end
abbrev RV (G : GE) : (Nat → Addr) → Nat → Hp → PV → V → Prop := Rep G.K
abbrev RVs (G : GE) : (Nat → Addr) → Nat → Hp → List PV → List V → Prop := Reps G.K
abbrev REq (α : Type) : (Nat → Addr) → Nat → Hp → α → α → Prop := fun _ _ _ a b => a = b

/-! ### texts -/
theorem strOk_append {a b : Str} (ha : PyData.strOk a = true) (hb : PyData.strOk b = true) : PyData.strOk (a ++ b) = true := by
  have e : (a ++ b).cps = a.cps ++ b.cps := rfl
  unfold PyData.strOk at *
  rw [e, Array.all_append, ha, hb]
  rfl
theorem strOk_iff {a : Str} : PyData.strOk a = true ↔ ∀ c ∈ a.cps.toList, c < 0x110000 := by
  unfold PyData.strOk
  rw [← Array.all_toList, List.all_eq_true]
  simp
theorem strOk_sign {a : Str} (ha : PyData.strOk a = true) {c : Nat} {k : Nat} (e : a.cps.toList[k]? = some c) : PyData.strOk ⟨#[c]⟩ = true := by
  rw [strOk_iff] at ha ⊢
  intro d hd
  have : d = c := by simpa using hd
  rw [this]
  exact ha c (List.mem_of_getElem? e)
theorem strOk_cut {a : Str} (ha : PyData.strOk a = true) (lo hi : Option Int) : PyData.strOk (cutS a lo hi) = true := by
  rw [strOk_iff] at ha ⊢
  intro d hd
  refine ha d ?_
  have e : (cutS a lo hi).cps.toList = (a.cps.toList.drop (HT.sIx a.length 0 lo)).take (HT.sIx a.length a.length hi - HT.sIx a.length 0 lo) := by
    show (Array.toList (List.toArray _)) = _
    rw [List.toList_toArray]
  rw [e] at hd
  exact List.mem_of_mem_drop (List.mem_of_mem_take hd)
theorem strOk_mul {a : Str} (ha : PyData.strOk a = true) (n : Int) : PyData.strOk (strMul a n) = true := by
  rw [strOk_iff] at ha ⊢
  intro d hd
  refine ha d ?_
  have e : (strMul a n).cps.toList = (List.replicate n.toNat a.cps.toList).flatten := by
    show (Array.toList (List.toArray _)) = _
    rw [List.toList_toArray]
  rw [e, List.mem_flatten] at hd
  obtain ⟨l, h1, h2⟩ := hd
  rw [List.mem_replicate] at h1
  rw [h1.2] at h2
  exact h2
theorem strOk_int (i : Int) : PyData.strOk (Str.ofString (toString i)) = true := by
  rw [strOk_iff]
  intro d hd
  rw [Str.ofString_eq_toList] at hd
  simp only [List.toList_toArray, List.mem_map] at hd
  obtain ⟨c, _, rfl⟩ := hd
  have := c.valid
  simp only [UInt32.isValidChar, Nat.isValidChar] at this
  show c.val.toNat < _
  omega

section
variable {K : PySem.W.Frag} {ρ : Nat → Addr} {n : Nat} {H : Hp} {h : PH} {v w : PV} {u u' : V}
/-! ### data -/
theorem Rep.intInv {i : Int} (r : Rep K ρ n H (.int i) u) : u = .int i := by cases r; rfl
theorem Rep.strInv {x : Str} (r : Rep K ρ n H (.str x) u) : u = .str x ∧ PyData.strOk x = true := by cases r; exact ⟨rfl, by assumption⟩
theorem Rep.blInv {b : Bool} (r : Rep K ρ n H (.bl b) u) : u = .bl b := by cases r; rfl
theorem Rep.nonInv (r : Rep K ρ n H .non u) : u = .non := by cases r; rfl
theorem Rep.tupInv {xs : List PV} (r : Rep K ρ n H (.tup xs) u) : ∃ a vs, u = .ref a ∧ SqT K H a vs ∧ Reps K ρ n H xs vs := by cases r; exact ⟨_, _, rfl, by assumption, by assumption⟩
theorem Rep.rolInv {xs : List PV} (r : Rep K ρ n H (.rol xs) u) : ∃ a vs, u = .ref a ∧ SqF K H a vs ∧ Reps K ρ n H xs vs := by cases r; exact ⟨_, _, rfl, by assumption, by assumption⟩
theorem Rep.locInv {l : Nat} (r : Rep K ρ n H (.loc l) u) : u = .ref (ρ l) ∧ l < n := by cases r; exact ⟨rfl, by assumption⟩
/-- what is a list or a tuple -/
theorem items_sq (R : HR K ρ h H) {xs : List PV} (e : items h v = some xs) (r : Rep K ρ h.length H v u) : ∃ a vs, u = .ref a ∧ (SqL K H a vs ∨ SqT K H a vs) ∧ Reps K ρ h.length H xs vs := by
  cases v with
  | tup ys =>
    have e1 : ys = xs := Option.some.inj e
    subst e1
    obtain ⟨a, vs, h1, h2, h3⟩ := r.tupInv
    exact ⟨a, vs, h1, .inr h2, h3⟩
  | rol ys =>
    have e1 : ys = xs := Option.some.inj e
    subst e1
    obtain ⟨a, vs, h1, h2, h3⟩ := r.rolInv
    exact ⟨a, vs, h1, .inl h2.sq, h3⟩
  | loc l =>
    obtain ⟨us, h1, h2⟩ := R.list (show getL h l = some xs from e)
    exact ⟨_, us, r.locInv.1, .inl (SqL.of h1), h2⟩
  | _ => cases e
theorem itemsL_sq (R : HR K ρ h H) {xs : List PV} (e : itemsL h v = some xs) (r : Rep K ρ h.length H v u) : ∃ a vs, u = .ref a ∧ SqL K H a vs ∧ Reps K ρ h.length H xs vs := by
  cases v with
  | rol ys =>
    have e1 : ys = xs := Option.some.inj e
    subst e1
    obtain ⟨a, vs, h1, h2, h3⟩ := r.rolInv
    exact ⟨a, vs, h1, h2.sq, h3⟩
  | loc l =>
    obtain ⟨us, h1, h2⟩ := R.list (show getL h l = some xs from e)
    exact ⟨_, us, r.locInv.1, SqL.of h1, h2⟩
  | _ => cases e
theorem mapM_len {α β : Type} {f : α → Option β} : ∀ {xs : List α} {ys : List β}, xs.mapM f = some ys → xs.length = ys.length
  | [], ys, e => by
    have : ([] : List β) = ys := by simpa using e
    rw [← this]; rfl
  | x :: xs, ys, e => by
    rw [List.mapM_cons] at e
    cases h1 : f x with
    | none => rw [h1] at e; cases e
    | some y =>
      rw [h1] at e
      cases h2 : xs.mapM f with
      | none => rw [h2] at e; cases e
      | some zs =>
        rw [h2] at e
        have : y :: zs = ys := Option.some.inj e
        rw [← this, List.length_cons, List.length_cons, mapM_len h2]
theorem mapM_cons_some {α β : Type} {f : α → Option β} {x : α} {xs : List α} {ys : List β} (e : (x :: xs).mapM f = some ys) : ∃ y zs, f x = some y ∧ xs.mapM f = some zs ∧ ys = y :: zs := by
  rw [List.mapM_cons] at e
  cases h1 : f x with
  | none => rw [h1] at e; cases e
  | some y =>
    rw [h1] at e
    cases h2 : xs.mapM f with
    | none => rw [h2] at e; cases e
    | some zs =>
      rw [h2] at e
      exact ⟨y, zs, rfl, rfl, (Option.some.inj e).symm⟩
mutual
theorem toD_dp (R : HR K ρ h H) : ∀ (k : Nat) (v : PV) (u : V) (d : PyData), toD h k v = some d → Rep K ρ h.length H v u → Dp K H u d ∧ d.canLay0 = true ∧ d.depth ≤ k
  | 0, _, _, _, e, _ => by cases e
  | k + 1, .non, _, _, e, r => by cases e; cases r; exact ⟨.non, rfl, Nat.zero_le _⟩
  | k + 1, .bl b, _, _, e, r => by cases e; cases r; exact ⟨.bl b, rfl, Nat.zero_le _⟩
  | k + 1, .int i, _, _, e, r => by cases e; cases r; exact ⟨.int i, rfl, Nat.zero_le _⟩
  | k + 1, .str x, _, _, e, r => by
    cases e
    obtain ⟨rfl, hs⟩ := r.strInv
    exact ⟨.str x, by simpa [PyData.canLay0] using hs, Nat.zero_le _⟩
  | k + 1, .tup xs, _, _, e, r => by
    simp only [toD, Option.map_eq_some_iff] at e
    obtain ⟨ds, e1, rfl⟩ := e
    obtain ⟨a, vs, rfl, h2, h3⟩ := r.tupInv
    obtain ⟨z1, z2, z3⟩ := toD_dps R k xs vs ds e1 h3
    exact ⟨.tup h2 z1, by simpa [PyData.canLay0] using z2, by simp only [PyData.depth]; omega⟩
  | k + 1, .rol xs, _, _, e, r => by
    simp only [toD, Option.map_eq_some_iff] at e
    obtain ⟨ds, e1, rfl⟩ := e
    obtain ⟨a, vs, rfl, h2, h3⟩ := r.rolInv
    obtain ⟨z1, z2, z3⟩ := toD_dps R k xs vs ds e1 h3
    exact ⟨.lst h2.sq z1, by simpa [PyData.canLay0] using z2, by simp only [PyData.depth]; omega⟩
  | k + 1, .loc l, _, _, e, r => by
    simp only [toD] at e
    cases h0 : getL h l with
    | none => rw [h0] at e; cases e
    | some xs =>
      rw [h0] at e
      simp only [Option.map_eq_some_iff] at e
      obtain ⟨ds, e1, rfl⟩ := e
      obtain ⟨us, h1, h2⟩ := R.list h0
      rw [r.locInv.1]
      obtain ⟨z1, z2, z3⟩ := toD_dps R k xs us ds e1 h2
      exact ⟨.lst (SqL.of h1) z1, by simpa [PyData.canLay0] using z2, by simp only [PyData.depth]; omega⟩
  | k + 1, .xc _ _, _, _, e, _ => by cases e
theorem toD_dps (R : HR K ρ h H) : ∀ (k : Nat) (xs : List PV) (us : List V) (ds : List PyData), xs.mapM (toD h k) = some ds → Reps K ρ h.length H xs us → DpAll K H us ds ∧ PyData.canLayAll0 ds = true ∧ PyData.depthAll ds ≤ k
  | k, [], us, ds, e, r => by
    cases r
    have : ds = [] := by simpa using e.symm
    subst this
    exact ⟨.nil, rfl, Nat.zero_le _⟩
  | k, x :: xs, us, ds, e, r => by
    cases r with
    | cons r1 r2 =>
      obtain ⟨y, zs, e1, e2, rfl⟩ := mapM_cons_some e
      obtain ⟨a1, a2, a3⟩ := toD_dp R k x _ y e1 r1
      obtain ⟨b1, b2, b3⟩ := toD_dps R k xs _ zs e2 r2
      exact ⟨.cons a1 b1, by simp [PyData.canLayAll0, a2, b2], by simp only [PyData.depthAll]; omega⟩
end
theorem shaped_of {d : PyData} (h1 : d.canLay0 = true) (h2 : d.depth ≤ 64) : SeqAt.shaped d = true := by
  unfold SeqAt.shaped
  rw [h1, decide_eq_true h2]
  rfl
theorem scal_rep (e : scalP v w = true) (r : Rep K ρ n H v u) (r' : Rep K ρ n H w u') : L2.scal u u' = true ∧ decide (u = u') = decide (v = w) := by
  cases r <;> cases r' <;> first
    | (simp [scalP] at e; done)
    | (refine ⟨rfl, ?_⟩; simp)
end
section
variable {X : Cx} {ρ : Nat → Addr} {H : Hp} {h : PH} {v w : PV} {u u' : V}
/-- a two-place operation that gives a value -/
def OpOk (X : Cx) (f : Value → Value → Sem Value) (m : PV → PV → PH → QV → Prop) : Prop :=
  ∃ r : R2, OpR X f r ∧ ∀ (G : GE) (ρ : Nat → Addr) (h : PH) (H : Hp) (v w : PV) (u u' : V) (q : QV) (Q : VK), G.K = X.K → HR G.K ρ h H → Rep G.K ρ h.length H v u → Rep G.K ρ h.length H w u' → m v w h q → Cov G (RV G) ρ h H q Q → r u u' H Q
theorem Cov.here {G : GE} {q : QV} {Q : VK} (c : Cov G (RV G) ρ h H q Q) (R : HR G.K ρ h H) (r : Rep G.K ρ h.length H v u) (k : q v h) : Q u H := c ρ h H v u Ext.refl R r k
/-- a new tuple -/
theorem Cov.newTup {G : GE} {q : QV} {Q : VK} {xs : List PV} {us : List V} (c : Cov G (RV G) ρ h H q Q) (R : HR G.K ρ h H) (r : Reps G.K ρ h.length H xs us) (k : q (.tup xs) h) (p : Addr) (hp : H p = none) : Q (.ref p) (upd H p (.tup us)) :=
  c ρ h _ (.tup xs) (.ref p) (Ext.fresh hp) (R.fresh hp) (.tup (SqT.of upd_same) (Reps.ext R (Ext.fresh hp) r)) k
/-- a new list, tracked from now on -/
theorem Cov.newLst {G : GE} {q : QV} {Q : VK} {xs : List PV} {us : List V} (c : Cov G (RV G) ρ h H q Q) (R : HR G.K ρ h H) (r : Reps G.K ρ h.length H xs us) (k : q (.loc h.length) (h ++ [.lst xs])) (p : Addr) (hp : H p = none) : Q (.ref p) (upd H p (.lst us)) := by
  have R1 : HR G.K ρ h (upd H p (.lst us)) := R.fresh hp
  have E1 : Ext ρ h.length H ρ h.length (upd H p (.lst us)) := Ext.fresh hp
  have nl : ∀ l, l < h.length → ρ l ≠ p := fun l hl z => by
    obtain ⟨o, e⟩ := R.there hl
    rw [z, hp] at e
    cases e
  refine c (ρadd ρ h.length p) (h ++ [.lst xs]) _ (.loc h.length) (.ref p) ?_ (R1.track upd_same nl (.lst (Reps.ext R E1 r))) ?_ k
  · have := Ext.track (h1 := h) E1 hp
    rwa [show (h ++ [PO.lst xs]).length = h.length + 1 by simp]
  · have e : V.ref p = V.ref (ρadd ρ h.length p h.length) := by rw [ρadd_self]
    rw [e]
    exact .loc h.length (by simp)
/-- what is just laid, tracked from now on -/
theorem Cov.trackNew {G : GE} {q : QV} {Q : VK} {po : PO} {uo : HO} {ρ0 : Nat → Addr} {h0 : PH} {H0 : Hp} {p : Addr} (R0 : HR G.K ρ0 h0 H0) (E : Ext ρ0 h0.length H0 ρ h.length H) (hp0 : H0 p = none) (c : Cov G (RV G) ρ0 h0 H0 q Q) (R : HR G.K ρ h H) (hp : H p = some uo) (nl : ∀ l, l < h.length → ρ l ≠ p) (r : OR G.K ρ h.length H po (some uo)) (k : q (.loc h.length) (h ++ [po])) : Q (.ref p) H := by
  refine c (ρadd ρ h.length p) (h ++ [po]) H (.loc h.length) (.ref p) ?_ (R.track hp nl r) ?_ k
  · have := Ext.track E hp0
    rwa [show (h ++ [po]).length = h.length + 1 by simp]
  · have e : V.ref p = V.ref (ρadd ρ h.length p h.length) := by rw [ρadd_self]
    rw [e]
    exact .loc h.length (by simp)
theorem strOk_of_mul {a : Str} {k : Nat} : (⟨(List.replicate k a.cps).foldl (· ++ ·) #[]⟩ : Str) = strMul a k := by
  unfold strMul
  congr 1
  have : ∀ (m : Nat) (acc : Array Nat), ((List.replicate m a.cps).foldl (· ++ ·) acc) = acc ++ (List.replicate m a.cps.toList).flatten.toArray := by
    intro m
    induction m with
    | zero => intro acc; simp
    | succ m ih =>
      intro acc
      rw [List.replicate_succ, List.foldl_cons, ih]
      rw [List.replicate_succ, List.flatten_cons]
      apply Array.ext'
      simp
  rw [this]
  simp
theorem op_strMul : OpR X (binaryOp .Mult) (fun x y H Q => ∃ (z : Str) (k : Int), x = .str z ∧ y = .int k ∧ k ≤ 1000000 ∧ -1000000 ≤ k ∧ z.length * k.toNat ≤ 16777216 ∧ Q (.str (strMul z k)) H) := by
  intro pins s σ H x y v u Q I rx ry hh
  obtain ⟨z, k, rfl, rfl, h1, h2, h3, q⟩ := hh
  obtain ⟨t, rfl⟩ := rx
  obtain ⟨t', rfl⟩ := ry
  have hl : (z.length : Int) * k.toNat ≤ 16777216 := by
    have h9 := Int.ofNat_le.mpr h3
    rw [Int.natCast_mul] at h9
    exact h9
  refine PySem.P.mul_str (by rw [decide_eq_false (by omega), decide_eq_false (by omega)]; rfl) (fun h4 _ h5 => ?_) (fun h4 _ => ?_) ?_
  · have hk : 1 ≤ k := by omega
    have e1 : (2 ^ 63 - 1) / k ≥ 16777216 := by
      have : (16777216 : Int) * k ≤ 2 ^ 63 - 1 := by omega
      exact (Int.le_ediv_iff_mul_le (by omega)).mpr this
    have e2 : (z.length : Int) ≤ 16777216 := by
      have : (1 : Int) ≤ k.toNat := by omega
      have : (z.length : Int) * 1 ≤ (z.length : Int) * k.toNat := Int.mul_le_mul_of_nonneg_left this (by omega)
      omega
    omega
  · show decide (z.length * k.toNat > sizeLine) = false
    rw [decide_eq_false]
    rw [sizeLine_eq]
    omega
  · have fin : ∀ s', Inv X pins σ H s' → ∀ tk, EP X pins σ Q (.str (strMul z k) tk) s' := fun s' I' tk => ⟨.str (strMul z k), H, I', ⟨_, rfl⟩, q⟩
    split
    · rename_i h4
      have e : strMul z k = Str.empty := by
        unfold strMul
        have : k.toNat = 0 := by omega
        rw [this]
        rfl
      rw [← e]
      exact ⟨by rw [e]; decide, fin _ (I.tok _) _⟩
    · rename_i h4
      split
      · rename_i h5
        have e : strMul z k = z := by
          simp only [Bool.or_eq_true, beq_iff_eq] at h5
          rcases h5 with h5 | h5
          · subst h5
            unfold strMul
            simp
          · unfold strMul
            have : z.cps = #[] := Array.eq_empty_of_size_eq_zero h5
            obtain ⟨c⟩ := z
            simp only at this
            subst this
            simp
        rw [e] at fin
        exact fin _ I _
      · have e : (⟨(List.replicate k.toNat z.cps).foldl (· ++ ·) #[]⟩ : Str) = strMul z k := by
          rw [strOk_of_mul]
          congr 1
          omega
        rw [e]
        refine ⟨?_, fin _ (I.tok _) _⟩
        have : (strMul z k).length ≤ sizeLine := by
          unfold strMul Str.length
          simp only [List.size_toArray, List.length_flatten, List.map_replicate, List.sum_replicate_nat, Array.length_toList]
          rw [sizeLine_eq]
          have : z.cps.size * k.toNat ≤ 16777216 := h3
          rw [Nat.mul_comm]
          exact this
        exact this
end
end WD
end
section
set_option Elab.async false
set_option linter.all false
set_option maxRecDepth 100000
set_option autoImplicit false
set_option maxHeartbeats 4000000
/-! WOps2: binary operations, comparisons, subscripts, slices, truth. -/
namespace WD
open PySem PySem.Spec PyProof.Rows L2
section
variable {X : Cx}
abbrev rF : R2 := fun _ _ _ _ => False
theorem op_F {f : Value → Value → Sem Value} : OpR X f rF := fun _ _ _ _ _ _ _ _ _ _ _ _ h => h.elim
theorem bin_ok (o : Operator) : OpOk X (binaryOp o) (binS o) := by
  cases o with
  | Add =>
    refine ⟨_, (op_add.or (op_add_str.or (op_catA.or op_cat))), fun G ρ h H v w u u' q Q eK R r r' m c => ?_⟩
    cases v <;> cases w <;> try (exact (m : False).elim)
    · rw [r.intInv, r'.intInv]
      exact .inl ⟨_, _, rfl, rfl, c.here R (.int _) m⟩
    · obtain ⟨e1, s1⟩ := r.strInv
      obtain ⟨e2, s2⟩ := r'.strInv
      rw [e1, e2]
      exact .inr (.inl ⟨_, _, rfl, rfl, m.1, c.here R (.str _ (strOk_append s1 s2)) m.2⟩)
    · obtain ⟨a, vs, rfl, q1, r1⟩ := r.tupInv
      obtain ⟨b, ws, rfl, q2, r2⟩ := r'.tupInv
      obtain ⟨m1, m2⟩ := m
      rw [eK] at q1 q2
      refine .inr (.inr (.inl ⟨a, b, vs, ws, rfl, rfl, q1, q2, by rw [← r1.length, ← r2.length]; exact m1, fun e => ?_, fun e1 e2 => ?_, fun e1 e2 p hp => c.newTup R (r1.append r2) m2 p hp⟩))
      · subst e
        cases r1
        exact c.here R (.tup (eK ▸ q2) r2) m2
      · subst e2
        cases r2
        rw [List.append_nil] at m2
        exact c.here R (.tup (eK ▸ q1) r1) m2
    · obtain ⟨xs, ys, m1, m2, m3, m4⟩ := m
      obtain ⟨us, a1, a2⟩ := R.list m1
      obtain ⟨ws, b1, b2⟩ := R.list m2
      exact .inr (.inr (.inr ⟨_, _, us, ws, r.locInv.1, r'.locInv.1, a1, b1, by rw [← a2.length, ← b2.length]; exact m3, fun p hp => c.newLst R (a2.append b2) m4 p hp⟩))
  | Sub =>
    refine ⟨_, op_sub, fun G ρ h H v w u u' q Q eK R r r' m c => ?_⟩
    cases v <;> cases w <;> try (exact (m : False).elim)
    rw [r.intInv, r'.intInv]
    exact ⟨_, _, rfl, rfl, c.here R (.int _) m⟩
  | Mult =>
    refine ⟨_, op_mulX.or (op_strMul.or op_repT), fun G ρ h H v w u u' q Q eK R r r' m c => ?_⟩
    cases v <;> cases w <;> try (exact (m : False).elim)
    · rw [r.intInv, r'.intInv]
      exact .inl ⟨_, _, rfl, rfl, m.1, c.here R (.int _) m.2⟩
    · obtain ⟨e1, s1⟩ := r.strInv
      rw [e1, r'.intInv]
      obtain ⟨m1, m2, m3, m4⟩ := m
      exact .inr (.inl ⟨_, _, rfl, rfl, m1, m2, m3, c.here R (.str _ (strOk_mul s1 _)) m4⟩)
    · obtain ⟨a, vs, rfl, q1, r1⟩ := r.tupInv
      rw [r'.intInv]
      obtain ⟨⟨m1, m2, m3, m4⟩, m5⟩ := m
      rw [eK] at q1
      refine .inr (.inr ⟨a, _, vs, rfl, rfl, q1, fun e => m1 ?_, m2, m3, by rw [← r1.length]; exact m4, fun p hp => c.newTup R (r1.repl _) m5 p hp⟩)
      subst e
      cases r1
      rfl
  | FloorDiv =>
    refine ⟨_, op_fdivW, fun G ρ h H v w u u' q Q eK R r r' m c => ?_⟩
    cases v <;> cases w <;> try (exact (m : False).elim)
    rw [r.intInv, r'.intInv]
    exact ⟨_, _, rfl, rfl, m.1, c.here R (.int _) m.2⟩
  | Mod =>
    refine ⟨_, op_mod, fun G ρ h H v w u u' q Q eK R r r' m c => ?_⟩
    cases v <;> cases w <;> try (exact (m : False).elim)
    rw [r.intInv, r'.intInv]
    exact ⟨_, _, rfl, rfl, m.1, c.here R (.int _) m.2⟩
  | Pow =>
    refine ⟨_, op_pow, fun G ρ h H v w u u' q Q eK R r r' m c => ?_⟩
    cases v <;> cases w <;> try (exact (m : False).elim)
    rw [r.intInv, r'.intInv]
    exact ⟨_, _, rfl, rfl, m.1, c.here R (.int _) m.2⟩
  | LShift =>
    refine ⟨_, op_shl, fun G ρ h H v w u u' q Q eK R r r' m c => ?_⟩
    cases v <;> cases w <;> try (exact (m : False).elim)
    rw [r.intInv, r'.intInv]
    exact ⟨_, _, rfl, rfl, m.1, c.here R (.int _) m.2⟩
  | RShift =>
    refine ⟨_, op_shr, fun G ρ h H v w u u' q Q eK R r r' m c => ?_⟩
    cases v <;> cases w <;> try (exact (m : False).elim)
    rw [r.intInv, r'.intInv]
    exact ⟨_, _, rfl, rfl, m.1, c.here R (.int _) m.2⟩
  | BitAnd =>
    refine ⟨_, op_and, fun G ρ h H v w u u' q Q eK R r r' m c => ?_⟩
    cases v <;> cases w <;> try (exact (m : False).elim)
    rw [r.intInv, r'.intInv]
    exact ⟨_, _, rfl, rfl, c.here R (.int _) m⟩
  | BitOr =>
    refine ⟨_, op_or, fun G ρ h H v w u u' q Q eK R r r' m c => ?_⟩
    cases v <;> cases w <;> try (exact (m : False).elim)
    rw [r.intInv, r'.intInv]
    exact ⟨_, _, rfl, rfl, c.here R (.int _) m⟩
  | BitXor =>
    refine ⟨_, op_xor, fun G ρ h H v w u u' q Q eK R r r' m c => ?_⟩
    cases v <;> cases w <;> try (exact (m : False).elim)
    rw [r.intInv, r'.intInv]
    exact ⟨_, _, rfl, rfl, c.here R (.int _) m⟩
  | MatMult => exact ⟨rF, op_F, fun G ρ h H v w u u' q Q eK R r r' m c => by cases v <;> cases w <;> exact m⟩
  | Div => exact ⟨rF, op_F, fun G ρ h H v w u u' q Q eK R r r' m c => by cases v <;> cases w <;> exact m⟩
/-- a comparison -/
def CmpOk (X : Cx) (f : Value → Value → Sem Value) (m : PV → PV → PH → (Bool → Prop) → Prop) : Prop :=
  ∃ r : R2, OpR X f r ∧ ∀ (G : GE) (ρ : Nat → Addr) (h : PH) (H : Hp) (v w : PV) (u u' : V) (q : Bool → Prop) (Q : VK), G.K = X.K → HR G.K ρ h H → Rep G.K ρ h.length H v u → Rep G.K ρ h.length H w u' → m v w h q → (∀ b, q b → Q (.bl b) H) → r u u' H Q
theorem eq_ok (hu : X.A.units + 64 < cLine) : CmpOk X (compareOp .Eq) (fun v w h q => eqS h v w q) := by
  refine ⟨_, op_eq.or (op_eqD hu), fun G ρ h H v w u u' q Q eK R r r' m c => ?_⟩
  rcases m with ⟨m1, m2⟩ | ⟨d, e, m1, m2, m3⟩
  · obtain ⟨z1, z2⟩ := scal_rep m1 r r'
    refine .inl ⟨z1, ?_⟩
    rw [z2]
    exact c _ m2
  · obtain ⟨a1, a2, a3⟩ := toD_dp R 64 v u d m1 r
    obtain ⟨b1, b2, b3⟩ := toD_dp R 64 w u' e m2 r'
    exact .inr ⟨d, e, eK ▸ a1, eK ▸ b1, shaped_of a2 a3, shaped_of b2 b3, c _ m3⟩
theorem ne_ok (hu : X.A.units + 64 < cLine) : CmpOk X (compareOp .NotEq) (fun v w h q => eqS h v w fun b => q (!b)) := by
  refine ⟨_, op_ne.or (op_neD hu), fun G ρ h H v w u u' q Q eK R r r' m c => ?_⟩
  rcases m with ⟨m1, m2⟩ | ⟨d, e, m1, m2, m3⟩
  · obtain ⟨z1, z2⟩ := scal_rep m1 r r'
    refine .inl ⟨z1, ?_⟩
    rw [z2]
    exact c _ m2
  · obtain ⟨a1, a2, a3⟩ := toD_dp R 64 v u d m1 r
    obtain ⟨b1, b2, b3⟩ := toD_dp R 64 w u' e m2 r'
    exact .inr ⟨d, e, eK ▸ a1, eK ▸ b1, shaped_of a2 a3, shaped_of b2 b3, c _ m3⟩

/-- x in a list or tuple of data; c in s -/
def rInA (K : PySem.W.Frag) (neg : Bool) : R2 := fun x y H Q => ∃ d ds, Dp K H x d ∧ (Dp K H y (.tuple ds) ∨ Dp K H y (.list ds)) ∧ d.canLay0 = true ∧ d.depth ≤ 64 ∧ PyData.canLayAll0 ds = true ∧ Q (.bl (if neg then !ds.any fun z => PyData.eqv z d else ds.any fun z => PyData.eqv z d)) H
theorem op_inA (hu : X.A.units + 65 < cLine) : OpR X (compareOp .In) (rInA X.K false) := by
  intro pins s σ H x y v u Q I rx ry hh
  obtain ⟨d, ds, hd, he, h1, h2, h3, q⟩ := hh
  obtain ⟨as, r1⟩ := Dp.reads I d x v hd rx
  have hroom : X.A.units + 1 + min (PyData.depthAll ds) d.depth < cLine := by
    have : min (PyData.depthAll ds) d.depth ≤ d.depth := Nat.min_le_right _ _
    omega
  rcases he with he | he
  · obtain ⟨bs, r2⟩ := Dp.reads I (.tuple ds) y u he ry
    exact SeqAt.in_tuple_reads r2 r1 h3 h1 hroom ⟨.bl _, H, I, rfl, q⟩
  · obtain ⟨bs, r2⟩ := Dp.reads I (.list ds) y u he ry
    exact SeqAt.in_list_reads r2 r1 h3 h1 hroom ⟨.bl _, H, I, rfl, q⟩
theorem op_notInA (hu : X.A.units + 65 < cLine) : OpR X (compareOp .NotIn) (rInA X.K true) := by
  intro pins s σ H x y v u Q I rx ry hh
  obtain ⟨d, ds, hd, he, h1, h2, h3, q⟩ := hh
  obtain ⟨as, r1⟩ := Dp.reads I d x v hd rx
  have hroom : X.A.units + 1 + min (PyData.depthAll ds) d.depth < cLine := by
    have : min (PyData.depthAll ds) d.depth ≤ d.depth := Nat.min_le_right _ _
    omega
  rcases he with he | he
  · obtain ⟨bs, r2⟩ := Dp.reads I (.tuple ds) y u he ry
    exact SeqAt.notIn_tuple_reads r2 r1 h3 h1 hroom ⟨.bl _, H, I, rfl, q⟩
  · obtain ⟨bs, r2⟩ := Dp.reads I (.list ds) y u he ry
    exact SeqAt.notIn_list_reads r2 r1 h3 h1 hroom ⟨.bl _, H, I, rfl, q⟩
theorem items_dp {G : GE} {ρ : Nat → Addr} {h : PH} {H : Hp} {v : PV} {u : V} {xs : List PV} {es : List PyData} (R : HR G.K ρ h H) (r : Rep G.K ρ h.length H v u) (e : items h v = some xs) (m : xs.mapM (toD h 63) = some es) :
    (Dp G.K H u (.tuple es) ∨ Dp G.K H u (.list es)) ∧ PyData.canLayAll0 es = true := by
  obtain ⟨a, vs, rfl, q, rs⟩ := items_sq R e r
  obtain ⟨z1, z2, z3⟩ := toD_dps R 63 xs vs es m rs
  rcases q with q | q
  · exact ⟨.inr (.lst q z1), z2⟩
  · exact ⟨.inl (.tup q z1), z2⟩
/-- a key, as it stands -/
theorem keyP_rep {K : PySem.W.Frag} {ρ : Nat → Addr} {n : Nat} {H : Hp} {v : PV} {u : V} {k : Key} (e : keyP v = some k) (r : Rep K ρ n H v u) : u = kV k := by
  cases v with
  | int i => cases e; exact r.intInv
  | str x => cases e; exact r.strInv.1
  | _ => cases e
theorem keyP_ok {K : PySem.W.Frag} {ρ : Nat → Addr} {n : Nat} {H : Hp} {v : PV} {u : V} {k : Key} (e : keyP v = some k) (r : Rep K ρ n H v u) : kOk k = true := by
  cases v with
  | int i => cases e; rfl
  | str x => cases e; exact r.strInv.2
  | _ => cases e
theorem dget_rep {K : PySem.W.Frag} {ρ : Nat → Addr} {h : PH} {H : Hp} {l : Nat} {kvs : List (Key × PV)} (R : HR K ρ h H) (e : h[l]? = some (.dic kvs)) (k : Key) : ∃ o, DGet H (ρ l) (kV k) o ∧ o.isSome = (dGet kvs k).isSome ∧ ∀ x, dGet kvs k = some x → ∃ u, o = some u ∧ Rep K ρ h.length H x u := by
  obtain ⟨us, h1, h2⟩ := R.dict e
  refine ⟨valV us k, DGet.k h1, ?_, ?_⟩
  · rcases h2.get k with ⟨e1, e2⟩ | ⟨x, u, e1, e2, r⟩
    · rw [e1, e2]; rfl
    · rw [e1, e2]; rfl
  · intro x hx
    rcases h2.get k with ⟨e1, e2⟩ | ⟨x', u, e1, e2, r⟩
    · rw [e1] at hx; cases hx
    · rw [e1] at hx; cases hx
      exact ⟨u, e2, r⟩
def rDIn (neg : Bool) : R2 := fun y x H Q => ∃ a o, x = .ref a ∧ DGet H a y o ∧ Q (.bl (if neg then !o.isSome else o.isSome)) H
theorem op_din (hu : X.A.units + 1 < cLine) : OpR X (compareOp .In) (rDIn false) := by
  intro pins s σ H x y v u Q I rx ry hh
  obtain ⟨a, o, rfl, g, q⟩ := hh
  cases ry
  exact d_in hu I g rx fun s' I' => ⟨.bl o.isSome, H, I', rfl, q⟩
theorem op_dnotin (hu : X.A.units + 1 < cLine) : OpR X (compareOp .NotIn) (rDIn true) := by
  intro pins s σ H x y v u Q I rx ry hh
  obtain ⟨a, o, rfl, g, q⟩ := hh
  cases ry
  exact d_notIn hu I g rx fun s' I' => ⟨.bl (!o.isSome), H, I', rfl, q⟩
theorem inS_inv {h : PH} {v w : PV} {q : Bool → Prop} (m : inS h v w q) : (∃ z y, w = .str z ∧ v = .str y ∧ q (!(Builtin.Str.occurrences z y 0 z.length 1).isEmpty)) ∨ (∃ l kvs k, w = .loc l ∧ h[l]? = some (.dic kvs) ∧ keyP v = some k ∧ q (dGet kvs k).isSome) ∨ ∃ d xs es, toD h 64 v = some d ∧ items h w = some xs ∧ xs.mapM (toD h 63) = some es ∧ q (es.any fun z => PyData.eqv z d) := by
  cases w with
  | str z => obtain ⟨y, rfl, m⟩ := m; exact .inl ⟨z, y, rfl, rfl, m⟩
  | loc l =>
    obtain ⟨o, e, m⟩ := m
    cases o with
    | lst xs =>
      obtain ⟨d, es, m1, m2, m3⟩ := m
      exact .inr (.inr ⟨d, xs, es, m1, by show getL h l = some xs; unfold getL; rw [e], m2, m3⟩)
    | dic kvs =>
      obtain ⟨k, m1, m2⟩ := m
      exact .inr (.inl ⟨l, kvs, k, rfl, e, m1, m2⟩)
  | _ => exact .inr (.inr m)
theorem in_ok (hu : X.A.units + 65 < cLine) : CmpOk X (compareOp .In) (fun v w h q => inS h v w q) := by
  refine ⟨_, (op_in_str.or (op_inA hu)).or (op_din (by omega)), fun G ρ h H v w u u' q Q eK R r r' m c => ?_⟩
  rcases inS_inv m with ⟨z, y, rfl, rfl, m0⟩ | ⟨l, kvs, k, rfl, e, ek, m0⟩ | ⟨d, xs, es, m1, m2, m3, m4⟩
  · rw [r.strInv.1, r'.strInv.1]
    exact .inl (.inl ⟨_, _, rfl, rfl, c _ m0⟩)
  · obtain ⟨o, g1, g2, _⟩ := dget_rep R e k
    rw [keyP_rep ek r, r'.locInv.1]
    refine .inr ⟨_, o, rfl, g1, ?_⟩
    have m' := c _ m0
    rw [← g2] at m'
    exact m'
  · obtain ⟨a1, a2, a3⟩ := toD_dp R 64 v u d m1 r
    obtain ⟨b1, b2⟩ := items_dp R r' m2 m3
    rw [eK] at a1 b1
    exact .inl (.inr ⟨d, es, a1, b1, a2, a3, b2, c _ m4⟩)
theorem notIn_ok (hu : X.A.units + 65 < cLine) : CmpOk X (compareOp .NotIn) (fun v w h q => inS h v w fun b => q (!b)) := by
  refine ⟨_, (op_notin_str.or (op_notInA hu)).or (op_dnotin (by omega)), fun G ρ h H v w u u' q Q eK R r r' m c => ?_⟩
  rcases inS_inv m with ⟨z, y, rfl, rfl, m0⟩ | ⟨l, kvs, k, rfl, e, ek, m0⟩ | ⟨d, xs, es, m1, m2, m3, m4⟩
  · rw [r.strInv.1, r'.strInv.1]
    exact .inl (.inl ⟨_, _, rfl, rfl, c _ m0⟩)
  · obtain ⟨o, g1, g2, _⟩ := dget_rep R e k
    rw [keyP_rep ek r, r'.locInv.1]
    refine .inr ⟨_, o, rfl, g1, ?_⟩
    have m' := c _ m0
    rw [← g2] at m'
    exact m'
  · obtain ⟨a1, a2, a3⟩ := toD_dp R 64 v u d m1 r
    obtain ⟨b1, b2⟩ := items_dp R r' m2 m3
    rw [eK] at a1 b1
    exact .inl (.inr ⟨d, es, a1, b1, a2, a3, b2, c _ m4⟩)
theorem cmp_ok (hu : X.A.units + 65 < cLine) (o : CmpOp) : CmpOk X (compareOp o) (cmpS o) := by
  cases o with
  | Eq => exact eq_ok (by omega)
  | NotEq => exact ne_ok (by omega)
  | Lt =>
    refine ⟨_, op_lt, fun G ρ h H v w u u' q Q eK R r r' m c => ?_⟩
    obtain ⟨i, j, rfl, rfl, m⟩ := m
    exact ⟨_, _, r.intInv, r'.intInv, c _ m⟩
  | LtE =>
    refine ⟨_, op_le, fun G ρ h H v w u u' q Q eK R r r' m c => ?_⟩
    obtain ⟨i, j, rfl, rfl, m⟩ := m
    exact ⟨_, _, r.intInv, r'.intInv, c _ m⟩
  | Gt =>
    refine ⟨_, op_gt, fun G ρ h H v w u u' q Q eK R r r' m c => ?_⟩
    obtain ⟨i, j, rfl, rfl, m⟩ := m
    exact ⟨_, _, r.intInv, r'.intInv, c _ m⟩
  | GtE =>
    refine ⟨_, op_ge, fun G ρ h H v w u u' q Q eK R r r' m c => ?_⟩
    obtain ⟨i, j, rfl, rfl, m⟩ := m
    exact ⟨_, _, r.intInv, r'.intInv, c _ m⟩
  | Is =>
    refine ⟨_, op_isN.or op_isBl, fun G ρ h H v w u u' q Q eK R r r' m c => ?_⟩
    rcases m with ⟨rfl, m⟩ | ⟨a, b, rfl, rfl, m⟩
    · refine .inl ⟨r'.nonInv, ?_⟩
      have e : decide (u = .non) = decide (v = .non) := by cases r <;> rfl
      rw [e]
      exact c _ m
    · exact .inr ⟨a, b, r.blInv, r'.blInv, c _ m⟩
  | IsNot =>
    refine ⟨_, op_notN.or op_notBl, fun G ρ h H v w u u' q Q eK R r r' m c => ?_⟩
    rcases m with ⟨rfl, m⟩ | ⟨a, b, rfl, rfl, m⟩
    · refine .inl ⟨r'.nonInv, ?_⟩
      have e : decide (u = .non) = decide (v = .non) := by cases r <;> rfl
      rw [e]
      exact c _ m
    · exact .inr ⟨a, b, r.blInv, r'.blInv, c _ m⟩
  | In => exact in_ok hu
  | NotIn => exact notIn_ok hu
/-! ### subscripts -/
theorem ixP_eq (n : Nat) (i : Int) : ixN n i = ixP n i := rfl
def rDIx : R2 := fun x y H Q => ∃ a v, x = .ref a ∧ DGet H a y (some v) ∧ Q v H
theorem ix_dic (hu : X.A.units + 1 < cLine) : IxR X rDIx := by
  intro value slice pins s σ H x y v u Q I rx ry h hs
  obtain ⟨a, z, rfl, g, q⟩ := h
  cases rx
  exact tail_any (dict_typeIs I g) PySem.F.slot_dict_getitem.lookup (d_getItem hu I g ry fun w' s' I' r' => ⟨z, H, I', r', q⟩) hs
theorem ixO_ok {G : GE} {ρ : Nat → Addr} {h : PH} {H : Hp} {w : PV} {u' : V} {q : QV} {Q : VK} {l : Nat} {o : PO} (R : HR G.K ρ h H) (e : h[l]? = some o) (r' : Rep G.K ρ h.length H w u') (m : ixO o w h q) (c : ∀ x z, Rep G.K ρ h.length H x z → q x h → Q z H) : (rIxL X.K (.ref (ρ l)) u' H Q) ∨ rDIx (.ref (ρ l)) u' H Q := by
  cases o with
  | lst xs =>
    obtain ⟨i, k, x, rfl, m2, m3, m4⟩ := m
    obtain ⟨us, e1, rs⟩ := R.list (show getL h l = some xs by unfold getL; rw [e])
    obtain ⟨z, e2, e3⟩ := rs.get m3
    refine .inl ⟨ρ l, us, i, z, rfl, r'.intInv, SqL.of e1, ?_, c _ _ e3 m4⟩
    unfold atI
    rw [ixP_eq, ← rs.length, m2]
    exact e2
  | dic kvs =>
    obtain ⟨k, y, ek, m2, m3⟩ := m
    obtain ⟨o, g1, g2, g3⟩ := dget_rep R e k
    obtain ⟨z, rfl, rz⟩ := g3 y m2
    rw [keyP_rep ek r']
    exact .inr ⟨_, z, rfl, g1, c _ _ rz m3⟩
theorem ixS_ok {G : GE} {ρ : Nat → Addr} {h : PH} {H : Hp} {v w : PV} {u u' : V} {q : QV} {Q : VK} (eK : G.K = X.K) (R : HR G.K ρ h H) (r : Rep G.K ρ h.length H v u) (r' : Rep G.K ρ h.length H w u') (m : ixS v w h q) (c : ∀ x z, Rep G.K ρ h.length H x z → q x h → Q z H) : rIx X.K u u' H Q ∨ rDIx u u' H Q := by
  have seq : ∀ i xs k x, w = .int i → items h v = some xs → ixP xs.length i = some k → xs[k]? = some x → q x h → rIx X.K u u' H Q := by
    intro i xs k x hw m1 m2 m3 m4
    subst hw
    obtain ⟨a, vs, rfl, sq, rs⟩ := items_sq R m1 r
    obtain ⟨z, e1, e2⟩ := rs.get m3
    have e3 : atI vs i = some z := by
      unfold atI
      rw [ixP_eq, ← rs.length, m2]
      exact e1
    rcases sq with sq | sq
    · exact .inl ⟨a, vs, i, z, rfl, r'.intInv, eK ▸ sq, e3, c _ _ e2 m4⟩
    · exact .inr (.inl ⟨a, vs, i, z, rfl, r'.intInv, eK ▸ sq, e3, c _ _ e2 m4⟩)
  cases v with
  | str z =>
    obtain ⟨i, k, d, rfl, m1, m2, m3, m4⟩ := m
    obtain ⟨e1, s1⟩ := r.strInv
    refine .inl (.inr (.inr ⟨z, i, d, e1, r'.intInv, m1, ?_, c _ _ (.str _ (strOk_sign s1 m3)) m4⟩))
    unfold atI
    rw [ixP_eq, show z.cps.toList.length = z.length from Array.length_toList, m2]
    exact m3
  | loc l =>
    obtain ⟨o, e, m⟩ := m
    rw [r.locInv.1]
    rcases ixO_ok (X := X) R e r' m c with q | q
    · exact .inl (.inl q)
    · exact .inr q
  | _ =>
    obtain ⟨i, xs, k, x, hw, m1, m2, m3, m4⟩ := m
    exact .inl (seq i xs k x hw m1 m2 m3 m4)
/-- v[w] as augmented assignment asks it -/
theorem get_list : PGet X (rIxL X.K) := by
  intro pins s σ H o i ov iv Q I r1 r2 hh
  obtain ⟨p, xs, k, z, rfl, rfl, hq, he, q⟩ := hh
  cases r1
  obtain ⟨t, rfl⟩ := r2
  obtain ⟨its, r, pl, hz⟩ := I.list hq
  obtain ⟨j, h1, h2, h3, h4, h5⟩ := atI_get he
  obtain ⟨w, ew, rw'⟩ := r.get h2
  have hl := r.length
  have hn := line63
  have fin : EP X pins σ Q w s := ⟨z, H, I, rw', q⟩
  by_cases h0 : 0 ≤ k
  · have hj : k.toNat = j := by
      rw [seqIndex_of h0 h5] at h1
      exact Option.some.inj h1
    exact wpAny_getItem_list pl.isList h0 (by omega) (by rw [hj]; simpa using ew) fin
  · have hj : (k + (its.toArray.size : Int)).toNat = j := by
      rw [seqIndex_neg (by omega) h4] at h1
      rw [List.size_toArray, ← hl]
      exact Option.some.inj h1
    exact wpAny_getItem_list_neg pl.isList (by omega) (by rw [List.size_toArray] <;> omega) (by omega) (by rw [hj]; simpa using ew) fin
theorem get_dic (hu : X.A.units + 1 < cLine) : PGet X (fun x y H Q => rIxL X.K x y H Q ∨ rDIx x y H Q) := by
  intro pins s σ H o i ov iv Q I r1 r2 hh
  rcases hh with hh | ⟨a, z, rfl, g, q⟩
  · exact get_list pins s σ H o i ov iv Q I r1 r2 hh
  · cases r1
    exact d_getItem hu I g r2 fun w' s' I' r' => ⟨z, H, I', r', q⟩
theorem augG_ok {G : GE} {ρ : Nat → Addr} {h : PH} {H : Hp} {v w : PV} {u u' : V} {q : QV} {Q : VK} (eK : G.K = X.K) (R : HR G.K ρ h H) (r : Rep G.K ρ h.length H v u) (r' : Rep G.K ρ h.length H w u') (m : augG v w h q) (c : ∀ x z, Rep G.K ρ h.length H x z → q x h → Q z H) : rIxL X.K u u' H Q ∨ rDIx u u' H Q := by
  obtain ⟨l, o, rfl, e, m⟩ := m
  rw [r.locInv.1]
  exact ixO_ok R e r' m c
/-! ### slices -/
theorem slS_ok {G : GE} {ρ : Nat → Addr} {h : PH} {H : Hp} {v : PV} {u : V} {lo hi : Option Int} {q : QV} {Q : VK} (eK : G.K = X.K) (R : HR G.K ρ h H) (r : Rep G.K ρ h.length H v u) (m : slS v lo hi h q) (c : Cov G (RV G) ρ h H q Q) :
    rSlA X.K u lo hi H Q ∨ rSlS u lo hi H Q ∨ rSlL X.K u lo hi H Q := by
  cases v with
  | tup xs =>
    obtain ⟨a, vs, rfl, sq, rs⟩ := r.tupInv
    have m' : q (.tup (cutP xs lo hi)) h := m
    refine .inl ⟨a, vs, rfl, eK ▸ sq, fun hw => ?_, fun _ p hp => c.newTup R (rs.cut lo hi) m' p hp⟩
    have e : cutP xs lo hi = xs := by
      unfold cutP bndP
      rw [rs.length, hw.1, hw.2, List.drop_zero, Nat.sub_zero, ← rs.length]
      exact List.take_length
    rw [e] at m'
    exact c.here R (.tup sq rs) m'
  | str z =>
    obtain ⟨e1, s1⟩ := r.strInv
    exact .inr (.inl ⟨z, e1, m.1, c.here R (.str _ (strOk_cut s1 lo hi)) m.2⟩)
  | loc l =>
    obtain ⟨xs, m1, m2⟩ := m
    obtain ⟨a, vs, rfl, sq, rs⟩ := itemsL_sq R m1 r
    exact .inr (.inr ⟨a, vs, rfl, eK ▸ sq, fun p hp => c.newLst R (rs.cut lo hi) m2 p hp⟩)
  | rol l =>
    obtain ⟨xs, m1, m2⟩ := m
    obtain ⟨a, vs, rfl, sq, rs⟩ := itemsL_sq R m1 r
    exact .inr (.inr ⟨a, vs, rfl, eK ▸ sq, fun p hp => c.newLst R (rs.cut lo hi) m2 p hp⟩)
  | _ => obtain ⟨xs, m1, m2⟩ := m; cases m1
/-! ### truth -/
theorem tru_of {G : GE} {ρ : Nat → Addr} {h : PH} {H : Hp} {v : PV} {u : V} {b : Bool} (eK : G.K = X.K) (R : HR G.K ρ h H) (r : Rep G.K ρ h.length H v u) (m : truS h v = some b) : TruV X.K u H b := by
  cases v with
  | non =>
    rw [r.nonInv]
    exact (Option.some.inj m).symm
  | bl k =>
    rw [r.blInv]
    exact (Option.some.inj m).symm
  | int i =>
    rw [r.intInv]
    exact (Option.some.inj m).symm
  | str x =>
    rw [r.strInv.1]
    simp only [truS] at m
    split at m
    · exact ⟨by assumption, (Option.some.inj m).symm⟩
    · cases m
  | tup xs =>
    obtain ⟨a, vs, rfl, sq, rs⟩ := r.tupInv
    refine .inr (.inl ⟨vs, eK ▸ sq, ?_⟩)
    have e := (Option.some.inj m).symm
    rw [e]
    cases rs <;> rfl
  | rol xs =>
    obtain ⟨a, vs, rfl, sq, rs⟩ := r.rolInv
    refine .inl ⟨vs, eK ▸ sq.sq, ?_⟩
    have e := (Option.some.inj m).symm
    rw [e]
    cases rs <;> rfl
  | loc l =>
    simp only [truS] at m
    rw [r.locInv.1]
    split at m
    · rename_i xs hx
      have e2 : getL h l = some xs := by unfold getL; rw [hx]
      obtain ⟨us, e1, rs⟩ := R.list e2
      refine .inl ⟨us, SqL.of e1, ?_⟩
      have e := (Option.some.inj m).symm
      rw [e]
      cases rs <;> rfl
    · rename_i kvs hx
      obtain ⟨us, e1, rs⟩ := R.dict hx
      refine .inr (.inr ⟨us, e1, ?_⟩)
      have e := (Option.some.inj m).symm
      rw [e]
      cases rs <;> rfl
    · cases m
  | xc k fs => cases m
end

end WD
end
section
set_option Elab.async false
set_option linter.all false
set_option maxRecDepth 100000
set_option autoImplicit false
set_option maxHeartbeats 4000000
/-! WOps3: built-in functions, methods, stores. -/
namespace WD
open PySem PySem.Spec PyProof.Rows L2
/-- the value at which a built-in function stands -/
def Bif.fn : Bif → Value
  | .len => .builtin "len"
  | .int => .type "int"
  | .str => .type "str"
  | .abs => .builtin "abs"
  | .min2 => .builtin "min"
  | .max2 => .builtin "max"
  | .isT _ => .builtin "isinstance"
  | .bool => .type "bool"
/-- the arguments as they are handed on -/
def Bif.more : Bif → List V
  | .isT t => [.ty t]
  | _ => []
section
variable {X : Cx}
theorem Reps.inv1 {K : PySem.W.Frag} {ρ : Nat → Addr} {n : Nat} {H : Hp} {v : PV} {us : List V} (r : Reps K ρ n H [v] us) : ∃ u, us = [u] ∧ Rep K ρ n H v u := by
  cases r with
  | cons a b =>
    cases b
    exact ⟨_, rfl, a⟩
theorem Reps.inv2 {K : PySem.W.Frag} {ρ : Nat → Addr} {n : Nat} {H : Hp} {v w : PV} {us : List V} (r : Reps K ρ n H [v, w] us) : ∃ u u', us = [u, u'] ∧ Rep K ρ n H v u ∧ Rep K ρ n H w u' := by
  cases r with
  | cons a b =>
    obtain ⟨u', rfl, h⟩ := b.inv1
    exact ⟨_, _, rfl, a, h⟩
theorem typ_rep {G : GE} {ρ : Nat → Addr} {h : PH} {H : Hp} {v : PV} {u : V} {t : String} {b : Bool} (R : HR G.K ρ h H) (r : Rep G.K ρ h.length H v u) (m : typB t v h = some b) : ∃ t', TyX G.K H u (.type t') ∧ PySem.W.kitOne G.K (.type t') (.type t) = some b := by
  cases v with
  | non => rw [r.nonInv]; exact ⟨_, .base .non, kit_ty m⟩
  | bl k => rw [r.blInv]; exact ⟨_, .base (.bl _), kit_ty m⟩
  | int i => rw [r.intInv]; exact ⟨_, .base (.int _), kit_ty m⟩
  | str x => rw [r.strInv.1]; exact ⟨_, .base (.str _), kit_ty m⟩
  | tup xs =>
    obtain ⟨a, vs, rfl, sq, rs⟩ := r.tupInv
    rcases sq with (sq | ⟨o, sq⟩) | ⟨o, its, n, e1, e2, _⟩
    · exact ⟨_, .base (.tup sq), kit_ty m⟩
    · exact ⟨_, .fTuple sq, kit_ty m⟩
    · exact ⟨_, .kTuple e1 e2, kit_ty m⟩
  | rol xs =>
    obtain ⟨a, vs, rfl, sq, rs⟩ := r.rolInv
    rcases sq.sq with (sq | ⟨o, sq⟩) | ⟨o, its, n, e1, e2, _⟩
    · exact ⟨_, .base (.lst sq), kit_ty m⟩
    · exact ⟨_, .base (.frz sq), kit_ty m⟩
    · exact ⟨_, .kList e1 e2, kit_ty m⟩
  | loc l =>
    rw [r.locInv.1]
    simp only [typB] at m
    split at m
    · rename_i xs hx
      have e2 : getL h l = some xs := by unfold getL; rw [hx]
      obtain ⟨us, e1, rs⟩ := R.list e2
      exact ⟨_, .base (.lst e1), kit_ty m⟩
    · rename_i kvs hx
      obtain ⟨us, e1, rs⟩ := R.dict hx
      exact ⟨_, .base (.dK e1), kit_ty m⟩
    · cases m
  | xc k fs => cases m
/-- a built-in function by its arguments -/
def CallOk (X : Cx) (f : Value) (more : List V) (m : List PV → PH → QV → Prop) : Prop :=
  ∃ r : List V → Hp → VK → Prop, CallR X f r ∧ ∀ (G : GE) (ρ : Nat → Addr) (h : PH) (H : Hp) (vs : List PV) (us : List V) (q : QV) (Q : VK), G.K = X.K → HR G.K ρ h H → Reps G.K ρ h.length H vs us → m vs h q → Cov G (RV G) ρ h H q Q → r (us ++ more) H Q
def rLenD : List V → Hp → VK → Prop := fun xs H Q => ∃ a kvs, xs = [V.ref a] ∧ H a = some (.dK kvs) ∧ Q (.int kvs.length) H
theorem len_rep {G : GE} {ρ : Nat → Addr} {h : PH} {H : Hp} {v : PV} {u : V} {n : Nat} (eK : G.K = X.K) (R : HR G.K ρ h H) (r : Rep G.K ρ h.length H v u) (m : lenP h v = some n) : LenV X.K u H n ∨ ∃ a kvs, u = .ref a ∧ H a = some (.dK kvs) ∧ kvs.length = n := by
  have seq : ∀ xs, items h v = some xs → xs.length = n → LenV X.K u H n ∨ ∃ a kvs, u = .ref a ∧ H a = some (.dK kvs) ∧ kvs.length = n := fun xs e e2 => by
    obtain ⟨a, ws, rfl, sq, rs⟩ := items_sq R e r
    rcases sq with sq | sq
    · exact .inl (.inl ⟨ws, eK ▸ sq, by rw [← e2]; exact rs.length.symm ▸ rfl⟩)
    · exact .inl (.inr ⟨ws, eK ▸ sq, by rw [← e2]; exact rs.length.symm ▸ rfl⟩)
  cases v with
  | str x =>
    rw [r.strInv.1]
    simp only [lenP] at m
    split at m
    · exact .inl ⟨by assumption, (Option.some.inj m).symm ▸ rfl⟩
    · cases m
  | tup xs => exact seq xs rfl (Option.some.inj m)
  | rol xs => exact seq xs rfl (Option.some.inj m)
  | loc l =>
    simp only [lenP] at m
    split at m
    · rename_i xs hx
      exact seq xs (by show getL h l = some xs; unfold getL; rw [hx]) (Option.some.inj m)
    · rename_i kvs hx
      obtain ⟨us, e1, rs⟩ := R.dict hx
      exact .inr ⟨_, us, r.locInv.1, e1, by rw [← rs.length]; exact Option.some.inj m⟩
    · cases m
  | _ => cases m
def Bif.hotOk : Bif → Bool
  | .min2 => false
  | .max2 => false
  | _ => true
theorem bif_ok (b : Bif) (hc : b.hotOk = false → X.calm = true) : CallOk X b.fn b.more (bifS b) := by
  cases b with
  | len =>
    refine ⟨_, call_len.or call_lenD, fun G ρ h H vs us q Q eK R r m c => ?_⟩
    obtain ⟨v, n, rfl, m1, m2⟩ := m
    obtain ⟨u, rfl, r1⟩ := r.inv1
    rcases len_rep eK R r1 m1 with z | ⟨a, kvs, e1, e2, e3⟩
    · exact .inl ⟨u, n, rfl, z, c.here R (.int _) m2⟩
    · subst e1 e3
      exact .inr ⟨a, kvs, rfl, e2, c.here R (.int _) m2⟩
  | int =>
    refine ⟨_, call_int1, fun G ρ h H vs us q Q eK R r m c => ?_⟩
    obtain ⟨v, n, rfl, m1, m2⟩ := m
    obtain ⟨u, rfl, r1⟩ := r.inv1
    cases v with
    | int i =>
      cases m1
      rw [r1.intInv]
      exact .inl ⟨_, rfl, c.here R (.int _) m2⟩
    | bl k =>
      cases m1
      rw [r1.blInv]
      exact .inr ⟨_, rfl, c.here R (.int _) m2⟩
    | _ => cases m1
  | bool =>
    refine ⟨_, call_bool1, fun G ρ h H vs us q Q eK R r m c => ?_⟩
    obtain ⟨v, n, rfl, m1, m2⟩ := m
    obtain ⟨u, rfl, r1⟩ := r.inv1
    cases v with
    | int i =>
      cases m1
      rw [r1.intInv]
      exact .inl ⟨_, rfl, c.here R (.bl _) m2⟩
    | bl k =>
      cases m1
      rw [r1.blInv]
      exact .inr ⟨_, rfl, c.here R (.bl _) m2⟩
    | _ => cases m1
  | str =>
    refine ⟨_, call_str_int.or SkE.call_str_str, fun G ρ h H vs us q Q eK R r m c => ?_⟩
    obtain ⟨v, x, rfl, m1, m2⟩ := m
    obtain ⟨u, rfl, r1⟩ := r.inv1
    cases v with
    | int i =>
      simp only [strP] at m1
      split at m1
      · cases m1
        rw [r1.intInv]
        exact .inl ⟨_, rfl, by assumption, c.here R (.str _ (strOk_int i)) m2⟩
      · cases m1
    | str z =>
      cases m1
      obtain ⟨e1, s1⟩ := r1.strInv
      rw [e1]
      exact .inr ⟨_, rfl, c.here R (.str _ s1) m2⟩
    | _ => cases m1
  | abs =>
    refine ⟨_, call_abs, fun G ρ h H vs us q Q eK R r m c => ?_⟩
    obtain ⟨i, rfl, m⟩ := m
    obtain ⟨u, rfl, r1⟩ := r.inv1
    rw [r1.intInv]
    exact ⟨_, rfl, c.here R (.int _) m⟩
  | min2 =>
    refine ⟨_, call_min2 (hc rfl), fun G ρ h H vs us q Q eK R r m c => ?_⟩
    obtain ⟨i, j, rfl, m⟩ := m
    obtain ⟨u, u', rfl, r1, r2⟩ := r.inv2
    rw [r1.intInv, r2.intInv]
    exact ⟨_, _, rfl, c.here R (.int _) m⟩
  | max2 =>
    refine ⟨_, call_max2 (hc rfl), fun G ρ h H vs us q Q eK R r m c => ?_⟩
    obtain ⟨i, j, rfl, m⟩ := m
    obtain ⟨u, u', rfl, r1, r2⟩ := r.inv2
    rw [r1.intInv, r2.intInv]
    exact ⟨_, _, rfl, c.here R (.int _) m⟩
  | isT t =>
    refine ⟨_, call_isi, fun G ρ h H vs us q Q eK R r m c => ?_⟩
    obtain ⟨v, b, rfl, m1, m2⟩ := m
    obtain ⟨u, rfl, r1⟩ := r.inv1
    obtain ⟨t', h1, h2⟩ := typ_rep R r1 m1
    exact ⟨u, .ty t, .type t', .type t, b, rfl, .ty t, eK ▸ h1, eK ▸ h2, c.here R (.bl _) m2⟩
/-! ### functions of a list's items -/
def Lif.fn : Lif → Value
  | .tuple => .type "tuple"
  | .len => .builtin "len"
  | .sum => .builtin "sum"
  | .max => .builtin "max"
  | .min => .builtin "min"
  | .all => .builtin "all"
  | .any => .builtin "any"
/-- what a list's value is: one that stands, or one just made (not tracked) -/
inductive LR (G : GE) (ρ : Nat → Addr) (n : Nat) (H : Hp) : LV → V → Prop
  | v {v : PV} {u : V} : Rep G.K ρ n H v u → LR G ρ n H (.v v) u
  | t {xs : List PV} {us : List V} {p : Addr} : H p = some (.lst us) → (∀ l, l < n → ρ l ≠ p) → Reps G.K ρ n H xs us → LR G ρ n H (.t xs) (.ref p)
theorem lvA_sq {G : GE} {ρ : Nat → Addr} {h : PH} {H : Hp} {v : LV} {u : V} {xs : List PV} (R : HR G.K ρ h H) (e : lvA h v = some xs) (r : LR G ρ h.length H v u) : ∃ a vs, u = .ref a ∧ (SqL G.K H a vs ∨ SqT G.K H a vs) ∧ Reps G.K ρ h.length H xs vs := by
  cases r with
  | v r => exact items_sq R e r
  | t h1 h2 h3 =>
    cases e
    exact ⟨_, _, rfl, .inl (SqL.of h1), h3⟩
theorem lvL_sq {G : GE} {ρ : Nat → Addr} {h : PH} {H : Hp} {v : LV} {u : V} {xs : List PV} (R : HR G.K ρ h H) (e : lvL h v = some xs) (r : LR G ρ h.length H v u) : ∃ a vs, u = .ref a ∧ SqL G.K H a vs ∧ Reps G.K ρ h.length H xs vs := by
  cases r with
  | v r => exact itemsL_sq R e r
  | t h1 h2 h3 =>
    cases e
    exact ⟨_, _, rfl, SqL.of h1, h3⟩
theorem lvM_sq {G : GE} {ρ : Nat → Addr} {h : PH} {H : Hp} {v : LV} {u : V} {xs : List PV} (R : HR G.K ρ h H) (e : lvM h v = some xs) (r : LR G ρ h.length H v u) : ∃ a vs, u = .ref a ∧ H a = some (.lst vs) ∧ Reps G.K ρ h.length H xs vs := by
  cases r with
  | @v v u r =>
    cases v with
    | loc l =>
      obtain ⟨us, h1, h2⟩ := R.list (show getL h l = some xs from e)
      exact ⟨_, us, r.locInv.1, h1, h2⟩
    | _ => cases e
  | t h1 h2 h3 =>
    cases e
    exact ⟨_, _, rfl, h1, h3⟩
theorem LR.ext {G : GE} {ρ ρ' : Nat → Addr} {h h' : PH} {H H' : Hp} {v : LV} {u : V} (R : HR G.K ρ h H) (E : Ext ρ h.length H ρ' h'.length H') (r : LR G ρ h.length H v u) : LR G ρ' h'.length H' v u := by
  cases r with
  | v r => exact .v (r.ext R E)
  | @t xs us p h1 h2 h3 =>
    refine .t (E.keep p _ h1 h2) (fun l hl z => ?_) (Reps.ext R E h3)
    by_cases q : l < h.length
    · rw [E.eq l q] at z
      exact h2 l q z
    · have := E.new l (Nat.le_of_not_lt q) hl
      rw [z, h1] at this
      cases this
theorem ints_rep {K : PySem.W.Frag} {ρ : Nat → Addr} {n : Nat} {H : Hp} : ∀ {xs : List PV} {us : List V} {ns : List Int}, intsOf xs = some ns → Reps K ρ n H xs us → us = ns.map V.int
  | [], us, ns, e, r => by cases e; cases r; rfl
  | .int i :: xs, us, ns, e, r => by
    simp only [intsOf, Option.map_eq_some_iff] at e
    obtain ⟨ms, e1, rfl⟩ := e
    cases r with
    | cons r1 r2 =>
      rw [r1.intInv, ints_rep e1 r2]
      rfl
  | .non :: _, _, _, e, _ | .bl _ :: _, _, _, e, _ | .str _ :: _, _, _, e, _ | .tup _ :: _, _, _, e, _ | .rol _ :: _, _, _, e, _ | .loc _ :: _, _, _, e, _ | .xc _ _ :: _, _, _, e, _ => by cases e
theorem strs_rep {K : PySem.W.Frag} {ρ : Nat → Addr} {n : Nat} {H : Hp} : ∀ {xs : List PV} {us : List V} {ns : List Str}, strsOf xs = some ns → Reps K ρ n H xs us → us = ns.map V.str ∧ ∀ z ∈ ns, PyData.strOk z = true
  | [], us, ns, e, r => by cases e; cases r; exact ⟨rfl, by simp⟩
  | .str i :: xs, us, ns, e, r => by
    simp only [strsOf, Option.map_eq_some_iff] at e
    obtain ⟨ms, e1, rfl⟩ := e
    cases r with
    | cons r1 r2 =>
      obtain ⟨z1, z2⟩ := strs_rep e1 r2
      rw [r1.strInv.1, z1]
      refine ⟨rfl, fun z hz => ?_⟩
      rcases List.mem_cons.mp hz with rfl | hz
      · exact r1.strInv.2
      · exact z2 z hz
  | .non :: _, _, _, e, _ | .bl _ :: _, _, _, e, _ | .int _ :: _, _, _, e, _ | .tup _ :: _, _, _, e, _ | .rol _ :: _, _, _, e, _ | .loc _ :: _, _, _, e, _ | .xc _ _ :: _, _, _, e, _ => by cases e
theorem reps_strs {K : PySem.W.Frag} {ρ : Nat → Addr} {n : Nat} {H : Hp} : ∀ {zs : List Str}, (∀ z ∈ zs, PyData.strOk z = true) → Reps K ρ n H (zs.map .str) (zs.map V.str)
  | [], _ => .nil
  | z :: zs, h => .cons (.str z (h z (by simp))) (reps_strs fun y hy => h y (by simp [hy]))
theorem reps_ints {K : PySem.W.Frag} {ρ : Nat → Addr} {n : Nat} {H : Hp} : ∀ ns : List Int, Reps K ρ n H (ns.map .int) (ns.map V.int)
  | [] => .nil
  | i :: r => .cons (.int i) (reps_ints r)
theorem bls_rep {K : PySem.W.Frag} {ρ : Nat → Addr} {n : Nat} {H : Hp} : ∀ {xs : List PV} {us : List V} {ns : List Bool}, blsOf xs = some ns → Reps K ρ n H xs us → us = ns.map V.bl
  | [], us, ns, e, r => by cases e; cases r; rfl
  | .bl i :: xs, us, ns, e, r => by
    simp only [blsOf, Option.map_eq_some_iff] at e
    obtain ⟨ms, e1, rfl⟩ := e
    cases r with
    | cons r1 r2 =>
      rw [r1.blInv, bls_rep e1 r2]
      rfl
  | .non :: _, _, _, e, _ | .int _ :: _, _, _, e, _ | .str _ :: _, _, _, e, _ | .tup _ :: _, _, _, e, _ | .rol _ :: _, _, _, e, _ | .loc _ :: _, _, _, e, _ | .xc _ _ :: _, _, _, e, _ => by cases e
/-- a function of a list's items -/
def LifOk (X : Cx) (f : Value) (b : Lif) : Prop :=
  ∃ r : List V → Hp → VK → Prop, CallR X f r ∧ ∀ (G : GE) (ρ : Nat → Addr) (h : PH) (H : Hp) (v : LV) (u : V) (xs : List PV) (q : QV) (Q : VK), G.K = X.K → HR G.K ρ h H → LR G ρ h.length H v u → lvB b h v = some xs → lifS b xs h q → Cov G (RV G) ρ h H q Q → r [u] H Q
theorem lif_ok (hc : X.calm = true) (b : Lif) : LifOk X b.fn b := by
  cases b with
  | tuple =>
    refine ⟨_, call_tuple_of, fun G ρ h H v u xs q Q eK R r e m c => ?_⟩
    obtain ⟨a, vs, rfl, sq, rs⟩ := lvA_sq R e r
    rcases sq with sq | sq
    · exact ⟨a, vs, rfl, .inl ⟨eK ▸ sq, fun p hp => c.newTup R rs m p hp⟩⟩
    · exact ⟨a, vs, rfl, .inr ⟨eK ▸ sq, c.here R (.tup sq rs) m⟩⟩
  | len =>
    refine ⟨_, call_len, fun G ρ h H v u xs q Q eK R r e m c => ?_⟩
    obtain ⟨a, vs, rfl, sq, rs⟩ := lvA_sq R e r
    have m' : q (.int xs.length) h := m
    rcases sq with sq | sq
    · exact ⟨.ref a, xs.length, rfl, .inl ⟨vs, eK ▸ sq, rs.length.symm ▸ rfl⟩, c.here R (.int _) m'⟩
    · exact ⟨.ref a, xs.length, rfl, .inr ⟨vs, eK ▸ sq, rs.length.symm ▸ rfl⟩, c.here R (.int _) m'⟩
  | sum =>
    refine ⟨_, cr_sum hc, fun G ρ h H v u xs q Q eK R r e m c => ?_⟩
    obtain ⟨a, vs, rfl, sq, rs⟩ := lvL_sq R e r
    obtain ⟨ns, m1, m2⟩ := m
    have z := ints_rep m1 rs
    subst z
    exact ⟨a, ns, rfl, eK ▸ sq, c.here R (.int _) m2⟩
  | max =>
    refine ⟨_, cr_max hc, fun G ρ h H v u xs q Q eK R r e m c => ?_⟩
    obtain ⟨a, vs, rfl, sq, rs⟩ := lvL_sq R e r
    obtain ⟨ns, m1, m2, m3⟩ := m
    have z := ints_rep m1 rs
    subst z
    exact ⟨a, ns, rfl, eK ▸ sq, m2, fun y h1 h2 => c.here R (.int _) (m3 y h1 h2)⟩
  | min =>
    refine ⟨_, cr_min hc, fun G ρ h H v u xs q Q eK R r e m c => ?_⟩
    obtain ⟨a, vs, rfl, sq, rs⟩ := lvL_sq R e r
    obtain ⟨ns, m1, m2, m3⟩ := m
    have z := ints_rep m1 rs
    subst z
    exact ⟨a, ns, rfl, eK ▸ sq, m2, fun y h1 h2 => c.here R (.int _) (m3 y h1 h2)⟩
  | all =>
    refine ⟨_, cr_all hc, fun G ρ h H v u xs q Q eK R r e m c => ?_⟩
    obtain ⟨a, vs, rfl, sq, rs⟩ := lvL_sq R e r
    obtain ⟨ns, m1, m2⟩ := m
    have z := bls_rep m1 rs
    subst z
    exact ⟨a, ns, rfl, eK ▸ sq, c.here R (.bl _) m2⟩
  | any =>
    refine ⟨_, cr_any hc, fun G ρ h H v u xs q Q eK R r e m c => ?_⟩
    obtain ⟨a, vs, rfl, sq, rs⟩ := lvL_sq R e r
    obtain ⟨ns, m1, m2⟩ := m
    have z := bls_rep m1 rs
    subst z
    exact ⟨a, ns, rfl, eK ▸ sq, c.here R (.bl _) m2⟩
/-! ### methods -/
def Mth.id : Mth → String
  | .append => "list.append"
  | .pop => "list.pop"
  | .popAt => "list.pop"
  | .insert => "list.insert"
  | .reverse => "list.reverse"
  | .get => "dict.get"
  | .getD => "dict.get"
def Mth.name : Mth → Str
  | .append => "append"
  | .pop => "pop"
  | .popAt => "pop"
  | .insert => "insert"
  | .reverse => "reverse"
  | .get => "get"
  | .getD => "get"
def Mth.ty (m : Mth) : String := if m.dict then "dict" else "list"
theorem mt_dget (hu : X.A.units + 1 < cLine) : MtR X "dict.get" (fun x xs H Q => ∃ a y o, x = .ref a ∧ xs = [y] ∧ DGet H a y o ∧ Q (o.getD .non) H) := by
  intro pins s σ H x xs v us Q I rx rs h
  obtain ⟨a, y, o, rfl, rfl, g, q⟩ := h
  cases rx
  obtain ⟨u, rfl, ru⟩ := vals1 rs
  exact d_get1 hu I g ru fun w' s' I' r' => ⟨_, H, I', r', q⟩
theorem mt_dgetD (hu : X.A.units + 1 < cLine) : MtR X "dict.get" (fun x xs H Q => ∃ a y z o, x = .ref a ∧ xs = [y, z] ∧ DGet H a y o ∧ Q (o.getD z) H) := by
  intro pins s σ H x xs v us Q I rx rs h
  obtain ⟨a, y, z, o, rfl, rfl, g, q⟩ := h
  cases rx
  obtain ⟨u, u', rfl, ru, ru'⟩ := vals2 rs
  exact d_get2 hu I g ru ru' fun w' s' I' r' => ⟨_, H, I', r', q⟩
/-- a tracked list written, as the layer asks it -/
theorem Cov.wrote {G : GE} {ρ : Nat → Addr} {h : PH} {H : Hp} {q : QV} {Q : VK} {l : Nat} {xs : List PV} {us : List V} {v : PV} {u : V} (c : Cov G (RV G) ρ h H q Q) (R : HR G.K ρ h H) (hl : l < h.length) (rs : Reps G.K ρ h.length H xs us) (r : Rep G.K ρ h.length H v u)
    (k : q v (h.set l (.lst xs))) : Q u (upd H (ρ l) (.lst us)) :=
  c ρ (h.set l (.lst xs)) _ v u (Ext.write' R hl) (R.write hl (.lst rs)) (r.ext R (Ext.write' R hl)) k
theorem ixP_seq {n k : Nat} {i : Int} (e : ixP n i = some k) : seqIndex? i n = some k ∧ k < n ∧ -(n : Int) ≤ i ∧ i < n := ixN_seq e
theorem mth_inv {m : Mth} {v : PV} {vs : List PV} {h : PH} {q : QV} (z : mthS m v vs h q) : ∃ l, v = .loc l ∧ ((m.dict = false ∧ ∃ xs, getL h l = some xs ∧ mthO m (.lst xs) vs l h q) ∨ (m.dict = true ∧ ∃ kvs, h[l]? = some (.dic kvs) ∧ mthO m (.dic kvs) vs l h q)) := by
  obtain ⟨l, o, rfl, e, z⟩ := z
  refine ⟨l, rfl, ?_⟩
  cases o with
  | lst xs =>
    refine .inl ⟨?_, xs, by unfold getL; rw [e], z⟩
    cases m <;> first | rfl | (exfalso; revert z; unfold mthO; intro z; exact z)
  | dic kvs =>
    refine .inr ⟨?_, kvs, e, z⟩
    cases m <;> first | rfl | (exfalso; revert z; unfold mthO; intro z; exact z)
theorem mth_ok (hu : X.A.units + 1 < cLine) (m : Mth) : ∃ r : V → List V → Hp → VK → Prop, MtR X m.id r ∧ ∀ (G : GE) (ρ : Nat → Addr) (h : PH) (H : Hp) (v : PV) (u : V) (vs : List PV) (us : List V) (q : QV) (Q : VK), G.K = X.K → HR G.K ρ h H → Rep G.K ρ h.length H v u → Reps G.K ρ h.length H vs us → mthS m v vs h q → Cov G (RV G) ρ h H q Q →
    r u us H Q := by
  cases m with
  | append =>
    refine ⟨rAppend, mt_append, fun G ρ h H v u vs us q Q eK R r rs m c => ?_⟩
    obtain ⟨l, rfl, ⟨_, xs, m1, m⟩ | ⟨m0, _⟩⟩ := mth_inv m
    · match vs, m with
      | [y], m =>
        obtain ⟨m2, m3⟩ := m
        obtain ⟨ws, h1, h2⟩ := R.list m1
        obtain ⟨z, rfl, rz⟩ := rs.inv1
        exact ⟨ρ l, ws, z, r.locInv.1, rfl, h1, by rw [← h2.length]; exact m2, c.wrote R (getL_lt m1) (h2.append (.cons rz .nil)) .non m3⟩
    · cases m0
  | pop =>
    refine ⟨rPop, mt_pop, fun G ρ h H v u vs us q Q eK R r rs m c => ?_⟩
    obtain ⟨l, rfl, ⟨_, xs, m1, m⟩ | ⟨m0, _⟩⟩ := mth_inv m
    · match vs, m with
      | [], m =>
        obtain ⟨y, m2, m3⟩ := m
        obtain ⟨ws, h1, h2⟩ := R.list m1
        cases rs
        obtain ⟨z, e1, e2⟩ := h2.get m2
        exact ⟨ρ l, ws, z, r.locInv.1, rfl, h1, by rw [← h2.length]; exact e1, c.wrote R (getL_lt m1) h2.dropLast e2 m3⟩
    · cases m0
  | popAt =>
    refine ⟨rPopAt, mt_popAt, fun G ρ h H v u vs us q Q eK R r rs m c => ?_⟩
    obtain ⟨l, rfl, ⟨_, xs, m1, m⟩ | ⟨m0, _⟩⟩ := mth_inv m
    · match vs, m with
      | [.int i], m =>
        obtain ⟨k, y, m0, m2, m3, m4⟩ := m
        obtain ⟨ws, h1, h2⟩ := R.list m1
        obtain ⟨z, rfl, rz⟩ := rs.inv1
        obtain ⟨x, e1, e2⟩ := h2.get m3
        obtain ⟨a1, a2, a3, a4⟩ := ixP_seq m2
        exact ⟨ρ l, ws, i, k, x, r.locInv.1, by rw [rz.intInv], h1, m0.1, m0.2, by rw [← h2.length]; exact a1, e1, c.wrote R (getL_lt m1) (h2.erase k) e2 m4⟩
    · cases m0
  | insert =>
    refine ⟨_, mt_insert, fun G ρ h H v u vs us q Q eK R r rs m c => ?_⟩
    obtain ⟨l, rfl, ⟨_, xs, m1, m⟩ | ⟨m0, _⟩⟩ := mth_inv m
    · match vs, m with
      | [.int i, y], m =>
        obtain ⟨m2, m3, m4, m5⟩ := m
        obtain ⟨ws, h1, h2⟩ := R.list m1
        obtain ⟨z, z', rfl, rz, rz'⟩ := rs.inv2
        refine ⟨ρ l, ws, i, z', r.locInv.1, by rw [rz.intInv], h1, by rw [← h2.length]; exact m2, m3, m4, c.wrote R (getL_lt m1) (us := ws.take i.toNat ++ [z'] ++ ws.drop i.toNat) ?_ .non m5⟩
        have e : xs.take i.toNat ++ y :: xs.drop i.toNat = xs.take i.toNat ++ [y] ++ xs.drop i.toNat := by simp
        rw [e]
        exact ((h2.take _).append (.cons rz' .nil)).append (h2.drop _)
    · cases m0
  | reverse =>
    refine ⟨rReverse, mt_reverse, fun G ρ h H v u vs us q Q eK R r rs m c => ?_⟩
    obtain ⟨l, rfl, ⟨_, xs, m1, m⟩ | ⟨m0, _⟩⟩ := mth_inv m
    · match vs, m with
      | [], m =>
        obtain ⟨ws, h1, h2⟩ := R.list m1
        cases rs
        exact ⟨ρ l, ws, r.locInv.1, rfl, h1, c.wrote R (getL_lt m1) h2.reverse .non m⟩
    · cases m0
  | get =>
    refine ⟨_, mt_dget hu, fun G ρ h H v u vs us q Q eK R r rs m c => ?_⟩
    obtain ⟨l, rfl, ⟨m0, _⟩ | ⟨_, kvs, m1, m⟩⟩ := mth_inv m
    · cases m0
    · match vs, m with
      | [y], m =>
        obtain ⟨k, ek, m2⟩ := m
        obtain ⟨z, rfl, rz⟩ := rs.inv1
        obtain ⟨o, g1, g2, g3⟩ := dget_rep R m1 k
        refine ⟨_, z, o, r.locInv.1, rfl, keyP_rep ek rz ▸ g1, ?_⟩
        cases e : dGet kvs k with
        | none =>
          rw [e] at g2 m2
          cases o with
          | none => exact c.here R .non m2
          | some _ => cases g2
        | some x =>
          obtain ⟨w, rfl, rw'⟩ := g3 x e
          rw [e] at m2
          exact c.here R rw' m2
  | getD =>
    refine ⟨_, mt_dgetD hu, fun G ρ h H v u vs us q Q eK R r rs m c => ?_⟩
    obtain ⟨l, rfl, ⟨m0, _⟩ | ⟨_, kvs, m1, m⟩⟩ := mth_inv m
    · cases m0
    · match vs, m with
      | [y, y2], m =>
        obtain ⟨k, ek, m2⟩ := m
        obtain ⟨z, z2, rfl, rz, rz2⟩ := rs.inv2
        obtain ⟨o, g1, g2, g3⟩ := dget_rep R m1 k
        refine ⟨_, z, z2, o, r.locInv.1, rfl, keyP_rep ek rz ▸ g1, ?_⟩
        cases e : dGet kvs k with
        | none =>
          rw [e] at g2 m2
          cases o with
          | none => exact c.here R rz2 m2
          | some _ => cases g2
        | some x =>
          obtain ⟨w, rfl, rw'⟩ := g3 x e
          rw [e] at m2
          exact c.here R rw' m2
theorem ext_ok : ∃ r : V → List V → Hp → VK → Prop, MtR X "list.extend" r ∧ ∀ (G : GE) (ρ : Nat → Addr) (h : PH) (H : Hp) (l : Nat) (w : LV) (u u' : V) (xs ys : List PV) (q : QV) (Q : VK), G.K = X.K → HR G.K ρ h H → Rep G.K ρ h.length H (.loc l) u → LR G ρ h.length H w u' → getL h l = some xs → lvM h w = some ys → xs.length + ys.length ≤ sizeLine → q .non (h.set l (.lst (xs ++ ys))) → Cov G (RV G) ρ h H q Q →
    r u [u'] H Q := by
  refine ⟨rExtend, mt_extend, fun G ρ h H l w u u' xs ys q Q eK R r r' m1 m2 m3 m4 c => ?_⟩
  obtain ⟨ws, h1, h2⟩ := R.list m1
  obtain ⟨b, zs, rfl, k1, k2⟩ := lvM_sq R m2 r'
  exact ⟨ρ l, b, ws, zs, r.locInv.1, rfl, h1, k1, by rw [← h2.length, ← k2.length]; exact m3, c.wrote R (getL_lt m1) (h2.append k2) .non m4⟩
/-! ### stores -/
theorem set_dic (hu : X.A.units + 1 < cLine) : PSet X (fun x y z H Q => rSetL x y z H Q ∨ ∃ a H', x = .ref a ∧ DPut H a y z H' ∧ Q H') := by
  intro pins s σ H o i v ov iv u Q I r1 r2 r3 hh
  rcases hh with hh | ⟨a, H', rfl, g, q⟩
  · exact set_list pins s σ H o i v ov iv u Q I r1 r2 r3 hh
  · cases r1
    exact d_setItem hu I g r2 r3 fun s' I' => ⟨H', I', q⟩
theorem setS_ok {G : GE} {ρ : Nat → Addr} {h : PH} {H : Hp} {v i w : PV} {u k z : V} {q : PH → Prop} {Q : Hp → Prop} (R : HR G.K ρ h H) (r : Rep G.K ρ h.length H v u) (ri : Rep G.K ρ h.length H i k) (rw' : Rep G.K ρ h.length H w z) (m : setS v i w h q)
    (c : ∀ h' H', Ext ρ h.length H ρ h'.length H' → HR G.K ρ h' H' → q h' → Q H') : rSetL u k z H Q ∨ ∃ a H', u = .ref a ∧ DPut H a k z H' ∧ Q H' := by
  obtain ⟨l, o, rfl, e, m⟩ := m
  cases o with
  | lst xs =>
    obtain ⟨j, p, rfl, m2, m3⟩ := m
    have m1 : getL h l = some xs := by unfold getL; rw [e]
    obtain ⟨ws, h1, h2⟩ := R.list m1
    exact .inl ⟨ρ l, ws, j, p, r.locInv.1, ri.intInv, h1, by rw [← h2.length]; exact m2, c _ _ (Ext.write' R (getL_lt m1)) (R.write (getL_lt m1) (.lst (Reps.set rw' p h2))) m3⟩
  | dic kvs =>
    obtain ⟨j, ek, m2, m3⟩ := m
    obtain ⟨ws, h1, h2⟩ := R.dict e
    have hl : l < h.length := (List.getElem?_eq_some_iff.mp e).1
    rw [keyP_rep ek ri]
    exact .inr ⟨ρ l, _, r.locInv.1, DPut.k h1 (by rw [← h2.length]; exact m2), c _ _ (Ext.write' R hl) (R.write hl (.dic (h2.put rw' j (keyP_ok ek ri)))) m3⟩
/-- in place -/
theorem aug_ok (o : Operator) : ∃ r : TIp, PIp X o r ∧ ∀ (G : GE) (ρ : Nat → Addr) (h : PH) (H : Hp) (v w : PV) (u u' : V) (q : QV) (Q : VK), G.K = X.K → HR G.K ρ h H → Rep G.K ρ h.length H v u → Rep G.K ρ h.length H w u' → augB o v w h q → Cov G (RV G) ρ h H q Q → r u u' H Q := by
  have no : (∀ v w h q, ¬ augB o v w h q) → ∃ r : TIp, PIp X o r ∧ ∀ (G : GE) (ρ : Nat → Addr) (h : PH) (H : Hp) (v w : PV) (u u' : V) (q : QV) (Q : VK), G.K = X.K → HR G.K ρ h H → Rep G.K ρ h.length H v u → Rep G.K ρ h.length H w u' → augB o v w h q → Cov G (RV G) ρ h H q Q → r u u' H Q := fun z =>
    ⟨fun _ _ _ _ => False, fun _ _ _ _ _ _ _ _ _ _ _ _ q => q.elim, fun G ρ h H v w u u' q Q _ _ _ _ m _ => z _ _ _ _ m⟩
  cases o with
  | Add =>
    refine ⟨fun x y H Q => ipI (fun i j => i + j) x y H Q ∨ (∃ i j, x = .str i ∧ y = .str j ∧ i.length + j.length ≤ sizeLine ∧ Q (.str (i ++ j)) H), fun pins s σ H x y v u Q I r1 r2 q => ?_, fun G ρ h H v w u u' q Q eK R r r' m c => ?_⟩
    · rcases q with q | q
      · exact ip_add pins s σ H x y v u Q I r1 r2 q
      · exact iop_add_str pins s σ H x y v u Q I r1 r2 q
    · cases v <;> cases w <;> try (exact (m : False).elim)
      · rw [r.intInv, r'.intInv]
        exact .inl ⟨_, _, rfl, rfl, c.here R (.int _) m⟩
      · obtain ⟨e1, s1⟩ := r.strInv
        obtain ⟨e2, s2⟩ := r'.strInv
        rw [e1, e2]
        exact .inr ⟨_, _, rfl, rfl, m.1, c.here R (.str _ (strOk_append s1 s2)) m.2⟩
  | Sub =>
    refine ⟨_, ip_sub, fun G ρ h H v w u u' q Q eK R r r' m c => ?_⟩
    cases v <;> cases w <;> try (exact (m : False).elim)
    rw [r.intInv, r'.intInv]
    exact ⟨_, _, rfl, rfl, c.here R (.int _) m⟩
  | _ => exact no fun v w h q m => by cases v <;> cases w <;> exact m
end
end WD
end
section
set_option Elab.async false
set_option linter.all false
set_option maxRecDepth 100000
set_option autoImplicit false
set_option maxHeartbeats 4000000
/-! WLoop: what a loop walks: lists, tuples, texts by one rule; ranges; enumerate. -/
namespace WD
open PySem PySem.Spec PyProof.Rows L2

/-- a list, a tuple or a text, whatever it is -/
def iSeq (K : PySem.W.Frag) (tl : TE) : TI := fun σ H R => tl σ H fun x H1 =>
  (∃ a, x = .ref a ∧ (∃ xs, SqL K H1 a xs) ∧ R (Itl K a) H1) ∨ (∃ a, x = .ref a ∧ (∃ xs, SqT K H1 a xs) ∧ R (Itt K a) H1) ∨ ∃ z, x = .str z ∧ R (Its z) H1
/-- an expression that gives this very value, for the rules' sake -/
theorem pi_seq {X : Cx} {tg e : Expr} {te : TE} (he : PE X e te) : PI X tg e (iSeq X.K te) := by
  refine ⟨fun pins s σ H R I h => ?_⟩
  -- the walk of a value that is known
  have fin : ∀ (u : Value) (s1 : Shared) (x : V) (H1 : Hp), Inv X pins σ H1 s1 → RelV x u →
      ((∃ a, x = .ref a ∧ (∃ xs, SqL X.K H1 a xs) ∧ R (Itl X.K a) H1) ∨ (∃ a, x = .ref a ∧ (∃ xs, SqT X.K H1 a xs) ∧ R (Itt X.K a) H1) ∨ ∃ z, x = .str z ∧ R (Its z) H1) →
      wpAny (model X.prog X.w) X.A (pyIter u) (PIE X pins σ tg R) X.xe s1 := by
    intro u s1 x H1 I1 r1 q1
    rcases q1 with ⟨a, rfl, ⟨xs, hq⟩, q⟩ | ⟨a, rfl, ⟨xs, hq⟩, q⟩ | ⟨z, rfl, q⟩
    · cases r1
      obtain ⟨its, rv, p, hz⟩ := I1.list hq
      refine wpAny_pyIter_list p.isList ?_
      refine ⟨s1.heap.objs.size, [s1.heap.objs.size], _, _, H1, rfl, I1.kept (t' := s1.toks) fun b o e => Heap.get?_push_of_some _ e, turn_list a _, ⟨_, Heap.get?_push_size _ rfl, rfl, rfl⟩, fun b hb => ?_, q⟩
      have e : b = s1.heap.objs.size := by simpa using hb
      subst e
      exact I1.fpOk (Nat.le_refl _) (I1.hok.fresh (Nat.le_refl _))
    · cases r1
      obtain ⟨its, rv, p, hz⟩ := I1.tuple hq
      refine wpAny_pyIter_tuple (show s1.heap.IsTuple a its.toArray from p) ?_
      refine ⟨s1.heap.objs.size, [s1.heap.objs.size], _, _, H1, rfl, I1.kept (t' := s1.toks) fun b o e => Heap.get?_push_of_some _ e, turn_tuple a _, ⟨_, Heap.get?_push_size _ rfl, rfl, rfl⟩, fun b hb => ?_, q⟩
      have e : b = s1.heap.objs.size := by simpa using hb
      subst e
      exact I1.fpOk (Nat.le_refl _) (I1.hok.fresh (Nat.le_refl _))
    · obtain ⟨t, rfl⟩ := r1
      cases ha : z.cps.all (· < 128)
      · exact wpAny_pyIter_wide ha (pi_one (tk := s1.toks) I1 _ (turn_str _ z t "str_iterator" (.inr rfl)) ⟨_, Heap.get?_push_size _ rfl, rfl, rfl⟩ q)
      · exact wpAny_pyIter_ascii ha (pi_one (tk := s1.toks) I1 _ (turn_str _ z t "str_ascii_iterator" (.inl rfl)) ⟨_, Heap.get?_push_size _ rfl, rfl, rfl⟩ q)
  exact thn (he.run pins s σ H _ I h) fun v s1 ⟨x, H1, I1, r1, q1⟩ => fin v s1 x H1 I1 r1 q1
/-! ### enumerate of a tuple -/
section
open PySem.Sem (wp)
set_option maxHeartbeats 4000000 in
theorem meets_enumerate_newT (l : Addr) (items : Array Value) :
    Meets (Builtin.«enumerate.__new__» ⟨[.type "enumerate", .ref l], []⟩) (fun _ R s => s.heap.IsTuple l items ∧
      R (.ok (.ret (.ref (s.heap.push { cls := .type "tuple_iterator", data := .fields #[.ref l, .int 0 0] }).objs.size)))
        { s with heap := (s.heap.push { cls := .type "tuple_iterator", data := .fields #[.ref l, .int 0 0] }).push { cls := .type "enumerate", data := .fields #[.none, .bool false, .ref s.heap.objs.size, rawInt 0, .none, .none] } }) :=
  .of_wp fun prog w A R s ⟨hL, h⟩ => by
    obtain ⟨hp, g, d, tk, os⟩ := s
    have hsub := sub_enumerate
    obtain ⟨ol, hl, hc, n, hd⟩ := id hL
    wp_walk using wpAny_loadPart' hl
    refine wpAny_stack_any fun st => wpAny_pure ?_
    split
    · rename_i c _ _ _ _ _
      cases (c == Value.type "enumerate")
      · wp_walk using wpAny_pyIter_tuple hL
        exact ⟨_, rfl, h⟩
      · wp_walk using wpAny_pyIter_tuple hL
        exact ⟨_, rfl, h⟩
    · wp_walk using wpAny_pyIter_tuple hL
      exact ⟨_, rfl, h⟩
end
section
variable {prog : Program} {w : World} {A : Around} {E : Value → Shared → Prop} {s : Shared}
theorem call_enumerate_tuple {l : Addr} {items : Array Value} {Q : Value → Shared → Prop} (hL : s.heap.IsTuple l items)
    (h : ∀ h', IsEnum h' (s.heap.objs.size + 1) s.heap.objs.size 0 .none → h'.IsTupleIter s.heap.objs.size l 0 → h'.objs.size = s.heap.objs.size + 2 →
      (∀ b o, s.heap.get? b = some o → h'.get? b = some o) → Q (.ref (s.heap.objs.size + 1)) { s with heap := h' }) :
    wpAny (model prog w) A (call (.type "enumerate") [.ref l]) Q E s := by
  refine callType_new F.called_enumerate (by decide) (F.typeCall_enumerate_1 _) (F.newCall_enumerate_1 _) (fun obj => F.args_object_init_2 obj _) F.entry_enumerate_new
    (meets_enumerate_newT l items) ⟨hL, ?_⟩
  have hz : (s.heap.push { cls := .type "tuple_iterator", data := .fields #[.ref l, .int 0 0] }).objs.size = s.heap.objs.size + 1 := Heap.size_push ..
  show _ ∧ _
  rw [hz]
  have he : IsEnum ((s.heap.push { cls := .type "tuple_iterator", data := .fields #[.ref l, .int 0 0] }).push
      { cls := .type "enumerate", data := .fields #[.none, .bool false, .ref s.heap.objs.size, rawInt 0, .none, .none] }) (s.heap.objs.size + 1) s.heap.objs.size 0 .none := by
    have := Heap.get?_push_size (s.heap.push { cls := .type "tuple_iterator", data := .fields #[.ref l, .int 0 0] })
      (o := { cls := .type "enumerate", data := .fields #[.none, .bool false, .ref s.heap.objs.size, rawInt 0, .none, .none] }) rfl
    rw [hz] at this; exact this
  refine ⟨⟨_, he, rfl⟩, h _ he ⟨_, Heap.get?_push_of_some _ (Heap.get?_push_size _ rfl), rfl, rfl⟩ (by rw [Heap.size_push, hz]) fun b o x => Heap.get?_push_of_some _ (Heap.get?_push_of_some _ x)⟩
/-- the items of a tuple, drawn one by one -/
theorem draws_tuple (hh : A.handled = none) (it l : Addr) (items : Array Value) (hne : it ≠ l) :
    Draws prog w A.in1 it [it, l] items.size (fun i x => items[i]? = some x) (fun i h => h.IsTupleIter it l i ∧ h.IsTuple l items) where
  live := fun i h st => let ⟨⟨o, ho, _⟩, _⟩ := st; ⟨o, ho⟩
  frame := fun i h h' st k => by
    obtain ⟨⟨o, ho, hc, hd⟩, ⟨ol, hol, r⟩⟩ := st
    exact ⟨⟨o, k it (by simp) o ho, hc, hd⟩, ⟨ol, k l (by simp) ol hol, r⟩⟩
  item := fun i s Q E hi st hQ => by
    obtain ⟨hit, hl⟩ := st
    refine RZ.nextOf_tuple_item hit hl (x := items[i]) (Array.getElem?_eq_getElem hi) fun h' hit' sb => ?_
    refine hQ items[i] h' s.toks (Array.getElem?_eq_getElem hi) ⟨hit', ?_⟩ sb
    obtain ⟨ol, hol, r⟩ := hl
    exact ⟨ol, (sb.2 l (Ne.symm hne)).trans hol, r⟩
  done := fun s Q E st hE => by
    obtain ⟨hit, hl⟩ := st
    exact RZ.nextOf_tuple_end hh hit hl (Array.getElem?_eq_none (Nat.le_refl _)) hE
end
/-- the tuple at a, each item in a new pair -/
def IteT (K : PySem.W.Frag) (a : Addr) : It :=
  ⟨fun i H => ∃ (xs : List V) (x : V), SqT K H a xs ∧ xs[i]? = some x, fun i H v H' => ∃ T x, v = .ref T ∧ H T = none ∧ H' = upd H T (.tup [.int (i : Nat), x]) ∧ ∀ xs, SqT K H a xs → xs[i]? = some x, fun i H => ∃ xs : List V, SqT K H a xs ∧ xs.length ≤ i⟩
theorem draws_end {prog : Program} {w : World} {A : Around} (hh : A.handled = none) (it l : Addr) (items : Array Value) (hne : it ≠ l) (i : Nat) (hi : items.size ≤ i) :
    Draws prog w A.in1 it [it, l] i (fun _ _ => False) (fun j h => j = i ∧ h.IsTupleIter it l i ∧ h.IsTuple l items) where
  live := fun j h st => let ⟨_, ⟨o, ho, _⟩, _⟩ := st; ⟨o, ho⟩
  frame := fun j h h' st k => by
    obtain ⟨e, ⟨o, ho, hc, hd⟩, ⟨ol, hol, r⟩⟩ := st
    exact ⟨e, ⟨o, k it (by simp) o ho, hc, hd⟩, ⟨ol, k l (by simp) ol hol, r⟩⟩
  item := fun j s Q E hj st hQ => absurd hj (by rw [st.1]; exact Nat.lt_irrefl _)
  done := fun s Q E st hE => by
    obtain ⟨_, hit, hl⟩ := st
    exact RZ.nextOf_tuple_end hh hit hl (Array.getElem?_eq_none hi) hE
theorem turn_enumT {P : Program} {w : World} {K : PySem.W.Frag} {elts : List Expr} {kk : Nat} {tpos : Pos} (a e it : Addr) :
    Turn P w K (.Tuple elts kk tpos) (IteT K a) [e, it] e (fun i h => (∃ old, IsEnum h e it ((i : Nat) : Int) old) ∧ h.IsTupleIter it a i ∧ e ≠ it) where
  mem := by simp
  obj := fun i h st b hb => by
    obtain ⟨⟨old, he⟩, ⟨o, ho, hc, hd⟩, _⟩ := st
    have e' : b = e ∨ b = it := by simpa using hb
    rcases e' with z | z
    · rw [z]; exact ⟨_, he, fun v q => nomatch q⟩
    · rw [z]; exact ⟨o, ho, fun v q => by rw [hd] at q; cases q⟩
  keep := fun i h h' st k => by
    obtain ⟨⟨old, he⟩, ⟨o, ho, hc, hd⟩, hne⟩ := st
    exact ⟨⟨old, k e (by simp) _ he⟩, ⟨o, k it (by simp) o ho, hc, hd⟩, hne⟩
  item := by
    intro X hP hw hK hc i pins s σ H E I hf st hg
    subst hP hw hK
    obtain ⟨⟨old, he⟩, hit, hne⟩ := st
    obtain ⟨xs, x, hq, hx⟩ := hg
    obtain ⟨its, rv, p, hz⟩ := I.tuple hq
    obtain ⟨u, hu, ru⟩ := rv.get hx
    have hel : e < s.heap.objs.size := Heap.lt_size he
    have hil : it < s.heap.objs.size := by obtain ⟨_, q, _⟩ := hit; exact Heap.lt_size q
    have na : it ≠ a ∧ e ≠ a := by
      obtain ⟨o, ho, hcl, _⟩ := p
      obtain ⟨oi, hoi, hci, _⟩ := hit
      refine ⟨fun z => ?_, fun z => ?_⟩
      · subst z
        rw [ho] at hoi
        cases hoi
        rw [hcl] at hci
        simp at hci
      · subst z
        have he' : s.heap.get? e = some _ := he
        rw [ho] at he'
        cases he'
        simp at hcl
    have hlt : i < its.toArray.size := by
      rw [List.size_toArray]
      exact (List.getElem?_eq_some_iff.mp hu).1
    refine wpAny_pyNext_enum_itemD (draws_tuple (I.ok.hd hc) it a its.toArray na.1) he ⟨hit, p⟩ hlt hne (by simp; exact ⟨hne, na.2⟩) fun x' h' tk hx' ho hit' hT hsz hk => ?_
    have ex : x' = u := by
      have := hx'
      simp only [List.getElem?_toArray] at this
      rw [hu] at this
      exact (Option.some.inj this).symm
    subst ex
    refine ⟨_, rfl, wpAny_letOwnedTupleGo_enum (s := { s with heap := h', toks := tk + 1 }) ho fun h'' he' sb => ?_⟩
    have hT2 : h''.get? s.heap.objs.size = some { cls := .type "tuple", data := .seq #[.int i tk, x'] } := (sb.2 _ (Nat.ne_of_gt hel)).trans hT
    have new : ObjOk X.prog X.w (upd H s.heap.objs.size (.tup [.int (i : Nat), x])) h'' s.heap.objs.size (.tup [.int (i : Nat), x]) :=
      ⟨by show 2 ≤ sizeLine; decide, [.int i tk, x'], .cons ⟨_, rfl⟩ (.cons ru .nil), ⟨_, hT2, rfl, _, rfl⟩⟩
    have I1 : Inv X pins σ (upd H s.heap.objs.size (.tup [.int (i : Nat), x])) { s with heap := h'', toks := tk + 1 } :=
      I.turnedNew (ch := [e, it]) (fun b ob hb q => (sb.2 b (fun z => hb (by simp [z]))).trans (hk b ob (fun z => hb (by simp [z])) (fun z => hb (by simp [z])) q)) hf (Nat.le_refl _) new
    refine ⟨.ref s.heap.objs.size, _, I1, rfl, ⟨_, x, rfl, I.hok.fresh (Nat.le_refl _), rfl, fun ys hy => by rw [I.tuple_inj hy hq]; exact hx⟩, ⟨⟨x', ?_⟩, ?_, hne⟩, fun b hb => ?_⟩
    · have e1 : ((i + 1 : Nat) : Int) = (i : Int) + 1 := by omega
      rw [e1]; exact he'
    · obtain ⟨⟨oi, hoi, hci⟩, _⟩ := hit'
      exact ⟨oi, (sb.2 it (Ne.symm hne)).trans hoi, hci⟩
    · have hb' : b < s.heap.objs.size := by
        have e' : b = e ∨ b = it := by simpa using hb
        rcases e' with z | z
        · rw [z]; exact hel
        · rw [z]; exact hil
      rw [upd_ne (Nat.ne_of_lt hb')]
      exact (hf b hb).1
  done := by
    intro X hP hw hK hc i pins s σ H E I hf st hg
    subst hP hw hK
    obtain ⟨⟨old, he⟩, hit, hne⟩ := st
    obtain ⟨xs, hq, hx⟩ := hg
    obtain ⟨its, rv, p, hz⟩ := I.tuple hq
    obtain ⟨f0, f1, f2, f3, f4, f5⟩ := hf it (by simp)
    have hl := rv.length
    have na : it ≠ a := by
      obtain ⟨o, ho, hcl, _⟩ := p
      obtain ⟨oi, hoi, hci, _⟩ := hit
      intro z
      subst z
      rw [ho] at hoi
      cases hoi
      rw [hcl] at hci
      simp at hci
    refine wpAny_pyNext_enum_endD (draws_end (I.ok.hd hc) it a its.toArray na i (by rw [List.size_toArray]; omega)) he ⟨rfl, hit, p⟩ fun h' eb => ⟨rfl, ?_⟩
    exact I.turned (t' := s.toks) (fun b o hb q => eb b o hb q) f0 f1 f3 f4 f5
  self := fun A i s Q E st h => let ⟨⟨_, he⟩, _⟩ := st; wpAny_pyIter_enum he h
def iEnumA (K : PySem.W.Frag) (ta : TA) : TI := fun σ H R => ta σ H fun vs H1 => ∃ a xs, vs = [.ref a] ∧ ((SqL K H1 a xs ∧ R (Ite K a) H1) ∨ (SqT K H1 a xs ∧ R (IteT K a) H1))
theorem pi_enumA {X : Cx} {e : Expr} {ta : TA} {p pos tpos : Pos} {elts : List Expr} {kk : Nat} (hg : Gl X "enumerate") (hm : X.mg "enumerate" = none) (ha : PA X [e] ta) (hs : starEach [e] X.env = [(false, eval e X.env)]) :
    PI X (.Tuple elts kk tpos) (.Call (.Name "enumerate" p) [e] [] pos) (iEnumA X.K ta) := by
  refine ⟨fun pins s σ H R I h => ?_⟩
  refine Call_ (ld_blt I hg hm boot_enumerate (PyProof.Rows.callWith_type1 (thn (ha.run pos pins s σ H _ I h) fun us s1 ⟨vs, H1, I1, r1, q1⟩ => ?_) hs rfl))
  obtain ⟨a, xs, ex, q⟩ := q1
  subst ex
  cases r1 with
  | cons r rr =>
    cases rr
    cases r
    have hle : ∀ {b : Addr}, b ∈ [s1.heap.objs.size + 1, s1.heap.objs.size] → s1.heap.objs.size ≤ b := fun {b} hb => by
      have e' : b = s1.heap.objs.size + 1 ∨ b = s1.heap.objs.size := by simpa using hb
      rcases e' with z | z
      · rw [z]; exact Nat.le_add_right _ _
      · rw [z]; exact Nat.le_refl _
    rcases q with ⟨hq, q⟩ | ⟨hq, q⟩
    · obtain ⟨its, rv, p', hz⟩ := I1.list hq
      refine call_enumerate_list p'.isList fun h' he hit hsz hk => wpAny_pyIter_enum he ?_
      have I2 : Inv X pins σ H1 { s1 with heap := h' } := I1.kept (t' := s1.toks) hk
      exact ⟨s1.heap.objs.size + 1, [s1.heap.objs.size + 1, s1.heap.objs.size], _, _, H1, rfl, I2, turn_enum a (s1.heap.objs.size + 1) s1.heap.objs.size, ⟨⟨.none, he⟩, hit, Nat.succ_ne_self _⟩, fun b hb => I1.fpOk (hle hb) (I1.hok.fresh (hle hb)), q⟩
    · obtain ⟨its, rv, p', hz⟩ := I1.tuple hq
      refine call_enumerate_tuple (show s1.heap.IsTuple a its.toArray from p') fun h' he hit hsz hk => wpAny_pyIter_enum he ?_
      have I2 : Inv X pins σ H1 { s1 with heap := h' } := I1.kept (t' := s1.toks) hk
      exact ⟨s1.heap.objs.size + 1, [s1.heap.objs.size + 1, s1.heap.objs.size], _, _, H1, rfl, I2, turn_enumT a (s1.heap.objs.size + 1) s1.heap.objs.size, ⟨⟨.none, he⟩, hit, Nat.succ_ne_self _⟩, fun b hb => I1.fpOk (hle hb) (I1.hok.fresh (hle hb)), q⟩
end WD
end
section
set_option Elab.async false
set_option linter.all false
set_option maxRecDepth 100000
set_option autoImplicit false
set_option maxHeartbeats 4000000
/-! WJud: the layer's judgements with pure meanings: expressions. -/
namespace WD
open PySem PySem.Spec PyProof.Rows L2

/-- a pure meaning as a reading -/
def up {α β : Type} (G : GE) (W : WX) (R : (Nat → Addr) → Nat → Hp → α → β → Prop) (m : QX → PSt → PH → (α → PH → Prop) → Prop) : L2.St → Hp → (β → Hp → Prop) → Prop :=
  fun σ H Q => ∃ ρ h ς q x, HR G.K ρ h H ∧ SR G ρ h.length H ς σ ∧ m x ς h q ∧ Cov G R ρ h H q Q ∧ CovX G ρ h H x σ W
/-- a list just made: it was not there, it is not tracked -/
def LX (G : GE) (H0 : Hp) (ρ : Nat → Addr) (n : Nat) (H : Hp) (xs : List PV) (u : V) : Prop := ∃ p us, u = .ref p ∧ H0 p = none ∧ H p = some (.lst us) ∧ (∀ l, l < n → ρ l ≠ p) ∧ Reps G.K ρ n H xs us
def upL (G : GE) (W : WX) (m : QX → PSt → PH → (List PV → PH → Prop) → Prop) : TE := fun σ H Q => up G W (LX G H) m σ H Q
structure Good (G : GE) (X : Cx) (W : WX) : Prop where
  eK : G.K = X.K
  hu : X.A.units + 65 < cLine
  tk : Takes X W
/-- where no exception is handled -/
structure GoodC (G : GE) (X : Cx) (W : WX) : Prop extends Good G X W where
  calm : X.calm = true
  xh : G.xh = none
abbrev RE (G : GE) (W : WX) (X : Cx) (e : Expr) (m : QX → PSt → PH → QV → Prop) : Prop := PE X e (up G W (RV G) m)
abbrev RA (G : GE) (W : WX) (X : Cx) (es : List Expr) (m : QX → PSt → PH → (List PV → PH → Prop) → Prop) : Prop := PA X es (up G W (RVs G) m)
abbrev RT (G : GE) (W : WX) (X : Cx) (e : Expr) (m : QX → PSt → PH → (Bool → PH → Prop) → Prop) : Prop := PT X e (up G W (REq Bool) m)
abbrev RL (G : GE) (W : WX) (X : Cx) (e : Expr) (m : QX → PSt → PH → (List PV → PH → Prop) → Prop) : Prop := PE X e (upL G W m)
abbrev RLa (G : GE) (W : WX) (X : Cx) (e : Expr) (m : QX → PSt → PH → (LV → PH → Prop) → Prop) : Prop := PE X e (up G W (LR G) m)
abbrev RO (G : GE) (W : WX) (X : Cx) (e : Option Expr) (m : QX → PSt → PH → (Option Int → PH → Prop) → Prop) : Prop := L2.PO X e (up G W (REq (Option Int)) m)

section
variable {α β α' β' : Type} {G : GE} {W : WX} {X : Cx} {R : (Nat → Addr) → Nat → Hp → α → β → Prop} {R' : (Nat → Addr) → Nat → Hp → α' → β' → Prop} {m : QX → PSt → PH → (α → PH → Prop) → Prop}
  {f : α → QX → PSt → PH → (α' → PH → Prop) → Prop} {σ : L2.St} {H : Hp} {T : β → Hp → Prop} {Q : β' → Hp → Prop}
theorem up_bind (hw : up G W R' (fun x ς h q => m x ς h fun v h1 => f v x ς h1 q) σ H Q)
    (step : ∀ (ρ : Nat → Addr) (h : PH) (H1 : Hp) (ς : PSt) (q : α' → PH → Prop) (x : QX) (v : α) (u : β), HR G.K ρ h H1 → SR G ρ h.length H1 ς σ → R ρ h.length H1 v u → f v x ς h q → Cov G R' ρ h H1 q Q → CovX G ρ h H1 x σ W → T u H1) : up G W R m σ H T := by
  obtain ⟨ρ, h, ς, q, x, a1, a2, a3, a4, a5⟩ := hw
  exact ⟨ρ, h, ς, fun v h1 => f v x ς h1 q, x, a1, a2, a3, fun ρ' h' H' v u E R1 r k => step ρ' h' H' ς q x v u R1 (a2.ext a1 E) r k (a4.at R1 E) (a5.at R1 E), a5⟩
/-- the wish about another relation -/
theorem up_mono (hw : up G W R m σ H T) {T' : β' → Hp → Prop} {R' : (Nat → Addr) → Nat → Hp → α → β' → Prop} (hT : ∀ ρ h H1 v u', R' ρ h H1 v u' → ∃ u, R ρ h H1 v u ∧ (T u H1 → T' u' H1)) : up G W R' m σ H T' := by
  obtain ⟨ρ, h, ς, q, x, a1, a2, a3, a4, a5⟩ := hw
  exact ⟨ρ, h, ς, q, x, a1, a2, a3, fun ρ' h' H' v u E R1 r k => by
    obtain ⟨u1, r1, z⟩ := hT _ _ _ _ _ r
    exact z (a4 ρ' h' H' v u1 E R1 r1 k), a5⟩
end
theorem PE.imp {X : Cx} {e : Expr} {t t' : TE} (h : PE X e t) (i : ∀ σ H Q, t' σ H Q → t σ H Q) : PE X e t' := ⟨fun pins s σ H Q I hw => h.run pins s σ H Q I (i σ H Q hw)⟩
theorem PT.imp {X : Cx} {e : Expr} {t t' : TT} (h : PT X e t) (i : ∀ σ H Q, t' σ H Q → t σ H Q) : PT X e t' := ⟨fun pins s σ H Q I hw => h.run pins s σ H Q I (i σ H Q hw)⟩
theorem PW.imp {X : Cx} {e : Expr} {t t' : TT} (h : PW X e t) (i : ∀ σ H Q, t' σ H Q → t σ H Q) : PW X e t' := ⟨fun wh pins s σ H Q I hw => h.run wh pins s σ H Q I (i σ H Q hw)⟩
theorem PA.imp {X : Cx} {es : List Expr} {t t' : TA} (h : PA X es t) (i : ∀ σ H Q, t' σ H Q → t σ H Q) : PA X es t' := ⟨fun pos pins s σ H Q I hw => h.run pos pins s σ H Q I (i σ H Q hw)⟩
theorem PO.imp {X : Cx} {e : Option Expr} {t t' : TO} (h : L2.PO X e t) (i : ∀ σ H Q, t' σ H Q → t σ H Q) : L2.PO X e t' := ⟨fun pins s σ H Q I hw => h.run pins s σ H Q I (i σ H Q hw)⟩
theorem PS.imp {X : Cx} {st : Stmt} {t t' : TS} (h : PS X st t) (i : ∀ D σ H, t' D σ H → t D σ H) : PS X st t' := ⟨fun pins s σ H D I hw => h.run pins s σ H D I (i D σ H hw)⟩
theorem PSs.imp {X : Cx} {st : List Stmt} {t t' : TS} (h : PSs X st t) (i : ∀ D σ H, t' D σ H → t D σ H) : PSs X st t' := ⟨fun pins s σ H D I hw => h.run pins s σ H D I (i D σ H hw)⟩
section
variable {G : GE} {W : WX} {X : Cx} {a b c e : Expr} {es : List Expr} {pos p : Pos} {ma mb mc : QX → PSt → PH → QV → Prop} {mes : QX → PSt → PH → (List PV → PH → Prop) → Prop} {ta tb tc : QX → PSt → PH → (Bool → PH → Prop) → Prop}
/-! ### names and constants -/
theorem re_var {i : Nat} {x : Str} (hN : X.N[i]? = some x) (hv : Vis X.env.scope x) (hd : (x == ("__debug__" : Str)) = false) (hcd : (x == ("__classdict__" : Str)) = false) : RE G W X (.Name x pos) (fun _ ς h q => ∃ v, ς[i]? = some (some v) ∧ q v h) :=
  PE.imp (pe_var hN hv hd hcd) fun σ H Q hw => by
    obtain ⟨ρ, h, ς, q, y, a1, a2, ⟨v, e1, k⟩, a4, a5⟩ := hw
    obtain ⟨u, e2, r⟩ := a2.get i v e1
    exact ⟨u, e2, a4.here a1 r k⟩
theorem re_c {v : PV} {u : V} (hp : PE X e (tC u)) (r : ∀ (ρ : Nat → Addr) (n : Nat) (H : Hp), Rep G.K ρ n H v u) : RE G W X e (fun _ _ h q => q v h) :=
  PE.imp hp fun σ H Q hw => by
    obtain ⟨ρ, h, ς, q, y, a1, a2, k, a4, a5⟩ := hw
    exact a4.here a1 (r _ _ _) k
/-! ### operations -/
theorem re_bin (g : Good G X W) (o : Operator) (ha : RE G W X a ma) (hb : RE G W X b mb) : RE G W X (.BinOp a o b pos) (fun x ς h q => ma x ς h fun v h1 => mb x ς h1 fun w h2 => binS o v w h2 q) := by
  obtain ⟨r, hr, hs⟩ := bin_ok (X := X) o
  refine PE.imp (pe_op hr ha hb) fun σ H Q hw => ?_
  refine up_bind (m := ma) (f := fun (v : PV) x ς h q => mb x ς h fun w h2 => binS o v w h2 q) hw fun ρ h H1 ς q x v u R S r1 k c cx => ?_
  exact ⟨ρ, h, ς, _, x, R, S, k, fun ρ' h' H' w u' E R' r2 k2 => hs G ρ' h' H' v w u u' q Q g.eK R' (r1.ext R E) r2 k2 (c.at R' E), cx⟩
theorem re_neg (ha : RE G W X a ma) : RE G W X (.UnaryOp .USub a pos) (fun x ς h q => ma x ς h fun v h1 => ∃ i, v = PV.int i ∧ q (PV.int (-i)) h1) := by
  refine PE.imp (pe_un un_neg ha) fun σ H Q hw => ?_
  refine up_bind (m := ma) (f := fun (v : PV) x ς h q => ∃ i, v = PV.int i ∧ q (PV.int (-i)) h) hw fun ρ h H1 ς q x v u R S r1 k c cx => ?_
  obtain ⟨i, rfl, k⟩ := k
  exact ⟨i, r1.intInv, c.here R (.int _) k⟩
theorem re_cmp (g : Good G X W) (o : CmpOp) (ha : RE G W X a ma) (hb : RE G W X b mb) (hm : behindInMarks o b = false) : RE G W X (.Compare a [o] [b] pos) (fun x ς h q => ma x ς h fun v h1 => mb x ς h1 fun w h2 => cmpS o v w h2 fun r => q (PV.bl r) h2) := by
  obtain ⟨r, hr, hs⟩ := cmp_ok (X := X) g.hu o
  refine PE.imp (pe_cmpR hr ha hb hm) fun σ H Q hw => ?_
  refine up_bind (m := ma) (f := fun (v : PV) x ς h q => mb x ς h fun w h2 => cmpS o v w h2 fun r => q (PV.bl r) h2) hw fun ρ h H1 ς q x v u R S r1 k c cx => ?_
  exact ⟨ρ, h, ς, _, x, R, S, k, fun ρ' h' H' w u' E R' r2 k2 => hs G ρ' h' H' v w u u' _ Q g.eK R' (r1.ext R E) r2 k2 fun d hd => (c.at R' E).here R' (.bl d) hd, cx⟩
theorem rt_cmp (g : Good G X W) (o : CmpOp) (ha : RE G W X a ma) (hb : RE G W X b mb) (hm : behindInMarks o b = false) : RT G W X (.Compare a [o] [b] pos) (fun x ς h q => ma x ς h fun v h1 => mb x ς h1 fun w h2 => cmpS o v w h2 fun r => q r h2) := by
  obtain ⟨r, hr, hs⟩ := cmp_ok (X := X) g.hu o
  refine PT.imp (pt_cmpR hr ha hb hm) fun σ H Q hw => ?_
  refine up_bind (m := ma) (f := fun (v : PV) x ς h q => mb x ς h fun w h2 => cmpS o v w h2 fun r => q r h2) hw fun ρ h H1 ς q x v u R S r1 k c cx => ?_
  exact ⟨ρ, h, ς, _, x, R, S, k, fun ρ' h' H' w u' E R' r2 k2 => hs G ρ' h' H' v w u u' _ _ g.eK R' (r1.ext R E) r2 k2 fun d hd => ⟨d, rfl, c ρ' h' H' d d E R' rfl hd⟩, cx⟩
theorem re_chn (g : Good G X W) (o o' : CmpOp) (ha : RE G W X a ma) (hb : RE G W X b mb) (hc : RE G W X c mc) (hm : behindInMarks o' c = false) :
    RE G W X (.Compare a [o, o'] [b, c] pos) (fun x ς h q => ma x ς h fun u h1 => mb x ς h1 fun v h2 => cmpS o u v h2 fun r => if r = true then mc x ς h2 fun w h3 => cmpS o' v w h3 fun r' => q (PV.bl r') h3 else q (PV.bl false) h2) := by
  obtain ⟨r, hr, hs⟩ := cmp_ok (X := X) g.hu o
  obtain ⟨r', hr', hs'⟩ := cmp_ok (X := X) g.hu o'
  refine PE.imp (pe_chain hr hr' ha hb hc hm) fun σ H Q hw => ?_
  refine up_bind (m := ma) (f := fun (u : PV) x ς h q => mb x ς h fun v h2 => cmpS o u v h2 fun r => if r = true then mc x ς h2 fun w h3 => cmpS o' v w h3 fun r' => q (PV.bl r') h3 else q (PV.bl false) h2) hw fun ρ h H1 ς q x v u R S r1 k cc cx => ?_
  refine ⟨ρ, h, ς, _, x, R, S, k, fun ρ' h' H' w u' E R' r2 k2 => hs G ρ' h' H' v w u u' _ _ g.eK R' (r1.ext R E) r2 k2 fun d hd => ⟨d, rfl, ?_⟩, cx⟩
  cases d with
  | true =>
    rw [if_pos rfl] at hd ⊢
    exact ⟨ρ', h', ς, _, x, R', S.ext R E, hd, fun ρ2 h2 H2 y u3 E2 R2 r3 k3 => hs' G ρ2 h2 H2 w y u' u3 _ Q g.eK R2 (r2.ext R' E2) r3 k3 fun d hd => ((cc.at R' E).at R2 E2).here R2 (.bl d) hd, cx.at R' E⟩
  | false =>
    rw [if_neg Bool.false_ne_true] at hd ⊢
    exact (cc.at R' E).here R' (.bl false) hd
theorem rt_chn (g : Good G X W) (o o' : CmpOp) (ha : RE G W X a ma) (hb : RE G W X b mb) (hc : RE G W X c mc) (hm : behindInMarks o' c = false) :
    RT G W X (.Compare a [o, o'] [b, c] pos) (fun x ς h q => ma x ς h fun u h1 => mb x ς h1 fun v h2 => cmpS o u v h2 fun r => if r = true then mc x ς h2 fun w h3 => cmpS o' v w h3 fun r' => q r' h3 else q false h2) := by
  obtain ⟨r, hr, hs⟩ := cmp_ok (X := X) g.hu o
  obtain ⟨r', hr', hs'⟩ := cmp_ok (X := X) g.hu o'
  refine PT.imp (pt_chain hr hr' ha hb hc hm) fun σ H Q hw => ?_
  refine up_bind (m := ma) (f := fun (u : PV) x ς h q => mb x ς h fun v h2 => cmpS o u v h2 fun r => if r = true then mc x ς h2 fun w h3 => cmpS o' v w h3 fun r' => q r' h3 else q false h2) hw fun ρ h H1 ς q x v u R S r1 k cc cx => ?_
  refine ⟨ρ, h, ς, _, x, R, S, k, fun ρ' h' H' w u' E R' r2 k2 => hs G ρ' h' H' v w u u' _ _ g.eK R' (r1.ext R E) r2 k2 fun d hd => ⟨d, rfl, ?_⟩, cx⟩
  cases d with
  | true =>
    rw [if_pos rfl] at hd ⊢
    exact ⟨ρ', h', ς, _, x, R', S.ext R E, hd, fun ρ2 h2 H2 y u3 E2 R2 r3 k3 => hs' G ρ2 h2 H2 w y u' u3 _ _ g.eK R2 (r2.ext R' E2) r3 k3 fun d hd => ⟨d, rfl, cc ρ2 h2 H2 d d (E.trans R' E2) R2 rfl hd⟩, cx.at R' E⟩
  | false =>
    rw [if_neg Bool.false_ne_true] at hd ⊢
    exact ⟨false, rfl, cc ρ' h' H' false false E R' rfl hd⟩
theorem re_and {rest : List Expr} (ha : RE G W X a ma) (hb : RE G W X (.BoolOp .And (b :: rest) pos) mb) : RE G W X (.BoolOp .And (a :: b :: rest) pos) (fun x ς h q => ma x ς h fun v h1 => ∃ r, v = PV.bl r ∧ if r = true then mb x ς h1 q else q (PV.bl false) h1) := by
  refine PE.imp (pe_and ha hb) fun σ H Q hw => ?_
  refine up_bind (m := ma) (f := fun (v : PV) x ς h q => ∃ r, v = PV.bl r ∧ if r = true then mb x ς h q else q (PV.bl false) h) hw fun ρ h H1 ς q x v u R S r1 k c cx => ?_
  obtain ⟨d, rfl, k⟩ := k
  refine ⟨d, r1.blInv, ?_⟩
  cases d with
  | true => rw [if_pos rfl] at k ⊢; exact ⟨ρ, h, ς, q, x, R, S, k, c, cx⟩
  | false => rw [if_neg Bool.false_ne_true] at k ⊢; exact c.here R (.bl _) k
theorem re_or {rest : List Expr} (ha : RE G W X a ma) (hb : RE G W X (.BoolOp .Or (b :: rest) pos) mb) : RE G W X (.BoolOp .Or (a :: b :: rest) pos) (fun x ς h q => ma x ς h fun v h1 => ∃ r, v = PV.bl r ∧ if r = true then q (PV.bl true) h1 else mb x ς h1 q) := by
  refine PE.imp (pe_or ha hb) fun σ H Q hw => ?_
  refine up_bind (m := ma) (f := fun (v : PV) x ς h q => ∃ r, v = PV.bl r ∧ if r = true then q (PV.bl true) h else mb x ς h q) hw fun ρ h H1 ς q x v u R S r1 k c cx => ?_
  obtain ⟨d, rfl, k⟩ := k
  refine ⟨d, r1.blInv, ?_⟩
  cases d with
  | false => rw [if_neg Bool.false_ne_true] at k ⊢; exact ⟨ρ, h, ς, q, x, R, S, k, c, cx⟩
  | true => rw [if_pos rfl] at k ⊢; exact c.here R (.bl _) k
theorem re_not (ha : RE G W X a ma) : RE G W X (.UnaryOp .Not a pos) (fun x ς h q => ma x ς h fun v h1 => ∃ r, v = PV.bl r ∧ q (PV.bl (!r)) h1) := by
  refine PE.imp (pe_not ha) fun σ H Q hw => ?_
  refine up_bind (m := ma) (f := fun (v : PV) x ς h q => ∃ r, v = PV.bl r ∧ q (PV.bl (!r)) h) hw fun ρ h H1 ς q x v u R S r1 k c cx => ?_
  obtain ⟨d, rfl, k⟩ := k
  exact ⟨d, r1.blInv, c.here R (.bl _) k⟩
theorem rt_not (ha : RT G W X a ta) : RT G W X (.UnaryOp .Not a pos) (fun x ς h q => ta x ς h fun r h1 => q (!r) h1) := by
  refine PT.imp (pt_not ha) fun σ H Q hw => ?_
  refine up_bind (m := ta) (f := fun (r : Bool) x ς h q => q (!r) h) hw fun ρ h H1 ς q x v u R S r1 k c cx => ?_
  cases r1
  exact c ρ h H1 _ _ Ext.refl R rfl k
abbrev RW (G : GE) (W : WX) (X : Cx) (e : Expr) (m : QX → PSt → PH → (Bool → PH → Prop) → Prop) : Prop := PW X e (up G W (REq Bool) m)
theorem rw_and {rest : List Expr} (ha : RT G W X a ta) (hb : RW G W X (.BoolOp .And (b :: rest) pos) tb) : RW G W X (.BoolOp .And (a :: b :: rest) pos) (fun x ς h q => ta x ς h fun r h1 => if r = true then tb x ς h1 q else q false h1) := by
  refine PW.imp (pw_and ha hb) fun σ H Q hw => ?_
  refine up_bind (m := ta) (f := fun (r : Bool) x ς h q => if r = true then tb x ς h q else q false h) hw fun ρ h H1 ς q x v u R S r1 k c cx => ?_
  cases r1
  cases v with
  | true => rw [if_pos rfl] at k ⊢; exact ⟨ρ, h, ς, q, x, R, S, k, c, cx⟩
  | false => rw [if_neg Bool.false_ne_true] at k ⊢; exact c ρ h H1 _ _ Ext.refl R rfl k
theorem rw_or {rest : List Expr} (ha : RT G W X a ta) (hb : RW G W X (.BoolOp .Or (b :: rest) pos) tb) : RW G W X (.BoolOp .Or (a :: b :: rest) pos) (fun x ς h q => ta x ς h fun r h1 => if r = true then q true h1 else tb x ς h1 q) := by
  refine PW.imp (pw_or ha hb) fun σ H Q hw => ?_
  refine up_bind (m := ta) (f := fun (r : Bool) x ς h q => if r = true then q true h else tb x ς h q) hw fun ρ h H1 ς q x v u R S r1 k c cx => ?_
  cases r1
  cases v with
  | false => rw [if_neg Bool.false_ne_true] at k ⊢; exact ⟨ρ, h, ς, q, x, R, S, k, c, cx⟩
  | true => rw [if_pos rfl] at k ⊢; exact c ρ h H1 _ _ Ext.refl R rfl k
theorem rt_truth (g : Good G X W) (ha : RE G W X a ma) (he : ∀ whole, isTrue a X.env whole = (do let v ← whole; standAt a.pos; holding [v] (truthy v))) : RT G W X a (fun x ς h q => ma x ς h fun v h1 => ∃ r, truS h1 v = some r ∧ q r h1) := by
  refine PT.imp (pt_truth ha he) fun σ H Q hw => ?_
  refine up_bind (m := ma) (f := fun (v : PV) x ς h q => ∃ r, truS h v = some r ∧ q r h) hw fun ρ h H1 ς q x v u R S r1 k c cx => ?_
  obtain ⟨d, e1, k⟩ := k
  exact ⟨d, tru_of g.eK R r1 e1, c ρ h H1 _ _ Ext.refl R rfl k⟩
theorem re_ifx (hc : RT G W X c tc) (ha : RE G W X a ma) (hb : RE G W X b mb) : RE G W X (.IfExp c a b pos) (fun x ς h q => tc x ς h fun r h1 => if r = true then ma x ς h1 q else mb x ς h1 q) := by
  refine PE.imp (pe_ifExp hc ha hb) fun σ H Q hw => ?_
  refine up_bind (m := tc) (f := fun (r : Bool) x ς h q => if r = true then ma x ς h q else mb x ς h q) hw fun ρ h H1 ς q x v u R S r1 k c cx => ?_
  cases r1
  cases v with
  | true => rw [if_pos rfl] at k ⊢; exact ⟨ρ, h, ς, q, x, R, S, k, c, cx⟩
  | false => rw [if_neg Bool.false_ne_true] at k ⊢; exact ⟨ρ, h, ς, q, x, R, S, k, c, cx⟩
/-! ### arguments -/
theorem ra_nil : RA G W X [] (fun _ _ h q => q [] h) := by
  refine PA.imp pa_nil fun σ H Q hw => ?_
  obtain ⟨ρ, h, ς, q, y, a1, a2, k, a4, a5⟩ := hw
  exact a4 ρ h H _ _ Ext.refl a1 .nil k
theorem ra_cons (ha : RE G W X a ma) (hr : RA G W X es mes) (hs : starEach (a :: es) X.env = (false, eval a X.env) :: starEach es X.env) : RA G W X (a :: es) (fun x ς h q => ma x ς h fun v h1 => mes x ς h1 fun vs h2 => q (v :: vs) h2) := by
  refine PA.imp (pa_cons ha hr hs) fun σ H Q hw => ?_
  refine up_bind (m := ma) (f := fun (v : PV) x ς h q => mes x ς h fun vs h2 => q (v :: vs) h2) hw fun ρ h H1 ς q x v u R S r1 k c cx => ?_
  exact ⟨ρ, h, ς, _, x, R, S, k, fun ρ' h' H' ws us E R' rs k2 => c ρ' h' H' _ _ E R' (.cons (r1.ext R E) rs) k2, cx⟩
theorem re_tup {k0 : Nat} (hs : RA G W X es mes) : RE G W X (.Tuple es k0 pos) (fun x ς h q => mes x ς h fun vs h1 => vs.length ≤ sizeLine ∧ q (PV.tup vs) h1) := by
  refine PE.imp (pe_tup hs) fun σ H Q hw => ?_
  refine up_bind (m := mes) (f := fun (vs : List PV) x ς h q => vs.length ≤ sizeLine ∧ q (PV.tup vs) h) hw fun ρ h H1 ς q x vs us R S rs k c cx => ?_
  exact ⟨by rw [← rs.length]; exact k.1, fun p hp => c.newTup R rs k.2 p hp⟩
theorem re_ix (g : Good G X W) (ha : RE G W X a ma) (hb : RE G W X b mb) (hs : PlainIx b) : RE G W X (.Subscript a b pos) (fun x ς h q => ma x ς h fun v h1 => mb x ς h1 fun w h2 => ixS v w h2 q) := by
  refine PE.imp (pe_ix (ix_seq.or (ix_dic (by have := g.hu; omega))) ha hb hs) fun σ H Q hw => ?_
  refine up_bind (m := ma) (f := fun (v : PV) x ς h q => mb x ς h fun w h2 => ixS v w h2 q) hw fun ρ h H1 ς q x v u R S r1 k c cx => ?_
  exact ⟨ρ, h, ς, _, x, R, S, k, fun ρ' h' H' w u' E R' r2 k2 => ixS_ok g.eK R' (r1.ext R E) r2 k2 fun y z ry ky => (c.at R' E).here R' ry ky, cx⟩
/-! ### a slice's parts -/
theorem ro_none : RO G W X none (fun _ _ h q => q none h) := by
  refine PO.imp po_none fun σ H Q hw => ?_
  obtain ⟨ρ, h, ς, q, y, a1, a2, k, a4, a5⟩ := hw
  exact a4 ρ h H _ _ Ext.refl a1 rfl k
theorem ro_some (ha : RE G W X a ma) : RO G W X (some a) (fun x ς h q => ma x ς h fun v h1 => ∃ i, v = PV.int i ∧ q (some i) h1) := by
  refine PO.imp (po_some ha) fun σ H Q hw => ?_
  refine up_bind (m := ma) (f := fun (v : PV) x ς h q => ∃ i, v = PV.int i ∧ q (some i) h) hw fun ρ h H1 ς q x v u R S r1 k c cx => ?_
  obtain ⟨i, rfl, k⟩ := k
  exact ⟨i, r1.intInv, c ρ h H1 _ _ Ext.refl R rfl k⟩
end
end WD
end
section
set_option Elab.async false
set_option linter.all false
set_option maxRecDepth 100000
set_option autoImplicit false
set_option maxHeartbeats 4000000
/-! WJud2: slices, calls, lists just made, methods. -/
namespace WD
open PySem PySem.Spec PyProof.Rows L2
/-- a def's promise by its pure meaning -/
def spOf (G : GE) (Φ : Phi) (f : Nat) : Sp := fun vs H Q E => ∃ ρ h args q x, HR G.K ρ h H ∧ Reps G.K ρ h.length H args vs ∧ Φ f args h q x ∧ Cov G (RV G) ρ h H q Q ∧
  ∀ ρ' h' H' e c d, Ext ρ h.length H ρ' h'.length H' → HR G.K ρ' h' H' → XR G ρ' h'.length H' e c d → x e h' → E c d H'
/-- a call with keywords: the def, how many positional values, the keywords, where each parameter's value stands -/
structure KwS where
  id : Nat
  n : Nat
  ks : List Str
  ix : List Nat
def gP (ix : List Nat) : List Value → List Value → List Value := fun us ws => ix.map fun i => (us ++ ws).getD i .none
def gPV (ix : List Nat) : List V → List V → List V := fun us ws => ix.map fun i => (us ++ ws).getD i .non
/-- a def of the module that may be called by its name -/
structure FnAt (G : GE) (Φ : Phi) (X : Cx) (x : Str) (id : Nat) (kw : List KwS) : Prop where
  ex : ∃ (f : Addr) (fd : FuncData) (ps : List Str) (k : Nat), X.mg x = some (.ref f) ∧ FnOk X.prog X.w X.K X.mg X.base (L2.CX X.prog X.w) k f fd ps (spOf G Φ id) ∧ Room k X.A ∧ PySem.W.keepIn X.K (.ref f) = true ∧ Binds X.K fd ps [] ∧ ∀ e ∈ kw, e.id = id → KBn X.K fd ps e.n e.ks (gP e.ix) (gPV e.ix)
section
variable {G : GE} {Φ : Phi} {W : WX} {X : Cx} {a b c e : Expr} {es : List Expr} {pos p : Pos} {ma mb mc : QX → PSt → PH → QV → Prop} {mes ml : QX → PSt → PH → (List PV → PH → Prop) → Prop} {mu mw : QX → PSt → PH → (LV → PH → Prop) → Prop}
  {lo hi : Option Expr} {mlo mhi : QX → PSt → PH → (Option Int → PH → Prop) → Prop}
theorem re_sl {p2 : Pos} (g : Good G X W) (ha : RE G W X a ma) (hl : RO G W X lo mlo) (hh : RO G W X hi mhi) : RE G W X (.Subscript a (.Slice lo hi none p2) pos) (fun x ς h q => ma x ς h fun v h1 => mlo x ς h1 fun l h2 => mhi x ς h2 fun u h3 => slS v l u h3 q) := by
  refine PE.imp (pe_slice (sl_tupA.or (sl_str.or sl_list)) ha hl hh) fun σ H Q hw => ?_
  refine up_bind (m := ma) (f := fun (v : PV) x ς h q => mlo x ς h fun l h2 => mhi x ς h2 fun u h3 => slS v l u h3 q) hw fun ρ h H1 ς q x v u R S r1 k c cx => ?_
  refine ⟨ρ, h, ς, _, x, R, S, k, fun ρ2 h2 H2 l l' E2 R2 r2 k2 => ?_, cx⟩
  cases r2
  refine ⟨ρ2, h2, ς, _, x, R2, S.ext R E2, k2, fun ρ3 h3 H3 y y' E3 R3 r3 k3 => ?_, cx.at R2 E2⟩
  cases r3
  exact slS_ok g.eK R3 ((r1.ext R E2).ext R2 E3) k3 ((c.at R2 E2).at R3 E3)
/-! ### calls of defs -/
theorem re_call {x : Str} {id : Nat} {kw : List KwS} (g : Good G X W) (F : FnAt G Φ X x id kw) (hg : Gl X x) (hs : RA G W X (e :: es) mes)
    (hdb : (x == ("__debug__" : Str)) = false) (he : starEach (e :: es) X.env = (false, eval e X.env) :: starEach es X.env) (hpl : ∀ pos, (backTo pos (starEach es X.env)).any (·.1) = false) :
    RE G W X (.Call (.Name x p) (e :: es) [] pos) (fun y ς h q => mes y ς h fun vs h1 => Φ id vs h1 q y) := by
  obtain ⟨f, fd, ps, k, h1, h2, h3, h4, h5, _⟩ := F.ex
  refine PE.imp (pe_callS h2 h3 hg h1 h4 h5 (fun σ => passAt g.tk σ) hs hdb he (hpl _)) fun σ H Q hw => ?_
  refine up_bind (m := mes) (f := fun (vs : List PV) y ς h q => Φ id vs h q y) hw fun ρ h H1 ς q y vs us R S rs k c cx => ?_
  exact ⟨ρ, h, vs, q, y, R, rs, k, c, fun ρ' h' H' e' k' d' E R' xr z => cx ρ' h' H' e' k' d' E R' xr z⟩
theorem re_call0 {x : Str} {id : Nat} {kw : List KwS} (g : Good G X W) (F : FnAt G Φ X x id kw) (hg : Gl X x) (hdb : (x == ("__debug__" : Str)) = false) :
    RE G W X (.Call (.Name x p) [] [] pos) (fun y ς h q => Φ id [] h q y) := by
  obtain ⟨f, fd, ps, k, h1, h2, h3, h4, h5, _⟩ := F.ex
  refine ⟨fun pins s σ H Q I hw => ?_⟩
  refine wpAny_Call_Name_kw (ld_glob I hg h1 ?_ hdb)
  refine PySem.W.callWith_K0 I.kIn h4 (run_fnS (us := []) (vs := []) (E := WE W) h2 h3 h5 (passAt g.tk σ) I .nil ?_)
  obtain ⟨ρ, h, ς, q, y, R, S, k, c, cx⟩ := hw
  exact ⟨ρ, h, [], q, y, R, .nil, k, c, fun ρ' h' H' e' k' d' E R' xr z => cx ρ' h' H' e' k' d' E R' xr z⟩
/-! ### calls of built-in functions -/
/-- a call of a known value by a name -/
theorem pe_callF {f : Value} {r : List V → Hp → VK → Prop} {t : TA} {x : Str} (hc : CallR X f r) (hf : (∃ id, f = .builtin id) ∨ ∃ T, f = .type T) (hg : Gl X x) (hm : X.mg x = none) (hv : bootBuiltins x = some f) (ha : PA X (e :: es) t) (hn : x ≠ "__name__") (hdb : (x == ("__debug__" : Str)) = false)
    (he : starEach (e :: es) X.env = (false, eval e X.env) :: starEach es X.env) (hpl : (backTo pos (starEach es X.env)).any (·.1) = false) : PE X (.Call (.Name x p) (e :: es) [] pos) (tCB r t) := by
  rcases hf with ⟨id, rfl⟩ | ⟨T, rfl⟩
  · exact pe_callB hc hg hm hv ha hn hdb he hpl
  · exact pe_callTy hc hg hm hv ha hn hdb he hpl
theorem Bif.kind (b : Bif) : (∃ id, b.fn = .builtin id) ∨ ∃ T, b.fn = .type T := by
  cases b <;> first | exact .inl ⟨_, rfl⟩ | exact .inr ⟨_, rfl⟩
theorem Lif.kind (b : Lif) : (∃ id, b.fn = .builtin id) ∨ ∃ T, b.fn = .type T := by
  cases b <;> first | exact .inl ⟨_, rfl⟩ | exact .inr ⟨_, rfl⟩
theorem re_bif {x : Str} (g : Good G X W) (bf : Bif) (hc : bf.hotOk = false → X.calm = true) (hmore : bf.more = []) (hg : Gl X x) (hm : X.mg x = none) (hv : bootBuiltins x = some bf.fn) (hs : RA G W X (e :: es) mes) (hn : x ≠ "__name__") (hdb : (x == ("__debug__" : Str)) = false)
    (he : starEach (e :: es) X.env = (false, eval e X.env) :: starEach es X.env) (hpl : ∀ pos, (backTo pos (starEach es X.env)).any (·.1) = false) :
    RE G W X (.Call (.Name x p) (e :: es) [] pos) (fun y ς h q => mes y ς h fun vs h1 => bifS bf vs h1 q) := by
  obtain ⟨r, hr, hok⟩ := bif_ok bf hc
  refine PE.imp (pe_callF hr bf.kind hg hm hv hs hn hdb he (hpl _)) fun σ H Q hw => ?_
  refine up_bind (m := mes) (f := fun (vs : List PV) y ς h q => bifS bf vs h q) hw fun ρ h H1 ς q y vs us R S rs k c cx => ?_
  have := hok G ρ h H1 vs us q Q g.eK R rs k c
  rwa [hmore, List.append_nil] at this
theorem re_isT {x t : Str} {T : String} {pt : Pos} (g : Good G X W) (hx : x = "isinstance") (hg : Gl X x) (hm : X.mg x = none) (hgt : Gl X t) (hmt : X.mg t = none) (hvt : bootBuiltins t = some (.type T)) (hnt : t ≠ "__name__") (hdt : (t == ("__debug__" : Str)) = false) (ha : RE G W X a ma)
    (he : starEach [a, .Name t pt] X.env = (false, eval a X.env) :: starEach [.Name t pt] X.env) :
    RE G W X (.Call (.Name x p) [a, .Name t pt] [] pos) (fun y ς h q => ma y ς h fun v h1 => bifS (.isT T) [v] h1 q) := by
  subst hx
  obtain ⟨r, hr, hok⟩ := bif_ok (.isT T) (fun z => by cases z)
  have hT : PE X (.Name t pt) (tC (.ty T)) := pe_bltn hgt hmt hvt rfl hnt hdt
  refine PE.imp (pe_callF (f := .builtin "isinstance") hr (.inl ⟨_, rfl⟩) hg hm (by decide +kernel) (pa_cons ha (pa_cons hT pa_nil (by rfl)) he) (by decide) (by decide) he (by rfl)) fun σ H Q hw => ?_
  refine up_bind (m := ma) (f := fun (v : PV) y ς h q => bifS (.isT T) [v] h q) hw fun ρ h H1 ς q y v u R S r1 k c cx => ?_
  exact hok G ρ h H1 [v] [u] q Q g.eK R (.cons r1 .nil) k c
/-! ### lists to be read -/
theorem rla_e (ha : RE G W X a ma) : RLa G W X a (fun x ς h q => ma x ς h fun v h1 => q (.v v) h1) := by
  refine PE.imp ha fun σ H Q hw => ?_
  refine up_bind (m := ma) (f := fun (v : PV) x ς h q => q (LV.v v) h) hw fun ρ h H1 ς q x v u R S r1 k c cx => ?_
  exact c ρ h H1 _ _ Ext.refl R (.v r1) k
theorem rla_l (hl : RL G W X a ml) : RLa G W X a (fun x ς h q => ml x ς h fun xs h1 => q (.t xs) h1) := by
  refine PE.imp hl fun σ H Q hw => ?_
  refine up_bind (m := ml) (f := fun (xs : List PV) x ς h q => q (LV.t xs) h) hw fun ρ h H1 ς q x v u R S r1 k c cx => ?_
  obtain ⟨p, us, rfl, _, h2, h3, h4⟩ := r1
  exact c ρ h H1 _ _ Ext.refl R (.t h2 h3 h4) k
/-- a function of a list's items -/
theorem re_lif {x : Str} (g : GoodC G X W) (bf : Lif) (hg : Gl X x) (hm : X.mg x = none) (hv : bootBuiltins x = some bf.fn) (hl : RLa G W X a mu) (hn : x ≠ "__name__") (hdb : (x == ("__debug__" : Str)) = false)
    (he : starEach [a] X.env = (false, eval a X.env) :: starEach [] X.env) :
    RE G W X (.Call (.Name x p) [a] [] pos) (fun y ς h q => mu y ς h fun u h1 => ∃ xs, lvB bf h1 u = some xs ∧ lifS bf xs h1 q) := by
  obtain ⟨r, hr, hok⟩ := lif_ok g.calm bf
  refine PE.imp (pe_callF hr bf.kind hg hm hv (pa_cons hl pa_nil he) hn hdb he (by rfl)) fun σ H Q hw => ?_
  refine up_bind (m := mu) (f := fun (u : LV) y ς h q => ∃ xs, lvB bf h u = some xs ∧ lifS bf xs h q) hw fun ρ h H1 ς q y v u R S r1 k c cx => ?_
  obtain ⟨xs, k1, k2⟩ := k
  exact hok G ρ h H1 v u xs q Q g.eK R r1 k1 k2 c
/-! ### new lists -/
theorem re_new (hl : RL G W X a ml) : RE G W X a (fun x ς h q => ml x ς h fun xs h1 => q (.loc h1.length) (h1 ++ [.lst xs])) := by
  refine PE.imp hl fun σ H Q hw => ?_
  obtain ⟨ρ, h, ς, q, x, R, S, k, c, cx⟩ := hw
  refine ⟨ρ, h, ς, _, x, R, S, k, fun ρ' h' H' xs u E R' r k' => ?_, cx⟩
  obtain ⟨p, us, rfl, h1, h2, h3, h4⟩ := r
  refine c (ρadd ρ' h'.length p) (h' ++ [.lst xs]) H' (.loc h'.length) (.ref p) ?_ (R'.track h2 h3 (.lst h4)) ?_ k'
  · have := Ext.track E h1
    rwa [show (h' ++ [PO.lst xs]).length = h'.length + 1 by simp]
  · have e : V.ref p = V.ref (ρadd ρ' h'.length p h'.length) := by rw [ρadd_self]
    rw [e]
    exact .loc h'.length (by simp)
/-- what a rule that makes a list asks -/
theorem newL {ρ ρ0 : Nat → Addr} {h h0 : PH} {H H0 : Hp} {xs : List PV} {us : List V} {q : List PV → PH → Prop} {Q : VK} (R0 : HR G.K ρ0 h0 H0) (E : Ext ρ0 h0.length H0 ρ h.length H) (c : Cov G (LX G H0) ρ h H q Q) (R : HR G.K ρ h H) (rs : Reps G.K ρ h.length H xs us) (k : q xs h) (p : Addr) (hp : H p = none) : Q (.ref p) (upd H p (.lst us)) := by
  have nl : ∀ l, l < h.length → ρ l ≠ p := fun l hl z => by
    obtain ⟨o, e⟩ := R.there hl
    rw [z, hp] at e
    cases e
  refine c ρ h _ xs (.ref p) (Ext.fresh hp) (R.fresh hp) ⟨p, us, rfl, ?_, upd_same, nl, Reps.ext R (Ext.fresh hp) rs⟩ k
  cases e : H0 p with
  | none => rfl
  | some o =>
    by_cases z : ∃ l, l < h0.length ∧ ρ0 l = p
    · obtain ⟨l, hl, z⟩ := z
      exact absurd ((E.eq l hl).trans z) (nl l (Nat.lt_of_lt_of_le hl E.le))
    · have := E.keep p o e fun l hl z' => z ⟨l, hl, z'⟩
      rw [hp] at this
      cases this
theorem rl_disp (hs : RA G W X es mes) : RL G W X (.List es pos) (fun x ς h q => mes x ς h fun vs h1 => vs.length ≤ sizeLine ∧ q vs h1) := by
  refine PE.imp (pe_lst hs) fun σ H Q hw => ?_
  obtain ⟨ρ, h, ς, q, x, R, S, k, c, cx⟩ := hw
  refine ⟨ρ, h, ς, _, x, R, S, k, fun ρ' h' H' vs us E R' rs k' => ⟨by rw [← rs.length]; exact k'.1, fun p hp => ?_⟩, cx⟩
  exact newL R E (c.at R' E) R' rs k'.2 p hp
theorem rl_cat (ha : RLa G W X a mu) (hb : RLa G W X b mw) : RL G W X (.BinOp a .Add b pos) (fun x ς h q => mu x ς h fun u h1 => mw x ς h1 fun w h2 => ∃ xs ys, lvM h2 u = some xs ∧ lvM h2 w = some ys ∧ xs.length + ys.length ≤ sizeLine ∧ q (xs ++ ys) h2) := by
  refine PE.imp (pe_op op_cat ha hb) fun σ H Q hw => ?_
  obtain ⟨ρ, h, ς, q, x, R, S, k, c, cx⟩ := hw
  refine ⟨ρ, h, ς, _, x, R, S, k, fun ρ1 h1 H1 u u' E1 R1 r1 k1 => ?_, cx⟩
  refine ⟨ρ1, h1, ς, _, x, R1, S.ext R E1, k1, fun ρ2 h2 H2 w w' E2 R2 r2 k2 => ?_, cx.at R1 E1⟩
  obtain ⟨xs, ys, m1, m2, m3, m4⟩ := k2
  obtain ⟨p1, vs, rfl, a1, a2⟩ := lvM_sq R2 m1 (r1.ext R1 E2)
  obtain ⟨p2, ws, rfl, b1, b2⟩ := lvM_sq R2 m2 r2
  exact ⟨p1, p2, vs, ws, rfl, rfl, a1, b1, by rw [← a2.length, ← b2.length]; exact m3, fun p hp => newL R (E1.trans R1 E2) (c.at R2 (E1.trans R1 E2)) R2 (a2.append b2) m4 p hp⟩
theorem rl_rep (ha : RLa G W X a mu) (hb : RE G W X b mb) : RL G W X (.BinOp a .Mult b pos) (fun x ς h q => mu x ς h fun u h1 => mb x ς h1 fun w h2 => ∃ xs i, lvM h2 u = some xs ∧ w = .int i ∧ -(2 ^ 63) ≤ i ∧ i < 2 ^ 63 ∧ xs.length * i.toNat ≤ sizeLine ∧ q (List.replicate i.toNat xs).flatten h2) := by
  refine PE.imp (pe_op op_rep ha hb) fun σ H Q hw => ?_
  obtain ⟨ρ, h, ς, q, x, R, S, k, c, cx⟩ := hw
  refine ⟨ρ, h, ς, _, x, R, S, k, fun ρ1 h1 H1 u u' E1 R1 r1 k1 => ?_, cx⟩
  refine ⟨ρ1, h1, ς, _, x, R1, S.ext R E1, k1, fun ρ2 h2 H2 w w' E2 R2 r2 k2 => ?_, cx.at R1 E1⟩
  obtain ⟨xs, i, m1, rfl, m2, m3, m4, m5⟩ := k2
  obtain ⟨p1, vs, rfl, a1, a2⟩ := lvM_sq R2 m1 (r1.ext R1 E2)
  exact ⟨p1, i, vs, rfl, r2.intInv, a1, m2, m3, by rw [← a2.length]; exact m4, fun p hp => newL R (E1.trans R1 E2) (c.at R2 (E1.trans R1 E2)) R2 (a2.repl _) m5 p hp⟩
theorem rl_cut {p2 : Pos} (g : Good G X W) (ha : RLa G W X a mu) (hl : RO G W X lo mlo) (hh : RO G W X hi mhi) : RL G W X (.Subscript a (.Slice lo hi none p2) pos) (fun x ς h q => mu x ς h fun u h1 => mlo x ς h1 fun l h2 => mhi x ς h2 fun w h3 => ∃ xs, lvL h3 u = some xs ∧ q (cutP xs l w) h3) := by
  refine PE.imp (pe_slice sl_list ha hl hh) fun σ H Q hw => ?_
  obtain ⟨ρ, h, ς, q, x, R, S, k, c, cx⟩ := hw
  refine ⟨ρ, h, ς, _, x, R, S, k, fun ρ1 h1 H1 u u' E1 R1 r1 k1 => ?_, cx⟩
  refine ⟨ρ1, h1, ς, _, x, R1, S.ext R E1, k1, fun ρ2 h2 H2 l l' E2 R2 r2 k2 => ?_, cx.at R1 E1⟩
  cases r2
  refine ⟨ρ2, h2, ς, _, x, R2, (S.ext R E1).ext R1 E2, k2, fun ρ3 h3 H3 w w' E3 R3 r3 k3 => ?_, (cx.at R1 E1).at R2 E2⟩
  cases r3
  obtain ⟨xs, m1, m2⟩ := k3
  obtain ⟨p1, vs, rfl, a1, a2⟩ := lvL_sq R3 m1 ((r1.ext R1 E2).ext R2 E3)
  have E := (E1.trans R1 E2).trans R2 E3
  exact ⟨p1, vs, rfl, g.eK ▸ a1, fun p hp => newL R E (c.at R3 E) R3 (a2.cut _ _) m2 p hp⟩
theorem lvK_inv {ρ : Nat → Addr} {h : PH} {H : Hp} {v : LV} {u : V} {xs : List PV} (R : HR G.K ρ h H) (e : lvK h v = some xs) (r : LR G ρ h.length H v u) :
    lvA h v = some xs ∨ ∃ l kvs us, v = .v (.loc l) ∧ u = .ref (ρ l) ∧ xs = kvs.map (fun kv => kP kv.1) ∧ H (ρ l) = some (.dK us) ∧ RepD G.K ρ h.length H kvs us := by
  cases v with
  | t ys => exact .inl e
  | v v =>
    cases v with
    | loc l =>
      simp only [lvK] at e
      split at e
      · rename_i ys hx
        cases e
        refine .inl ?_
        show getL h l = _
        unfold getL
        rw [hx]
      · rename_i kvs hx
        cases e
        obtain ⟨us, h1, h2⟩ := R.dict hx
        cases r with
        | v r => exact .inr ⟨l, kvs, us, rfl, r.locInv.1, rfl, h1, h2⟩
      · cases e
    | _ => exact .inl e
theorem rl_list {x : Str} (g : GoodC G X W) (hx : x = "list") (hg : Gl X x) (hm : X.mg x = none) (ha : RLa G W X a mu) (he : starEach [a] X.env = (false, eval a X.env) :: starEach [] X.env) :
    RL G W X (.Call (.Name x p) [a] [] pos) (fun y ς h q => mu y ς h fun u h1 => ∃ xs, lvK h1 u = some xs ∧ q xs h1) := by
  subst hx
  refine PE.imp (pe_callF (f := .type "list") (call_list_of.or (call_listD g.calm)) (.inr ⟨_, rfl⟩) hg hm (by decide +kernel) (pa_cons ha pa_nil he) (by decide) (by decide) he (by rfl)) fun σ H Q hw => ?_
  obtain ⟨ρ, h, ς, q, y, R, S, k, c, cx⟩ := hw
  refine ⟨ρ, h, ς, _, y, R, S, k, fun ρ1 h1 H1 u u' E1 R1 r1 k1 => ?_, cx⟩
  obtain ⟨xs, m1, m2⟩ := k1
  rcases lvK_inv R1 m1 r1 with m1 | ⟨l, kvs, us, rfl, rfl, rfl, h1', h2'⟩
  · obtain ⟨a1, vs, rfl, sq, rs⟩ := lvA_sq R1 m1 r1
    exact .inl ⟨a1, vs, rfl, g.eK ▸ sq, fun p hp => newL R E1 (c.at R1 E1) R1 rs m2 p hp⟩
  · refine .inr ⟨_, us, rfl, .inl h1', fun p hp => newL R E1 (c.at R1 E1) R1 ?_ m2 p hp⟩
    exact RepD.keyReps h2'
theorem rl_sort {x : Str} (g : Good G X W) (hx : x = "sorted") (hg : Gl X x) (hm : X.mg x = none) (ha : RLa G W X a mu) (he : starEach [a] X.env = (false, eval a X.env) :: starEach [] X.env) :
    RL G W X (.Call (.Name x p) [a] [] pos) (fun y ς h q => mu y ς h fun u h1 => ∃ xs, lvL h1 u = some xs ∧ sortS xs h1 q) := by
  subst hx
  refine PE.imp (pe_callF (f := .builtin "sorted") (cr_sortedI.or cr_sortedS) (.inl ⟨_, rfl⟩) hg hm (by decide +kernel) (pa_cons ha pa_nil he) (by decide) (by decide) he (by rfl)) fun σ H Q hw => ?_
  obtain ⟨ρ, h, ς, q, y, R, S, k, c, cx⟩ := hw
  refine ⟨ρ, h, ς, _, y, R, S, k, fun ρ1 h1 H1 u u' E1 R1 r1 k1 => ?_, cx⟩
  obtain ⟨xs, m1, m2⟩ := k1
  obtain ⟨a1, vs, rfl, sq, rs⟩ := lvL_sq R1 m1 r1
  rcases m2 with ⟨ns, m2, m3⟩ | ⟨zs, m2, m3, m4⟩
  · have z := ints_rep m2 rs
    subst z
    exact .inl ⟨a1, ns, rfl, g.eK ▸ sq, fun ms p hp1 hp2 hp => newL R E1 (c.at R1 E1) R1 (reps_ints ms) (m3 ms hp1 hp2) p hp⟩
  · obtain ⟨z, zo⟩ := strs_rep m2 rs
    subst z
    exact .inr ⟨a1, zs, rfl, g.eK ▸ sq, m3, fun ys p hp1 hp2 hp => newL R E1 (c.at R1 E1) R1 (reps_strs fun y hy => zo y (hp1.mem_iff.mp hy)) (m4 ys hp1 hp2) p hp⟩
/-! ### ranges as values -/
theorem rangeL_eq : ∀ (n : Nat) (lo : Int), rangeL lo n = (List.range n).map fun i => PV.int (lo + (i : Nat))
  | 0, _ => rfl
  | n + 1, lo => by
    rw [rangeL, rangeL_eq n (lo + 1), List.range_succ_eq_map, List.map_cons, List.map_map]
    congr 1
    · simp
    · refine List.map_congr_left fun i _ => ?_
      show PV.int _ = PV.int _
      congr 1
      simp only [Nat.succ_eq_add_one]
      omega
theorem reps_range {ρ : Nat → Addr} {n : Nat} {H : Hp} {K : PySem.W.Frag} (a b : Int) : Reps K ρ n H (rangeL a (b - a).toNat) (rgV a b) := by
  rw [rangeL_eq]
  unfold rgV
  generalize List.range (b - a).toNat = l
  induction l with
  | nil => exact .nil
  | cons i r ih => exact .cons (.int _) ih
/-- the ends of a range as they are read -/
theorem rg_1 {x : Str} (hx : x = "range") (hg : Gl X x) (hm : X.mg x = none) (ha : RE G W X a ma) (na : starEach [a] X.env = (false, eval a X.env) :: starEach [] X.env) :
    PRg X (.Call (.Name x p) [a] [] pos) (fun σ H Q => up G W (REq (Int × Int)) (fun y ς h q => ma y ς h fun v h1 => ∃ i, v = PV.int i ∧ q (0, i) h1) σ H fun ij H1 => Q ij.1 ij.2 H1) := by
  subst hx
  intro pins s σ H Q I hw
  refine prg_1 hg hm ha na pins s σ H Q I ?_
  refine up_bind (m := ma) (f := fun (v : PV) y ς h q => ∃ i, v = PV.int i ∧ q ((0 : Int), i) h) hw fun ρ h H1 ς q y v u R S r1 k c cx => ?_
  obtain ⟨i, rfl, k⟩ := k
  exact ⟨i, r1.intInv, c ρ h H1 _ _ Ext.refl R rfl k⟩
theorem rg_2 {x : Str} (hx : x = "range") (hg : Gl X x) (hm : X.mg x = none) (ha : RE G W X a ma) (hb : RE G W X b mb) (na : starEach [a, b] X.env = (false, eval a X.env) :: starEach [b] X.env) (nb : starEach [b] X.env = (false, eval b X.env) :: starEach [] X.env) :
    PRg X (.Call (.Name x p) [a, b] [] pos) (fun σ H Q => up G W (REq (Int × Int)) (fun y ς h q => ma y ς h fun v h1 => ∃ i, v = PV.int i ∧ mb y ς h1 fun w h2 => ∃ j, w = PV.int j ∧ q (i, j) h2) σ H fun ij H1 => Q ij.1 ij.2 H1) := by
  subst hx
  intro pins s σ H Q I hw
  refine prg_2 hg hm ha hb na nb (by rw [nb]; rfl) pins s σ H Q I ?_
  refine up_bind (m := ma) (f := fun (v : PV) y ς h q => ∃ i, v = PV.int i ∧ mb y ς h fun w h2 => ∃ j, w = PV.int j ∧ q (i, j) h2) hw fun ρ h H1 ς q y v u R S r1 k c cx => ?_
  obtain ⟨i, rfl, k⟩ := k
  refine ⟨ρ, h, ς, _, y, R, S, k, fun ρ2 h2 H2 w u2 E2 R2 r2 k2 => ?_, cx⟩
  obtain ⟨j, rfl, k2⟩ := k2
  exact ⟨i, j, r1.intInv, r2.intInv, c ρ2 h2 H2 _ _ E2 R2 rfl k2⟩
theorem rl_rng {x : Str} {mr : QX → PSt → PH → (Int × Int → PH → Prop) → Prop} (g : GoodC G X W) (hx : x = "list") (hg : Gl X x) (hm : X.mg x = none) (hr : PRg X e (fun σ H Q => up G W (REq (Int × Int)) mr σ H fun ij H1 => Q ij.1 ij.2 H1)) (na : starEach [e] X.env = (false, eval e X.env) :: starEach [] X.env) :
    RL G W X (.Call (.Name x p) [e] [] pos) (fun y ς h q => mr y ς h fun ij h1 => RgOk ij.1 ij.2 ∧ q (rangeL ij.1 (ij.2 - ij.1).toNat) h1) := by
  subst hx
  refine PE.imp (pe_listRg g.calm hg hm hr na) fun σ H Q hw => ?_
  obtain ⟨ρ, h, ς, q, y, R, S, k, c, cx⟩ := hw
  refine ⟨ρ, h, ς, _, y, R, S, k, fun ρ1 h1 H1 ij ij' E1 R1 r1 k1 => ?_, cx⟩
  cases r1
  exact ⟨k1.1, fun p hp => newL R E1 (c.at R1 E1) R1 (reps_range _ _) k1.2 p hp⟩
theorem re_tupR {x : Str} {mr : QX → PSt → PH → (Int × Int → PH → Prop) → Prop} (g : GoodC G X W) (hx : x = "tuple") (hg : Gl X x) (hm : X.mg x = none) (hr : PRg X e (fun σ H Q => up G W (REq (Int × Int)) mr σ H fun ij H1 => Q ij.1 ij.2 H1)) (na : starEach [e] X.env = (false, eval e X.env) :: starEach [] X.env) :
    RE G W X (.Call (.Name x p) [e] [] pos) (fun y ς h q => mr y ς h fun ij h1 => RgOk ij.1 ij.2 ∧ q (.tup (rangeL ij.1 (ij.2 - ij.1).toNat)) h1) := by
  subst hx
  refine PE.imp (pe_tupRg g.calm hg hm hr na) fun σ H Q hw => ?_
  obtain ⟨ρ, h, ς, q, y, R, S, k, c, cx⟩ := hw
  refine ⟨ρ, h, ς, _, y, R, S, k, fun ρ1 h1 H1 ij ij' E1 R1 r1 k1 => ?_, cx⟩
  cases r1
  exact ⟨k1.1, fun p hp => (c.at R1 E1).newTup R1 (reps_range _ _) k1.2 p hp⟩
/-! ### dicts made -/
theorem dict_new {ρ0 ρ : Nat → Addr} {h0 h : PH} {H0 H : Hp} {q : QV} {Q : VK} {p : Addr} {ks : List (Key × PV)} {us : List (Key × V)} (R0 : HR G.K ρ0 h0 H0) (E : Ext ρ0 h0.length H0 ρ h.length H) (hp0 : H0 p = none) (c : Cov G (RV G) ρ0 h0 H0 q Q) (R : HR G.K ρ h H) (hp : H p = some (.dK us)) (nl : ∀ l, l < h.length → ρ l ≠ p) (r : RepD G.K ρ h.length H ks us) (k : q (.loc h.length) (h ++ [.dic ks])) : Q (.ref p) H :=
  Cov.trackNew R0 E hp0 c R hp nl (.dic r) k
theorem re_dic0 : RE G W X (.Dict [] [] pos) (fun _ _ h q => q (.loc h.length) (h ++ [.dic []])) := by
  refine PE.imp pe_dnewK fun σ H Q hw => ?_
  obtain ⟨ρ, h, ς, q, y, R, S, k, c, cx⟩ := hw
  intro p hp
  refine dict_new R (Ext.fresh hp) hp c (R.fresh hp) upd_same (fun l hl z => ?_) .nil k
  obtain ⟨o, e⟩ := R.there hl
  rw [z, hp] at e
  cases e
end
end WD
end
section
set_option Elab.async false
set_option linter.all false
set_option maxRecDepth 100000
set_option autoImplicit false
set_option maxHeartbeats 4000000
/-! WJud3: methods; what a loop walks; comprehensions. -/
namespace WD
open PySem PySem.Spec PyProof.Rows L2
section
variable {G : GE} {Φ : Phi} {W : WX} {X : Cx} {a b c e : Expr} {es : List Expr} {pos p apos cpos : Pos} {ma mb mc : QX → PSt → PH → QV → Prop} {mes ml : QX → PSt → PH → (List PV → PH → Prop) → Prop} {mu mw : QX → PSt → PH → (LV → PH → Prop) → Prop}
/-- the facts of a method of list -/
structure MthF (T id : String) (name : Str) : Prop where
  pa : PlainAttrs T
  slot : Slot T name id
  ty : typeOf (.builtin id) = pure (.type "method_descriptor")
theorem mth_facts (m : Mth) : MthF m.ty m.id m.name := by
  cases m with
  | append => exact ⟨PySem.F.plainAttrs_list, PySem.F.slot_list_append, PySem.F.type_list_append⟩
  | pop => exact ⟨PySem.F.plainAttrs_list, PySem.F.slot_list_pop, PySem.F.type_list_pop⟩
  | popAt => exact ⟨PySem.F.plainAttrs_list, PySem.F.slot_list_pop, PySem.F.type_list_pop⟩
  | insert => exact ⟨PySem.F.plainAttrs_list, PySem.F.slot_list_insert, PySem.F.type_list_insert⟩
  | reverse => exact ⟨PySem.F.plainAttrs_list, PySem.F.slot_list_reverse, PySem.F.type_list_reverse⟩
  | get => exact ⟨PySem.F.plainAttrs_dict, PySem.F.slot_dict_get, PySem.F.type_dict_get⟩
  | getD => exact ⟨PySem.F.plainAttrs_dict, PySem.F.slot_dict_get, PySem.F.type_dict_get⟩
theorem tyV_obj {m : Mth} {ρ : Nat → Addr} {h : PH} {H : Hp} {v : PV} {u : V} (g : Good G X W) (R : HR G.K ρ h H) (r : Rep G.K ρ h.length H v u) (k : isObj m h v) : tyV X.K m.ty u H := by
  obtain ⟨l, o, rfl, e, ek⟩ := k
  rw [r.locInv.1]
  cases o with
  | lst xs =>
    have ek' : m.dict = false := ek.symm
    obtain ⟨us, h1, h2⟩ := R.list (show getL h l = some xs by unfold getL; rw [e])
    unfold Mth.ty
    rw [ek']
    exact .inl ⟨rfl, us, SqL.of h1⟩
  | dic kvs =>
    have ek' : m.dict = true := ek.symm
    obtain ⟨us, h1, h2⟩ := R.dict e
    unfold Mth.ty
    rw [ek']
    exact .inr (.inr (.inl ⟨rfl, .inl ⟨us, h1⟩⟩))
theorem tyV_lst {ρ : Nat → Addr} {h : PH} {H : Hp} {v : PV} {u : V} (g : Good G X W) (R : HR G.K ρ h H) (r : Rep G.K ρ h.length H v u) (k : isLst h v) : tyV X.K "list" u H := by
  obtain ⟨l, xs, rfl, e⟩ := k
  obtain ⟨us, h1, h2⟩ := R.list e
  rw [r.locInv.1]
  exact .inl ⟨rfl, us, SqL.of h1⟩
theorem re_mth (g : Good G X W) (m : Mth) (ho : RE G W X a ma) (hs : RA G W X (e :: es) mes) (hbase : attributeBase a m.name X.env (eval a X.env) = eval a X.env)
    (hfew : ((backTo cpos (starEach (e :: es) X.env)).all (fun x => !x.1) && (backToKw cpos (keywordEach [] X.env)).all (fun x => x.1.isSome) && decide ((e :: es).length + ([] : List Keyword).length + (if ([] : List Keyword).isEmpty then 0 else 1) < 30)) = true)
    (hline : (apos.endLine == cpos.line) = true) (he : starEach (e :: es) X.env = (false, eval e X.env) :: starEach es X.env) (hpl : ∀ pos, (backTo pos (starEach es X.env)).any (·.1) = false) :
    RE G W X (.Call (.Attribute a m.name apos) (e :: es) [] cpos) (fun x ς h q => ma x ς h fun v h1 => isObj m h1 v ∧ mes x ς h1 fun vs h2 => mthS m v vs h2 q) := by
  obtain ⟨r, hr, hok⟩ := mth_ok (X := X) (by have := g.hu; omega) m
  refine PE.imp (pe_bm (mth_facts m).pa (mth_facts m).slot (mth_facts m).ty hr ho hs hbase hfew hline he (hpl _)) fun σ H Q hw => ?_
  refine up_bind (m := ma) (f := fun (v : PV) x ς h q => isObj m h v ∧ mes x ς h fun vs h2 => mthS m v vs h2 q) hw fun ρ h H1 ς q x v u R S r1 k c cx => ?_
  refine ⟨tyV_obj g R r1 k.1, ρ, h, ς, _, x, R, S, k.2, fun ρ' h' H' vs us E R' rs k2 => ?_, cx⟩
  exact hok G ρ' h' H' v u vs us q Q g.eK R' (r1.ext R E) rs k2 (c.at R' E)
theorem re_mth0 (g : Good G X W) (m : Mth) (ho : RE G W X a ma) (hbase : attributeBase a m.name X.env (eval a X.env) = eval a X.env) (hline : (apos.endLine == cpos.line) = true) :
    RE G W X (.Call (.Attribute a m.name apos) [] [] cpos) (fun x ς h q => ma x ς h fun v h1 => isObj m h1 v ∧ mthS m v [] h1 q) := by
  obtain ⟨r, hr, hok⟩ := mth_ok (X := X) (by have := g.hu; omega) m
  refine PE.imp (pe_bm0 (mth_facts m).pa (mth_facts m).slot (mth_facts m).ty hr ho hbase hline) fun σ H Q hw => ?_
  refine up_bind (m := ma) (f := fun (v : PV) x ς h q => isObj m h v ∧ mthS m v [] h q) hw fun ρ h H1 ς q x v u R S r1 k c cx => ?_
  exact ⟨tyV_obj g R r1 k.1, hok G ρ h H1 v u [] [] q Q g.eK R r1 .nil k.2 c⟩
theorem re_ext (g : Good G X W) (ho : RE G W X a ma) (hl : RLa G W X b mu) (hbase : attributeBase a "extend" X.env (eval a X.env) = eval a X.env)
    (hfew : ((backTo cpos (starEach [b] X.env)).all (fun x => !x.1) && (backToKw cpos (keywordEach [] X.env)).all (fun x => x.1.isSome) && decide ([b].length + ([] : List Keyword).length + (if ([] : List Keyword).isEmpty then 0 else 1) < 30)) = true)
    (hline : (apos.endLine == cpos.line) = true) (he : starEach [b] X.env = (false, eval b X.env) :: starEach [] X.env) :
    RE G W X (.Call (.Attribute a "extend" apos) [b] [] cpos) (fun x ς h q => ma x ς h fun v h1 => isLst h1 v ∧ mu x ς h1 fun u h2 => ∃ l xs ys, v = .loc l ∧ getL h2 l = some xs ∧ lvM h2 u = some ys ∧ xs.length + ys.length ≤ sizeLine ∧ q .non (h2.set l (.lst (xs ++ ys)))) := by
  obtain ⟨r, hr, hok⟩ := ext_ok (X := X)
  refine PE.imp (pe_bm PySem.F.plainAttrs_list PySem.F.slot_list_extend PySem.F.type_list_extend hr ho (pa_cons hl pa_nil he) hbase hfew hline he (by rfl)) fun σ H Q hw => ?_
  refine up_bind (m := ma) (f := fun (v : PV) x ς h q => isLst h v ∧ mu x ς h fun u h2 => ∃ l xs ys, v = PV.loc l ∧ getL h2 l = some xs ∧ lvM h2 u = some ys ∧ xs.length + ys.length ≤ sizeLine ∧ q PV.non (h2.set l (PO.lst (xs ++ ys)))) hw fun ρ h H1 ς q x v u R S r1 k c cx => ?_
  refine ⟨tyV_lst g R r1 k.1, ρ, h, ς, _, x, R, S, k.2, fun ρ' h' H' w w' E R' rs k2 => ?_, cx⟩
  obtain ⟨l, xs, ys, rfl, m1, m2, m3, m4⟩ := k2
  exact hok G ρ' h' H' l w u w' xs ys q Q g.eK R' (r1.ext R E) rs m1 m2 m3 m4 (c.at R' E)
/-! ### what a loop walks -/
/-- an iterator walks these items while gd holds -/
def ItOk (G : GE) (ρ0 : Nat → Addr) (n0 : Nat) (H0 : Hp) (J : It) (xs : List PV) (gd : PH → Prop) : Prop :=
  ∀ ρ h H i, Ext ρ0 n0 H0 ρ h.length H → HR G.K ρ h H → gd h →
    (∀ x, xs[i]? = some x → J.go i H ∧ ∀ u H', J.yld i H u H' → Ext ρ h.length H ρ h.length H' ∧ HR G.K ρ h H' ∧ Rep G.K ρ h.length H' x u) ∧ (xs.length ≤ i → J.stop i H)
abbrev MI := QX → PSt → PH → (List PV → (PH → Prop) → PH → Prop) → Prop
def upI (G : GE) (W : WX) (m : MI) : TI := fun σ H T => ∃ ρ h ς q x, HR G.K ρ h H ∧ SR G ρ h.length H ς σ ∧ m x ς h q ∧
  (∀ ρ' h' H' J xs gd, Ext ρ h.length H ρ' h'.length H' → HR G.K ρ' h' H' → ItOk G ρ' h'.length H' J xs gd → q xs gd h' → T J H') ∧ CovX G ρ h H x σ W
abbrev RI (G : GE) (W : WX) (X : Cx) (tg e : Expr) (m : MI) : Prop := PI X tg e (upI G W m)
theorem PI.imp {X : Cx} {tg e : Expr} {t t' : TI} (h : PI X tg e t) (i : ∀ σ H Q, t' σ H Q → t σ H Q) : PI X tg e t' := ⟨fun pins s σ H R I hw => h.run pins s σ H R I (i σ H R hw)⟩
/-- the walk of a sequence that stands -/
theorem ItOk.list {ρ : Nat → Addr} {n : Nat} {H : Hp} {v : PV} {xs : List PV} {aa : Addr} (g : G.K = X.K) (hv : ∀ (ρ' : Nat → Addr) (h' : PH) (H' : Hp), Ext ρ n H ρ' h'.length H' → HR G.K ρ' h' H' → items h' v = some xs → ∃ vs, SqL X.K H' aa vs ∧ Reps G.K ρ' h'.length H' xs vs) : ItOk G ρ n H (Itl X.K aa) xs (standsP v xs) := by
  intro ρ' h' H' i E R gd
  obtain ⟨vs, sq, rs⟩ := hv ρ' h' H' E R gd
  refine ⟨fun x hx => ?_, fun hi => ⟨vs, sq, by rw [← rs.length]; exact hi⟩⟩
  obtain ⟨u, e1, r1⟩ := rs.get hx
  refine ⟨⟨vs, u, sq, e1⟩, fun u' H2 y => ?_⟩
  obtain ⟨rfl, y⟩ := y
  have := y vs sq
  rw [e1] at this
  cases this
  exact ⟨Ext.refl, R, r1⟩
theorem ItOk.tup {ρ : Nat → Addr} {n : Nat} {H : Hp} {v : PV} {xs : List PV} {aa : Addr} (g : G.K = X.K) (hv : ∀ (ρ' : Nat → Addr) (h' : PH) (H' : Hp), Ext ρ n H ρ' h'.length H' → HR G.K ρ' h' H' → items h' v = some xs → ∃ vs, SqT X.K H' aa vs ∧ Reps G.K ρ' h'.length H' xs vs) : ItOk G ρ n H (Itt X.K aa) xs (standsP v xs) := by
  intro ρ' h' H' i E R gd
  obtain ⟨vs, sq, rs⟩ := hv ρ' h' H' E R gd
  refine ⟨fun x hx => ?_, fun hi => ⟨vs, sq, by rw [← rs.length]; exact hi⟩⟩
  obtain ⟨u, e1, r1⟩ := rs.get hx
  refine ⟨⟨vs, u, sq, e1⟩, fun u' H2 y => ?_⟩
  obtain ⟨rfl, y⟩ := y
  have := y vs sq
  rw [e1] at this
  cases this
  exact ⟨Ext.refl, R, r1⟩
theorem enumL_get : ∀ {xs : List PV} {k : Int} {i : Nat} {y : PV}, (enumL k xs)[i]? = some y → ∃ x, xs[i]? = some x ∧ y = .tup [.int (k + (i : Nat)), x]
  | [], k, i, y, e => by simp [enumL] at e
  | x :: r, k, 0, y, e => by
    simp [enumL] at e
    exact ⟨x, by simp, by rw [← e]; simp⟩
  | x :: r, k, i + 1, y, e => by
    simp only [enumL, List.getElem?_cons_succ] at e
    obtain ⟨z, h1, h2⟩ := enumL_get e
    refine ⟨z, by simpa using h1, ?_⟩
    rw [h2]
    have : k + 1 + (i : Int) = k + ((i + 1 : Nat) : Int) := by omega
    rw [this]
theorem enumL_length : ∀ (xs : List PV) (k : Int), (enumL k xs).length = xs.length
  | [], _ => rfl
  | _ :: r, k => by simp [enumL, enumL_length r]
/-- a new pair is laid for the turn -/
theorem pair_ext {ρ : Nat → Addr} {h : PH} {H : Hp} {T : Addr} {x : PV} {u : V} {i : Nat} (R : HR G.K ρ h H) (hT : H T = none) (r : Rep G.K ρ h.length H x u) :
    Ext ρ h.length H ρ h.length (upd H T (.tup [.int (i : Nat), u])) ∧ HR G.K ρ h (upd H T (.tup [.int (i : Nat), u])) ∧ Rep G.K ρ h.length (upd H T (.tup [.int (i : Nat), u])) (.tup [.int (0 + (i : Nat)), x]) (.ref T) := by
  have E : Ext ρ h.length H ρ h.length (upd H T (.tup [.int (i : Nat), u])) := Ext.fresh hT
  refine ⟨E, R.fresh hT, .tup (SqT.of upd_same) (.cons ?_ (.cons (r.ext R E) .nil))⟩
  rw [Int.zero_add]
  exact .int _
theorem ItOk.enumL {ρ : Nat → Addr} {n : Nat} {H : Hp} {v : PV} {xs : List PV} {aa : Addr} (g : G.K = X.K) (hv : ∀ (ρ' : Nat → Addr) (h' : PH) (H' : Hp), Ext ρ n H ρ' h'.length H' → HR G.K ρ' h' H' → items h' v = some xs → ∃ vs, SqL X.K H' aa vs ∧ Reps G.K ρ' h'.length H' xs vs) : ItOk G ρ n H (Ite X.K aa) (enumL 0 xs) (standsP v xs) := by
  intro ρ' h' H' i E R gd
  obtain ⟨vs, sq, rs⟩ := hv ρ' h' H' E R gd
  refine ⟨fun y hy => ?_, fun hi => ⟨vs, sq, by rw [← rs.length, ← enumL_length xs 0]; exact hi⟩⟩
  obtain ⟨x, hx, rfl⟩ := enumL_get hy
  obtain ⟨u, e1, r1⟩ := rs.get hx
  refine ⟨⟨vs, u, sq, e1⟩, fun u' H2 y => ?_⟩
  obtain ⟨T, z, rfl, hT, rfl, y⟩ := y
  have := y vs sq
  rw [e1] at this
  cases this
  exact pair_ext R hT r1
theorem ItOk.enumT {ρ : Nat → Addr} {n : Nat} {H : Hp} {v : PV} {xs : List PV} {aa : Addr} (g : G.K = X.K) (hv : ∀ (ρ' : Nat → Addr) (h' : PH) (H' : Hp), Ext ρ n H ρ' h'.length H' → HR G.K ρ' h' H' → items h' v = some xs → ∃ vs, SqT X.K H' aa vs ∧ Reps G.K ρ' h'.length H' xs vs) : ItOk G ρ n H (IteT X.K aa) (WD.enumL 0 xs) (standsP v xs) := by
  intro ρ' h' H' i E R gd
  obtain ⟨vs, sq, rs⟩ := hv ρ' h' H' E R gd
  refine ⟨fun y hy => ?_, fun hi => ⟨vs, sq, by rw [← rs.length, ← enumL_length xs 0]; exact hi⟩⟩
  obtain ⟨x, hx, rfl⟩ := enumL_get hy
  obtain ⟨u, e1, r1⟩ := rs.get hx
  refine ⟨⟨vs, u, sq, e1⟩, fun u' H2 y => ?_⟩
  obtain ⟨T, z, rfl, hT, rfl, y⟩ := y
  have := y vs sq
  rw [e1] at this
  cases this
  exact pair_ext R hT r1
/-- what stands for a value at later heaps -/
theorem items_later {ρ : Nat → Addr} {h : PH} {H : Hp} {v : PV} {u : V} {xs : List PV} (eK : G.K = X.K) (R : HR G.K ρ h H) (r : Rep G.K ρ h.length H v u) (e : items h v = some xs) :
    ∃ aa, u = .ref aa ∧ (((∃ vs, SqL X.K H aa vs) ∧ ∀ (ρ' : Nat → Addr) (h' : PH) (H' : Hp), Ext ρ h.length H ρ' h'.length H' → HR G.K ρ' h' H' → items h' v = some xs → ∃ vs, SqL X.K H' aa vs ∧ Reps G.K ρ' h'.length H' xs vs) ∨
      ((∃ vs, SqT X.K H aa vs) ∧ ∀ (ρ' : Nat → Addr) (h' : PH) (H' : Hp), Ext ρ h.length H ρ' h'.length H' → HR G.K ρ' h' H' → items h' v = some xs → ∃ vs, SqT X.K H' aa vs ∧ Reps G.K ρ' h'.length H' xs vs)) := by
  cases v with
  | tup ys =>
    have e1 : ys = xs := Option.some.inj e
    subst e1
    obtain ⟨a, vs, rfl, h2, h3⟩ := r.tupInv
    exact ⟨a, rfl, .inr ⟨⟨vs, eK ▸ h2⟩, fun ρ' h' H' E R' _ => ⟨vs, eK ▸ WD.SqT.ext R E h2, Reps.ext R E h3⟩⟩⟩
  | rol ys =>
    have e1 : ys = xs := Option.some.inj e
    subst e1
    obtain ⟨a, vs, rfl, h2, h3⟩ := r.rolInv
    exact ⟨a, rfl, .inl ⟨⟨vs, eK ▸ h2.sq⟩, fun ρ' h' H' E R' _ => ⟨vs, eK ▸ (SqF.ext R E h2).sq, Reps.ext R E h3⟩⟩⟩
  | loc l =>
    obtain ⟨rfl, hl⟩ := r.locInv
    obtain ⟨us, h1, h2⟩ := R.list (show getL h l = some xs from e)
    refine ⟨ρ l, rfl, .inl ⟨⟨us, SqL.of h1⟩, fun ρ' h' H' E R' e' => ?_⟩⟩
    obtain ⟨us', k1, k2⟩ := R'.list (show getL h' l = some xs from e')
    rw [E.eq l hl] at k1
    exact ⟨us', SqL.of k1, k2⟩
  | _ => cases e
/-- a list just made stands at later heaps -/
theorem temp_later {ρ : Nat → Addr} {h : PH} {H : Hp} {p : Addr} {us : List V} {xs : List PV} (R : HR G.K ρ h H) (h2 : H p = some (.lst us)) (h3 : ∀ l, l < h.length → ρ l ≠ p) (h4 : Reps G.K ρ h.length H xs us) :
    ∀ (ρ' : Nat → Addr) (h' : PH) (H' : Hp), Ext ρ h.length H ρ' h'.length H' → ∃ vs, SqL X.K H' p vs ∧ Reps G.K ρ' h'.length H' xs vs :=
  fun ρ' h' H' E => ⟨us, SqL.of (E.keep p _ h2 h3), Reps.ext R E h4⟩
theorem ItOk.any {ρ : Nat → Addr} {n : Nat} {H : Hp} {J : It} {xs ys : List PV} (o : ItOk G ρ n H J xs (standsP (.tup ys) ys)) : ItOk G ρ n H J xs (fun _ => True) :=
  fun ρ' h' H' i E R _ => o ρ' h' H' i E R rfl
theorem ri_e {tg : Expr} (g : Good G X W) (ha : RE G W X a ma) :
    RI G W X tg a (fun x ς h q => ma x ς h fun v h1 => (∃ xs, items h1 v = some xs ∧ q xs (standsP v xs) h1) ∨ ∃ z, v = .str z ∧ q (z.cps.toList.map fun c => .str ⟨#[c]⟩) (fun _ => True) h1) := by
  refine PI.imp (pi_seq ha) fun σ H T hw => ?_
  obtain ⟨ρ, h, ς, q, x, R, S, k, c, cx⟩ := hw
  refine ⟨ρ, h, ς, _, x, R, S, k, fun ρ1 h1 H1 v u E1 R1 r1 k1 => ?_, cx⟩
  rcases k1 with ⟨xs, k1, k2⟩ | ⟨z, rfl, k2⟩
  · obtain ⟨aa, rfl, hv⟩ := items_later g.eK R1 r1 k1
    rcases hv with ⟨h0, hv⟩ | ⟨h0, hv⟩
    · exact .inl ⟨aa, rfl, h0, c ρ1 h1 H1 _ xs _ E1 R1 (ItOk.list g.eK hv) k2⟩
    · exact .inr (.inl ⟨aa, rfl, h0, c ρ1 h1 H1 _ xs _ E1 R1 (ItOk.tup g.eK hv) k2⟩)
  · obtain ⟨e1, s1⟩ := r1.strInv
    refine .inr (.inr ⟨z, e1, c ρ1 h1 H1 _ _ _ E1 R1 (fun ρ' h' H' i E R' _ => ⟨fun y hy => ?_, fun hi => ?_⟩) k2⟩)
    · rw [List.getElem?_map] at hy
      obtain ⟨d, hd, rfl⟩ := Option.map_eq_some_iff.mp hy
      have hd' : z.cps[i]? = some d := by simpa using hd
      refine ⟨(Array.getElem?_eq_some_iff.mp hd').1, fun u H2 y => ?_⟩
      obtain ⟨rfl, d', e', rfl⟩ := y
      rw [hd'] at e'
      cases e'
      exact ⟨Ext.refl, R', .str _ (strOk_sign s1 hd)⟩
    · show z.cps.size ≤ i
      simpa using hi
theorem ri_l {tg : Expr} (g : Good G X W) (ha : RL G W X a ml) : RI G W X tg a (fun x ς h q => ml x ς h fun xs h1 => q xs (fun _ => True) h1) := by
  refine PI.imp (pi_list ha) fun σ H T hw => ?_
  obtain ⟨ρ, h, ς, q, x, R, S, k, c, cx⟩ := hw
  refine ⟨ρ, h, ς, _, x, R, S, k, fun ρ1 h1 H1 xs u E1 R1 r1 k1 => ?_, cx⟩
  obtain ⟨p, us, rfl, _, h2, h3, h4⟩ := r1
  refine ⟨p, rfl, ⟨us, SqL.of h2⟩, c ρ1 h1 H1 _ xs _ E1 R1 (ItOk.any (ys := xs) (ItOk.list (X := X) g.eK fun ρ' h' H' E _ _ => temp_later (X := X) R1 h2 h3 h4 ρ' h' H' E)) k1⟩
theorem rangeL_get : ∀ {n : Nat} {lo : Int} {i : Nat} {y : PV}, (rangeL lo n)[i]? = some y → i < n ∧ y = .int (lo + (i : Nat))
  | 0, lo, i, y, e => by simp [rangeL] at e
  | n + 1, lo, 0, y, e => by
    simp [rangeL] at e
    exact ⟨by omega, by rw [← e]; simp⟩
  | n + 1, lo, i + 1, y, e => by
    simp only [rangeL, List.getElem?_cons_succ] at e
    obtain ⟨h1, h2⟩ := rangeL_get e
    refine ⟨by omega, ?_⟩
    rw [h2]
    have : lo + 1 + (i : Int) = lo + ((i + 1 : Nat) : Int) := by omega
    rw [this]
theorem rangeL_length : ∀ (n : Nat) (lo : Int), (rangeL lo n).length = n
  | 0, _ => rfl
  | n + 1, lo => by simp [rangeL, rangeL_length n]
theorem rangeC_get : ∀ {n : Nat} {lo k : Int} {i : Nat} {y : PV}, (rangeC lo k n)[i]? = some y → i < n ∧ y = .int (lo + (i : Nat) * k)
  | 0, lo, k, i, y, e => by simp [rangeC] at e
  | n + 1, lo, k, 0, y, e => by
    simp [rangeC] at e
    exact ⟨by omega, by rw [← e]; simp⟩
  | n + 1, lo, k, i + 1, y, e => by
    simp only [rangeC, List.getElem?_cons_succ] at e
    obtain ⟨h1, h2⟩ := rangeC_get e
    refine ⟨by omega, ?_⟩
    rw [h2]
    have : lo + k + (i : Int) * k = lo + ((i + 1 : Nat) : Int) * k := by
      rw [Int.natCast_add, Int.add_mul]
      simp
      omega
    rw [this]
theorem rangeC_length : ∀ (n : Nat) (lo k : Int), (rangeC lo k n).length = n
  | 0, _, _ => rfl
  | n + 1, lo, k => by simp [rangeC, rangeC_length n]
theorem ItOk.range {ρ : Nat → Addr} {n : Nat} {H : Hp} {lo : Int} {m : Nat} : ItOk G ρ n H (Itr lo m) (rangeL lo m) (fun _ => True) := fun ρ' h' H' i E R _ => by
  refine ⟨fun x hx => ?_, fun hi => by rw [rangeL_length] at hi; exact hi⟩
  obtain ⟨h1, rfl⟩ := rangeL_get hx
  refine ⟨h1, fun u H2 y => ?_⟩
  obtain ⟨rfl, rfl⟩ := y
  exact ⟨Ext.refl, R, .int _⟩
theorem ItOk.rangeC {ρ : Nat → Addr} {n : Nat} {H : Hp} {lo k : Int} {m : Nat} : ItOk G ρ n H (Itc lo k m) (WD.rangeC lo k m) (fun _ => True) := fun ρ' h' H' i E R _ => by
  refine ⟨fun x hx => ?_, fun hi => by rw [rangeC_length] at hi; exact hi⟩
  obtain ⟨h1, rfl⟩ := rangeC_get hx
  refine ⟨h1, fun u H2 y => ?_⟩
  obtain ⟨rfl, rfl⟩ := y
  exact ⟨Ext.refl, R, .int _⟩
theorem ri_range1 {tg : Expr} {x : Str} (hx : x = "range") (hg : Gl X x) (hm : X.mg x = none) (ha : RE G W X a ma) (hs : starEach [a] X.env = [(false, eval a X.env)]) :
    RI G W X tg (.Call (.Name x p) [a] [] pos) (fun y ς h q => ma y ς h fun v h1 => ∃ j : Int, v = .int j ∧ -(2 ^ 62) ≤ j ∧ j < 2 ^ 62 ∧ q (rangeL 0 j.toNat) (fun _ => True) h1) := by
  subst hx
  refine PI.imp (pi_range1 hg hm (pa_cons ha pa_nil (by rw [hs]; rfl)) hs) fun σ H T hw => ?_
  obtain ⟨ρ, h, ς, q, x, R, S, k, c, cx⟩ := hw
  refine ⟨ρ, h, ς, _, x, R, S, k, fun ρ1 h1 H1 v u E1 R1 r1 k1 => ?_, cx⟩
  obtain ⟨j, rfl, k1, k2, k3⟩ := k1
  exact ⟨j, by rw [r1.intInv], k1, k2, c ρ1 h1 H1 _ _ _ E1 R1 .range k3⟩
theorem ri_range2 {tg : Expr} {x : Str} (hx : x = "range") (hg : Gl X x) (hm : X.mg x = none) (ha : RE G W X a ma) (hb : RE G W X b mb) (hs : starEach [a, b] X.env = [(false, eval a X.env), (false, eval b X.env)]) (hs2 : starEach [b] X.env = [(false, eval b X.env)]) :
    RI G W X tg (.Call (.Name x p) [a, b] [] pos) (fun y ς h q => ma y ς h fun v h1 => mb y ς h1 fun w h2 => ∃ i j : Int, v = .int i ∧ w = .int j ∧ (-(2 ^ 62) ≤ i ∧ i < 2 ^ 62 ∧ -(2 ^ 62) ≤ j ∧ j < 2 ^ 62) ∧ q (rangeL i (j - i).toNat) (fun _ => True) h2) := by
  subst hx
  refine PI.imp (pi_range2 hg hm (pa_cons ha (pa_cons hb pa_nil (by rw [hs2]; rfl)) (by rw [hs, hs2])) hs hs2) fun σ H T hw => ?_
  obtain ⟨ρ, h, ς, q, x, R, S, k, c, cx⟩ := hw
  refine ⟨ρ, h, ς, _, x, R, S, k, fun ρ1 h1 H1 v u E1 R1 r1 k1 => ?_, cx⟩
  refine ⟨ρ1, h1, ς, _, x, R1, S.ext R E1, k1, fun ρ2 h2 H2 w u' E2 R2 r2 k2 => ?_, cx.at R1 E1⟩
  obtain ⟨i, j, rfl, rfl, k1, k3⟩ := k2
  exact ⟨i, j, by rw [r1.intInv, r2.intInv], k1, c ρ2 h2 H2 _ _ _ (E1.trans R1 E2) R2 .range k3⟩
theorem ri_range3 {tg : Expr} {x : Str} (hx : x = "range") (hg : Gl X x) (hm : X.mg x = none) (ha : RE G W X a ma) (hb : RE G W X b mb) (hc : RE G W X c mc) (hs : starEach [a, b, c] X.env = [(false, eval a X.env), (false, eval b X.env), (false, eval c X.env)]) (hs2 : starEach [b, c] X.env = [(false, eval b X.env), (false, eval c X.env)]) (hs3 : starEach [c] X.env = [(false, eval c X.env)]) :
    RI G W X tg (.Call (.Name x p) [a, b, c] [] pos) (fun y ς h q => ma y ς h fun v h1 => mb y ς h1 fun w h2 => mc y ς h2 fun u h3 => ∃ (i j k : Int) (n : Nat), v = .int i ∧ w = .int j ∧ u = .int k ∧ RgC i j k n ∧ q (rangeC i k n) (fun _ => True) h3) := by
  subst hx
  refine PI.imp (pi_range3 hg hm (pa_cons ha (pa_cons hb (pa_cons hc pa_nil (by rw [hs3]; rfl)) (by rw [hs2, hs3])) (by rw [hs, hs2])) (by rw [hs, hs2]) (by rw [hs2]; rfl)) fun σ H T hw => ?_
  obtain ⟨ρ, h, ς, q, x, R, S, k, cv, cx⟩ := hw
  refine ⟨ρ, h, ς, _, x, R, S, k, fun ρ1 h1 H1 v u E1 R1 r1 k1 => ?_, cx⟩
  refine ⟨ρ1, h1, ς, _, x, R1, S.ext R E1, k1, fun ρ2 h2 H2 w u' E2 R2 r2 k2 => ?_, cx.at R1 E1⟩
  refine ⟨ρ2, h2, ς, _, x, R2, (S.ext R E1).ext R1 E2, k2, fun ρ3 h3 H3 w3 u3 E3 R3 r3 k3 => ?_, (cx.at R1 E1).at R2 E2⟩
  obtain ⟨i, j, k, n, rfl, rfl, rfl, k1, k3⟩ := k3
  exact ⟨i, j, k, n, by rw [r1.intInv, r2.intInv, r3.intInv], k1, cv ρ3 h3 H3 _ _ _ ((E1.trans R1 E2).trans R2 E3) R3 .rangeC k3⟩
theorem ri_enum_e {x : Str} {elts : List Expr} {kk : Nat} {tpos : Pos} (g : Good G X W) (hx : x = "enumerate") (hg : Gl X x) (hm : X.mg x = none) (ha : RE G W X a ma) (hs : starEach [a] X.env = [(false, eval a X.env)]) :
    RI G W X (.Tuple elts kk tpos) (.Call (.Name x p) [a] [] pos) (fun y ς h q => ma y ς h fun v h1 => ∃ xs, items h1 v = some xs ∧ q (enumL 0 xs) (standsP v xs) h1) := by
  subst hx
  refine PI.imp (pi_enumA hg hm (pa_cons ha pa_nil (by rw [hs]; rfl)) hs) fun σ H T hw => ?_
  obtain ⟨ρ, h, ς, q, x, R, S, k, c, cx⟩ := hw
  refine ⟨ρ, h, ς, _, x, R, S, k, fun ρ1 h1 H1 v u E1 R1 r1 k1 => ?_, cx⟩
  obtain ⟨xs, k1, k2⟩ := k1
  obtain ⟨aa, rfl, hv⟩ := items_later g.eK R1 r1 k1
  rcases hv with ⟨⟨vs, h0⟩, hv⟩ | ⟨⟨vs, h0⟩, hv⟩
  · exact ⟨aa, vs, rfl, .inl ⟨h0, c ρ1 h1 H1 _ _ _ E1 R1 (ItOk.enumL g.eK hv) k2⟩⟩
  · exact ⟨aa, vs, rfl, .inr ⟨h0, c ρ1 h1 H1 _ _ _ E1 R1 (ItOk.enumT g.eK hv) k2⟩⟩
theorem ri_enum_l {x : Str} {elts : List Expr} {kk : Nat} {tpos : Pos} (g : Good G X W) (hx : x = "enumerate") (hg : Gl X x) (hm : X.mg x = none) (ha : RL G W X a ml) (hs : starEach [a] X.env = [(false, eval a X.env)]) :
    RI G W X (.Tuple elts kk tpos) (.Call (.Name x p) [a] [] pos) (fun y ς h q => ml y ς h fun xs h1 => q (enumL 0 xs) (fun _ => True) h1) := by
  subst hx
  refine PI.imp (pi_enumA hg hm (pa_cons ha pa_nil (by rw [hs]; rfl)) hs) fun σ H T hw => ?_
  obtain ⟨ρ, h, ς, q, x, R, S, k, c, cx⟩ := hw
  refine ⟨ρ, h, ς, _, x, R, S, k, fun ρ1 h1 H1 xs u E1 R1 r1 k1 => ?_, cx⟩
  obtain ⟨p, us, rfl, _, h2, h3, h4⟩ := r1
  exact ⟨p, us, rfl, .inl ⟨SqL.of h2, c ρ1 h1 H1 _ _ _ E1 R1 (ItOk.any (ys := xs) (ItOk.enumL (X := X) g.eK fun ρ' h' H' E _ _ => temp_later (X := X) R1 h2 h3 h4 ρ' h' H' E)) k1⟩⟩
end
end WD
end
section
set_option Elab.async false
set_option linter.all false
set_option maxRecDepth 100000
set_option autoImplicit false
set_option maxHeartbeats 4000000
/-! WJud4: targets, comprehensions, statements, loops. -/
namespace WD
open PySem PySem.Spec PyProof.Rows L2
/-! ### targets -/
theorem wipe_set {σ : L2.St} {i : Nat} {v : V} : ∀ {vs : List Nat}, i ∈ vs → wipe (σ.set i (some v)) vs = wipe σ vs := by
  intro vs
  have key : ∀ (j : Nat) (ws : List Nat), (wipe (σ.set i (some v)) ws)[j]? = if j = i ∧ i ∉ ws then (σ.set i (some v))[j]? else (wipe σ ws)[j]? := by
    intro j ws
    induction ws with
    | nil =>
      unfold wipe
      by_cases q : j = i
      · subst q; simp
      · rw [if_neg (fun z => q z.1), List.getElem?_set_ne (Ne.symm q)]
    | cons w ws ih =>
      unfold wipe
      by_cases q : w = j
      · subst q
        have l1 : (wipe (σ.set i (some v)) ws).length = (wipe σ ws).length := by rw [wipe_length, wipe_length, List.length_set]
        by_cases z : w = i
        · subst z
          rw [if_neg (by simp)]
          by_cases hl : w < (wipe σ ws).length
          · rw [List.getElem?_set_self (by rw [l1]; exact hl), List.getElem?_set_self hl]
          · rw [List.getElem?_eq_none (by rw [List.length_set, l1]; omega), List.getElem?_eq_none (by rw [List.length_set]; omega)]
        · rw [if_neg (fun y => z y.1)]
          by_cases hl : w < (wipe σ ws).length
          · rw [List.getElem?_set_self (by rw [l1]; exact hl), List.getElem?_set_self hl]
          · rw [List.getElem?_eq_none (by rw [List.length_set, l1]; omega), List.getElem?_eq_none (by rw [List.length_set]; omega)]
      · rw [List.getElem?_set_ne q, List.getElem?_set_ne q, ih]
        by_cases z : j = i
        · subst z
          by_cases y : j ∈ ws
          · rw [if_neg (by simp [y]), if_neg (by simp [y])]
          · rw [if_pos ⟨rfl, y⟩, if_pos ⟨rfl, by simp [y]; exact fun e => q e.symm⟩]
        · rw [if_neg (fun y => z y.1), if_neg (fun y => z y.1)]
  intro hi
  apply List.ext_getElem?
  intro j
  rw [key j vs, if_neg (fun z => z.2 hi)]
/-- a target of slots among ws -/
def upG (G : GE) (ws : List Nat) (m : PV → PSt → (PSt → Prop) → Prop) : TG := fun u σ H T => ∃ ρ h v ς, ∃ q : PSt → Prop, HR G.K ρ h H ∧ SR G ρ h.length H ς σ ∧ Rep G.K ρ h.length H v u ∧ m v ς q ∧ ∀ ς' σ', SR G ρ h.length H ς' σ' → wipe σ' ws = wipe σ ws → q ς' → T σ' H
def upGs (G : GE) (ws : List Nat) (m : List PV → PSt → (PSt → Prop) → Prop) : TGs := fun us σ H T => ∃ ρ h vs ς, ∃ q : PSt → Prop, HR G.K ρ h H ∧ SR G ρ h.length H ς σ ∧ Reps G.K ρ h.length H vs us ∧ m vs ς q ∧ ∀ ς' σ', SR G ρ h.length H ς' σ' → wipe σ' ws = wipe σ ws → q ς' → T σ' H
theorem PG.imp {X : Cx} {e : Expr} {t t' : TG} (h : PG X e t) (i : ∀ v σ H Q, t' v σ H Q → t v σ H Q) : PG X e t' := ⟨fun pins s σ H v u Q I r hw => h.run pins s σ H v u Q I r (i v σ H Q hw)⟩
theorem PGs.imp {X : Cx} {e : List Expr} {t t' : TGs} (h : PGs X e t) (i : ∀ v σ H Q, t' v σ H Q → t v σ H Q) : PGs X e t' := ⟨fun pins s σ H v u Q I r hw => h.run pins s σ H v u Q I r (i v σ H Q hw)⟩
section
variable {G : GE} {Φ : Phi} {W : WX} {X : Cx} {pos p : Pos} {e : Expr} {es : List Expr} {ws : List Nat}
theorem rg_name {i : Nat} {x : Str} (hN : X.N.Nodup) (hi : X.N[i]? = some x) (hx : Loc X.env.scope x) (hf : X.fn x = true ∨ X.env.scope.names.lookup x = some .local) (hfr : G.free i) (hw : i ∈ ws) : PG X (.Name x pos) (upG G ws fun v ς q => q (ς.set i (some v))) :=
  PG.imp (pg_name hN hi hx hf) fun u σ H T hw' => by
    obtain ⟨ρ, h, v, ς, q, R, S, r, k, c⟩ := hw'
    exact c _ _ (S.set i hfr r) (wipe_set hw) k
theorem rgs_nil : PGs X [] (upGs G ws fun vs ς q => vs = [] ∧ q ς) :=
  PGs.imp pgs_nil fun us σ H T hw => by
    obtain ⟨ρ, h, v, ς, q, R, S, r, ⟨rfl, k⟩, c⟩ := hw
    cases r
    exact ⟨rfl, c _ _ S rfl k⟩
theorem rgs_cons {m : PV → PSt → (PSt → Prop) → Prop} {ms : List PV → PSt → (PSt → Prop) → Prop} (h1 : PG X e (upG G ws m)) (h2 : PGs X es (upGs G ws ms)) (hs : (assignEach (e :: es) X.env).map (·.2) = assign e X.env :: (assignEach es X.env).map (·.2)) :
    PGs X (e :: es) (upGs G ws fun vs ς q => ∃ v r, vs = v :: r ∧ m v ς fun ς' => ms r ς' q) :=
  PGs.imp (pgs_cons h1 h2 hs) fun us σ H T hw => by
    obtain ⟨ρ, h, vs, ς, q, R, S, r, ⟨v, vr, rfl, k⟩, c⟩ := hw
    cases r with
    | cons r1 r2 => exact ⟨_, _, rfl, ρ, h, v, ς, _, R, S, r1, k, fun ς' σ' S' e' k' => ⟨ρ, h, vr, ς', q, R, S', r2, k', fun ς2 σ2 S2 e2 k2 => c ς2 σ2 S2 (e2.trans e') k2⟩⟩
theorem rg_tup {k : Nat} {ms : List PV → PSt → (PSt → Prop) → Prop} (g : GoodC G X W) (h : PGs X es (upGs G ws ms)) (hn : (assignEach es X.env).length = es.length) (hst : (assignEach es X.env).findIdx? (·.1) = none) (hlen : ∀ vs ς q, ms vs ς q → vs.length = es.length) :
    PG X (.Tuple es k pos) (upG G ws fun v ς q => ∃ xs, v = .tup xs ∧ ms xs ς q) :=
  PG.imp (pg_tup g.calm h hn hst) fun u σ H T hw => by
    obtain ⟨ρ, h, v, ς, q, R, S, r, ⟨xs, rfl, k⟩, c⟩ := hw
    obtain ⟨a, vs, rfl, sq, rs⟩ := r.tupInv
    exact ⟨a, vs, rfl, g.eK ▸ sq, by rw [← rs.length]; exact hlen _ _ _ k, ρ, h, xs, ς, q, R, S, rs, k, c⟩
/-! ### comprehensions -/
/-- the block's judgements, whatever the block -/
structure BlkR (G : GE) (X : Cx) (scope : Scope) (ws : List Nat) (tg elt : Expr) (ifs : List Expr) (mt : PV → PSt → (PSt → Prop) → Prop) (mc : QX → PSt → PH → (Bool → PH → Prop) → Prop) (me : QX → PSt → PH → QV → Prop) : Prop where
  tg : ∀ (s : Shared) (H : Hp) (C : Addr) (cl : List (Str × Addr)) (fp : List Addr), PG (X.blk s H scope (compEnvC scope cl C X.env) fp) tg (upG G ws mt)
  ifs : ∀ (s : Shared) (H : Hp) (C : Addr) (cl : List (Str × Addr)) (fp : List Addr), PTs (X.blk s H scope (compEnvC scope cl C X.env) fp) ifs (up G (fun _ _ _ _ => False) (REq Bool) mc)
  elt : ∀ (s : Shared) (H : Hp) (C : Addr) (cl : List (Str × Addr)) (fp : List Addr), PE (X.blk s H scope (compEnvC scope cl C X.env) fp) elt (up G (fun _ _ _ _ => False) (RV G) me)
end
mutual
theorem Rep.poke' {K : PySem.W.Frag} {ρ : Nat → Addr} {n : Nat} {H : Hp} {D : Addr} {o o' : HO} (ho : seqO o = true) (hD : H D = some o) : ∀ {v : PV} {u : V}, Rep K ρ n H v u → Rep K ρ n (upd H D o') v u
  | _, _, .non => .non
  | _, _, .bl b => .bl b
  | _, _, .int i => .int i
  | _, _, .str x e => .str x e
  | _, _, .tup s r => .tup (by
      rcases s with (s | ⟨_, s⟩) | s
      · exact .inl (.inl (by rw [upd_ne (ne_of s hD (by intro z; rw [← z] at ho; cases ho))]; exact s))
      · exact .inl (.inr ⟨_, by rw [upd_ne (ne_of s hD (by intro z; rw [← z] at ho; cases ho))]; exact s⟩)
      · exact .inr s) (Reps.poke' ho hD r)
  | _, _, .rol s r => .rol (by
      rcases s with ⟨_, s⟩ | s
      · exact .inl ⟨_, by rw [upd_ne (ne_of s hD (by intro z; rw [← z] at ho; cases ho))]; exact s⟩
      · exact .inr s) (Reps.poke' ho hD r)
  | _, _, .loc l hl => .loc l hl
theorem Reps.poke' {K : PySem.W.Frag} {ρ : Nat → Addr} {n : Nat} {H : Hp} {D : Addr} {o o' : HO} (ho : seqO o = true) (hD : H D = some o) : ∀ {xs : List PV} {ws : List V}, Reps K ρ n H xs ws → Reps K ρ n (upd H D o') xs ws
  | _, _, .nil => .nil
  | _, _, .cons r t => .cons (Rep.poke' ho hD r) (Reps.poke' ho hD t)
end
theorem Rep.poke {K : PySem.W.Frag} {ρ : Nat → Addr} {n : Nat} {H : Hp} {D : Addr} {us us' : List V} (hD : H D = some (.lst us)) {v : PV} {u : V} (r : Rep K ρ n H v u) : Rep K ρ n (upd H D (.lst us')) v u := r.poke' rfl hD
theorem Reps.poke {K : PySem.W.Frag} {ρ : Nat → Addr} {n : Nat} {H : Hp} {D : Addr} {us us' : List V} (hD : H D = some (.lst us)) {xs : List PV} {ws : List V} (r : Reps K ρ n H xs ws) : Reps K ρ n (upd H D (.lst us')) xs ws := r.poke' rfl hD
theorem RepD.poke' {K : PySem.W.Frag} {ρ : Nat → Addr} {n : Nat} {H : Hp} {D : Addr} {o o' : HO} (ho : seqO o = true) (hD : H D = some o) : ∀ {xs : List (Key × PV)} {ws : List (Key × V)}, RepD K ρ n H xs ws → RepD K ρ n (upd H D o') xs ws
  | _, _, .nil => .nil
  | _, _, .cons k r t => .cons k (Rep.poke' ho hD r) (RepD.poke' ho hD t)
theorem HR.poke' {K : PySem.W.Frag} {ρ : Nat → Addr} {h : PH} {H : Hp} {D : Addr} {o o' : HO} (R : HR K ρ h H) (ho : seqO o = true) (hD : H D = some o) (nl : ∀ l, l < h.length → ρ l ≠ D) : HR K ρ h (upd H D o') := by
  refine ⟨fun l o e => ?_, R.inj⟩
  have hl : l < h.length := (List.getElem?_eq_some_iff.mp e).1
  have q := R.obj l o e
  obtain ⟨o2, e2⟩ := R.there hl
  rw [upd_ne (nl l hl)]
  rw [e2] at q ⊢
  cases q with
  | lst r => exact .lst (r.poke' ho hD)
  | dic r => exact .dic (r.poke' ho hD)
theorem HR.poke {K : PySem.W.Frag} {ρ : Nat → Addr} {h : PH} {H : Hp} {D : Addr} {us us' : List V} (R : HR K ρ h H) (hD : H D = some (.lst us)) (nl : ∀ l, l < h.length → ρ l ≠ D) : HR K ρ h (upd H D (.lst us')) := R.poke' rfl hD nl
theorem SR.poke {G : GE} {ρ : Nat → Addr} {n : Nat} {H : Hp} {D : Addr} {us us' : List V} {ς : PSt} {σ : L2.St} (S : SR G ρ n H ς σ) (hD : H D = some (.lst us)) : SR G ρ n (upd H D (.lst us')) ς σ :=
  ⟨S.len, fun i v e => let ⟨u, a, b⟩ := S.get i v e; ⟨u, a, b.poke hD⟩, fun x e => ⟨(S.gh x e).1, by
    rw [upd_ne (fun z => by have := (S.gh x e).2; rw [z, hD] at this; cases this)]
    exact (S.gh x e).2⟩⟩
/-- from an earlier heap, in which D was not -/
theorem Ext.poke {ρ ρ' : Nat → Addr} {n n' : Nat} {H0 H : Hp} {D : Addr} {o' : HO} (hD : H0 D = none) (E0 : Ext ρ n H0 ρ' n' H) : Ext ρ n H0 ρ' n' (upd H D o') :=
  ⟨E0.le, E0.eq, fun a u e hn => by rw [upd_ne (ne_of_none e hD)]; exact E0.keep a u e hn, fun l h1 h2 => E0.new l h1 h2⟩
/-- what was not there stays untracked -/
theorem Ext.nl {ρ ρ' : Nat → Addr} {n n' : Nat} {H H' : Hp} {D : Addr} {o : HO} (hD : H D = some o) (nl : ∀ l, l < n → ρ l ≠ D) (E : Ext ρ n H ρ' n' H') : ∀ l, l < n' → ρ' l ≠ D := fun l hl z => by
  by_cases q : l < n
  · rw [E.eq l q] at z
    exact nl l q z
  · have := E.new l (Nat.le_of_not_lt q) hl
    rw [z, hD] at this
    cases this
theorem was_none {ρ0 ρ : Nat → Addr} {h0 h : PH} {H0 H : Hp} {p : Addr} {G : GE} (R0 : HR G.K ρ0 h0 H0) (E : Ext ρ0 h0.length H0 ρ h.length H) (R : HR G.K ρ h H) (hp : H p = none) : H0 p = none := by
  cases e : H0 p with
  | none => rfl
  | some o =>
    by_cases z : ∃ l, l < h0.length ∧ ρ0 l = p
    · obtain ⟨l, hl, z⟩ := z
      obtain ⟨o', e'⟩ := R.there (Nat.lt_of_lt_of_le hl E.le)
      rw [E.eq l hl, z, hp] at e'
      cases e'
    · have := E.keep p o e fun l hl z' => z ⟨l, hl, z'⟩
      rw [hp] at this
      cases this
section
variable {G : GE} {Φ : Phi} {W : WX} {X : Cx} {pos p : Pos} {e : Expr} {es : List Expr} {ws : List Nat}
/-- a comprehension's loop -/
theorem comp_core {own : List (Str × Nat)} {t : Tg} {mc : QX → PSt → PH → (Bool → PH → Prop) → Prop} {me : QX → PSt → PH → QV → Prop}
    {ρ0 : Nat → Addr} {h0 : PH} {H0 : Hp} {ς : PSt} {σ : L2.St} {J : It} {xs : List PV} {gd : PH → Prop} {q : List PV → PH → Prop} {Q : V → Hp → Prop} {D : Addr}
    (hx : G.xh = none) (R0 : HR G.K ρ0 h0 H0) (S0 : SR G ρ0 h0.length H0 ς σ) (hJ : ItOk G ρ0 h0.length H0 J xs gd) (hD : H0 D = none)
    (k : compW gd t (wipeP ς (own.map (·.2))) (mc fun _ _ => False) (me fun _ _ => False) q xs [] h0)
    (fin : ∀ ρ h H vs us, Ext ρ0 h0.length H0 ρ h.length H → HR G.K ρ h H → H D = some (.lst us) → (∀ l, l < h.length → ρ l ≠ D) → Reps G.K ρ h.length H vs us → q vs h → Q (.ref D) H) :
    ∃ Wv : Nat → Nat → Hp → Prop, (∃ m, Wv 0 m (upd H0 D (.lst []))) ∧ ∀ i m H, Wv i m H →
      (J.stop i H ∧ Q (.ref D) H) ∨ (J.go i H ∧ ∃ Nx : Hp → Prop, (∀ H', Nx H' → ∃ m', m' < m ∧ Wv (i + 1) m' H') ∧ ∀ x H', J.yld i H x H' → upG G (own.map (·.2)) (setT t) x (wipe σ (own.map (·.2))) H' fun σ2 H2 => wipe σ2 (own.map (·.2)) = wipe σ (own.map (·.2)) ∧
        up G (fun _ _ _ _ => False) (REq Bool) mc σ2 H2 fun b H3 => if b = true then up G (fun _ _ _ _ => False) (RV G) me σ2 H3 fun y H4 => ∃ acc, H4 D = some (.lst acc) ∧ acc.length < sizeLine ∧ Nx (upd H4 D (.lst (acc ++ [y]))) else Nx H3) := by
  have nl0 : ∀ l, l < h0.length → ρ0 l ≠ D := fun l hl z => by
    obtain ⟨o, e⟩ := R0.there hl
    rw [z, hD] at e
    cases e
  have ww : ∀ (vs : List Nat), wipe (wipe σ vs) vs = wipe σ vs := by
    intro vs
    have key : ∀ (ws us : List Nat), (∀ w ∈ ws, w ∈ us) → ∀ τ : L2.St, wipe (wipe τ us) ws = wipe τ us := by
      intro ws
      induction ws with
      | nil => intro us _ τ; rfl
      | cons w ws ih =>
        intro us hs τ
        show (wipe (wipe τ us) ws).set w none = wipe τ us
        rw [ih us (fun x hx => hs x (List.mem_cons_of_mem _ hx)) τ]
        -- the slot is forgotten already
        have hw : ∀ (us : List Nat) (τ : L2.St), w ∈ us → (wipe τ us).set w none = wipe τ us := by
          intro us
          induction us with
          | nil => intro τ h; cases h
          | cons v us ih2 =>
            intro τ h
            unfold wipe
            by_cases q : v = w
            · subst q
              rw [List.set_set]
            · rw [List.set_comm _ _ q, ih2 τ (by
                rcases List.mem_cons.mp h with z | z
                · exact absurd z.symm q
                · exact z)]
        exact hw us τ (hs w List.mem_cons_self)
    exact key vs vs (fun _ h => h) σ
  -- what holds at turn i
  refine ⟨fun i m H => m = xs.length - i ∧ i ≤ xs.length ∧ ∃ ρ h vs us, Ext ρ0 h0.length H0 ρ h.length H ∧ HR G.K ρ h H ∧ H D = some (.lst us) ∧ (∀ l, l < h.length → ρ l ≠ D) ∧ Reps G.K ρ h.length H vs us ∧ SR G ρ h.length H (wipeP ς (own.map (·.2))) (wipe σ (own.map (·.2))) ∧
      compW gd t (wipeP ς (own.map (·.2))) (mc fun _ _ => False) (me fun _ _ => False) q (xs.drop i) vs h, ⟨xs.length, by simp, Nat.zero_le _, ρ0, h0, [], [], Ext.fresh hD, R0.fresh hD, upd_same, nl0, .nil, SR.wipe hx (S0.ext R0 (Ext.fresh hD)) _, by simpa using k⟩, ?_⟩
  rintro i m H ⟨rfl, hi, ρ, h, vs, us, E, R, eD, nl, rs, S, k⟩
  by_cases hlt : i < xs.length
  · have hd : xs.drop i = xs[i] :: xs.drop (i + 1) := List.drop_eq_getElem_cons hlt
    rw [hd] at k
    obtain ⟨gh, k⟩ := k
    obtain ⟨hgo, hy⟩ := (hJ ρ h H i E R gh).1 xs[i] (List.getElem?_eq_getElem hlt)
    refine .inr ⟨hgo, fun H' => i + 1 ≤ xs.length ∧ ∃ ρ h vs us, Ext ρ0 h0.length H0 ρ h.length H' ∧ HR G.K ρ h H' ∧ H' D = some (.lst us) ∧ (∀ l, l < h.length → ρ l ≠ D) ∧ Reps G.K ρ h.length H' vs us ∧ SR G ρ h.length H' (wipeP ς (own.map (·.2))) (wipe σ (own.map (·.2))) ∧
      compW gd t (wipeP ς (own.map (·.2))) (mc fun _ _ => False) (me fun _ _ => False) q (xs.drop (i + 1)) vs h, fun H' ⟨z1, z2⟩ => ⟨xs.length - (i + 1), by omega, rfl, z1, z2⟩, fun u H' y => ?_⟩
    obtain ⟨E1, R1, r1⟩ := hy u H' y
    have S1 := S.ext R E1
    have rs1 := Reps.ext R E1 rs
    have eD1 : H' D = some (.lst us) := E1.keep D _ eD nl
    refine ⟨ρ, h, xs[i], wipeP ς (own.map (·.2)), _, R1, S1, r1, k, fun ς2 σ2 S2 e2 k2 => ⟨e2.trans (ww _), ?_⟩⟩
    refine ⟨ρ, h, ς2, _, fun _ _ => False, R1, S2, k2, fun ρ3 h3 H3 b b' E3 R3 eb k3 => ?_, CovX.none⟩
    have eb' : b = b' := eb
    subst eb'
    have nl3 := Ext.nl eD1 nl E3
    have eD3 : H3 D = some (.lst us) := E3.keep D _ eD1 nl
    cases b with
    | true =>
      simp only [if_true] at k3 ⊢
      refine ⟨ρ3, h3, ς2, _, fun _ _ => False, R3, S2.ext R1 E3, k3, fun ρ4 h4 H4 yv yu E4 R4 r4 k4 => ?_, CovX.none⟩
      have nl4 := Ext.nl eD3 nl3 E4
      have eD4 : H4 D = some (.lst us) := E4.keep D _ eD3 nl3
      have rs4 := Reps.ext R3 E4 (Reps.ext R1 E3 rs1)
      have S4 := (S1.ext R1 E3).ext R3 E4
      have E14 : Ext ρ0 h0.length H0 ρ4 h4.length H4 := ((E.trans R E1).trans R1 E3).trans R3 E4
      refine ⟨us, eD4, by rw [← rs4.length]; exact k4.1, hlt, ρ4, h4, vs ++ [yv], us ++ [yu], E14.poke hD, R4.poke eD4 nl4, upd_same, nl4, (rs4.poke eD4).append (.cons (r4.poke eD4) .nil), S4.poke eD4, k4.2⟩
    | false =>
      simp only [Bool.false_eq_true, if_false] at k3 ⊢
      exact ⟨hlt, ρ3, h3, vs, us, (E.trans R E1).trans R1 E3, R3, eD3, nl3, Reps.ext R1 E3 rs1, S1.ext R1 E3, k3⟩
  · have e : i = xs.length := by omega
    subst e
    rw [List.drop_length] at k
    obtain ⟨gh, k⟩ := k
    exact .inl ⟨(hJ ρ h H xs.length E R gh).2 (Nat.le_refl _), fin ρ h H vs us E R eD nl rs k⟩
theorem rl_comp {elt tg iter : Expr} {ifs : List Expr} {scope : Scope} {own : List (Str × Nat)} {t : Tg} {mi : MI} {mc : QX → PSt → PH → (Bool → PH → Prop) → Prop} {me : QX → PSt → PH → QV → Prop} (g : GoodC G X W) (hN : X.N.Nodup) (hi : RI G W X tg iter mi) (ok : BlkOk X.N X.env.scope scope own)
    (B : BlkR G X scope (own.map (·.2)) tg elt ifs (setT t) mc me) (hs : ∀ x, foldedSetIterable iter X.env x = pure x) :
    RL G W X (.ListComp elt [⟨tg, iter, ifs, 0⟩] scope pos) (fun x ς h q => mi x ς h fun xs gd h1 => compW gd t (wipeP ς (own.map (·.2))) (mc fun _ _ => False) (me fun _ _ => False) q xs [] h1) := by
  refine PE.imp (pe_lc (own := own) g.calm hN hi ok B.tg B.ifs B.elt hs) fun σ H Q hw => ?_
  obtain ⟨ρ, h, ς, q, x, R, S, k, c, cx⟩ := hw
  refine ⟨ρ, h, ς, _, x, R, S, k, fun ρ1 h1 H1 J xs gd E1 R1 hJ k1 D hD => ?_, cx⟩
  exact comp_core g.xh R1 (S.ext R E1) hJ hD k1 fun ρ2 h2 H2 vs us E2 R2 eD nl rs k2 => c ρ2 h2 H2 vs (.ref D) (E1.trans R1 E2) R2 ⟨D, us, rfl, was_none R (E1) R1 hD, eD, nl, rs⟩ k2
/-- x = [..], the list tracked -/
theorem rs_setLc_core {own : List (Str × Nat)} {t : Tg} {mi : MI} {mc : QX → PSt → PH → (Bool → PH → Prop) → Prop} {me : QX → PSt → PH → QV → Prop} {σ : L2.St} {H : Hp} {Q : VK} (hx : G.xh = none)
    (hw : up G W (RV G) (fun x ς h q => mi x ς h fun xs gd h1 => compW gd t (wipeP ς (own.map (·.2))) (mc fun _ _ => False) (me fun _ _ => False) (fun vs h2 => q (.loc h2.length) (h2 ++ [.lst vs])) xs [] h1) σ H Q) :
    tLc (upI G W mi) (upG G (own.map (·.2)) (setT t)) (up G (fun _ _ _ _ => False) (REq Bool) mc) (up G (fun _ _ _ _ => False) (RV G) me) (own.map (·.2)) σ H Q := by
  obtain ⟨ρ, h, ς, q, x, R, S, k, c, cx⟩ := hw
  refine ⟨ρ, h, ς, _, x, R, S, k, fun ρ1 h1 H1 J xs gd E1 R1 hJ k1 D hD => ?_, cx⟩
  refine comp_core hx R1 (S.ext R E1) hJ hD k1 fun ρ2 h2 H2 vs us E2 R2 eD nl rs k2 => ?_
  have hE := E1.trans R1 E2
  refine c (ρadd ρ2 h2.length D) (h2 ++ [.lst vs]) H2 (.loc h2.length) (.ref D) ?_ (R2.track eD nl (.lst rs)) ?_ k2
  · have := Ext.track hE (was_none R E1 R1 hD)
    rwa [show (h2 ++ [PO.lst vs]).length = h2.length + 1 by simp]
  · have e : V.ref D = V.ref (ρadd ρ2 h2.length D h2.length) := by rw [ρadd_self]
    rw [e]
    exact .loc h2.length (by simp)
end
end WD
end
section
set_option Elab.async false
set_option linter.all false
set_option maxRecDepth 100000
set_option autoImplicit false
set_option maxHeartbeats 4000000
/-! WJud5: statements, loops. -/
namespace WD
open PySem PySem.Spec PyProof.Rows L2
abbrev MS := KS → PSt → PH → Prop
/-- what follows a statement is answered -/
structure CovS (G : GE) (ρ : Nat → Addr) (h : PH) (H : Hp) (κ : KS) (D : Ends) (W : WX) : Prop where
  nx : ∀ ρ' h' H' ς' σ', Ext ρ h.length H ρ' h'.length H' → HR G.K ρ' h' H' → SR G ρ' h'.length H' ς' σ' → κ.nx ς' h' → D.nx σ' H'
  rt : Cov G (RV G) ρ h H κ.rt D.rt
  bk : ∀ ρ' h' H' ς' σ', Ext ρ h.length H ρ' h'.length H' → HR G.K ρ' h' H' → SR G ρ' h'.length H' ς' σ' → κ.bk ς' h' → D.bk σ' H'
  ct : ∀ ρ' h' H' ς' σ', Ext ρ h.length H ρ' h'.length H' → HR G.K ρ' h' H' → SR G ρ' h'.length H' ς' σ' → κ.ct ς' h' → D.ct σ' H'
  ex : ∀ ρ' h' H' ς' σ' e c d, Ext ρ h.length H ρ' h'.length H' → HR G.K ρ' h' H' → SR G ρ' h'.length H' ς' σ' → XR G ρ' h'.length H' e c d → κ.ex e ς' h' → W c d σ' H'
section
variable {G : GE} {ρ ρ1 : Nat → Addr} {h h1 : PH} {H H1 : Hp} {κ : KS} {D : Ends} {W : WX} {ς : PSt} {σ : L2.St}
theorem CovS.at (c : CovS G ρ h H κ D W) (R1 : HR G.K ρ1 h1 H1) (E : Ext ρ h.length H ρ1 h1.length H1) : CovS G ρ1 h1 H1 κ D W :=
  ⟨fun ρ' h' H' ς' σ' E' => c.nx ρ' h' H' ς' σ' (E.trans R1 E'), c.rt.at R1 E, fun ρ' h' H' ς' σ' E' => c.bk ρ' h' H' ς' σ' (E.trans R1 E'), fun ρ' h' H' ς' σ' E' => c.ct ρ' h' H' ς' σ' (E.trans R1 E'), fun ρ' h' H' ς' σ' e k d E' => c.ex ρ' h' H' ς' σ' e k d (E.trans R1 E')⟩
/-- an expression's exceptions are the statement's -/
theorem CovS.cx (c : CovS G ρ h H κ D W) (R : HR G.K ρ h H) (S : SR G ρ h.length H ς σ) : CovX G ρ h H (fun e h => κ.ex e ς h) σ W :=
  fun ρ' h' H' e k d E R' x z => c.ex ρ' h' H' ς σ e k d E R' (S.ext R E) x z
end
def upS (G : GE) (W : WX) (m : MS) : TS := fun D σ H => ∃ ρ h ς κ, HR G.K ρ h H ∧ SR G ρ h.length H ς σ ∧ m κ ς h ∧ CovS G ρ h H κ D W
abbrev RS (G : GE) (W : WX) (X : Cx) (s : Stmt) (m : MS) : Prop := PS X s (upS G W m)
abbrev RSs (G : GE) (W : WX) (X : Cx) (s : List Stmt) (m : MS) : Prop := PSs X s (upS G W m)
section
variable {G : GE} {Φ : Phi} {W : WX} {X : Cx} {a b c e : Expr} {es : List Expr} {pos p : Pos} {ma mb mc : QX → PSt → PH → QV → Prop} {tc : QX → PSt → PH → (Bool → PH → Prop) → Prop} {m m' : MS} {st : Stmt} {sts : List Stmt}
/-- from a statement to its expression -/
theorem upS_e {me : QX → PSt → PH → QV → Prop} {k : KS → PSt → PV → PH → Prop} {σ : L2.St} {H : Hp} {D : Ends} {T : VK}
    (hw : upS G W (fun κ ς h => me (fun e h => κ.ex e ς h) ς h fun v h1 => k κ ς v h1) D σ H)
    (step : ∀ (ρ : Nat → Addr) (h : PH) (H1 : Hp) (ς : PSt) (κ : KS) (v : PV) (u : V), HR G.K ρ h H1 → SR G ρ h.length H1 ς σ → Rep G.K ρ h.length H1 v u → k κ ς v h → CovS G ρ h H1 κ D W → T u H1) : up G W (RV G) me σ H T := by
  obtain ⟨ρ, h, ς, κ, R, S, z, c⟩ := hw
  exact ⟨ρ, h, ς, _, _, R, S, z, fun ρ' h' H' v u E R' r k => step ρ' h' H' ς κ v u R' (S.ext R E) r k (c.at R' E), c.cx R S⟩
theorem rss_nil : RSs G W X [] (fun κ ς h => κ.nx ς h) := PSs.imp pss_nil fun D σ H hw => by
  obtain ⟨ρ, h, ς, κ, R, S, z, c⟩ := hw
  exact c.nx ρ h H ς σ Ext.refl R S z
theorem rss_cons (h1 : RS G W X st m) (h2 : RSs G W X sts m') : RSs G W X (st :: sts) (fun κ ς h => m { κ with nx := m' κ } ς h) := PSs.imp (pss_cons h1 h2) fun D σ H hw => by
  obtain ⟨ρ, h, ς, κ, R, S, z, c⟩ := hw
  exact ⟨ρ, h, ς, _, R, S, z, ⟨fun ρ' h' H' ς' σ' E R' S' k => ⟨ρ', h', ς', κ, R', S', k, c.at R' E⟩, c.rt, c.bk, c.ct, c.ex⟩⟩
theorem rs_pass : RS G W X (.Pass pos) (fun κ ς h => κ.nx ς h) := PS.imp ps_pass fun D σ H hw => by
  obtain ⟨ρ, h, ς, κ, R, S, z, c⟩ := hw
  exact c.nx ρ h H ς σ Ext.refl R S z
theorem rs_doc {x : Str} {j : Nat} {p1 p2 : Pos} : RS G W X (.Expr (.Constant (.str x) j p1) p2) (fun κ ς h => κ.nx ς h) := PS.imp ps_doc fun D σ H hw => by
  obtain ⟨ρ, h, ς, κ, R, S, z, c⟩ := hw
  exact c.nx ρ h H ς σ Ext.refl R S z
theorem rs_break : RS G W X (.Break pos) (fun κ ς h => κ.bk ς h) := PS.imp ps_break fun D σ H hw => by
  obtain ⟨ρ, h, ς, κ, R, S, z, c⟩ := hw
  exact c.bk ρ h H ς σ Ext.refl R S z
theorem rs_cont : RS G W X (.Continue pos) (fun κ ς h => κ.ct ς h) := PS.imp ps_continue fun D σ H hw => by
  obtain ⟨ρ, h, ς, κ, R, S, z, c⟩ := hw
  exact c.ct ρ h H ς σ Ext.refl R S z
theorem rs_expr (ha : RE G W X a ma) (hs : swapsWith a none pos.line X.env = pure false) : RS G W X (.Expr a pos) (fun κ ς h => ma (fun e h => κ.ex e ς h) ς h fun _ h1 => κ.nx ς h1) := PS.imp (ps_expr ha hs) fun D σ H hw => by
  refine upS_e (k := fun κ ς _ h => κ.nx ς h) hw fun ρ h H1 ς κ v u R S r z c => ?_
  exact c.nx ρ h H1 ς σ Ext.refl R S z
theorem rs_ret (ha : RE G W X a ma) : RS G W X (.Return (some a) pos) (fun κ ς h => ma (fun e h => κ.ex e ς h) ς h κ.rt) := PS.imp (ps_ret ha) fun D σ H hw => by
  refine upS_e (k := fun κ ς v h => κ.rt v h) hw fun ρ h H1 ς κ v u R S r z c => ?_
  exact c.rt.here R r z
theorem rs_retN : RS G W X (.Return none pos) (fun κ _ h => κ.rt .non h) := PS.imp ps_retN fun D σ H hw => by
  obtain ⟨ρ, h, ς, κ, R, S, z, c⟩ := hw
  exact c.rt.here R .non z
theorem rs_if (hc : RT G W X c tc) (h1 : RSs G W X sts m) {sts' : List Stmt} (h2 : RSs G W X sts' m') : RS G W X (.If c sts sts' pos) (fun κ ς h => tc (fun e h => κ.ex e ς h) ς h fun r h1 => if r = true then m κ ς h1 else m' κ ς h1) := PS.imp (ps_if hc h1 h2) fun D σ H hw => by
  obtain ⟨ρ, h, ς, κ, R, S, z, cv⟩ := hw
  refine ⟨ρ, h, ς, _, _, R, S, z, fun ρ' h' H' r r' E R' er k => ?_, cv.cx R S⟩
  have er' : r = r' := er
  subst er'
  cases r with
  | true =>
    simp only [if_true] at k ⊢
    exact ⟨ρ', h', ς, κ, R', S.ext R E, k, cv.at R' E⟩
  | false =>
    simp only [Bool.false_eq_true, if_false] at k ⊢
    exact ⟨ρ', h', ς, κ, R', S.ext R E, k, cv.at R' E⟩
/-! ### assignments -/
theorem rs_asg {tg : Expr} {t : Tg} {ws : List Nat} (ha : RE G W X a ma) (hg : PG X tg (upG G ws (setT t))) (hs : swapsWithSole [tg] a pos.line X.env = pure false) (hw : swappedStores [tg] a X.env = pure none) (h1 : (assignEach [tg] X.env).map (·.2) = [assign tg X.env]) :
    RS G W X (.Assign [tg] a pos) (fun κ ς h => ma (fun e h => κ.ex e ς h) ς h fun v h1 => setT t v ς fun ς' => κ.nx ς' h1) := PS.imp (ps_asg ha hg hs hw h1) fun D σ H hw => by
  refine upS_e (k := fun κ ς v h => setT t v ς fun ς' => κ.nx ς' h) hw fun ρ h H1 ς κ v u R S r z c => ?_
  exact ⟨ρ, h, v, ς, _, R, S, r, z, fun ς' σ' S' _ k => c.nx ρ h H1 ς' σ' Ext.refl R S' k⟩
theorem rs_set {i : Nat} {x : Str} {p' : Pos} (ha : RE G W X a ma) (hN : X.N.Nodup) (hi : X.N[i]? = some x) (hx : Loc X.env.scope x) (hf : X.fn x = true ∨ X.env.scope.names.lookup x = some .local) (hfr : G.free i) (hs : swapsWith a (some (.Name x p')) pos.line X.env = pure false) :
    RS G W X (.Assign [.Name x p'] a pos) (fun κ ς h => ma (fun e h => κ.ex e ς h) ς h fun v h1 => κ.nx (ς.set i (some v)) h1) := PS.imp (ps_set hN hi hx ha hs hf) fun D σ H hw => by
  refine upS_e (k := fun κ ς v h => κ.nx (ς.set i (some v)) h) hw fun ρ h H1 ς κ v u R S r z c => ?_
  exact c.nx ρ h H1 _ _ Ext.refl R (S.set i hfr r) z
theorem rs_setLc {i : Nat} {y : Str} {py : Pos} {elt tg iter : Expr} {ifs : List Expr} {scope : Scope} {own : List (Str × Nat)} {t : Tg} {spos : Pos} {mi : MI} {mcc : QX → PSt → PH → (Bool → PH → Prop) → Prop} {me : QX → PSt → PH → QV → Prop} (g : GoodC G X W) (hN : X.N.Nodup) (hy : X.N[i]? = some y) (hyl : X.env.scope.names.lookup y = some .local)
    (hsw : swapsWith (.ListComp elt [⟨tg, iter, ifs, 0⟩] scope pos) (some (.Name y py)) spos.line X.env = pure true) (hi : RI G W X tg iter mi) (ok : BlkOk X.N X.env.scope scope own) (B : BlkR G X scope (own.map (·.2)) tg elt ifs (setT t) mcc me) (hs : ∀ x, foldedSetIterable iter X.env x = pure x) :
    RS G W X (.Assign [.Name y py] (.ListComp elt [⟨tg, iter, ifs, 0⟩] scope pos) spos) (fun κ ς h => mi (fun e h => κ.ex e ς h) ς h fun xs gd h1 => compW gd t (wipeP ς (own.map (·.2))) (mcc fun _ _ => False) (me fun _ _ => False) (fun vs h2 => κ.nx (ς.set i (some (.loc h2.length))) (h2 ++ [.lst vs])) xs [] h1) :=
  PS.imp (ps_setLc (own := own) g.calm hN hy hyl hsw hi ok B.tg B.ifs B.elt hs) fun D σ H hw => by
    have hfr := GE.free_none g.xh i
    refine rs_setLc_core g.xh ?_
    refine upS_e (me := fun x ς h q => mi x ς h fun xs gd h1 => compW gd t (wipeP ς (own.map (·.2))) (mcc fun _ _ => False) (me fun _ _ => False) (fun vs h2 => q (.loc h2.length) (h2 ++ [.lst vs])) xs [] h1) (k := fun κ ς v h => κ.nx (ς.set i (some v)) h) hw fun ρ h H1 ς κ v u R S r z c => ?_
    exact c.nx ρ h H1 _ _ Ext.refl R (S.set i hfr r) z
theorem rs_par {i j : Nat} {x y : Str} {px py pt : Pos} {kt k2 : Nat} {pt2 : Pos} (g : GoodC G X W) (ha : RE G W X a ma) (hb : RE G W X b mb) (hN : X.N.Nodup) (hi : X.N[i]? = some x) (hj : X.N[j]? = some y) (hij : i ≠ j)
    (hx : X.env.scope.names.lookup x = some .local) (hy : X.env.scope.names.lookup y = some .local) (he : starEach [a, b] X.env = (false, eval a X.env) :: starEach [b] X.env) (he2 : starEach [b] X.env = (false, eval b X.env) :: starEach [] X.env)
    (hw : swappedStores [.Tuple [.Name x px, .Name y py] kt pt] (.Tuple [a, b] k2 pt2) X.env = pure (some [x, y])) (hs : swapsWithSole [.Tuple [.Name x px, .Name y py] kt pt] (.Tuple [a, b] k2 pt2) pos.line X.env = pure false) :
    RS G W X (.Assign [.Tuple [.Name x px, .Name y py] kt pt] (.Tuple [a, b] k2 pt2) pos) (fun κ ς h => ma (fun e h => κ.ex e ς h) ς h fun v h1 => mb (fun e h => κ.ex e ς h) ς h1 fun w h2 => κ.nx ((ς.set i (some v)).set j (some w)) h2) :=
  PS.imp (ps_par g.calm hN hi hj hij hx hy (pa_cons ha (pa_cons hb pa_nil he2) he) hw hs) fun D σ H hw => by
    obtain ⟨ρ, h, ς, κ, R, S, z, cv⟩ := hw
    refine ⟨ρ, h, ς, _, _, R, S, z, fun ρ1 h1 H1 v u E1 R1 r1 k1 => ?_, cv.cx R S⟩
    refine ⟨ρ1, h1, ς, _, _, R1, S.ext R E1, k1, fun ρ2 h2 H2 w u2 E2 R2 r2 k2 => ?_, (cv.at R1 E1).cx R1 (S.ext R E1)⟩
    exact ⟨u, u2, rfl, cv.nx ρ2 h2 H2 _ _ (E1.trans R1 E2) R2 ((((S.ext R E1).ext R1 E2).set i (GE.free_none g.xh i) (r1.ext R1 E2)).set j (GE.free_none g.xh j) r2) k2⟩
theorem rs_sub {o i : Expr} {p' : Pos} {mo mi : QX → PSt → PH → QV → Prop} (g : Good G X W) (ha : RE G W X a ma) (ho : RE G W X o mo) (hi : RE G W X i mi) (hs : swapsWithSole [.Subscript o i p'] a pos.line X.env = pure false) (hw : swappedStores [.Subscript o i p'] a X.env = pure none) (h1 : (assignEach [.Subscript o i p'] X.env).map (·.2) = [assign (.Subscript o i p') X.env])
    (hax : ∀ v, assign (.Subscript o i p') X.env v = (do
      let ov ← holding [v] (eval o X.env)
      let iv ← holding [v, ov] (eval i X.env)
      standAt p'
      holding [v, ov, iv] (setItem ov iv v)
      release [v, ov, iv] [])) :
    RS G W X (.Assign [.Subscript o i p'] a pos) (fun κ ς h => ma (fun e h => κ.ex e ς h) ς h fun w h1 => mo (fun e h => κ.ex e ς h) ς h1 fun v h2 => mi (fun e h => κ.ex e ς h) ς h2 fun k h3 => setS v k w h3 fun h4 => κ.nx ς h4) :=
  PS.imp (ps_asg ha (pg_sub ho hi (set_dic (by have := g.hu; omega)) hax) hs hw h1) fun D σ H hw => by
    obtain ⟨ρ, h, ς, κ, R, S, z, cv⟩ := hw
    refine ⟨ρ, h, ς, _, _, R, S, z, fun ρ1 h1 H1 w uw E1 R1 r1 k1 => ?_, cv.cx R S⟩
    have S1 := S.ext R E1
    refine ⟨ρ1, h1, ς, _, _, R1, S1, k1, fun ρ2 h2 H2 v u2 E2 R2 r2 k2 => ?_, (cv.at R1 E1).cx R1 S1⟩
    have S2 := S1.ext R1 E2
    refine ⟨ρ2, h2, ς, _, _, R2, S2, k2, fun ρ3 h3 H3 k u3 E3 R3 r3 k3 => ?_, ((cv.at R1 E1).at R2 E2).cx R2 S2⟩
    have E13 := (E1.trans R1 E2).trans R2 E3
    exact setS_ok R3 (r2.ext R2 E3) r3 ((r1.ext R1 E2).ext R2 E3) k3 fun h4 H4 E4 R4 k4 => cv.nx ρ3 h4 H4 ς σ (E13.trans R3 E4) R4 ((S2.ext R2 E3).ext R3 E4) k4
theorem rs_aug {i : Nat} {x : Str} {op : Operator} {p' : Pos} (g : Good G X W) (ha : RE G W X a ma) (hN : X.N.Nodup) (hi : X.N[i]? = some x) (hx : Loc X.env.scope x) (hf : X.fn x = true ∨ X.env.scope.names.lookup x = some .local) (hfr : G.free i) :
    RS G W X (.AugAssign (.Name x p') op a pos) (fun κ ς h => ∃ v, ς[i]? = some (some v) ∧ ma (fun e h => κ.ex e ς h) ς h fun w h1 => augB op v w h1 fun u h2 => κ.nx (ς.set i (some u)) h2) := by
  obtain ⟨r, hr, hok⟩ := aug_ok (X := X) op
  refine PS.imp (ps_aug hN hi hx ha hr hf) fun D σ H hw => ?_
  obtain ⟨ρ, h, ς, κ, R, S, ⟨v, e1, z⟩, cv⟩ := hw
  obtain ⟨u, e2, r0⟩ := S.get i v e1
  refine ⟨u, e2, ρ, h, ς, _, _, R, S, z, fun ρ1 h1 H1 w uw E1 R1 r1 k1 => ?_, cv.cx R S⟩
  refine hok G ρ1 h1 H1 v w u uw _ _ g.eK R1 (r0.ext R E1) r1 k1 fun ρ2 h2 H2 y uy E2 R2 r2 k2 => ?_
  exact cv.nx ρ2 h2 H2 _ _ (E1.trans R1 E2) R2 (((S.ext R E1).ext R1 E2).set i hfr r2) k2
theorem rs_augS {o i : Expr} {op : Operator} {p' : Pos} {mo mi : QX → PSt → PH → QV → Prop} (g : Good G X W) (ha : RE G W X a ma) (ho : RE G W X o mo) (hi : RE G W X i mi)
    (hax : ∀ ov iv new, augStore i ov iv new = (do holding [new, ov, iv] (setItem ov iv new); release [new, ov, iv] []; pure .next)) :
    RS G W X (.AugAssign (.Subscript o i p') op a pos) (fun κ ς h => mo (fun e h => κ.ex e ς h) ς h fun v h1 => mi (fun e h => κ.ex e ς h) ς h1 fun k h2 => augG v k h2 fun u h3 => ma (fun e h => κ.ex e ς h) ς h3 fun w h4 => augB op u w h4 fun z h5 => setS v k z h5 fun h6 => κ.nx ς h6) := by
  obtain ⟨r, hr, hok⟩ := aug_ok (X := X) op
  refine PS.imp (ps_augS ho hi (get_dic (by have := g.hu; omega)) ha hr (set_dic (by have := g.hu; omega)) hax) fun D σ H hw => ?_
  obtain ⟨ρ, h, ς, κ, R, S, z, cv⟩ := hw
  refine ⟨ρ, h, ς, _, _, R, S, z, fun ρ1 h1 H1 v u1 E1 R1 r1 k1 => ?_, cv.cx R S⟩
  have S1 := S.ext R E1
  refine ⟨ρ1, h1, ς, _, _, R1, S1, k1, fun ρ2 h2 H2 k u2 E2 R2 r2 k2 => ?_, (cv.at R1 E1).cx R1 S1⟩
  have S2 := S1.ext R1 E2
  refine augG_ok g.eK R2 (r1.ext R1 E2) r2 k2 fun x z rx kx => ?_
  refine ⟨ρ2, h2, ς, _, _, R2, S2, kx, fun ρ4 h4 H4 w u4 E4 R4 r4 k4 => ?_, ((cv.at R1 E1).at R2 E2).cx R2 S2⟩
  refine hok G ρ4 h4 H4 x w z u4 _ _ g.eK R4 (rx.ext R2 E4) r4 k4 fun ρ5 h5 H5 y uy E5 R5 r5 k5 => ?_
  have E15 := ((E1.trans R1 E2).trans R2 E4).trans R4 E5
  exact setS_ok R5 (((r1.ext R1 E2).ext R2 E4).ext R4 E5) ((r2.ext R2 E4).ext R4 E5) r5 k5 fun h6 H6 E6 R6 k6 => cv.nx ρ5 h6 H6 ς σ (E15.trans R5 E6) R6 (((S2.ext R2 E4).ext R4 E5).ext R5 E6) k6
/-! ### loops -/
theorem rs_for {tg iter : Expr} {t : Tg} {ws : List Nat} {mi : MI} (g : GoodC G X W) (hp : PassesOwn (model X.prog X.w) X.A X.env X.xe) (hi : RI G W X tg iter mi) (hg : PG X tg (upG G ws (setT t))) (hb : RSs G W X sts m) (hs : ∀ x, foldedSetIterable iter X.env x = pure x) :
    RS G W X (.For tg iter sts [] pos) (fun κ ς h => mi (fun e h => κ.ex e ς h) ς h fun xs gd h1 => forW gd t m κ xs ς h1) := PS.imp (ps_for hp g.calm hi hg hb hs) fun D σ H hw => by
  obtain ⟨ρ, h, ς, κ, R, S, z, cv⟩ := hw
  refine ⟨ρ, h, ς, _, _, R, S, z, fun ρ1 h1 H1 J xs gd E1 R1 hJ k1 => ?_, cv.cx R S⟩
  have cv1 := cv.at R1 E1
  refine ⟨fun i n σ H => n = xs.length - i ∧ i ≤ xs.length ∧ ∃ ρ h ς, Ext ρ1 h1.length H1 ρ h.length H ∧ HR G.K ρ h H ∧ SR G ρ h.length H ς σ ∧ forW gd t m κ (xs.drop i) ς h, ⟨xs.length, by simp, Nat.zero_le _, ρ1, h1, ς, Ext.refl, R1, S.ext R E1, by simpa using k1⟩, ?_⟩
  rintro i n σ2 H2 ⟨rfl, hi, ρ2, h2, ς2, E2, R2, S2, k2⟩
  by_cases hlt : i < xs.length
  · have hd : xs.drop i = xs[i] :: xs.drop (i + 1) := List.drop_eq_getElem_cons hlt
    rw [hd] at k2
    obtain ⟨gh, k2⟩ := k2
    obtain ⟨hgo, hy⟩ := (hJ ρ2 h2 H2 i E2 R2 gh).1 xs[i] (List.getElem?_eq_getElem hlt)
    refine .inr ⟨hgo, fun σ' H' => i + 1 ≤ xs.length ∧ ∃ ρ h ς, Ext ρ1 h1.length H1 ρ h.length H' ∧ HR G.K ρ h H' ∧ SR G ρ h.length H' ς σ' ∧ forW gd t m κ (xs.drop (i + 1)) ς h, fun σ' H' ⟨z1, z2⟩ => ⟨xs.length - (i + 1), by omega, rfl, z1, z2⟩, fun u H' y => ?_⟩
    obtain ⟨E3, R3, r3⟩ := hy u H' y
    have E13 := E2.trans R2 E3
    refine ⟨ρ2, h2, xs[i], ς2, _, R3, S2.ext R2 E3, r3, k2, fun ς4 σ4 S4 _ k4 => ?_⟩
    refine ⟨ρ2, h2, ς4, _, R3, S4, k4, ?_⟩
    have cv3 := cv1.at R3 E13
    exact ⟨fun ρ' h' H' ς' σ' E' R' S' k => ⟨hlt, ρ', h', ς', E13.trans R3 E', R', S', k⟩, cv3.rt, fun ρ' h' H' ς' σ' E' R' S' k => cv3.nx ρ' h' H' ς' σ' E' R' S' k, fun ρ' h' H' ς' σ' E' R' S' k => ⟨hlt, ρ', h', ς', E13.trans R3 E', R', S', k⟩, cv3.ex⟩
  · have e : i = xs.length := by omega
    subst e
    rw [List.drop_length] at k2
    obtain ⟨gh, k2⟩ := k2
    exact .inl ⟨(hJ ρ2 h2 H2 xs.length E2 R2 gh).2 (Nat.le_refl _), cv1.nx ρ2 h2 H2 ς2 σ2 E2 R2 S2 k2⟩
theorem rs_while (g : Good G X W) (hp : PassesOwn (model X.prog X.w) X.A X.env X.xe) (hc : RT G W X c tc) (hb : RSs G W X sts m) :
    RS G W X (.While c sts [] pos) (fun κ ς h => ∃ n, whileW (fun ς h => tc (fun e h => κ.ex e ς h) ς h) m κ n ς h) := PS.imp (ps_while hp hc hb) fun D σ H hw => by
  obtain ⟨ρ, h, ς, κ, R, S, ⟨n0, z⟩, cv⟩ := hw
  refine ⟨fun n σ H2 => ∃ ρ2 h2 ς, Ext ρ h.length H ρ2 h2.length H2 ∧ HR G.K ρ2 h2 H2 ∧ SR G ρ2 h2.length H2 ς σ ∧ whileW (fun ς h => tc (fun e h => κ.ex e ς h) ς h) m κ n ς h2, ⟨n0, ρ, h, ς, Ext.refl, R, S, z⟩, ?_⟩
  rintro n σ2 H2 ⟨ρ2, h2, ς2, E2, R2, S2, k2⟩
  cases n with
  | zero => exact k2.elim
  | succ n =>
    have cv2 := cv.at R2 E2
    refine ⟨ρ2, h2, ς2, _, _, R2, S2, k2, fun ρ3 h3 H3 b b' E3 R3 eb k3 => ?_, cv2.cx R2 S2⟩
    have eb' : b = b' := eb
    subst eb'
    have S3 := S2.ext R2 E3
    have cv3 := cv2.at R3 E3
    have E13 := E2.trans R2 E3
    cases b with
    | true =>
      simp only [if_true] at k3 ⊢
      refine ⟨fun σ' H' => ∃ ρ2 h2 ς, Ext ρ h.length H ρ2 h2.length H' ∧ HR G.K ρ2 h2 H' ∧ SR G ρ2 h2.length H' ς σ' ∧ whileW (fun ς h => tc (fun e h => κ.ex e ς h) ς h) m κ n ς h2, fun σ' H' z => ⟨n, Nat.lt_succ_self _, z⟩, ?_⟩
      exact ⟨ρ3, h3, ς2, _, R3, S3, k3, ⟨fun ρ' h' H' ς' σ' E' R' S' k => ⟨ρ', h', ς', E13.trans R3 E', R', S', k⟩, cv3.rt, fun ρ' h' H' ς' σ' E' R' S' k => cv3.nx ρ' h' H' ς' σ' E' R' S' k, fun ρ' h' H' ς' σ' E' R' S' k => ⟨ρ', h', ς', E13.trans R3 E', R', S', k⟩, cv3.ex⟩⟩
    | false =>
      simp only [Bool.false_eq_true, if_false] at k3 ⊢
      exact cv3.nx ρ3 h3 H3 ς2 σ2 Ext.refl R3 S3 k3
end
end WD
end
section
set_option Elab.async false
set_option linter.all false
set_option maxRecDepth 100000
set_option autoImplicit false
set_option maxHeartbeats 4000000
/-! WJud6: dicts written out; calls with keywords; constants of the module. -/
namespace WD
open PySem PySem.Spec PyProof.Rows L2
abbrev ME := QX → PSt → PH → QV → Prop
def mPs : List (ME × ME) → QX → PSt → PH → (List (PV × PV) → PH → Prop) → Prop
  | [], x, ς, h, q => q [] h
  | (mk, mv) :: r, x, ς, h, q => mk x ς h fun y h1 => mv x ς h1 fun z h2 => mPs r x ς h2 fun kvs h3 => q ((y, z) :: kvs) h3
inductive RPs (G : GE) (ρ : Nat → Addr) (n : Nat) (H : Hp) : List (PV × PV) → List (V × V) → Prop
  | nil : RPs G ρ n H [] []
  | cons {k v : PV} {x y : V} {r : List (PV × PV)} {s : List (V × V)} : Rep G.K ρ n H k x → Rep G.K ρ n H v y → RPs G ρ n H r s → RPs G ρ n H ((k, v) :: r) ((x, y) :: s)
section
variable {G : GE} {Φ : Phi} {W : WX} {X : Cx} {pos : Pos}
def upPs (G : GE) (W : WX) (ms : List (ME × ME)) : List (TE × TE) := ms.map fun m => (up G W (RV G) m.1, up G W (RV G) m.2)
theorem pairs_up : ∀ (ms : List (ME × ME)) {ρ : Nat → Addr} {h : PH} {H : Hp} {ς : PSt} {σ : L2.St} {x : QX} {q : List (PV × PV) → PH → Prop} {Q : List (V × V) → Hp → Prop}, HR G.K ρ h H → SR G ρ h.length H ς σ → mPs ms x ς h q → Cov G (RPs G) ρ h H q Q → CovX G ρ h H x σ W → tPairs (upPs G W ms) σ H Q
  | [], ρ, h, H, ς, σ, x, q, Q, R, S, k, c, cx => c ρ h H [] [] Ext.refl R .nil k
  | (mk, mv) :: r, ρ, h, H, ς, σ, x, q, Q, R, S, k, c, cx => by
    refine ⟨ρ, h, ς, _, x, R, S, k, fun ρ1 h1 H1 y uy E1 R1 r1 k1 => ?_, cx⟩
    refine ⟨ρ1, h1, ς, _, x, R1, S.ext R E1, k1, fun ρ2 h2 H2 z uz E2 R2 r2 k2 => ?_, cx.at R1 E1⟩
    have E12 := E1.trans R1 E2
    refine pairs_up r R2 (S.ext R E12) k2 (fun ρ3 h3 H3 kvs ps E3 R3 r3 k3 => ?_) (cx.at R2 E12)
    exact c ρ3 h3 H3 _ _ (E12.trans R2 E3) R3 (.cons ((r1.ext R1 E2).ext R2 E3) (r2.ext R2 E3) r3) k3
theorem keysOf_rep {ρ : Nat → Addr} {n : Nat} {H : Hp} : ∀ {kvs : List (PV × PV)} {ps : List (V × V)} {ks : List (Key × PV)}, keysOf kvs = some ks → RPs G ρ n H kvs ps → ∃ us : List (Key × V), ps = us.map (fun kv => (kV kv.1, kv.2)) ∧ RepD G.K ρ n H ks us ∧ us.length = ks.length
  | [], ps, ks, e, r => by
    cases e
    cases r
    exact ⟨[], rfl, .nil, rfl⟩
  | (k, v) :: kvs, ps, ks, e, r => by
    simp only [keysOf] at e
    split at e
    · rename_i k' r' e1 e2
      cases e
      cases r with
      | cons a b t =>
        obtain ⟨us, h1, h2, h3⟩ := keysOf_rep e2 t
        refine ⟨(k', _) :: us, ?_, .cons (keyP_ok e1 a) b h2, by simp [h3]⟩
        rw [List.map_cons, h1, keyP_rep e1 a]
    · cases e
theorem re_dic {keys : List (Option Expr)} {values : List Expr} {ms : List (ME × ME)} (h : PPs X pos keys values (upPs G W ms)) (hall : keys.all (·.isSome) = true) (hl : keys.length = values.length) (h0 : keys ≠ []) (h15 : keys.length ≤ 15) :
    RE G W X (.Dict keys values pos) (fun x ς h q => mPs ms x ς h fun kvs h1 => ∃ ks, keysOf kvs = some ks ∧ ks.length ≤ 15 ∧ q (.loc h1.length) (h1 ++ [.dic (dMerge [] ks)])) := by
  refine PE.imp (pe_disp h hall hl h0 h15) fun σ H Q hw => ?_
  obtain ⟨ρ, h, ς, q, x, R, S, k, c, cx⟩ := hw
  intro p hp
  have E0 : Ext ρ h.length H ρ h.length (upd H p (.dK [])) := Ext.fresh hp
  have R0 : HR G.K ρ h (upd H p (.dK [])) := R.fresh hp
  have nl : ∀ l, l < h.length → ρ l ≠ p := fun l hl z => by
    obtain ⟨o, e⟩ := R.there hl
    rw [z, hp] at e
    cases e
  refine pairs_up ms R0 (S.ext R E0) k (fun ρ2 h2 H2 kvs ps E2 R2 r2 k2 => ?_) (cx.at R0 E0)
  obtain ⟨ks, e1, e2, e3⟩ := k2
  obtain ⟨us, rfl, rd, hn⟩ := keysOf_rep e1 r2
  have hp2 : H2 p = some (.dK []) := E2.keep p _ upd_same nl
  have nl2 := Ext.nl (o := .dK []) upd_same nl E2
  have E : Ext ρ h.length H ρ2 h2.length H2 := E0.trans R0 E2
  refine ⟨hp2, us, rfl, by rw [hn]; exact e2, ?_⟩
  refine dict_new R (Ext.poke hp E) hp c (R2.poke' rfl hp2 nl2) upd_same nl2 ?_ e3
  exact (rd.merge .nil).poke' rfl hp2
/-! ### calls with keywords -/
theorem vals_getD {vs : List V} {us : List Value} (r : Vals vs us) (i : Nat) : RelV (vs.getD i .non) (us.getD i .none) := by
  induction r generalizing i with
  | nil => rfl
  | cons a b ih =>
    cases i with
    | zero => exact a
    | succ i => exact ih i
theorem gP_rel (ix : List Nat) {vs : List V} {us : List Value} {zs : List V} {ws : List Value} (r : Vals vs us) (r' : Vals zs ws) : Vals (gPV ix vs zs) (gP ix us ws) := by
  have h := r.append r'
  unfold gPV gP
  induction ix with
  | nil => exact .nil
  | cons i ix ih => exact .cons (vals_getD h i) ih
theorem reps_pick {ρ : Nat → Addr} {n : Nat} {H : Hp} {xs : List PV} {us : List V} (r : Reps G.K ρ n H xs us) : ∀ {ix : List Nat} {ws : List PV}, ix.mapM (fun i => xs[i]?) = some ws → Reps G.K ρ n H ws (ix.map fun i => us.getD i .non)
  | [], ws, e => by
    have : ([] : List PV) = ws := by simpa using e
    subst this
    exact .nil
  | i :: ix, ws, e => by
    obtain ⟨y, zs, e1, e2, rfl⟩ := mapM_cons_some e
    obtain ⟨u, e3, r1⟩ := r.get e1
    refine .cons ?_ (reps_pick r e2)
    show Rep G.K ρ n H y (us.getD i V.non)
    rw [List.getD_eq_getElem?_getD, e3]
    exact r1
abbrev RK (G : GE) (W : WX) (X : Cx) (ks : List Keyword) (m : QX → PSt → PH → (List PV → PH → Prop) → Prop) : Prop := PK X ks (up G W (RVs G) m)
theorem PK.imp {ks : List Keyword} {t t' : TA} (h : PK X ks t) (i : ∀ σ H Q, t' σ H Q → t σ H Q) : PK X ks t' := ⟨fun pos pins s σ H Q I hw => h.run pos pins s σ H Q I (i σ H Q hw)⟩
theorem rk_nil : RK G W X [] (fun _ _ h q => q [] h) := by
  refine PK.imp pk_nil fun σ H Q hw => ?_
  obtain ⟨ρ, h, ς, q, y, a1, a2, k, a4, a5⟩ := hw
  exact a4 ρ h H _ _ Ext.refl a1 .nil k
theorem rk_cons {a : Expr} {ks : List Keyword} {nm : Option Str} {kp : Pos} {ma : ME} {mes : QX → PSt → PH → (List PV → PH → Prop) → Prop} (ha : RE G W X a ma) (hr : RK G W X ks mes) : RK G W X (⟨nm, a, kp⟩ :: ks) (fun x ς h q => ma x ς h fun v h1 => mes x ς h1 fun vs h2 => q (v :: vs) h2) := by
  refine PK.imp (pk_cons ha hr) fun σ H Q hw => ?_
  refine up_bind (m := ma) (f := fun (v : PV) x ς h q => mes x ς h fun vs h2 => q (v :: vs) h2) hw fun ρ h H1 ς q x v u R S r1 k c cx => ?_
  exact ⟨ρ, h, ς, _, x, R, S, k, fun ρ' h' H' ws us E R' rs k2 => c ρ' h' H' _ _ E R' (.cons (r1.ext R E) rs) k2, cx⟩
theorem run_fnNS {CX : CXT} {k n : Nat} {f : Addr} {fd : FuncData} {ps ks : List Str} {sp : Sp} {E : L2.St → XK} {g : List Value → List Value → List Value} {gV : List V → List V → List V} {pins : List (Addr × Obj)} {σ : L2.St} {H : Hp} {s : Shared} {Q : VK} {us ws : List Value} {vs zs : List V} (F : FnOk X.prog X.w X.K X.mg X.base CX k f fd ps sp) (hr : Room k X.A) (hb : KBn X.K fd ps n ks g gV) (hx : PassesAt CX X σ (E σ))
    (I : Inv X pins σ H s) (r : Vals vs us) (rz : Vals zs ws) (l1 : vs.length = n) (l2 : zs.length = ks.length) (h : sp (gV vs zs) H Q (E σ)) : wpAny (model X.prog X.w) X.A (call (.ref f) us (ks.zip ws)) (EP X pins σ Q) X.xe s := by
  have r2 := hb.rel r rz
  refine wpAny_call (codeAny_mono (F.run X.A X.stack s H ⟨us, ks.zip ws⟩ (g us ws) (gV vs zs) Q (E σ) hr I.env0 (hb.to s us ws I.kIn (r.length.symm.trans l1) (rz.length.symm.trans l2)) r2 h) fun r s' hq => ?_)
  cases r with
  | error e => exact hx pins H s e s' I hq
  | ok fl =>
    cases fl with
    | ret u => exact I.after hq
    | next => exact False.elim hq
    | brk => exact False.elim hq
    | cont => exact False.elim hq
theorem sp_pick {id : Nat} {ρ : Nat → Addr} {h : PH} {H : Hp} {σ : L2.St} {y : QX} {q : QV} {Q : VK} {vs zs ws : List PV} {us wz : List V} {ix : List Nat} (R : HR G.K ρ h H) (rs : Reps G.K ρ h.length H vs us) (rz : Reps G.K ρ h.length H zs wz) (e : ix.mapM (fun i => (vs ++ zs)[i]?) = some ws) (k : Φ id ws h q y) (c : Cov G (RV G) ρ h H q Q) (cx : CovX G ρ h H y σ W) : spOf G Φ id (gPV ix us wz) H Q (WE W σ) :=
  ⟨ρ, h, ws, q, y, R, reps_pick (rs.append rz) e, k, c, fun ρ' h' H' e' k' d' E R' xr z => cx ρ' h' H' e' k' d' E R' xr z⟩
theorem re_callk {x : Str} {id : Nat} {kw : List KwS} {e : KwS} {a : Expr} {es : List Expr} {kws : List Keyword} {p : Pos} {mes mks : QX → PSt → PH → (List PV → PH → Prop) → Prop} (g : Good G X W) (F : FnAt G Φ X x id kw) (he : e ∈ kw) (hid : e.id = id) (hg : Gl X x) (hs : RA G W X (a :: es) mes) (hk : RK G W X kws mks)
    (hdb : (x == ("__debug__" : Str)) = false) (hst : starEach (a :: es) X.env = (false, eval a X.env) :: starEach es X.env) (hall : (backToKw pos (keywordEach kws X.env)).all (·.1.isSome) = true) (hks : (backToKw pos (keywordEach kws X.env)).filterMap (·.1) = e.ks)
    (hpl : ((backTo pos (starEach (a :: es) X.env)).any (·.1) || (backToKw pos (keywordEach kws X.env)).any (·.1.isNone)) = false) :
    RE G W X (.Call (.Name x p) (a :: es) kws pos) (fun y ς h q => mes y ς h fun vs h1 => mks y ς h1 fun zs h2 => vs.length = e.n ∧ zs.length = e.ks.length ∧ ∃ ws, e.ix.mapM (fun i => (vs ++ zs)[i]?) = some ws ∧ Φ id ws h2 q y) := by
  obtain ⟨f, fd, ps, k, h1, h2, h3, h4, h5, h6⟩ := F.ex
  refine ⟨fun pins s σ H Q I hw => ?_⟩
  obtain ⟨ρ, h, ς, q, y, R, S, kk, c, cx⟩ := hw
  refine wpAny_Call_Name_kw (ld_glob I hg h1 ?_ hdb)
  refine PySem.W.callWith_KW (h₀ := X.base) I.ok.mod.kin h4 hall (thn (hs.run pos pins s σ H (fun us H1 => ∃ ρ1 h1 vs, Ext ρ h.length H ρ1 h1.length H1 ∧ HR G.K ρ1 h1 H1 ∧ Reps G.K ρ1 h1.length H1 vs us ∧ mks y ς h1 fun zs h2 => vs.length = e.n ∧ zs.length = e.ks.length ∧ ∃ ws, e.ix.mapM (fun i => (vs ++ zs)[i]?) = some ws ∧ Φ id ws h2 q y) I ⟨ρ, h, ς, _, y, R, S, kk, fun ρ1 h1 H1 vs us E1 R1 r1 k1 => ⟨ρ1, h1, vs, E1, R1, r1, k1⟩, cx⟩) fun us s1 ⟨vs, H1, I1, r, ρ1, hh1, pvs, E1, R1, r1, k1⟩ => ?_) hpl hst
  refine thn (hk.run pos pins s1 σ H1 (fun wz H2 => ∃ ρ2 h2 zs, Ext ρ1 hh1.length H1 ρ2 h2.length H2 ∧ HR G.K ρ2 h2 H2 ∧ Reps G.K ρ2 h2.length H2 zs wz ∧ pvs.length = e.n ∧ zs.length = e.ks.length ∧ ∃ ws, e.ix.mapM (fun i => (pvs ++ zs)[i]?) = some ws ∧ Φ id ws h2 q y) I1 ⟨ρ1, hh1, ς, _, y, R1, S.ext R E1, k1, fun ρ2 h2 H2 zs wz E2 R2 r2 k2 => ⟨ρ2, h2, zs, E2, R2, r2, k2⟩, cx.at R1 E1⟩) fun wz s2 ⟨zs, H2, I2, rz, ρ2, hh2, pzs, E2, R2, r2, l1, l2, ws, ee, k2⟩ => ⟨I2.kIn, ?_⟩
  rw [hks]
  have E12 := E1.trans R1 E2
  have r1' := Reps.ext R1 E2 r1
  exact run_fnNS (E := WE W) h2 h3 (h6 e he hid) (passAt g.tk σ) I2 r rz (by rw [← r1'.length]; exact l1) (by rw [← r2.length]; exact l2) (sp_pick R2 r1' r2 ee k2 (c.at R2 E12) (cx.at R2 E12))
theorem re_callk0 {x : Str} {id : Nat} {kw : List KwS} {e : KwS} {kws : List Keyword} {p : Pos} {mks : QX → PSt → PH → (List PV → PH → Prop) → Prop} (g : Good G X W) (F : FnAt G Φ X x id kw) (he : e ∈ kw) (hid : e.id = id) (hg : Gl X x) (hk : RK G W X kws mks)
    (hdb : (x == ("__debug__" : Str)) = false) (hall : (backToKw pos (keywordEach kws X.env)).all (·.1.isSome) = true) (hks : (backToKw pos (keywordEach kws X.env)).filterMap (·.1) = e.ks)
    (hpl : ((backTo pos (starEach [] X.env)).any (·.1) || (backToKw pos (keywordEach kws X.env)).any (·.1.isNone)) = false) :
    RE G W X (.Call (.Name x p) [] kws pos) (fun y ς h q => mks y ς h fun zs h2 => ([] : List PV).length = e.n ∧ zs.length = e.ks.length ∧ ∃ ws, e.ix.mapM (fun i => ([] ++ zs)[i]?) = some ws ∧ Φ id ws h2 q y) := by
  obtain ⟨f, fd, ps, k, h1, h2, h3, h4, h5, h6⟩ := F.ex
  refine ⟨fun pins s σ H Q I hw => ?_⟩
  obtain ⟨ρ, h, ς, q, y, R, S, kk, c, cx⟩ := hw
  refine wpAny_Call_Name_kw (ld_glob I hg h1 ?_ hdb)
  refine PySem.W.callWith_KW0 (h₀ := X.base) I.ok.mod.kin h4 hall ?_ hpl
  refine thn (hk.run pos pins s σ H (fun wz H2 => ∃ ρ2 h2 zs, Ext ρ h.length H ρ2 h2.length H2 ∧ HR G.K ρ2 h2 H2 ∧ Reps G.K ρ2 h2.length H2 zs wz ∧ ([] : List PV).length = e.n ∧ zs.length = e.ks.length ∧ ∃ ws, e.ix.mapM (fun i => ([] ++ zs)[i]?) = some ws ∧ Φ id ws h2 q y) I ⟨ρ, h, ς, _, y, R, S, kk, fun ρ2 h2 H2 zs wz E2 R2 r2 k2 => ⟨ρ2, h2, zs, E2, R2, r2, k2⟩, cx⟩) fun wz s2 ⟨zs, H2, I2, rz, ρ2, hh2, pzs, E2, R2, r2, l1, l2, ws, ee, k2⟩ => ⟨I2.kIn, ?_⟩
  rw [hks]
  exact run_fnNS (E := WE W) (us := []) (vs := []) h2 h3 (h6 e he hid) (passAt g.tk σ) I2 .nil rz l1 (by rw [← r2.length]; exact l2) (sp_pick R2 .nil r2 ee k2 (c.at R2 E2) (cx.at R2 E2))
/-! ### constants of the module -/
/-- a constant: its value -/
structure CstAt (G : GE) (X : Cx) (x : Str) (v : PV) : Prop where
  ex : ∃ u u', X.mg x = some u' ∧ RelV u u' ∧ ∀ (ρ : Nat → Addr) (n : Nat) (H : Hp), Rep G.K ρ n H v u
/-- a dict of text keys -/
structure DctAt (G : GE) (X : Cx) (x : Str) (ks : List Str) (xs : List PV) : Prop where
  ex : ∃ d es n, X.mg x = some (.ref d) ∧ KDict X.K X.w d es n ∧ (∀ z, ks.contains z = false → PySem.W.nsIn X.K d z = some none) ∧ (∀ z, ks.contains z = true → ∃ u, PySem.W.nsIn X.K d z = some (some u)) ∧
    ∀ z y, rodGet ks xs z = some y → ∃ u v, PySem.W.nsIn X.K d z = some (some u) ∧ RelV v u ∧ ∀ (ρ : Nat → Addr) (n : Nat) (H : Hp), Rep G.K ρ n H y v
theorem re_cst {x : Str} {v : PV} (F : CstAt G X x v) (hg : Gl X x) (hd : (x == ("__debug__" : Str)) = false) : RE G W X (.Name x pos) (fun _ _ h q => q v h) := by
  obtain ⟨u, u', h1, h2, h3⟩ := F.ex
  exact re_c (pe_glob hg h1 h2 hd) h3
section
variable {x : Str} {ks : List Str} {xs : List PV} {a : Expr} {ma : ME} {p : Pos}
def nOp (neg : Bool) : CmpOp := if neg then .NotIn else .In
def rKin (d : Addr) (K : PySem.W.Frag) (neg : Bool) : R2 := fun x y H Q => ∃ (z : Str) (r : Option Value), x = .str z ∧ y = .ref d ∧ PySem.W.nsIn K d z = some r ∧ Q (.bl (if neg then !r.isSome else r.isSome)) H
theorem op_kin {d : Addr} {es : Array DictEntry} {n : Nat} (D : KDict X.K X.w d es n) (neg : Bool) : OpR X (compareOp (nOp neg)) (rKin d X.K neg) := by
  cases neg with
  | true => exact op_notIn_kd D
  | false => exact op_in_kd D
theorem kin_ok {d : Addr} {neg : Bool} {z : Str} {Q : VK} {H : Hp} (h1 : ∀ z, ks.contains z = false → PySem.W.nsIn X.K d z = some none) (h2 : ∀ z, ks.contains z = true → ∃ u, PySem.W.nsIn X.K d z = some (some u)) (k : Q (.bl (if neg then !ks.contains z else ks.contains z)) H) : rKin d X.K neg (.str z) (.ref d) H Q := by
  cases e : ks.contains z with
  | true =>
    obtain ⟨u, e2⟩ := h2 z e
    rw [e] at k
    exact ⟨z, some u, rfl, rfl, e2, k⟩
  | false =>
    rw [e] at k
    exact ⟨z, none, rfl, rfl, h1 z e, k⟩
theorem re_cin (neg : Bool) (F : DctAt G X x ks xs) (hg : Gl X x) (hd : (x == ("__debug__" : Str)) = false) (ha : RE G W X a ma) (hm : behindInMarks (nOp neg) (.Name x p) = false) :
    RE G W X (.Compare a [nOp neg] [.Name x p] pos) (fun y ς h q => ma y ς h fun v h1 => ∃ z, v = PV.str z ∧ q (.bl (if neg then !ks.contains z else ks.contains z)) h1) := by
  obtain ⟨d, es, n, h1, h2, h3, h4, _⟩ := F.ex
  refine PE.imp (pe_cmpR (op_kin h2 neg) ha (pe_glob hg h1 (v := .ref d) rfl hd) hm) fun σ H Q hw => ?_
  refine up_bind (m := ma) (f := fun (v : PV) y ς h q => ∃ z, v = PV.str z ∧ q (PV.bl (if neg then !ks.contains z else ks.contains z)) h) hw fun ρ h H1 ς q y v u R S r1 k c cx => ?_
  obtain ⟨z, rfl, k⟩ := k
  rw [r1.strInv.1]
  exact kin_ok h3 h4 (c.here R (.bl _) k)
theorem rt_cin (neg : Bool) (F : DctAt G X x ks xs) (hg : Gl X x) (hd : (x == ("__debug__" : Str)) = false) (ha : RE G W X a ma) (hm : behindInMarks (nOp neg) (.Name x p) = false) :
    RT G W X (.Compare a [nOp neg] [.Name x p] pos) (fun y ς h q => ma y ς h fun v h1 => ∃ z, v = PV.str z ∧ q (if neg then !ks.contains z else ks.contains z) h1) := by
  obtain ⟨d, es, n, h1, h2, h3, h4, _⟩ := F.ex
  refine PT.imp (pt_cmpR (op_kin h2 neg) ha (pe_glob hg h1 (v := .ref d) rfl hd) hm) fun σ H Q hw => ?_
  refine up_bind (m := ma) (f := fun (v : PV) y ς h q => ∃ z, v = PV.str z ∧ q (if neg then !ks.contains z else ks.contains z) h) hw fun ρ h H1 ς q y v u R S r1 k c cx => ?_
  obtain ⟨z, rfl, k⟩ := k
  rw [r1.strInv.1]
  exact kin_ok (Q := fun v H => ∃ b, v = .bl b ∧ Q b H) h3 h4 ⟨_, rfl, c ρ h H1 _ _ Ext.refl R rfl k⟩
theorem re_cix (F : DctAt G X x ks xs) (hg : Gl X x) (hd : (x == ("__debug__" : Str)) = false) (ha : RE G W X a ma) (hs : PlainIx a) :
    RE G W X (.Subscript (.Name x p) a pos) (fun y ς h q => ma y ς h fun v h1 => ∃ z w, v = PV.str z ∧ rodGet ks xs z = some w ∧ q w h1) := by
  obtain ⟨d, es, n, h1, h2, h3, h4, h5⟩ := F.ex
  refine PE.imp (pe_ix ix_kdict (pe_glob hg h1 (v := .ref d) rfl hd) ha hs) fun σ H Q hw => ?_
  refine up_bind (m := ma) (f := fun (v : PV) y ς h q => ∃ z w, v = PV.str z ∧ rodGet ks xs z = some w ∧ q w h) hw fun ρ h H1 ς q y v u R S r1 k c cx => ?_
  obtain ⟨z, w, rfl, e, k⟩ := k
  obtain ⟨u1, v1, e1, e2, e3⟩ := h5 z w e
  exact ⟨d, z, v1, rfl, r1.strInv.1, ⟨es, n, u1, h2.at_, h2.lit, e1, e2⟩, c.here R (e3 _ _ _) k⟩
end
end
end WD
end
section
set_option Elab.async false
set_option linter.all false
set_option maxRecDepth 100000
set_option autoImplicit false
set_option maxHeartbeats 4000000
/-! WJud7: exceptions: raise, try, what a suite asks. -/
namespace WD
open PySem PySem.Spec PyProof.Rows L2
/-- what an error's own __init__ does: it stores its fields -/
def spInit (C : Addr) (fs : List Str) : Sp := fun vs H Q E => ∃ (a : Addr) (ws : List V), vs = .ref a :: ws ∧ ws.length = fs.length ∧ H a = some (exo a C none) ∧
  ∀ (d : Addr) (H2 : Hp) (fl : List (Str × V)), H d = none → d ≠ a → H2 a = some (exo a C (some d)) → H2 d = some (exd d fl) → (∀ f, fl.lookup f = (fs.zip ws).lookup f) → (∀ b, b ≠ a → b ≠ d → H2 b = H b) → Q .non H2
/-- the error classes of a module -/
structure XRefs (G : GE) (X : Cx) (xc : List (Str × Nat)) : Prop where
  ref : ∀ x c, xc.lookup x = some c → ∃ D, X.mg x = some (.ref D) ∧ ∀ k C ns, G.cls k = some (C, ns) → PySem.W.exmOne X.K (.ref C) (.ref D) = some (xSub k c) ∧ PySem.W.kitOne X.K (.ref C) (.ref D) = some (xSub k c)
  cls : ∀ k C ns, G.cls k = some (C, ns) → ns = xFields k ∧ XfC X.K C ∧ ExcC X.K C ∧ ∀ i f, fName i = some f → PySem.W.findIn X.K (.ref C) f = some none
/-- how they are made -/
structure XMade (G : GE) (X : Cx) (xc : List (Str × Nat)) : Prop where
  made : ∀ x k, xc.lookup x = some k → xFields k ≠ [] → ∃ C, X.mg x = some (.ref C) ∧ G.cls k = some (C, xFields k) ∧ OexC X.K C ∧ ∃ (fI : Addr) (fd : FuncData) (ps : List Str), PySem.W.findIn X.K (.ref C) "__init__" = some (some (.ref fI)) ∧
    PySem.W.typeIn X.K (.ref fI) = some (.type "function") ∧ FnOk X.prog X.w X.K X.mg X.base (L2.CX X.prog X.w) 1 fI fd ps (spInit C (xFields k)) ∧ Room 2 X.A ∧ Binds X.K fd ps []
section
variable {G : GE} {Φ : Phi} {W : WX} {X : Cx} {pos p : Pos} {e : Expr} {es : List Expr} {mes : QX → PSt → PH → (List PV → PH → Prop) → Prop}
theorem xFields_le (k : Nat) : (xFields k).length ≤ 2 := by
  unfold xFields
  have : ∀ r ∈ xTab, r.2.2.length ≤ 2 := by decide
  by_cases h : k < xTab.length
  · rw [List.getD_eq_getElem?_getD, List.getElem?_eq_getElem h]
    exact this _ (List.getElem_mem h)
  · rw [List.getD_eq_getElem?_getD, List.getElem?_eq_none (by omega)]
    exact Nat.zero_le _
theorem rs_raise {x : Str} {k : Nat} {xc : List (Str × Nat)} {pos' : Pos} (g : GoodC G X W) (F : XMade G X xc) (hx : xc.lookup x = some k) (hk : xFields k ≠ []) (hs : RA G W X (e :: es) mes) (hg : Gl X x)
    (hdb : (x == ("__debug__" : Str)) = false) (he : starEach (e :: es) X.env = (false, eval e X.env) :: starEach es X.env) (hpl : ∀ pos, (backTo pos (starEach es X.env)).any (·.1) = false) :
    RS G W X (.Raise (some (.Call (.Name x p) (e :: es) [] pos)) none pos') (fun κ ς h => mes (fun e h => κ.ex e ς h) ς h fun vs h1 => vs.length = (xFields k).length ∧ vs.all atomP = true ∧ κ.ex (.xc k vs) ς h1) := by
  obtain ⟨C, hm, hc, T, fI, fd, ps, iC, tI, F1, hr, hb⟩ := F.made x k hx hk
  refine PS.imp (ps_raise g.calm g.tk (pmk_oex (ds := []) (dvs := []) T iC tI F1 hr hb .nil passL hg hm hs hdb he (hpl _))) fun D σ H hw => ?_
  obtain ⟨ρ, h, ς, κ, R, S, z, cv⟩ := hw
  refine ⟨ρ, h, ς, _, _, R, S, z, fun ρ' h' H' pvs us E R' rs k1 => ?_, cv.cx R S⟩
  obtain ⟨k1, k2, k3⟩ := k1
  have ul : us.length = (xFields k).length := by rw [← rs.length]; exact k1
  have := xFields_le k
  refine ⟨by omega, fun a ha => ⟨a, us ++ [], rfl, by simpa using ul, upd_same, fun d H2 fl hd hda e1 e2 e3 e4 => ?_⟩⟩
  rw [upd_ne hda] at hd
  refine ⟨rfl, d, fl, e1, e2, hd, ?_⟩
  have eH : upd (del H2 a) d (.xd fl) = upd H' d (.xd fl) := by
    funext b
    by_cases hb1 : b = d
    · rw [hb1, upd_same, upd_same]
    · rw [upd_ne hb1, upd_ne hb1]
      by_cases hb2 : b = a
      · rw [hb2, del_same, ha]
      · rw [del_ne hb2, e4 b hb2 hb1, upd_ne hb2]
  rw [eH]
  have E2 : Ext ρ' h'.length H' ρ' h'.length (upd H' d (.xd fl)) := Ext.fresh hd
  refine cv.ex ρ' h' _ ς σ (.xc k pvs) _ _ (E.trans R' E2) (R'.fresh hd) ((S.ext R E).ext R' E2) ⟨k, pvs, C, _, d, us, fl, rfl, hc, rfl, rfl, upd_same, ?_, Reps.ext R' E2 rs, ul⟩ k3
  simpa using e3
/-! ### try -/
def unD : Option Nat → Ends → Ends
  | none, D => D
  | some i, D => { nx := fun σ' H' => D.nx (σ'.set i none) H', rt := D.rt, bk := fun σ' H' => D.bk (σ'.set i none) H', ct := fun σ' H' => D.ct (σ'.set i none) H' }
def entS : Option Nat → Addr → L2.St → L2.St
  | none, _, σ => σ
  | some i, a, σ => σ.set i (some (.ref a))
abbrev HdT := Value × Option Nat × (Addr → Value → Option Addr → TS)
/-- what the clauses wish of an exception of the body, one after the other -/
def wMix (K : PySem.W.Frag) (Wout : WX) (D : Ends) : List HdT → WX
  | [] => Wout
  | (c, o, ts) :: r => fun cls d σ H => ∃ b, PySem.W.exmOne K cls c = some b ∧ (b = true → ∀ a, H a = none → ts a cls d (unD o D) (entS o a σ) H) ∧ (b = false → wMix K Wout D r cls d σ H)
/-- the name of a clause -/
def HdName (X : Cx) : Option Str → Option Nat → Prop
  | none, none => True
  | some n, some i => X.N[i]? = some n ∧ X.env.kindOf n = some .local
  | _, _ => False
inductive HdsMix (X : Cx) : List ExceptHandler → List HdT → Prop
  | nil : HdsMix X [] []
  | cons {x : Str} {c : Value} {nm : Option Str} {o : Option Nat} {ts : Addr → Value → Option Addr → TS} {b₀ : Stmt} {suite : List Stmt} {np pos' : Pos} {hds : List ExceptHandler} {l : List HdT} (hc : Names X x c) (hn : HdName X nm o)
      (hsu : ∀ (a : Addr) (oe : Obj) (cls : Value) (d : Option Addr) (pn : List (Addr × Obj)), Zc cls d oe → (∃ vs, oe.data = .fields vs) → PSs (X.suite a ((a, oe) :: pn)) (b₀ :: suite) (ts a cls d)) (r : HdsMix X hds l) :
      HdsMix X (.ExceptHandler (some (.Name x np)) nm (b₀ :: suite) pos' :: hds) ((c, o, ts) :: l)
theorem ps_try_mix {body : List Stmt} {h₀ : ExceptHandler} {hds : List ExceptHandler} {l : List HdT} {tb : WX → TS} {Wout : WX} (hs : X.stack = X.env :: X.outer) (hf : X.env.frame = some X.env.locals) (hN : X.N.Nodup) (tk : Takes X Wout)
    (hb : ∀ (W : WX) (pn : List (Addr × Obj)) (xe : Value → Shared → Prop), Takes (X.tr pn xe) W → PassesOwn (model X.prog X.w) X.A X.env xe → PSs (X.tr pn xe) body (tb W))
    (hh : HdsMix X (h₀ :: hds) l) : PS X (.Try body (h₀ :: hds) [] [] pos) (fun D σ H => tb (wMix X.K Wout D l) D σ H) := by
  refine ⟨fun pins s σ H D I h => ?_⟩
  have ok := I.ok
  have hfr : X.A.frames = some (X.env :: X.outer) := by rw [ok.frames, hs]
  refine wpAny_Try_except ?_
  refine wpAny_mono ((hb (wMix X.K Wout D l) (X.pn ++ pins) (fun e s₁ => wpAny (model X.prog X.w) X.A (noteFrame e X.env) (fun _ s₂ => wpAny (model X.prog X.w) X.A (setFlight e none) (fun _ s₃ =>
    wpAny (model X.prog X.w) X.A (handleBy e X.env (h₀ :: hds)) (SP X pins D) X.xe s₃) X.xe s₂) X.xe s₁) (fun u s' xx => ?_) PassesOwn.looking).run [] s σ H D (I.toTry _) h) (fun f s1 hsp => ?_) (fun e s1 he => he)
  · obtain ⟨a, B, sI, pins', σ', H', cls, d, rfl, J', nb, up, sky, na, os, ag, w⟩ := xx
    have J : Inv X pins σ' H' sI := J'.ofTry ok
    have sky' : Sky B (X.env :: X.outer) a (Zc cls d) X.env.locals s'.heap := by rw [← hs]; exact sky
    show wpAny (model X.prog X.w) X.A (noteFrame (.ref a) X.env) _ _ _
    refine Sky.land Zc.steady hfr hf sky' fun h3 fl3 up3 => ?_
    have J3 : Inv X pins σ' H' { s' with heap := h3 } := J.landed nb fl3.1 (up.trans up3) os ag
    obtain ⟨oe3, vs3, he3, hz3, hd3⟩ := fl3.there
    have nfr : a ∉ frs (X.env :: X.outer) := fun hm => by
      obtain ⟨_, o', e', hnf⟩ := fl3.2.2.1.mem hm
      rw [he3] at e'
      cases e'
      exact hnf _ hd3
    have nL : a ≠ X.env.locals := fun z => nfr (List.mem_filterMap.mpr ⟨X.env, List.mem_cons_self, by rw [hf, z]⟩)
    have nF : a ∉ X.fs := fun hm => by
      obtain ⟨e, he, q⟩ := List.mem_filterMap.mp hm
      exact nfr (List.mem_filterMap.mpr ⟨e, List.mem_cons_of_mem _ he, q⟩)
    have S3 := J3.suite he3 hd3 na nL nF
    have go : ∀ {hds' : List ExceptHandler} {l' : List HdT}, HdsMix X hds' l' → wMix X.K Wout D l' cls d σ' H' → wpAny (model X.prog X.w) X.A (handleBy (.ref a) X.env hds') (SP X pins D) X.xe { s' with heap := h3 } := by
      intro hds' l' hk
      induction hk with
      | nil =>
        intro w
        refine wpAny_handleBy_nil ?_
        obtain ⟨k1, k2, k3, oe, vs, T, oT, ts', he, hz, hd, h1, hr⟩ := id fl3
        unfold PySem.passOn
        refine wpAny_bind (wpAny_field he hd h1 ?_)
        rw [if_neg (show ¬ ((Value.ref T == Value.none) = true) from by simp)]
        have fin : wpAny (model X.prog X.w) X.A (setFlight (.ref a) X.env.frame) (fun _ s4 => wpAny (model X.prog X.w) X.A (throw (.ref a) : Sem Flow) (SP X pins D) X.xe s4) X.xe { s' with heap := h3 } := by
          rw [hf]
          refine HandSPX.setFlight_upZ fl3 fun h4 hh4 up4 => wpAny_throw (tk _ _ ?_)
          exact ⟨a, B, sI, pins, σ', H', cls, d, rfl, J, nb, (up.trans up3).trans up4, .inr (.inr (by rw [hs]; exact hh4)), na, os, ag, w⟩
        first
          | exact wpAny_bind (wpAny_pure (wpAny_bind fin))
          | exact wpAny_bind fin
      | @cons x c nm o ts b₀ suite np pos' hds2 l2 hc hn hsu r ih =>
        intro w
        obtain ⟨b, hb1, hyes, hno⟩ := w
        refine wpAny_handleBy_cons (codeAny_handlers_test ?_) (by intro q; cases q)
        have LT : PySem.W.Looks (model X.prog X.w) h3 (typeOf (.ref a)) cls := fun A Q E s k q => wpAny_typeOf_ref (k _ _ he3) (by rw [hz3.1]; exact q)
        have LM := PySem.W.exm_one (M := model X.prog X.w) (J3.kIn) LT hb1
        have test : ∀ {Q : Value → Shared → Prop} {E : Value → Shared → Prop}, Q c { s' with heap := h3 } → wpAny (model X.prog X.w) (X.A.mark (some (.ref a))) (eval (.Name x np) X.env) Q E { s' with heap := h3 } := fun {Q E} q => by
          obtain ⟨hg, hdbg, hm | ⟨hm, hv, hnn⟩⟩ := hc
          · exact ld_glob (X := X.suite a ((a, oe3) :: (X.pn ++ pins))) S3 hg hm q hdbg
          · exact ld_blt (X := X.suite a ((a, oe3) :: (X.pn ++ pins))) S3 hg hm hv q hnn hdbg
        refine test (LM.here ?_)
        cases b with
        | false =>
          show wpAny _ X.A (handleBy (.ref a) X.env hds2) _ _ _
          exact ih (hno rfl)
        | true =>
          cases nm with
          | none =>
            cases o with
            | some i => exact hn.elim
            | none =>
              refine codeAny_handlers_suite ?_
              refine HandSPX.lands_againZ fl3 fun h4 fl4 up4 => ?_
              have J4 : Inv X pins σ' H' { s' with heap := h4 } := J.landed nb fl4.1 ((up.trans up3).trans up4) os ag
              obtain ⟨oe4, vs4, he4, hz4, hd4⟩ := fl4.there
              have S4 := J4.suite he4 hd4 na nL nF
              refine wpAny_mono ((hsu a oe4 cls d (X.pn ++ pins) hz4 ⟨_, hd4⟩).run [] _ _ H' _ S4 (hyes rfl a na)) (fun f s6 hsp => ?_) (fun _ _ z => False.elim z)
              cases f with
              | ret u =>
                obtain ⟨v6, σ6, H6, S6, r6, q6⟩ := hsp
                exact ⟨_, _, _, S6.unsuite ok, r6, q6⟩
              | _ =>
                obtain ⟨σ6, H6, S6, q6⟩ := hsp
                exact ⟨_, _, S6.unsuite ok, q6⟩
          | some n =>
            cases o with
            | none => exact hn.elim
            | some i =>
              obtain ⟨hi, hln⟩ := hn
              refine codeAny_handlers_suite_as ?_
              refine HandSPX.lands_againZ fl3 fun h4 fl4 up4 => ?_
              have J4 : Inv X pins σ' H' { s' with heap := h4 } := J.landed nb fl4.1 ((up.trans up3).trans up4) os ag
              obtain ⟨oe4, vs4, he4, hz4, hd4⟩ := fl4.there
              have S4 := J4.suite he4 hd4 na nL nF
              refine store_ok (X := X.suite a ((a, oe4) :: (X.pn ++ pins))) (v := .ref a) S4 hN hi (.inl hln) rfl (fun s5 S5 => ?_) (.inr hln)
              refine wpAny_mono ((hsu a oe4 cls d (X.pn ++ pins) hz4 ⟨_, hd4⟩).run [] s5 _ H' _ S5 (hyes rfl a na)) (fun f s6 hsp => ?_) (fun _ _ z => False.elim z)
              have end_ : ∀ {σ6 : L2.St} {H6 : Hp} {Q : Shared → Prop}, Inv (X.suite a ((a, oe4) :: (X.pn ++ pins))) [] σ6 H6 s6 → (∀ s7, Inv X pins (σ6.set i none) H6 s7 → Q s7) →
                  wpAny (model X.prog X.w) X.A (do bindName X.env n .none; unbindBehindTheSuite X.env n pos') (fun _ s7 => Q s7) X.xe s6 := fun {σ6 H6 Q} S6 hq => gone_ok (S6.unsuite ok) hN hi hln hq
              cases f with
              | ret u =>
                obtain ⟨v6, σ6, H6, S6, r6, q6⟩ := hsp
                exact end_ S6 fun s7 J7 => ⟨_, _, _, J7, r6, q6⟩
              | _ =>
                obtain ⟨σ6, H6, S6, q6⟩ := hsp
                exact end_ S6 fun s7 J7 => ⟨_, _, J7, q6⟩
    exact go hh w
  · cases f with
    | next =>
      obtain ⟨σ', H', J', q⟩ := hsp
      exact wpAny_execs_nil ⟨σ', H', J'.ofTry ok, q⟩
    | brk =>
      obtain ⟨σ', H', J', q⟩ := hsp
      exact ⟨σ', H', J'.ofTry ok, q⟩
    | cont =>
      obtain ⟨σ', H', J', q⟩ := hsp
      exact ⟨σ', H', J'.ofTry ok, q⟩
    | ret u =>
      obtain ⟨v, σ', H', J', r, q⟩ := hsp
      exact ⟨v, σ', H', J'.ofTry ok, r, q⟩
/-! ### what a suite asks of the exception -/
theorem atom_rep {K : PySem.W.Frag} {ρ : Nat → Addr} {n : Nat} {H : Hp} {v : PV} {u : V} (a : atomP v = true) (r : Rep K ρ n H v u) : ∀ (ρ' : Nat → Addr) (n' : Nat) (H' : Hp), Rep K ρ' n' H' v u := by
  intro ρ' n' H'
  cases r with
  | non => exact .non
  | bl b => exact .bl b
  | int i => exact .int i
  | str x e => exact .str x e
  | _ => cases a
/-- the fields, as they stand in the exception's dict -/
def XA (K : PySem.W.Frag) (k : Nat) (fs : List PV) (fl : List (Str × V)) : Prop := ∀ f v, xGet k fs f = some v → atomP v = true → ∃ u, fl.lookup f = some u ∧ ∀ (ρ : Nat → Addr) (n : Nat) (H : Hp), Rep K ρ n H v u
theorem xa_zip {K : PySem.W.Frag} {ρ : Nat → Addr} {n : Nat} {H : Hp} {f : Str} {v : PV} : ∀ {ns : List Str} {fs : List PV} {us : List V}, Reps K ρ n H fs us → (ns.zip fs).lookup f = some v → ∃ u, (ns.zip us).lookup f = some u ∧ Rep K ρ n H v u
  | [], _, _, _, e => by simp at e
  | x :: ns, _, _, .nil, e => by simp at e
  | x :: ns, _, _, .cons (x := y) (u := w) r t, e => by
    rw [List.zip_cons_cons, List.lookup_cons] at e ⊢
    split at e
    · rename_i h
      cases e
      exact ⟨_, rfl, r⟩
    · rename_i h
      exact xa_zip t e
theorem re_xf {a C : Addr} {oe : Obj} {pn : List (Addr × Obj)} {n f : Str} {p1 : Pos} {k : Nat} {fs : List PV} {fl : List (Str × V)} {i : Nat} {dd : Addr} (hx : G.xh = some ⟨i, a, dd, fl⟩) (hA : XA G.K k fs fl) (T : XfC X.K C) (hno : PySem.W.findIn X.K (.ref C) f = some none)
    (hz : Zc (.ref C) (some dd) oe) (hf : ∃ vs, oe.data = .fields vs) (hN : X.N[i]? = some n) (hv : Vis X.env.scope n) (hd : (n == ("__debug__" : Str)) = false) (hcd : (n == ("__classdict__" : Str)) = false) :
    RE G W (X.suite a ((a, oe) :: pn)) (.Attribute (.Name n p1) f pos) (fun _ ς h q => ∃ v, xGet k fs f = some v ∧ atomP v = true ∧ q v h) := by
  refine PE.imp (pe_xf T hno hz hf (pe_var (X := X.suite a ((a, oe) :: pn)) hN hv hd hcd) rfl) fun σ H Q hw => ?_
  obtain ⟨ρ, h, ς, q, y, R, S, ⟨v, e1, e2, k1⟩, c, cx⟩ := hw
  obtain ⟨g1, g2⟩ := S.gh _ hx
  obtain ⟨u, e3, e4⟩ := hA f v e1 e2
  exact ⟨_, g1, rfl, rfl, dd, fl, u, rfl, g2, e3, c.here R (e4 _ _ _) k1⟩
/-- isinstance(e, C), e the exception that the suite holds, with its dict -/
def rIsD (K : PySem.W.Frag) (C a dd : Addr) : List V → Hp → VK → Prop := fun xs H Q => ∃ (D : Addr) (b : Bool) (fl : List (Str × V)), xs = [.ref a, .ref D] ∧ PySem.W.kitOne K (.ref C) (.ref D) = some b ∧ H dd = some (.xd fl) ∧ Q (.bl b) H
theorem call_isD {a C dd : Addr} {oe : Obj} {pn : List (Addr × Obj)} (E : ExcC X.K C) (hz : Zc (.ref C) (some dd) oe) (hf : ∃ vs, oe.data = .fields vs) : CallR (X.suite a ((a, oe) :: pn)) (.builtin "isinstance") (rIsD X.K C a dd) := by
  intro pins s σ H xs us Q I r h
  obtain ⟨D, b, fl, rfl, e, ed, q⟩ := h
  cases r with
  | cons rx rr =>
    cases rr with
    | cons rt rr =>
      cases rr
      cases rx
      cases rt
      obtain ⟨hget, _⟩ := I.pin (a, oe) (List.mem_append.mpr (.inl List.mem_cons_self))
      obtain ⟨vs, hv⟩ := hf
      have hx : ObjOk X.prog X.w H s.heap dd (.xd fl) := I.hok dd _ ed
      obtain ⟨mA, hns, hr⟩ := hx
      obtain ⟨od, ho, hl⟩ := lookIn_ns hns
      have J : PySem.W.InstAt s.heap a oe C (some od) := ⟨hget, hz.1, by unfold PySem.W.notCls; rw [hv] <;> rfl, by rw [hz.2]; exact ho⟩
      have hcl : (PySem.W.clsIn X.K C).isSome = true := by
        obtain ⟨cd, hc, _⟩ := PySem.W.any_some E.hd
        rw [hc] <;> rfl
      exact PySem.W.kia_one (PySem.W.kitx_exc hcl E.hg E.hk E.hs E.ha E.hn E.ht E.hm) I.kIn J e (fun z => nomatch z) fun tk => ⟨.bl b, H, I.kept (t' := tk) fun _ _ z => z, rfl, q⟩
theorem re_xis {a C D : Addr} {oe : Obj} {pn : List (Addr × Obj)} {n x z : Str} {p1 p2 p3 : Pos} {fl : List (Str × V)} {i : Nat} {dd : Addr} {b : Bool} (hx : G.xh = some ⟨i, a, dd, fl⟩) (E : ExcC X.K C) (hz : Zc (.ref C) (some dd) oe) (hf : ∃ vs, oe.data = .fields vs)
    (hN : X.N[i]? = some n) (hv : Vis X.env.scope n) (hd : (n == ("__debug__" : Str)) = false) (hcd : (n == ("__classdict__" : Str)) = false) (hi : z = "isinstance") (hg : Gl X z) (hm : X.mg z = none) (hgx : Gl X x) (hmx : X.mg x = some (.ref D)) (hdx : (x == ("__debug__" : Str)) = false)
    (hk : PySem.W.kitOne X.K (.ref C) (.ref D) = some b) :
    RE G W (X.suite a ((a, oe) :: pn)) (.Call (.Name z p1) [.Name n p2, .Name x p3] [] pos) (fun _ ς h q => q (.bl b) h) := by
  subst hi
  refine PE.imp (pe_callF (X := X.suite a ((a, oe) :: pn)) (f := .builtin "isinstance") (call_isD E hz hf) (.inl ⟨_, rfl⟩) hg hm (by decide +kernel) (pa_cons (pe_var (X := X.suite a ((a, oe) :: pn)) hN hv hd hcd) (pa_cons (pe_glob (X := X.suite a ((a, oe) :: pn)) hgx hmx (v := .ref D) rfl hdx) pa_nil rfl) rfl) (by decide) (by decide) rfl rfl) fun σ H Q hw => ?_
  obtain ⟨ρ, h, ς, q, y, R, S, k1, c, cx⟩ := hw
  obtain ⟨g1, g2⟩ := S.gh _ hx
  exact ⟨_, g1, D, b, fl, rfl, hk, g2, c.here R (.bl _) k1⟩
end
end WD
end
section
set_option Elab.async false
set_option linter.all false
set_option maxRecDepth 100000
set_option autoImplicit false
set_option maxHeartbeats 4000000
/-! WTr: from the syntax to the small language. -/
namespace WD
open PySem PySem.Spec PyProof.Rows L2
structure TEnv where
  N : List Str
  sc : Scope
  /-- the names of the block, if it is a comprehension's -/
  blk : Option (List (Str × NameKind))
  /-- the defs of the module -/
  gl : List (Str × Nat)
  /-- names that the module does not bind -/
  fr : List Str
  /-- the calls with keywords -/
  kw : List KwS
  /-- constants; dicts of text keys -/
  cs : List (Str × PV)
  cd : List (Str × List Str × List PV)
  /-- an except suite: the name of its exception -/
  hot : Bool
  xn : Option Str
  /-- the error classes -/
  xc : List (Str × Nat)
def TEnv.suite (T : TEnv) (nm : Option Str) : TEnv := { T with hot := true, xn := nm, gl := [], kw := [], cd := [] }
def TEnv.vis (T : TEnv) (x : Str) : Bool := match T.sc.names.lookup x with
  | some .local => true
  | some .cell => true
  | some .free => true
  | _ => false
def TEnv.loc (T : TEnv) (x : Str) : Bool := match T.sc.names.lookup x with
  | some .local => true
  | some .cell => true
  | _ => false
def blkStor (b : Option (List (Str × NameKind))) (x : Str) : Bool := match b with
  | none => true
  | some ns => match ns.lookup x with
    | some .local => true
    | some .cell => true
    | _ => false
def TEnv.stor (T : TEnv) (x : Str) : Bool := blkStor T.blk x && !decide (T.xn = some x)
def TEnv.glob (T : TEnv) (x : Str) : Bool := match T.sc.names.lookup x with
  | some .globalImplicit => !(x == ("__debug__" : Str))
  | _ => false
/-- a name that means the built-in -/
def TEnv.blt (T : TEnv) (x : Str) : Bool := T.glob x && T.fr.contains x
def ixName : List Str → Str → Option Nat
  | [], _ => none
  | y :: r, x => if y = x then some 0 else (ixName r x).map (· + 1)
theorem ixName_get : ∀ {N : List Str} {x : Str} {i : Nat}, ixName N x = some i → N[i]? = some x
  | [], _, _, e => by cases e
  | y :: r, x, i, e => by
    unfold ixName at e
    split at e
    · rename_i h
      cases e
      simp [h]
    · obtain ⟨j, h1, h2⟩ := Option.map_eq_some_iff.mp e
      have h2' : j + 1 = i := h2
      subst h2'
      simpa using ixName_get h1
def badName (x : Str) : Bool := (x == ("__debug__" : Str)) || (x == ("__classdict__" : Str))
def strOkL (x : Str) : Bool := x.cps.toList.all fun c => decide (c < 0x110000)
theorem strOk_ofL {x : Str} (h : strOkL x = true) : PyData.strOk x = true := by
  rw [strOk_iff]
  intro c hc
  have := List.all_eq_true.mp h c hc
  exact of_decide_eq_true this
abbrev Tr := Ex ⊕ Lx
def asE : Tr → Ex
  | .inl e => e
  | .inr l => .new l
def asLa : Tr → La
  | .inl e => .e e
  | .inr l => .l l
def isSl : Expr → Bool
  | .Slice .. => true
  | _ => false
def isStar : Expr → Bool
  | .Starred .. => true
  | _ => false
def trEs (f : Expr → Option Tr) : List Expr → Option Exs
  | [] => some .nil
  | e :: r => if isStar e then none else do
    let a ← f e
    let b ← trEs f r
    some (.cons (asE a) b)
def trAnd (f : Expr → Option Tr) : List Expr → Option Ex
  | [] => none
  | [a] => (f a).map asE
  | a :: r => do
    let x ← f a
    let y ← trAnd f r
    some (.and (asE x) y)
def trOr (f : Expr → Option Tr) : List Expr → Option Ex
  | [] => none
  | [a] => (f a).map asE
  | a :: r => do
    let x ← f a
    let y ← trOr f r
    some (.or (asE x) y)
def trO (f : Expr → Option Tr) : Option Expr → Option OEx
  | none => some .no
  | some e => (f e).map fun r => .some (asE r)
def trPs (f : Expr → Option Tr) : List (Option Expr) → List Expr → Option Prs
  | [], [] => some .nil
  | some k :: ks, v :: vs => do
    let a ← f k
    let b ← f v
    let r ← trPs f ks vs
    some (.cons (asE a) (asE b) r)
  | _, _ => none
def trKs (f : Expr → Option Tr) : List Keyword → Option Exs
  | [] => some .nil
  | k :: r => do
    let a ← f k.value
    let b ← trKs f r
    some (.cons (asE a) b)
def kwNames : List Keyword → Option (List Str)
  | [] => some []
  | k :: r => match k.arg, kwNames r with
    | some x, some xs => some (x :: xs)
    | _, _ => none
/-- a target of slots -/
def trTs (f : Expr → Option Tg) : List Expr → Option (List Tg)
  | [] => some []
  | e :: r => if isStar e then none else do
    let a ← f e
    let b ← trTs f r
    some (a :: b)
def trTg (T : TEnv) : Nat → Expr → Option Tg
  | 0, _ => none
  | n + 1, e => match e with
    | .Name x _ => if T.loc x && T.stor x then (ixName T.N x).map .slot else none
    | .Tuple es _ _ => (trTs (trTg T n) es).map .tup
    | _ => none
mutual
def slotsT : Tg → List Nat
  | .slot i => [i]
  | .tup ts => slotsTs ts
def slotsTs : List Tg → List Nat
  | [] => []
  | t :: ts => slotsT t ++ slotsTs ts
end
/-- built-in functions by name and number of arguments -/
def bifTab : List (Str × Nat × Bif) := [("len", 1, .len), ("int", 1, .int), ("str", 1, .str), ("abs", 1, .abs), ("bool", 1, .bool), ("min", 2, .min2), ("max", 2, .max2)]
def lifTab : List (Str × Lif) := [("tuple", .tuple), ("len", .len), ("sum", .sum), ("max", .max), ("min", .min), ("all", .all), ("any", .any)]
def tyTab : List (Str × String) := [("int", "int"), ("bool", "bool"), ("str", "str"), ("tuple", "tuple"), ("list", "list"), ("dict", "dict")]
def bifAt (x : Str) (k : Nat) : Option Bif := (bifTab.find? fun p => decide (p.1 = x) && decide (p.2.1 = k)).map (·.2.2)
def lifAt (x : Str) : Option Lif := (lifTab.find? fun p => decide (p.1 = x)).map (·.2)
def tyAt (x : Str) : Option String := (tyTab.find? fun p => decide (p.1 = x)).map (·.2)
/-- what a loop walks -/
def trI (T : TEnv) (f : Expr → Option Tr) (tg : Expr) (e : Expr) : Option Wk := match e with
  | .Call (.Name x _) [a] [] _ =>
    if T.blt x && decide (x = "range") then if isStar a then none else (f a).map fun r => .range1 (asE r)
    else if T.blt x && decide (x = "enumerate") then (match tg with
      | .Tuple _ _ _ => if isStar a then none else (f a).map fun r => .enum (asLa r)
      | _ => none)
    else (f e).map fun r => .la (asLa r)
  | .Call (.Name x _) [a, b] [] _ =>
    if T.blt x && decide (x = "range") then if isStar a || isStar b then none else do
      let r ← f a
      let s ← f b
      some (.range2 (asE r) (asE s))
    else (f e).map fun r => .la (asLa r)
  | .Call (.Name x _) [a, b, c] [] _ =>
    if T.blt x && decide (x = "range") then if isStar a || isStar b || isStar c then none else do
      let r ← f a
      let s ← f b
      let t ← f c
      some (.range3 (asE r) (asE s) (asE t))
    else (f e).map fun r => .la (asLa r)
  | .Set .. => none
  | _ => (f e).map fun r => .la (asLa r)
/-- a dict of the module -/
def dctAt (T : TEnv) : Expr → Option (Str × List Str × List PV)
  | .Name x _ => if !T.vis x && T.glob x then (T.cd.lookup x).map fun r => (x, r) else none
  | _ => none
def inOp : CmpOp → Option Bool
  | .In => some false
  | .NotIn => some true
  | _ => none
def trCmp1 (T : TEnv) (f : Expr → Option Tr) (a : Expr) (o : CmpOp) (b : Expr) : Option Tr :=
  if behindInMarks o b then none else match inOp o, dctAt T b with
  | some neg, some r => (f a).map fun x => .inl (.cin neg r.2.1 (asE x))
  | _, _ => do
    let x ← f a
    let y ← f b
    some (.inl (.cmp o (asE x) (asE y)))
def trIx (T : TEnv) (f : Expr → Option Tr) (a i : Expr) : Option Tr := match dctAt T a with
  | some r => (f i).map fun y => .inl (.cix r.2.1 r.2.2 (asE y))
  | none => do
    let x ← f a
    let y ← f i
    some (.inl (.ix (asE x) (asE y)))
/-- the ends of a range -/
def rngOf (T : TEnv) (f : Expr → Option Tr) : Expr → Option (OEx × OEx)
  | .Call (.Name r _) [b] [] _ => if T.blt r && decide (r = "range") && !isStar b then (f b).map fun y => (.no, .some (asE y)) else none
  | .Call (.Name r _) [b, c] [] _ => if T.blt r && decide (r = "range") && !isStar b && !isStar c then do
      let y ← f b
      let z ← f c
      some (.some (asE y), .some (asE z))
    else none
  | _ => none
/-- a built-in function of one argument -/
def tr1 (T : TEnv) (f : Expr → Option Tr) (x : Str) (a : Expr) : Option Tr :=
  if isStar a then none else match rngOf T f a with
  | some (lo, hi) => if decide (x = "list") then some (.inr (.rng lo hi)) else if decide (x = "tuple") then some (.inl (.tupR lo hi)) else none
  | none => do
    let r ← f a
    if decide (x = "list") then some (.inr (.list (asLa r)))
    else if decide (x = "sorted") then some (.inr (.sort (asLa r)))
    else match r, bifAt x 1, lifAt x with
      | .inl e, some b, _ => some (.inl (.bif b (.cons e .nil)))
      | _, _, some b => some (.inl (.lif b (asLa r)))
      | _, _, _ => none
/-- a call with keywords -/
def trKw (T : TEnv) (f : Expr → Option Tr) (x : Str) (args : List Expr) (kws : List Keyword) : Option Tr :=
  match (if T.glob x then T.gl.lookup x else none), kwNames kws with
  | some id, some nm => (match T.kw.find? (fun e => decide (e.id = id) && decide (e.n = args.length) && decide (e.ks = nm)) with
    | some e => do
      let r ← trEs f args
      let s ← trKs f kws
      some (.inl (.callk id e.n e.ks.length r s e.ix))
    | none => none)
  | _, _ => none
/-- the block of a comprehension -/
def TEnv.block (T : TEnv) (scope : Scope) : TEnv := { T with sc := relS scope T.sc, blk := some scope.names }
def ownOf (T : TEnv) (scope : Scope) : List (Str × Nat) := scope.names.filterMap fun y => match y.2 with
  | .local => (ixName T.N y.1).map fun i => (y.1, i)
  | .cell => (ixName T.N y.1).map fun i => (y.1, i)
  | _ => none
def mthAt (m : Str) (k : Nat) : Option Mth :=
  if m = "append" then (if k = 1 then some .append else none)
  else if m = "pop" then (if k = 0 then some .pop else if k = 1 then some .popAt else none)
  else if m = "insert" then (if k = 2 then some .insert else none)
  else if m = "reverse" then (if k = 0 then some .reverse else none)
  else if m = "get" then (if k = 1 then some .get else if k = 2 then some .getD else none)
  else none
/-- what is no call of super() -/
def noSuper : Expr → Bool
  | .Call (.Name _ _) [] [] _ => false
  | _ => true
/-- what is neither a test nor a compare -/
def plainX : Expr → Bool
  | .BoolOp .. => false
  | .UnaryOp .Not _ _ => false
  | .Compare .. => false
  | _ => true
def isTest : Ex → Bool
  | .and _ _ => true
  | .or _ _ => true
  | .not _ => true
  | .cmp _ _ _ => true
  | .chn _ _ _ _ _ => true
  | .cin _ _ _ => true
  | _ => false
def trB (f : TEnv → Expr → Option Tr) (T : TEnv) (e : Expr) : Option Tr := match e with
    | .Name x _ => if T.vis x then (if !badName x then (ixName T.N x).map fun i => .inl (.var i) else none) else if T.glob x then (T.cs.lookup x).map fun v => .inl (.cst v x) else none
    | .Dict keys values _ => if keys.length ≤ 15 then (trPs (f T) keys values).map fun r => .inl (.dic r) else none
    | .Constant (.int i) _ _ => some (.inl (.int i))
    | .Constant (.bool b) _ _ => some (.inl (.bl b))
    | .Constant .none _ _ => some (.inl .non)
    | .Constant (.str x) _ _ => if strOkL x then some (.inl (.str x)) else none
    | .Tuple es _ _ => (trEs (f T) es).map fun r => .inl (.tup r)
    | .List es _ => (trEs (f T) es).map fun r => .inr (.disp r)
    | .BinOp a o b _ => do
      let x ← f T a
      let y ← f T b
      match o, x, y with
      | .Add, .inr _, _ => some (.inr (.cat (asLa x) (asLa y)))
      | .Add, _, .inr _ => some (.inr (.cat (asLa x) (asLa y)))
      | .Mult, .inr _, _ => some (.inr (.rep (asLa x) (asE y)))
      | _, _, _ => some (.inl (.bin o (asE x) (asE y)))
    | .UnaryOp .USub a _ => (f T a).map fun r => .inl (.neg (asE r))
    | .UnaryOp .Not a _ => (f T a).map fun r => .inl (.not (asE r))
    | .Compare a [o] [b] _ => trCmp1 T (f T) a o b
    | .Compare a [o, o'] [b, c] _ => if behindInMarks o' c then none else do
      let x ← f T a
      let y ← f T b
      let z ← f T c
      some (.inl (.chn o o' (asE x) (asE y) (asE z)))
    | .BoolOp .And es _ => (trAnd (f T) es).map .inl
    | .BoolOp .Or es _ => (trOr (f T) es).map .inl
    | .IfExp c a b _ => do
      let z ← f T c
      let x ← f T a
      let y ← f T b
      some (.inl (.ifx (asE z) (asE x) (asE y)))
    | .Subscript a i _ => (match i with
      | .Slice lo hi none _ => do
        let x ← f T a
        let l ← trO (f T) lo
        let u ← trO (f T) hi
        match x with
        | .inl x => some (.inl (.sl x l u))
        | .inr x => some (.inr (.cut (.l x) l u))
      | .Slice _ _ (some _) _ => none
      | _ => trIx T (f T) a i)
    | .Call (.Name x _) args [] _ => (match (if T.glob x then T.gl.lookup x else none) with
      | some id => (trEs (f T) args).map fun r => .inl (.call id r)
      | none => if T.blt x then (match args with
        | [a] => tr1 T (f T) x a
        | [a, b] => if isStar a || isStar b then none else
          (match decide (x = "isinstance"), b with
          | true, .Name t _ => if T.blt t then do
              let r ← f T a
              let ty ← tyAt t
              some (.inl (.bif (.isT ty) (.cons (asE r) .nil)))
            else none
          | _, _ => do
            let g ← bifAt x 2
            let r ← f T a
            let s ← f T b
            some (.inl (.bif g (.cons (asE r) (.cons (asE s) .nil)))))
        | _ => none) else none)
    | .Call (.Name x _) args (k :: kws) _ => trKw T (f T) x args (k :: kws)
    | .Call (.Attribute o m apos) args [] cpos => if !noSuper o || !(apos.endLine == cpos.line) then none else do
      let r ← f T o
      match args with
      | [] => do
        let g ← mthAt m 0
        some (.inl (.mth g (asE r) .nil))
      | [a] => if isStar a then none else
        if decide (m = "extend") then do
          let s ← f T a
          some (.inl (.ext (asE r) (asLa s)))
        else do
          let g ← mthAt m 1
          let s ← f T a
          some (.inl (.mth g (asE r) (.cons (asE s) .nil)))
      | [a, b] => if isStar a || isStar b then none else do
        let g ← mthAt m 2
        let s ← f T a
        let t ← f T b
        some (.inl (.mth g (asE r) (.cons (asE s) (.cons (asE t) .nil))))
      | _ => none
    | .ListComp elt [⟨tg, iter, ifs, 0⟩] scope _ =>
      if blkC T.N T.sc scope (ownOf T scope) then do
        let it ← trI T (f T) tg iter
        let t ← trTg (T.block scope) 4 tg
        if (slotsT t).all fun i => (ownOf T scope).any fun p => p.2 == i then do
          let x ← f (T.block scope) elt
          match ifs with
          | [] => some (.inr (.comp ((ownOf T scope).map (·.2)) (asE x) t it .no))
          | [c] => do
            let y ← f (T.block scope) c
            some (.inr (.comp ((ownOf T scope).map (·.2)) (asE x) t it (.some (asE y))))
          | _ => none
        else none
      else none
    | _ => none
/-- what a suite asks of its exception -/
def trXc (T : TEnv) : Expr → Option Ex
  | .Attribute (.Name x _) f _ => if decide (T.xn = some x) && T.vis x && !badName x then (fidOf f).map fun i => .call i .nil else none
  | .Call (.Name z _) [.Name x _, .Name c _] [] _ => if decide (T.xn = some x) && T.vis x && !badName x && T.blt z && decide (z = "isinstance") && T.glob c then (T.xc.lookup c).map fun k => .call (910000 + k) .nil else none
  | _ => none
/-- what may stand in a suite -/
def okHot : Expr → Bool
  | .ListComp .. => false
  | .Call (.Name x _) [_, _] [] _ => decide (x = "isinstance")
  | .Call (.Name _ _) _ _ _ => false
  | _ => true
def trX : Nat → TEnv → Expr → Option Tr
  | 0, _, _ => none
  | n + 1, T, e => match trXc T e with
    | some m => some (.inl m)
    | none => if T.hot && !okHot e then none else match trB (trX n) T e with
      | some r => if plainX e && isTest (asE r) then none else some r
      | none => none
/-! ### statements -/
/-- the stores of a written pair, as the machine decides them -/
def swP (look : Str → Option NameKind) (targets : List Expr) (value : Expr) : Option (Option (List Str)) :=
  match targets, value with
  | [.Tuple ts _ _], .Tuple vs _ _ =>
    if !(ts.length == 2 || ts.length == 3) || vs.length != ts.length then some none
    else if vs.any fun | .Starred .. => true | _ => false then some none
    else
      let line := (ts.head?.map (·.pos.line)).getD 0
      let names := ts.filterMap fun
        | .Name id pos => if look id == some .local && pos.line == line then some id else none
        | _ => none
      if names.length != ts.length || names.eraseDups.length != names.length then some none
      else if vs.all (foldedForSure 8) then some none
      else if vs.all (constantsAlone 8) then none
      else some (some names)
  | [.List _ _], .Tuple _ _ _ => none
  | _, _ => some none
def isComp : Expr → Bool
  | .ListComp .. => true
  | .SetComp .. => true
  | .DictComp .. => true
  | _ => false
def trSs (f : Stmt → Option Sm) : List Stmt → Option Sms
  | [] => some .nil
  | s :: r => do
    let a ← f s
    let b ← trSs f r
    some (.cons a b)
/-- a comprehension's own names hold this one -/
def compOwn (t : Str) : Expr → Bool
  | .ListComp _ _ s _ => s.names.any fun (n, k) => n == t && (k == .local || k == .cell)
  | _ => true
def trHs (f : TEnv → Stmt → Option Sm) (T : TEnv) : List ExceptHandler → Option Hds
  | [] => some .nil
  | .ExceptHandler (some (.Name x _)) nm (b₀ :: suite) _ :: r => if T.glob x && !T.vis x then do
      let c ← T.xc.lookup x
      let i ← (match nm with
        | none => some none
        | some n => if T.sc.names.lookup n = some .local then (ixName T.N n).map some else none)
      let s ← trSs (f (T.suite nm)) (b₀ :: suite)
      let q ← trHs f T r
      some (.cons c i s q)
    else none
  | _ => none
def okHotS : Stmt → Bool
  | .Assign [.Tuple _ _ _] _ _ => false
  | .For .. => false
  | .While .. => false
  | .Try .. => false
  | .Raise .. => false
  | _ => true
def trS : Nat → TEnv → Stmt → Option Sm
  | 0, _, _ => none
  | n + 1, T, s => if T.hot && !okHotS s then none else match s with
    | .Expr e _ => (match e with
      | .Constant (.str _) _ _ => some (.ct .pass)
      | _ => if isComp e then none else (trX 60 T e).map fun r => .expr (asE r))
    | .Assign [t] e _ => (match t with
      | .Name x _ => if T.loc x && T.stor x then do
          let i ← ixName T.N x
          let r ← trX 60 T e
          if isComp e && compOwn x e then none else some (.set (.slot i) (asE r))
        else none
      | .Tuple ts _ _ => (match swP (fun x => T.sc.names.lookup x) [t] e with
        | some none => if isComp e then none else do
          let tg ← trTg T 4 t
          let r ← trX 60 T e
          some (.set tg (asE r))
        | some (some names) => (match ts, e with
          | [.Name x _, .Name y _], .Tuple [a, b] _ _ => if isStar a || isStar b then none else do
            let i ← ixName T.N x
            let j ← ixName T.N y
            let r ← trX 60 T a
            let s ← trX 60 T b
            if decide (i = j) || !(decide (names = [x, y]) && decide (T.sc.names.lookup x = some .local) && decide (T.sc.names.lookup y = some .local)) then none else some (.par i j (asE r) (asE s))
          | _, _ => none)
        | none => none)
      | .Subscript o i _ => if isSl i || isComp e then none else do
        let x ← trX 60 T o
        let y ← trX 60 T i
        let r ← trX 60 T e
        some (.sub (asE x) (asE y) (asE r))
      | _ => none)
    | .AugAssign t op e _ => (match t with
      | .Name x _ => if T.loc x && T.stor x then do
          let i ← ixName T.N x
          let r ← trX 60 T e
          some (.aug i op (asE r))
        else none
      | .Subscript o i _ => if isSl i then none else do
        let x ← trX 60 T o
        let y ← trX 60 T i
        let r ← trX 60 T e
        some (.augS (asE x) (asE y) op (asE r))
      | _ => none)
    | .Return (some e) _ => (trX 60 T e).map fun r => .ret (asE r)
    | .Return none _ => some .retN
    | .If c a b _ => do
      let x ← trX 60 T c
      let y ← trSs (trS n T) a
      let z ← trSs (trS n T) b
      some (.ifs (asE x) y z)
    | .For t it b [] _ => do
      let w ← trI T (trX 60 T) t it
      let tg ← trTg T 4 t
      let y ← trSs (trS n T) b
      some (.fors tg w y)
    | .While c b [] _ => do
      let x ← trX 60 T c
      let y ← trSs (trS n T) b
      some (.whil (asE x) y)
    | .Try b (h :: hs) [] [] _ => do
      let x ← trSs (trS n T) b
      let y ← trHs (trS n) T (h :: hs)
      some (.tryx x y)
    | .Raise (some (.Call (.Name x _) (a :: as) [] _)) none _ => if T.glob x && !T.vis x then do
        let k ← T.xc.lookup x
        let r ← trEs (trX 60 T) (a :: as)
        if (xFields k).isEmpty then none else some (.raise k r)
      else none
    | .Pass _ => some (.ct .pass)
    | .Break _ => some (.ct .brk)
    | .Continue _ => some (.ct .cnt)
    | _ => none
end WD
end
section
set_option Elab.async false
set_option linter.all false
set_option maxRecDepth 100000
set_option autoImplicit false
set_option maxHeartbeats 4000000
/-! WSound: the translation means what the layer says: expressions. -/
namespace WD
open PySem PySem.Spec PyProof.Rows L2
structure Ctx (G : GE) (Φ : Phi) (T : TEnv) (X : Cx) (W : WX) : Prop where
  good : Good G X W
  hN : X.N = T.N
  nd : X.N.Nodup
  sc : X.env.scope = T.sc
  st : ∀ x, T.stor x = true → T.loc x = true → X.fn x = true ∨ X.env.scope.names.lookup x = some .local
  fns : ∀ x id, T.gl.lookup x = some id → FnAt G Φ X x id T.kw
  free : ∀ x, x ∈ T.fr → X.mg x = none
  cst : ∀ x v, T.cs.lookup x = some v → CstAt G X x v
  dct : ∀ x r, T.cd.lookup x = some r → DctAt G X x r.1 r.2
  cool : T.hot = false → X.calm = true ∧ G.xh = none ∧ T.xn = none
  gfree : ∀ x i, T.xn ≠ some x → X.N[i]? = some x → G.free i
  xrf : XRefs G X T.xc
  xmk : T.hot = false → XMade G X T.xc
  xq : ∀ e m, trXc T e = some m → RE G W X e (wE Φ m)
section
variable {G : GE} {Φ : Phi} {T : TEnv} {X : Cx} {W : WX}
theorem Ctx.goodC (c : Ctx G Φ T X W) (hh : T.hot = false) : GoodC G X W := ⟨c.good, (c.cool hh).1, (c.cool hh).2.1⟩
theorem stor_xn {x : Str} (h : T.stor x = true) : T.xn ≠ some x := by
  unfold TEnv.stor at h
  rw [Bool.and_eq_true] at h
  simpa using h.2
theorem Ctx.fre (c : Ctx G Φ T X W) {x : Str} {i : Nat} (h : T.stor x = true) (hi : X.N[i]? = some x) : G.free i := c.gfree x i (stor_xn h) hi
theorem trXc_none (h : T.xn = none) (e : Expr) : trXc T e = none := by
  unfold trXc
  split
  · rw [if_neg (by rw [h]; simp)]
  · rw [if_neg (by rw [h]; simp)]
  · rfl
theorem Ctx.vis (c : Ctx G Φ T X W) {x : Str} (h : T.vis x = true) : Vis X.env.scope x := by
  unfold TEnv.vis at h
  unfold Vis
  rw [c.sc]
  split at h
  · exact .inl (by assumption)
  · exact .inr (.inl (by assumption))
  · exact .inr (.inr (by assumption))
  · cases h
theorem Ctx.loc (c : Ctx G Φ T X W) {x : Str} (h : T.loc x = true) : L2.Loc X.env.scope x := by
  unfold TEnv.loc at h
  unfold L2.Loc
  rw [c.sc]
  split at h
  · exact .inl (by assumption)
  · exact .inr (by assumption)
  · cases h
theorem Ctx.glob (c : Ctx G Φ T X W) {x : Str} (h : T.glob x = true) : Gl X x ∧ (x == ("__debug__" : Str)) = false := by
  unfold TEnv.glob at h
  unfold Gl
  show X.env.scope.names.lookup x = _ ∧ _
  rw [c.sc]
  split at h
  · exact ⟨by assumption, by simpa using h⟩
  · cases h
theorem Ctx.blt (c : Ctx G Φ T X W) {x : Str} (h : T.blt x = true) : Gl X x ∧ X.mg x = none ∧ (x == ("__debug__" : Str)) = false := by
  unfold TEnv.blt at h
  rw [Bool.and_eq_true] at h
  obtain ⟨h1, h2⟩ := h
  exact ⟨(c.glob h1).1, c.free x (by simpa using h2), (c.glob h1).2⟩
theorem Ctx.ix (c : Ctx G Φ T X W) {x : Str} {i : Nat} (h : ixName T.N x = some i) : X.N[i]? = some x := by
  rw [c.hN]; exact ixName_get h
/-- the block of a comprehension -/
theorem Ctx.block (c : Ctx G Φ T X W) (hh : T.hot = false) (scope : Scope) (s : Shared) (H : Hp) (C : Addr) (cl : List (Str × Addr)) (fp : List Addr) : Ctx G Φ (T.block scope) (X.blk s H scope (compEnvC scope cl C X.env) fp) (fun _ _ _ _ => False) where
  good := ⟨c.good.eK, c.good.hu, takes0⟩
  hN := c.hN
  nd := c.nd
  sc := by
    show relS scope X.env.scope = relS scope T.sc
    rw [c.sc]
  st := fun x h1 h2 => by
    have h1' : (match scope.names.lookup x with | some NameKind.local => true | some NameKind.cell => true | _ => false) = true := (Bool.and_eq_true_iff.mp h1).1
    split at h1'
    · rename_i e
      refine .inr ?_
      show (relS scope X.env.scope).names.lookup x = some .local
      exact lookup_relS_keep (by decide) e
    · rename_i e
      refine .inl ?_
      show (scope.names.lookup x == some .cell) = true
      rw [e]
      rfl
    · cases h1'
  fns := fun x id e => ⟨(c.fns x id e).ex⟩
  free := fun x hx => c.free x hx
  cst := fun x v e => ⟨(c.cst x v e).ex⟩
  dct := fun x r e => ⟨(c.dct x r e).ex⟩
  cool := fun h => c.cool h
  gfree := fun x i h1 h2 => c.gfree x i h1 h2
  xrf := ⟨c.xrf.ref, c.xrf.cls⟩
  xmk := fun h => ⟨(c.xmk h).made⟩
  xq := fun e m h => by
    rw [trXc_none (T := T.block scope) (c.cool hh).2.2] at h
    cases h
/-! ### the syntax' own conditions -/
theorem star_cons {e : Expr} {es : List Expr} {env : Env} (h : isStar e = false) : starEach (e :: es) env = (false, eval e env) :: starEach es env := by
  cases e <;> first | rfl | (cases h)
def noStars : List Expr → Bool
  | [] => true
  | e :: r => !isStar e && noStars r
theorem plain_args {env : Env} {pos : Pos} : ∀ {es : List Expr}, noStars es = true → (backTo pos (starEach es env)).any (·.1) = false
  | [], _ => rfl
  | e :: r, h => by
    simp only [noStars, Bool.and_eq_true, Bool.not_eq_true'] at h
    rw [star_cons h.1]
    show (false || (backTo pos (starEach r env)).any (·.1)) = false
    rw [plain_args h.2]
    rfl
theorem plain_all {env : Env} {pos : Pos} : ∀ {es : List Expr}, noStars es = true → (backTo pos (starEach es env)).all (fun x => !x.1) = true
  | [], _ => rfl
  | e :: r, h => by
    simp only [noStars, Bool.and_eq_true, Bool.not_eq_true'] at h
    rw [star_cons h.1]
    show (!false && (backTo pos (starEach r env)).all (fun x => !x.1)) = true
    rw [plain_all h.2]
    rfl
theorem trEs_stars {f : Expr → Option Tr} : ∀ {es : List Expr} {r : Exs}, trEs f es = some r → noStars es = true
  | [], _, _ => rfl
  | e :: es, r, h => by
    unfold trEs at h
    split at h
    · cases h
    · rename_i hs
      simp only [Option.bind_eq_bind, Option.bind_eq_some_iff] at h
      obtain ⟨a, h1, b, h2, h3⟩ := h
      simp only [noStars, Bool.and_eq_true, Bool.not_eq_true']
      exact ⟨by simpa using hs, trEs_stars h2⟩
theorem plainIx {i : Expr} (h : ∀ lo hi st p, i ≠ .Slice lo hi st p) : PlainIx i := by
  intro o v
  cases i <;> first | rfl | exact absurd rfl (h _ _ _ _)
theorem super_no {o : Expr} {m : Str} {env : Env} (h : noSuper o = true) : attributeBase o m env (eval o env) = eval o env := by
  unfold attributeBase
  split
  · cases h
  · rfl
theorem fold_no {e : Expr} {env : Env} (h : ∀ a b c, e ≠ .Set a b c) : ∀ x, foldedSetIterable e env x = pure x := by
  intro x
  unfold foldedSetIterable
  split
  · exact absurd rfl (h _ _ _)
  · rfl
theorem swap_no {e : Expr} {t : Option Expr} {l : Nat} {env : Env} (h : isComp e = false) : swapsWith e t l env = pure false := by
  unfold swapsWith
  cases e <;> first | rfl | cases h
/-! ### what a translation means -/
def Judg (G : GE) (Φ : Phi) (W : WX) (X : Cx) (e : Expr) : Tr → Prop
  | .inl m => RE G W X e (wE Φ m)
  | .inr l => RL G W X e (wL Φ l)
theorem Judg.e {e : Expr} {r : Tr} (h : Judg G Φ W X e r) : RE G W X e (wE Φ (asE r)) := by
  cases r with
  | inl m => exact h
  | inr l => exact re_new h
theorem Judg.la {e : Expr} {r : Tr} (h : Judg G Φ W X e r) : RLa G W X e (wLa Φ (asLa r)) := by
  cases r with
  | inl m => exact rla_e h
  | inr l => exact rla_l h
/-- what the induction gives -/
def IH (n : Nat) : Prop := ∀ (T : TEnv) (e : Expr) (r : Tr), trX n T e = some r → ∀ (G : GE) (Φ : Phi) (X : Cx) (W : WX), Ctx G Φ T X W → Judg G Φ W X e r
def IHT (n : Nat) : Prop := ∀ (T : TEnv) (e : Expr) (r : Tr), trX n T e = some r → ∀ (G : GE) (Φ : Phi) (X : Cx) (W : WX), Ctx G Φ T X W → RT G W X e (wT Φ (asE r))
theorem es_ok {n : Nat} (ih : IH n) (c : Ctx G Φ T X W) : ∀ {es : List Expr} {r : Exs}, trEs (trX n T) es = some r → RA G W X es (wEs Φ r)
  | [], r, h => by
    cases h
    exact ra_nil
  | e :: es, r, h => by
    unfold trEs at h
    split at h
    · cases h
    · rename_i hs
      simp only [Option.bind_eq_bind, Option.bind_eq_some_iff] at h
      obtain ⟨a, h1, b, h2, h3⟩ := h
      cases h3
      exact ra_cons (ih T e a h1 G Φ X W c).e (es_ok ih c h2) (star_cons (by simpa using hs))
theorem ps_ok {n : Nat} (ih : IH n) (c : Ctx G Φ T X W) {pos : Pos} : ∀ {ks : List (Option Expr)} {vs : List Expr} {r : Prs}, trPs (trX n T) ks vs = some r →
    ∃ ms : List (ME × ME), PPs X pos ks vs (upPs G W ms) ∧ ks.all (·.isSome) = true ∧ ks.length = vs.length ∧ wPs Φ r = mPs ms
  | [], [], r, h => by
    cases h
    exact ⟨[], pps_nil, rfl, rfl, by funext x ς h q; rfl⟩
  | some k :: ks, v :: vs, r, h => by
    simp only [trPs, Option.bind_eq_bind, Option.bind_eq_some_iff] at h
    obtain ⟨a, h1, b, h2, d, h3, h4⟩ := h
    cases h4
    obtain ⟨ms, g1, g2, g3, g4⟩ := ps_ok ih c (pos := pos) h3
    refine ⟨(wE Φ (asE a), wE Φ (asE b)) :: ms, pps_cons (ih T k a h1 G Φ X W c).e (ih T v b h2 G Φ X W c).e g1, by simp [g2], by simp [g3], ?_⟩
    funext x ς h q
    show (wE Φ (asE a) x ς h fun y h1 => wE Φ (asE b) x ς h1 fun z h2 => wPs Φ d x ς h2 fun kvs h3 => q ((y, z) :: kvs) h3) = _
    rw [g4]
    rfl
  | [], _ :: _, _, h => by cases h
  | none :: _, _, _, h => by cases h
  | some _ :: _, [], _, h => by cases h
theorem ks_ok {n : Nat} (ih : IH n) (c : Ctx G Φ T X W) : ∀ {ks : List Keyword} {r : Exs}, trKs (trX n T) ks = some r → RK G W X ks (wEs Φ r)
  | [], r, h => by
    cases h
    exact rk_nil
  | ⟨nm, e, p⟩ :: ks, r, h => by
    simp only [trKs, Option.bind_eq_bind, Option.bind_eq_some_iff] at h
    obtain ⟨a, h1, b, h2, h3⟩ := h
    cases h3
    exact rk_cons (ih T e a h1 G Φ X W c).e (ks_ok ih c h2)
theorem kw_facts {pos : Pos} {env : Env} : ∀ {ks : List Keyword} {nm : List Str}, kwNames ks = some nm → (backToKw pos (keywordEach ks env)).all (·.1.isSome) = true ∧ (backToKw pos (keywordEach ks env)).filterMap (·.1) = nm ∧ (backToKw pos (keywordEach ks env)).any (·.1.isNone) = false
  | [], nm, h => by
    cases h
    exact ⟨rfl, rfl, rfl⟩
  | ⟨none, e, p⟩ :: ks, nm, h => by cases h
  | ⟨some x, e, p⟩ :: ks, nm, h => by
    simp only [kwNames] at h
    cases hk : kwNames ks with
    | none => rw [hk] at h; cases h
    | some xs =>
      rw [hk] at h
      cases h
      obtain ⟨a1, a2, a3⟩ := kw_facts (pos := pos) (env := env) hk
      refine ⟨?_, ?_, ?_⟩
      · show (true && (backToKw pos (keywordEach ks env)).all (·.1.isSome)) = true
        rw [a1]; rfl
      · show x :: (backToKw pos (keywordEach ks env)).filterMap (·.1) = _
        rw [a2]
      · show (false || (backToKw pos (keywordEach ks env)).any (·.1.isNone)) = false
        rw [a3]; rfl
theorem dctAt_inv {e : Expr} {r : Str × List Str × List PV} (c : Ctx G Φ T X W) (h : dctAt T e = some r) : ∃ p, e = .Name r.1 p ∧ Gl X r.1 ∧ (r.1 == ("__debug__" : Str)) = false ∧ DctAt G X r.1 r.2.1 r.2.2 := by
  unfold dctAt at h
  split at h
  · rename_i x p
    split at h
    · rename_i hx
      obtain ⟨d, h1, h2⟩ := Option.map_eq_some_iff.mp h
      subst h2
      rw [Bool.and_eq_true] at hx
      obtain ⟨g1, g2⟩ := c.glob hx.2
      exact ⟨p, rfl, g1, g2, c.dct _ _ h1⟩
    · cases h
  · cases h
theorem inOp_eq {o : CmpOp} {neg : Bool} (h : inOp o = some neg) : o = nOp neg := by
  cases o <;> first | (cases h; done) | (cases h; rfl)
theorem o_ok {n : Nat} (ih : IH n) (c : Ctx G Φ T X W) {e : Option Expr} {r : OEx} (h : trO (trX n T) e = some r) : RO G W X e (wO Φ r) := by
  cases e with
  | none =>
    cases h
    exact ro_none
  | some e =>
    obtain ⟨a, h1, h2⟩ := Option.map_eq_some_iff.mp h
    cases h2
    exact ro_some (ih T e a h1 G Φ X W c).e
theorem and_ok {n : Nat} (ih : IH n) (c : Ctx G Φ T X W) {pos : Pos} : ∀ {es : List Expr} {m : Ex}, trAnd (trX n T) es = some m → RE G W X (.BoolOp .And es pos) (wE Φ m)
  | [], _, h => by cases h
  | [a], m, h => by
    obtain ⟨r, h1, h2⟩ := Option.map_eq_some_iff.mp (show (trX n T a).map asE = some m from h)
    cases h2
    exact pe_one (ih T a r h1 G Φ X W c).e
  | a :: b :: es, m, h => by
    simp only [trAnd, Option.bind_eq_bind, Option.bind_eq_some_iff] at h
    obtain ⟨x, h1, y, h2, h3⟩ := h
    cases h3
    exact re_and (ih T a x h1 G Φ X W c).e (and_ok ih c h2)
theorem or_ok {n : Nat} (ih : IH n) (c : Ctx G Φ T X W) {pos : Pos} : ∀ {es : List Expr} {m : Ex}, trOr (trX n T) es = some m → RE G W X (.BoolOp .Or es pos) (wE Φ m)
  | [], _, h => by cases h
  | [a], m, h => by
    obtain ⟨r, h1, h2⟩ := Option.map_eq_some_iff.mp (show (trX n T a).map asE = some m from h)
    cases h2
    exact pe_one (ih T a r h1 G Φ X W c).e
  | a :: b :: es, m, h => by
    simp only [trOr, Option.bind_eq_bind, Option.bind_eq_some_iff] at h
    obtain ⟨x, h1, y, h2, h3⟩ := h
    cases h3
    exact re_or (ih T a x h1 G Φ X W c).e (or_ok ih c h2)
theorem andT_ok {n : Nat} (ih : IHT n) (c : Ctx G Φ T X W) {pos : Pos} : ∀ {es : List Expr} {m : Ex}, trAnd (trX n T) es = some m → RW G W X (.BoolOp .And es pos) (wT Φ m)
  | [], _, h => by cases h
  | [a], m, h => by
    obtain ⟨r, h1, h2⟩ := Option.map_eq_some_iff.mp (show (trX n T a).map asE = some m from h)
    cases h2
    exact pw_and1 (ih T a r h1 G Φ X W c)
  | a :: b :: es, m, h => by
    simp only [trAnd, Option.bind_eq_bind, Option.bind_eq_some_iff] at h
    obtain ⟨x, h1, y, h2, h3⟩ := h
    cases h3
    exact rw_and (ih T a x h1 G Φ X W c) (andT_ok ih c h2)
theorem orT_ok {n : Nat} (ih : IHT n) (c : Ctx G Φ T X W) {pos : Pos} : ∀ {es : List Expr} {m : Ex}, trOr (trX n T) es = some m → RW G W X (.BoolOp .Or es pos) (wT Φ m)
  | [], _, h => by cases h
  | [a], m, h => by
    obtain ⟨r, h1, h2⟩ := Option.map_eq_some_iff.mp (show (trX n T a).map asE = some m from h)
    cases h2
    exact pw_or1 (ih T a r h1 G Φ X W c)
  | a :: b :: es, m, h => by
    simp only [trOr, Option.bind_eq_bind, Option.bind_eq_some_iff] at h
    obtain ⟨x, h1, y, h2, h3⟩ := h
    cases h3
    exact rw_or (ih T a x h1 G Φ X W c) (orT_ok ih c h2)
/-! ### targets -/
mutual
theorem setT_some : ∀ {t : Tg} {v : PV} {ς : PSt} {q : PSt → Prop}, setT t v ς q → ∃ ς', q ς'
  | .slot i, v, ς, q, h => ⟨_, h⟩
  | .tup ts, v, ς, q, h => by
    obtain ⟨xs, rfl, z⟩ := (show ∃ xs, v = .tup xs ∧ setTs ts xs ς q from h)
    exact (setTs_some z).2
theorem setTs_some : ∀ {ts : List Tg} {vs : List PV} {ς : PSt} {q : PSt → Prop}, setTs ts vs ς q → vs.length = ts.length ∧ ∃ ς', q ς'
  | [], vs, ς, q, h => by
    have h' : vs = [] ∧ q ς := h
    rw [h'.1]
    exact ⟨rfl, ς, h'.2⟩
  | t :: ts, vs, ς, q, h => by
    obtain ⟨v, r, rfl, z⟩ := (show ∃ v r, vs = v :: r ∧ setT t v ς fun ς' => setTs ts r ς' q from h)
    obtain ⟨ς', z⟩ := setT_some z
    obtain ⟨h1, h2⟩ := setTs_some z
    exact ⟨by simp [h1], h2⟩
end
theorem star_asg {e : Expr} {es : List Expr} {env : Env} (h : isStar e = false) : assignEach (e :: es) env = (false, assign e env) :: assignEach es env := by
  cases e <;> first | rfl | (cases h)
theorem asg_len {env : Env} : ∀ {es : List Expr}, noStars es = true → (assignEach es env).length = es.length
  | [], _ => rfl
  | e :: r, h => by
    simp only [noStars, Bool.and_eq_true, Bool.not_eq_true'] at h
    rw [star_asg h.1, List.length_cons, asg_len h.2, List.length_cons]
theorem asg_idx {env : Env} : ∀ {es : List Expr}, noStars es = true → (assignEach es env).findIdx? (·.1) = none
  | [], _ => rfl
  | e :: r, h => by
    simp only [noStars, Bool.and_eq_true, Bool.not_eq_true'] at h
    rw [star_asg h.1, List.findIdx?_cons]
    simp [asg_idx h.2]
theorem trTs_stars {f : Expr → Option Tg} : ∀ {es : List Expr} {r : List Tg}, trTs f es = some r → noStars es = true ∧ r.length = es.length
  | [], _, h => by cases h; exact ⟨rfl, rfl⟩
  | e :: es, r, h => by
    unfold trTs at h
    split at h
    · cases h
    · rename_i hs
      simp only [Option.bind_eq_bind, Option.bind_eq_some_iff] at h
      obtain ⟨a, h1, b, h2, h3⟩ := h
      cases h3
      obtain ⟨z1, z2⟩ := trTs_stars h2
      simp only [noStars, Bool.and_eq_true, Bool.not_eq_true', List.length_cons]
      exact ⟨⟨by simpa using hs, z1⟩, by rw [z2]⟩
theorem tgs_ok {n : Nat} {ws : List Nat} (ih : ∀ {e : Expr} {t : Tg}, trTg T n e = some t → (∀ i, i ∈ slotsT t → i ∈ ws) → PG X e (upG G ws (setT t))) : ∀ {es : List Expr} {ts : List Tg}, trTs (trTg T n) es = some ts → (∀ i, i ∈ slotsTs ts → i ∈ ws) → PGs X es (upGs G ws (setTs ts))
  | [], ts, h, hw => by
    cases h
    exact rgs_nil
  | e :: es, ts, h, hw => by
    unfold trTs at h
    split at h
    · cases h
    · rename_i hs
      simp only [Option.bind_eq_bind, Option.bind_eq_some_iff] at h
      obtain ⟨a, h1, b, h2, h3⟩ := h
      cases h3
      have w1 : ∀ i, i ∈ slotsT a → i ∈ ws := fun i hi => hw i (by simp [slotsTs, hi])
      have w2 : ∀ i, i ∈ slotsTs b → i ∈ ws := fun i hi => hw i (by simp [slotsTs, hi])
      exact rgs_cons (ih h1 w1) (tgs_ok ih h2 w2) (by rw [star_asg (by simpa using hs)]; rfl)
theorem tg_ok (c : Ctx G Φ T X W) (hh : T.hot = false) {ws : List Nat} : ∀ {n : Nat} {e : Expr} {t : Tg}, trTg T n e = some t → (∀ i, i ∈ slotsT t → i ∈ ws) → PG X e (upG G ws (setT t))
  | 0, _, _, h, _ => by cases h
  | n + 1, e, t, h, hw => by
    unfold trTg at h
    split at h
    · split at h
      · rename_i x p hx
        obtain ⟨i, h1, h2⟩ := Option.map_eq_some_iff.mp h
        subst h2
        rw [Bool.and_eq_true] at hx
        exact rg_name c.nd (c.ix h1) (c.loc hx.1) (c.st _ hx.2 hx.1) (c.fre hx.2 (c.ix h1)) (hw i (by simp [slotsT]))
      · cases h
    · obtain ⟨ts, h1, h2⟩ := Option.map_eq_some_iff.mp h
      subst h2
      obtain ⟨z1, z2⟩ := trTs_stars h1
      refine rg_tup (c.goodC hh) (tgs_ok (fun h hw => tg_ok c hh h hw) h1 fun i hi => hw i (by simpa [slotsT] using hi)) (asg_len z1) (asg_idx z1) fun vs ς q z => ?_
      rw [(setTs_some z).1, z2]
    · cases h
/-! ### what a loop walks -/
theorem i_ok {n : Nat} (ih : IH n) (c : Ctx G Φ T X W) {tg e : Expr} {w : Wk} (h : trI T (trX n T) tg e = some w) : RI G W X tg e (wI Φ w) := by
  have gen : ∀ {w}, ((trX n T e).map fun r => Wk.la (asLa r)) = some w → RI G W X tg e (wI Φ w) := by
    intro w h
    obtain ⟨r, h1, h2⟩ := Option.map_eq_some_iff.mp h
    subst h2
    have j := ih T e r h1 G Φ X W c
    cases r with
    | inl m => exact ri_e c.good j
    | inr l => exact ri_l c.good j
  unfold trI at h
  split at h
  · split at h
    · rename_i hx
      rw [Bool.and_eq_true] at hx
      obtain ⟨g1, g2, _⟩ := c.blt hx.1
      split at h
      · cases h
      · rename_i hs
        obtain ⟨r, h1, h2⟩ := Option.map_eq_some_iff.mp h
        subst h2
        exact ri_range1 (of_decide_eq_true hx.2) g1 g2 (ih T _ r h1 G Φ X W c).e (star_cons (by simpa using hs))
    · split at h
      · rename_i hx
        rw [Bool.and_eq_true] at hx
        obtain ⟨g1, g2, _⟩ := c.blt hx.1
        split at h
        · split at h
          · cases h
          · rename_i hs
            obtain ⟨r, h1, h2⟩ := Option.map_eq_some_iff.mp h
            subst h2
            have j := ih T _ r h1 G Φ X W c
            cases r with
            | inl m => exact ri_enum_e c.good (of_decide_eq_true hx.2) g1 g2 j (star_cons (by simpa using hs))
            | inr l => exact ri_enum_l c.good (of_decide_eq_true hx.2) g1 g2 j (star_cons (by simpa using hs))
        · cases h
      · exact gen h
  · split at h
    · rename_i hx
      rw [Bool.and_eq_true] at hx
      obtain ⟨g1, g2, _⟩ := c.blt hx.1
      split at h
      · cases h
      · rename_i hs
        simp only [Option.bind_eq_bind, Option.bind_eq_some_iff] at h
        obtain ⟨a, h1, b, h2, h3⟩ := h
        cases h3
        simp only [Bool.or_eq_true, not_or, Bool.not_eq_true] at hs
        exact ri_range2 (of_decide_eq_true hx.2) g1 g2 (ih T _ a h1 G Φ X W c).e (ih T _ b h2 G Φ X W c).e (by rw [star_cons hs.1, star_cons hs.2]; rfl) (star_cons hs.2)
    · exact gen h
  · split at h
    · rename_i hx
      rw [Bool.and_eq_true] at hx
      obtain ⟨g1, g2, _⟩ := c.blt hx.1
      split at h
      · cases h
      · rename_i hs
        simp only [Option.bind_eq_bind, Option.bind_eq_some_iff] at h
        obtain ⟨a, h1, b, h2, d, h3, h4⟩ := h
        cases h4
        simp only [Bool.or_eq_true, not_or, Bool.not_eq_true] at hs
        exact ri_range3 (of_decide_eq_true hx.2) g1 g2 (ih T _ a h1 G Φ X W c).e (ih T _ b h2 G Φ X W c).e (ih T _ d h3 G Φ X W c).e (by rw [star_cons hs.1.1, star_cons hs.1.2, star_cons hs.2]; rfl) (by rw [star_cons hs.1.2, star_cons hs.2]; rfl) (star_cons hs.2)
    · exact gen h
  · cases h
  · exact gen h
theorem fold_trI {n : Nat} {tg e : Expr} {w : Wk} (h : trI T (trX n T) tg e = some w) : ∀ x, foldedSetIterable e X.env x = pure x := by
  apply fold_no
  intro a b d hh
  subst hh
  cases h
end
end WD
end
section
set_option Elab.async false
set_option linter.all false
set_option maxRecDepth 100000
set_option autoImplicit false
set_option maxHeartbeats 8000000
/-! WSound2: the translation means what the layer says: all expressions. -/
namespace WD
open PySem PySem.Spec PyProof.Rows L2
section
variable {G : GE} {Φ : Phi} {T : TEnv} {X : Cx} {W : WX}
theorem bifAt_ok {x : Str} {k : Nat} {b : Bif} (h : bifAt x k = some b) : b.more = [] ∧ bootBuiltins x = some b.fn ∧ x ≠ "__name__" ∧ (x == ("__debug__" : Str)) = false := by
  unfold bifAt at h
  obtain ⟨p, h1, h2⟩ := Option.map_eq_some_iff.mp h
  subst h2
  have m := List.mem_of_find?_eq_some h1
  have e := List.find?_some h1
  simp only [Bool.and_eq_true, decide_eq_true_eq] at e
  rw [← e.1]
  unfold bifTab at m
  simp only [List.mem_cons, List.not_mem_nil, or_false] at m
  rcases m with rfl | rfl | rfl | rfl | rfl | rfl | rfl <;> exact ⟨rfl, by decide +kernel, by decide +kernel, by decide +kernel⟩
theorem lifAt_ok {x : Str} {b : Lif} (h : lifAt x = some b) : bootBuiltins x = some b.fn ∧ x ≠ "__name__" ∧ (x == ("__debug__" : Str)) = false := by
  unfold lifAt at h
  obtain ⟨p, h1, h2⟩ := Option.map_eq_some_iff.mp h
  subst h2
  have m := List.mem_of_find?_eq_some h1
  have e := List.find?_some h1
  simp only [decide_eq_true_eq] at e
  rw [← e]
  unfold lifTab at m
  simp only [List.mem_cons, List.not_mem_nil, or_false] at m
  rcases m with rfl | rfl | rfl | rfl | rfl | rfl | rfl <;> exact ⟨by decide +kernel, by decide +kernel, by decide +kernel⟩
theorem tyAt_ok {x : Str} {t : String} (h : tyAt x = some t) : bootBuiltins x = some (.type t) ∧ x ≠ "__name__" ∧ (x == ("__debug__" : Str)) = false := by
  unfold tyAt at h
  obtain ⟨p, h1, h2⟩ := Option.map_eq_some_iff.mp h
  subst h2
  have m := List.mem_of_find?_eq_some h1
  have e := List.find?_some h1
  simp only [decide_eq_true_eq] at e
  rw [← e]
  unfold tyTab at m
  simp only [List.mem_cons, List.not_mem_nil, or_false] at m
  rcases m with rfl | rfl | rfl | rfl | rfl | rfl <;> exact ⟨by decide +kernel, by decide +kernel, by decide +kernel⟩
theorem mthAt_ok {m : Str} {k : Nat} {f : Mth} (h : mthAt m k = some f) : m = f.name := by
  unfold mthAt at h
  repeat' split at h
  all_goals first | (cases h; assumption) | cases h
theorem own_mem {N : List Str} {scope : Scope} : True := trivial
theorem call_ok {n : Nat} (ih : IH n) (c : Ctx G Φ T X W) {x : Str} {id : Nat} {args : List Expr} {r : Exs} {p pos : Pos} (hg : T.glob x = true) (hl : T.gl.lookup x = some id) (h : trEs (trX n T) args = some r) :
    RE G W X (.Call (.Name x p) args [] pos) (wE Φ (.call id r)) := by
  obtain ⟨g1, g2⟩ := c.glob hg
  have F := c.fns x id hl
  have ns := trEs_stars h
  have hs := es_ok ih c h
  cases args with
  | nil =>
    cases h
    exact re_call0 c.good F g1 g2
  | cons a as =>
    simp only [noStars, Bool.and_eq_true, Bool.not_eq_true'] at ns
    exact re_call c.good F g1 hs g2 (star_cons ns.1) (fun _ => plain_args ns.2)
theorem rng_ok {n : Nat} (ih : IH n) (c : Ctx G Φ T X W) {e : Expr} {lo hi : OEx} (h : rngOf T (trX n T) e = some (lo, hi)) :
    PRg X e (fun σ H Q => up G W (REq (Int × Int)) (fun x ς h q => wO Φ lo x ς h fun i h1 => wO Φ hi x ς h1 fun j h2 => q (oI 0 i, oI 0 j) h2) σ H fun ij H1 => Q ij.1 ij.2 H1) := by
  unfold rngOf at h
  split at h
  · rename_i r p b p2
    split at h
    · rename_i hx
      simp only [Bool.and_eq_true, Bool.not_eq_true', decide_eq_true_eq] at hx
      obtain ⟨y, h1, h2⟩ := Option.map_eq_some_iff.mp h
      cases h2
      obtain ⟨g1, g2, _⟩ := c.blt hx.1.1
      have := rg_1 (W := W) (p := p) (pos := p2) hx.1.2 g1 g2 (ih T b y h1 G Φ X W c).e (star_cons hx.2)
      intro pins s σ H Q I hw
      refine this pins s σ H Q I ?_
      obtain ⟨ρ, h, ς, q, x, R, S, k, cv, cx⟩ := hw
      exact ⟨ρ, h, ς, q, x, R, S, k, cv, cx⟩
    · cases h
  · rename_i r p b d p2
    split at h
    · rename_i hx
      simp only [Bool.and_eq_true, Bool.not_eq_true', decide_eq_true_eq] at hx
      simp only [Option.bind_eq_bind, Option.bind_eq_some_iff] at h
      obtain ⟨y, h1, z, h2, h3⟩ := h
      cases h3
      obtain ⟨g1, g2, _⟩ := c.blt hx.1.1.1
      have := rg_2 (W := W) (p := p) (pos := p2) hx.1.1.2 g1 g2 (ih T b y h1 G Φ X W c).e (ih T d z h2 G Φ X W c).e (star_cons hx.1.2) (star_cons hx.2)
      intro pins s σ H Q I hw
      refine this pins s σ H Q I ?_
      obtain ⟨ρ, h, ς, q, x, R, S, k, cv, cx⟩ := hw
      exact ⟨ρ, h, ς, q, x, R, S, k, cv, cx⟩
    · cases h
  · cases h
theorem bi1_ok {n : Nat} (ih : IH n) (c : Ctx G Φ T X W) (hh : T.hot = false) {x : Str} {a : Expr} {r : Tr} {p pos : Pos} (hg : T.blt x = true)
    (h : tr1 T (trX n T) x a = some r) : Judg G Φ W X (.Call (.Name x p) [a] [] pos) r := by
  obtain ⟨g1, g2, g3⟩ := c.blt hg
  unfold tr1 at h
  split at h
  · cases h
  · rename_i hs
    have hs' : starEach [a] X.env = (false, eval a X.env) :: starEach [] X.env := star_cons (by simpa using hs)
    split at h
    · rename_i lo hi hr
      have rg := rng_ok ih c hr
      split at h
      · rename_i hx
        cases h
        refine PE.imp (rl_rng (c.goodC hh) (of_decide_eq_true hx) g1 g2 rg hs') fun σ H Q hw => ?_
        obtain ⟨ρ, h, ς, q, x, R, S, k, cv, cx⟩ := hw
        exact ⟨ρ, h, ς, q, x, R, S, k, cv, cx⟩
      · split at h
        · rename_i hx
          cases h
          refine PE.imp (re_tupR (c.goodC hh) (of_decide_eq_true hx) g1 g2 rg hs') fun σ H Q hw => ?_
          obtain ⟨ρ, h, ς, q, x, R, S, k, cv, cx⟩ := hw
          exact ⟨ρ, h, ς, q, x, R, S, k, cv, cx⟩
        · cases h
    · simp only [Option.bind_eq_bind, Option.bind_eq_some_iff] at h
      obtain ⟨ra, h1, h2⟩ := h
      have j := ih T a ra h1 G Φ X W c
      split at h2
      · rename_i hx
        cases h2
        exact rl_list (c.goodC hh) (of_decide_eq_true hx) g1 g2 j.la hs'
      · split at h2
        · rename_i hx
          cases h2
          exact rl_sort c.good (of_decide_eq_true hx) g1 g2 j.la hs'
        · split at h2
          · have hb := ‹bifAt x 1 = some _›
            cases h2
            obtain ⟨z1, z2, z3, z4⟩ := bifAt_ok hb
            exact re_bif c.good _ (fun _ => (c.cool hh).1) z1 g1 g2 z2 (ra_cons j ra_nil hs') z3 z4 hs' (fun _ => rfl)
          · have hl := ‹lifAt x = some _›
            cases h2
            obtain ⟨z2, z3, z4⟩ := lifAt_ok hl
            exact re_lif (c.goodC hh) _ g1 g2 z2 j.la z3 z4 hs'
          · cases h2
/-- calls with keywords -/
theorem kw_ok {n : Nat} (ih : IH n) (c : Ctx G Φ T X W) {x : Str} {args : List Expr} {kws : List Keyword} {r : Tr} {p pos : Pos} (h : trKw T (trX n T) x args kws = some r) : Judg G Φ W X (.Call (.Name x p) args kws pos) r := by
  unfold trKw at h
  split at h
  · rename_i id nm hid hnm
    split at h
    · rename_i e he
      simp only [Option.bind_eq_bind, Option.bind_eq_some_iff] at h
      obtain ⟨r1, h1, r2, h2, h3⟩ := h
      cases h3
      split at hid
      · rename_i hgl
        obtain ⟨g1, g2⟩ := c.glob hgl
        have hm := List.mem_of_find?_eq_some he
        have hp := List.find?_some he
        simp only [Bool.and_eq_true, decide_eq_true_eq] at hp
        obtain ⟨⟨e1, e2⟩, e3⟩ := hp
        obtain ⟨k1, k2, k3⟩ := kw_facts (pos := pos) (env := X.env) hnm
        have F := c.fns x id hid
        have ns := trEs_stars h1
        have hs := es_ok ih c h1
        have hk := ks_ok ih c h2
        cases args with
        | nil =>
          cases h1
          exact re_callk0 c.good F hm e1 g1 hk g2 k1 (by rw [e3]; exact k2) (by rw [k3]; rfl)
        | cons a as =>
          simp only [noStars, Bool.and_eq_true, Bool.not_eq_true'] at ns
          exact re_callk c.good F hm e1 g1 hs hk g2 (star_cons ns.1) k1 (by rw [e3]; exact k2) (by rw [k3, plain_args (by simp [noStars, ns.1, ns.2])]; rfl)
      · cases hid
    · cases h
  · cases h
theorem cmp1_ok {n : Nat} (ih : IH n) (c : Ctx G Φ T X W) {a b : Expr} {o : CmpOp} {r : Tr} {pos : Pos} (h : trCmp1 T (trX n T) a o b = some r) : Judg G Φ W X (.Compare a [o] [b] pos) r ∧ RT G W X (.Compare a [o] [b] pos) (wT Φ (asE r)) := by
  unfold trCmp1 at h
  split at h
  · cases h
  · rename_i hm
    have hm' : behindInMarks o b = false := by simpa using hm
    split at h
    · rename_i neg d ho hd
      obtain ⟨x, h1, h2⟩ := Option.map_eq_some_iff.mp h
      subst h2
      obtain ⟨p, rfl, g1, g2, F⟩ := dctAt_inv c hd
      have eo := inOp_eq ho
      subst eo
      have j := (ih T a x h1 G Φ X W c).e
      exact ⟨re_cin neg F g1 g2 j hm', rt_cin neg F g1 g2 j hm'⟩
    · simp only [Option.bind_eq_bind, Option.bind_eq_some_iff] at h
      obtain ⟨x, h1, y, h2, h3⟩ := h
      cases h3
      exact ⟨re_cmp c.good _ (ih T _ x h1 G Φ X W c).e (ih T _ y h2 G Φ X W c).e hm', rt_cmp c.good _ (ih T _ x h1 G Φ X W c).e (ih T _ y h2 G Φ X W c).e hm'⟩
theorem ix_ok {n : Nat} (ih : IH n) (c : Ctx G Φ T X W) {a i : Expr} {r : Tr} {pos : Pos} (hs : PlainIx i) (h : trIx T (trX n T) a i = some r) : Judg G Φ W X (.Subscript a i pos) r := by
  unfold trIx at h
  split at h
  · rename_i d hd
    obtain ⟨x, h1, h2⟩ := Option.map_eq_some_iff.mp h
    subst h2
    obtain ⟨p, rfl, g1, g2, F⟩ := dctAt_inv c hd
    exact re_cix F g1 g2 (ih T i x h1 G Φ X W c).e hs
  · simp only [Option.bind_eq_bind, Option.bind_eq_some_iff] at h
    obtain ⟨x, h1, y, h2, h3⟩ := h
    cases h3
    exact re_ix c.good (ih T a x h1 G Φ X W c).e (ih T i y h2 G Φ X W c).e hs
theorem few {args : List Expr} {env : Env} {cpos : Pos} (h : noStars args = true) (hl : args.length < 30) : ((backTo cpos (starEach args env)).all (fun x => !x.1) && (backToKw cpos (keywordEach [] env)).all (fun x => x.1.isSome) && decide (args.length + ([] : List Keyword).length + (if ([] : List Keyword).isEmpty then 0 else 1) < 30)) = true := by
  rw [plain_all h]
  show (true && true && decide (args.length + 0 + 0 < 30)) = true
  simpa using hl
theorem mth1_ok {n : Nat} (ih : IH n) (c : Ctx G Φ T X W) {o : Expr} {m : Str} {args : List Expr} {ro : Tr} {r : Exs} {f : Mth} {apos cpos : Pos} (ho : trX n T o = some ro) (hns : noSuper o = true) (hline : (apos.endLine == cpos.line) = true) (hm : mthAt m args.length = some f) (h : trEs (trX n T) args = some r) (hl : args.length < 30) :
    RE G W X (.Call (.Attribute o m apos) args [] cpos) (wE Φ (.mth f (asE ro) r)) := by
  have e := mthAt_ok hm
  subst e
  have ns := trEs_stars h
  have hs := es_ok ih c h
  have jo := (ih T o ro ho G Φ X W c).e
  cases args with
  | nil =>
    cases h
    exact re_mth0 c.good f jo (super_no hns) hline
  | cons a as =>
    have ns' := ns
    simp only [noStars, Bool.and_eq_true, Bool.not_eq_true'] at ns
    exact re_mth c.good f jo hs (super_no hns) (few ns' hl) hline (star_cons ns.1) (fun _ => plain_args ns.2)
theorem comp_ok {n : Nat} (ih : IH n) (iht : IHT n) (c : Ctx G Φ T X W) (hh : T.hot = false) {elt tg iter : Expr} {ifs : List Expr} {scope : Scope} {it : Wk} {t : Tg} {x : Tr} {cd : OEx}
    (hb : blkC T.N T.sc scope (ownOf T scope) = true) (h1 : trI T (trX n T) tg iter = some it) (h2 : trTg (T.block scope) 4 tg = some t) (h3 : ((slotsT t).all fun i => (ownOf T scope).any fun p => p.2 == i) = true) (h4 : trX n (T.block scope) elt = some x)
    (h5 : (ifs = [] ∧ cd = .no) ∨ ∃ cnd y, ifs = [cnd] ∧ trX n (T.block scope) cnd = some y ∧ cd = .some (asE y)) :
    (∃ own : List (Str × Nat), own = ownOf T scope ∧ BlkOk X.N X.env.scope scope own ∧ BlkR G X scope (own.map (·.2)) tg elt ifs (setT t) (wC Φ cd) (wE Φ (asE x))) := by
  refine ⟨_, rfl, by rw [c.hN, c.sc]; exact blkOk_by hb, ⟨?_, ?_, ?_⟩⟩
  · intro s H C cl fp
    refine tg_ok (c.block hh scope s H C cl fp) hh h2 fun i hi => ?_
    obtain ⟨p, q1, q2⟩ := List.any_eq_true.mp (List.all_eq_true.mp h3 i hi)
    exact List.mem_map.mpr ⟨p, q1, by simpa using q2⟩
  · intro s H C cl fp
    rcases h5 with ⟨rfl, rfl⟩ | ⟨cnd, y, rfl, hy, rfl⟩
    · refine ⟨fun pins s σ H Q I hw => pts_nil.run pins s σ H Q I ?_⟩
      obtain ⟨ρ, h, ς, q, x, R, S, k, cv, cx⟩ := hw
      exact cv ρ h H true true Ext.refl R rfl k
    · exact pts_one (iht (T.block scope) cnd y hy G Φ _ _ (c.block hh scope s H C cl fp))
  · intro s H C cl fp
    exact (ih (T.block scope) elt x h4 G Φ _ _ (c.block hh scope s H C cl fp)).e
def plainB : Ex → Bool
  | .var _ => true
  | .bl _ => true
  | .ix _ _ => true
  | .call _ _ => true
  | .bif _ _ => true
  | .lif _ _ => true
  | _ => false
theorem tr_inv0 {n : Nat} {e : Expr} {r : Tr} (h : trX (n + 1) T e = some r) : (∃ m, trXc T e = some m ∧ r = .inl m) ∨ (trXc T e = none ∧ (T.hot = true → okHot e = true) ∧ trB (trX n) T e = some r ∧ (plainX e = true → isTest (asE r) = false)) := by
  unfold trX at h
  split at h
  · rename_i m hm
    cases h
    exact .inl ⟨m, hm, rfl⟩
  · rename_i hx
    split at h
    · cases h
    · rename_i hk
      split at h
      · rename_i r' h1
        split at h
        · cases h
        · rename_i h2
          cases h
          refine .inr ⟨hx, fun ht => ?_, h1, fun hp => ?_⟩
          · rw [ht, Bool.true_and] at hk
            simpa using hk
          · rw [hp, Bool.true_and] at h2
            simpa using h2
      · cases h
theorem tr_inv {n : Nat} {e : Expr} {r : Tr} (hx : trXc T e = none) (h : trX (n + 1) T e = some r) : trB (trX n) T e = some r ∧ (plainX e = true → isTest (asE r) = false) := by
  rcases tr_inv0 h with ⟨m, h1, _⟩ | ⟨_, _, h1, h2⟩
  · rw [hx] at h1
    cases h1
  · exact ⟨h1, h2⟩
theorem hot_no {e : Expr} (h : T.hot = true → okHot e = true) (he : okHot e = false) : T.hot = false := by
  cases q : T.hot with
  | false => rfl
  | true =>
    rw [h q] at he
    cases he
theorem trXc_test {e : Expr} {m : Ex} (h : trXc T e = some m) : plainX e = true ∧ isTest m = false ∧ plainB m = true := by
  unfold trXc at h
  split at h
  · split at h
    · obtain ⟨i, _, h2⟩ := Option.map_eq_some_iff.mp h
      subst h2
      exact ⟨rfl, rfl, rfl⟩
    · cases h
  · split at h
    · obtain ⟨i, _, h2⟩ := Option.map_eq_some_iff.mp h
      subst h2
      exact ⟨rfl, rfl, rfl⟩
    · cases h
  · cases h
theorem x_ok {n : Nat} (ih : IH n) (iht : IHT n) : IH (n + 1) := by
  intro T e r h G Φ X W c
  rcases tr_inv0 h with ⟨m, h1, rfl⟩ | ⟨-, hot, h', -⟩
  · exact c.xq e m h1
  replace h := h'
  clear h'
  unfold trB at h
  split at h
  · -- name
    split at h
    · rename_i hv
      split at h
      · rename_i hx
        obtain ⟨i, h1, h2⟩ := Option.map_eq_some_iff.mp h
        subst h2
        simp only [badName, Bool.not_eq_true', Bool.or_eq_false_iff] at hx
        exact re_var (c.ix h1) (c.vis hv) hx.1 hx.2
      · cases h
    · split at h
      · rename_i hg
        obtain ⟨v, h1, h2⟩ := Option.map_eq_some_iff.mp h
        subst h2
        obtain ⟨g1, g2⟩ := c.glob hg
        exact re_cst (c.cst _ v h1) g1 g2
      · cases h
  · -- dicts
    split at h
    · rename_i hl
      obtain ⟨r, h1, h2⟩ := Option.map_eq_some_iff.mp h
      subst h2
      rename_i keys values pos
      obtain ⟨ms, g1, g2, g3, g4⟩ := ps_ok ih c (pos := pos) h1
      cases keys with
      | nil =>
        cases values with
        | nil =>
          cases h1
          refine PE.imp (re_dic0 (G := G) (W := W)) fun σ H Q hw => ?_
          obtain ⟨ρ, h, ς, q, x, R, S, k, cv, cx⟩ := hw
          obtain ⟨ks, e1, e2, k⟩ := k
          cases e1
          exact ⟨ρ, h, ς, q, x, R, S, k, cv, cx⟩
        | cons v vs => cases g3
      | cons k ks =>
        refine PE.imp (re_dic g1 g2 g3 (by simp) hl) fun σ H Q hw => ?_
        obtain ⟨ρ, h, ς, q, x, R, S, k, cv, cx⟩ := hw
        exact ⟨ρ, h, ς, q, x, R, S, g4 ▸ k, cv, cx⟩
    · cases h
  · cases h; exact re_c pe_int (fun _ _ _ => .int _)
  · cases h; exact re_c pe_bl (fun _ _ _ => .bl _)
  · cases h; exact re_c pe_non (fun _ _ _ => .non)
  · split at h
    · rename_i hx
      cases h
      exact re_c pe_str (fun _ _ _ => .str _ (strOk_ofL hx))
    · cases h
  · obtain ⟨es, h1, h2⟩ := Option.map_eq_some_iff.mp h
    subst h2
    exact re_tup (es_ok ih c h1)
  · obtain ⟨es, h1, h2⟩ := Option.map_eq_some_iff.mp h
    subst h2
    exact rl_disp (es_ok ih c h1)
  · -- binary operations
    simp only [Option.bind_eq_bind, Option.bind_eq_some_iff] at h
    obtain ⟨x, h1, y, h2, h3⟩ := h
    have jx := ih T _ x h1 G Φ X W c
    have jy := ih T _ y h2 G Φ X W c
    split at h3
    · cases h3; exact rl_cat jx.la jy.la
    · cases h3; exact rl_cat jx.la jy.la
    · cases h3; exact rl_rep jx.la jy.e
    · cases h3; exact re_bin c.good _ jx.e jy.e
  · obtain ⟨x, h1, h2⟩ := Option.map_eq_some_iff.mp h
    subst h2
    exact re_neg (ih T _ x h1 G Φ X W c).e
  · obtain ⟨x, h1, h2⟩ := Option.map_eq_some_iff.mp h
    subst h2
    exact re_not (ih T _ x h1 G Φ X W c).e
  · exact (cmp1_ok ih c h).1
  · split at h
    · cases h
    · rename_i hm
      simp only [Option.bind_eq_bind, Option.bind_eq_some_iff] at h
      obtain ⟨x, h1, y, h2, z, h3, h4⟩ := h
      cases h4
      exact re_chn c.good _ _ (ih T _ x h1 G Φ X W c).e (ih T _ y h2 G Φ X W c).e (ih T _ z h3 G Φ X W c).e (by simpa using hm)
  · obtain ⟨m, h1, h2⟩ := Option.map_eq_some_iff.mp h
    subst h2
    exact and_ok ih c h1
  · obtain ⟨m, h1, h2⟩ := Option.map_eq_some_iff.mp h
    subst h2
    exact or_ok ih c h1
  · simp only [Option.bind_eq_bind, Option.bind_eq_some_iff] at h
    obtain ⟨z, h1, x, h2, y, h3, h4⟩ := h
    cases h4
    exact re_ifx (iht T _ z h1 G Φ X W c) (ih T _ x h2 G Φ X W c).e (ih T _ y h3 G Φ X W c).e
  · -- subscripts
    split at h
    · simp only [Option.bind_eq_bind, Option.bind_eq_some_iff] at h
      obtain ⟨x, h1, l, h2, u, h3, h4⟩ := h
      have jx := ih T _ x h1 G Φ X W c
      cases x with
      | inl m =>
        cases h4
        exact re_sl c.good jx (o_ok ih c h2) (o_ok ih c h3)
      | inr m =>
        cases h4
        exact rl_cut c.good (rla_l jx) (o_ok ih c h2) (o_ok ih c h3)
    · cases h
    · rename_i k1 k2
      refine ix_ok ih c (plainIx fun lo hi st p z => ?_) h
      cases st with
      | none => exact k1 _ _ _ z
      | some st => exact k2 _ _ _ _ z
  · -- calls by name
    split at h
    · rename_i hx
      obtain ⟨es, h1, h2⟩ := Option.map_eq_some_iff.mp h
      subst h2
      split at hx
      · rename_i hg
        exact call_ok ih c hg hx h1
      · cases hx
    · split at h
      · rename_i hb
        split at h
        · exact bi1_ok ih c (hot_no hot rfl) hb h
        · split at h
          · cases h
          · rename_i hs
            simp only [Bool.or_eq_true, not_or, Bool.not_eq_true] at hs
            obtain ⟨g1, g2, g3⟩ := c.blt hb
            split at h
            · split at h
              · rename_i hx _ hbt
                simp only [Option.bind_eq_bind, Option.bind_eq_some_iff] at h
                obtain ⟨ra, h1, ty, h2, h3⟩ := h
                cases h3
                obtain ⟨k1, k2, k3⟩ := c.blt hbt
                obtain ⟨z1, z2, z3⟩ := tyAt_ok h2
                exact re_isT c.good (of_decide_eq_true (by assumption)) g1 g2 k1 k2 z1 z2 z3 (ih T _ ra h1 G Φ X W c).e (star_cons hs.1)
              · cases h
            · simp only [Option.bind_eq_bind, Option.bind_eq_some_iff] at h
              obtain ⟨f, h0, ra, h1, rb, h2, h3⟩ := h
              cases h3
              obtain ⟨z1, z2, z3, z4⟩ := bifAt_ok h0
              exact re_bif c.good _ (fun _ => by
                cases q : T.hot with
                | false => exact (c.cool q).1
                | true =>
                  have e := of_decide_eq_true (hot q)
                  rw [e, show bifAt "isinstance" 2 = none by decide] at h0
                  cases h0) z1 g1 g2 z2 (ra_cons (ih T _ ra h1 G Φ X W c).e (ra_cons (ih T _ rb h2 G Φ X W c).e ra_nil (star_cons hs.2)) (star_cons hs.1)) z3 z4 (star_cons hs.1) (fun _ => by rw [star_cons hs.2]; rfl)
        · cases h
      · cases h
  · exact kw_ok ih c h
  · -- methods
    split at h
    · cases h
    · rename_i hq
      simp only [Bool.or_eq_true, not_or, Bool.not_eq_true, Bool.not_eq_false'] at hq
      obtain ⟨q1, q2⟩ := hq
      simp only [Option.bind_eq_bind, Option.bind_eq_some_iff] at h
      obtain ⟨ro, h0, h⟩ := h
      split at h
      · simp only [Option.bind_eq_some_iff] at h
        obtain ⟨f, h1, h2⟩ := h
        cases h2
        exact mth1_ok ih c h0 (by simpa using q1) (by simpa using q2) h1 (r := .nil) rfl (by decide)
      · split at h
        · cases h
        · rename_i hs
          split at h
          · rename_i hx
            simp only [Option.bind_eq_some_iff] at h
            obtain ⟨s, h1, h2⟩ := h
            cases h2
            have hx' := of_decide_eq_true hx
            subst hx'
            have ns : ∀ y, isStar y = false → noStars [y] = true := fun y hy => by simp [noStars, hy]
            exact re_ext c.good (ih T _ ro h0 G Φ X W c).e (ih T _ s h1 G Φ X W c).la (super_no (by simpa using q1)) (few (ns _ (by simpa using hs)) (by simp)) (by simpa using q2) (star_cons (by simpa using hs))
          · simp only [Option.bind_eq_some_iff] at h
            obtain ⟨f, h1, s, h2, h3⟩ := h
            cases h3
            refine mth1_ok ih c h0 (by simpa using q1) (by simpa using q2) h1 (r := .cons (asE s) .nil) ?_ (by simp)
            unfold trEs
            rw [if_neg hs, h2]
            rfl
      · split at h
        · cases h
        · rename_i hs
          simp only [Option.bind_eq_some_iff] at h
          obtain ⟨f, h1, s, h2, t, h3, h4⟩ := h
          cases h4
          simp only [Bool.or_eq_true, not_or] at hs
          refine mth1_ok ih c h0 (by simpa using q1) (by simpa using q2) h1 (r := .cons (asE s) (.cons (asE t) .nil)) ?_ (by simp)
          unfold trEs
          rw [if_neg hs.1, h2]
          unfold trEs
          rw [if_neg hs.2, h3]
          rfl
      · cases h
  · -- comprehensions
    have hh := hot_no hot rfl
    split at h
    · rename_i hb
      simp only [Option.bind_eq_bind, Option.bind_eq_some_iff] at h
      obtain ⟨it, h1, t, h2, h⟩ := h
      split at h
      · rename_i h3
        simp only [Option.bind_eq_bind, Option.bind_eq_some_iff] at h
        obtain ⟨x, h4, h⟩ := h
        split at h
        · cases h
          obtain ⟨own, rfl, ok, B⟩ := comp_ok (G := G) (Φ := Φ) (ifs := []) (cd := .no) ih iht c hh hb h1 h2 h3 h4 (.inl ⟨rfl, rfl⟩)
          exact rl_comp (c.goodC hh) c.nd (i_ok ih c h1) ok B (fold_trI h1)
        · simp only [Option.bind_eq_some_iff] at h
          obtain ⟨y, h5, h6⟩ := h
          cases h6
          obtain ⟨own, rfl, ok, B⟩ := comp_ok (G := G) (Φ := Φ) (cd := .some (asE y)) ih iht c hh hb h1 h2 h3 h4 (.inr ⟨_, y, rfl, h5, rfl⟩)
          exact rl_comp (c.goodC hh) c.nd (i_ok ih c h1) ok B (fold_trI h1)
        · cases h
      · cases h
    · cases h
  · cases h
/-! ### tests -/
theorem wT_e {m : Ex} {x : QX} {ς : PSt} {h : PH} {q : Bool → PH → Prop} (hm : plainB m = true) (k : wT Φ m x ς h q) : wE Φ m x ς h (fun v h1 => ∃ r, truS h1 v = some r ∧ q r h1) := by
  cases m with
  | bl b => exact ⟨b, rfl, k⟩
  | var i => exact k
  | ix a b => exact k
  | call f es => exact k
  | «bif» f es => exact k
  | lif f l => exact k
  | _ => cases hm
theorem rt_plain {e : Expr} {m : Ex} (c : Ctx G Φ T X W) (hm : plainB m = true) (j : RE G W X e (wE Φ m)) (he : ∀ whole, isTrue e X.env whole = (do let v ← whole; standAt e.pos; holding [v] (truthy v))) : RT G W X e (wT Φ m) :=
  PT.imp (rt_truth c.good j he) fun σ H Q hw => by
    obtain ⟨ρ, h, ς, q, x, R, S, k, cv, cx⟩ := hw
    exact ⟨ρ, h, ς, q, x, R, S, wT_e hm k, cv, cx⟩
theorem rt_no {e : Expr} {m : Ex} (hm : ∀ x ς h q, ¬ wT Φ m x ς h q) : RT G W X e (wT Φ m) :=
  ⟨fun pins s σ H Q I hw => by
    obtain ⟨ρ, h, ς, q, x, R, S, k, cv, cx⟩ := hw
    exact (hm _ _ _ _ k).elim⟩
theorem noT {m : Ex} (h1 : plainB m = false) (h2 : isTest m = false) : ∀ x ς h q, ¬ wT Φ m x ς h q := by
  intro x ς h q k
  cases m <;> first | exact k | (simp only [plainB] at h1; cases h1; done) | (simp only [isTest] at h2; cases h2; done)
theorem ifx_tr {n : Nat} {a b d : Expr} {p : Pos} {r : Tr} (h : trX (n + 1) T (.IfExp a b d p) = some r) : ∃ x y z, asE r = .ifx x y z := by
  replace h := (tr_inv rfl h).1
  unfold trB at h
  simp only [Option.bind_eq_bind, Option.bind_eq_some_iff] at h
  obtain ⟨z, h1, x, h2, y, h3, h4⟩ := h
  cases h4
  exact ⟨_, _, _, rfl⟩
theorem cmpT_ok {n : Nat} (ih : IH n) (c : Ctx G Φ T X W) {a : Expr} {os : List CmpOp} {bs : List Expr} {pos : Pos} {r : Tr} (h : trB (trX n) T (.Compare a os bs pos) = some r) : RT G W X (.Compare a os bs pos) (wT Φ (asE r)) := by
  match os, bs, h with
  | [o], [b], h =>
    exact (cmp1_ok ih c h).2
  | [o, o'], [b, d], h =>
    change (if behindInMarks o' d then none else do
      let x ← trX n T a
      let y ← trX n T b
      let z ← trX n T d
      some (Sum.inl (.chn o o' (asE x) (asE y) (asE z)))) = some r at h
    split at h
    · cases h
    · rename_i hm
      simp only [Option.bind_eq_bind, Option.bind_eq_some_iff] at h
      obtain ⟨x, h1, y, h2, z, h3, h4⟩ := h
      cases h4
      exact rt_chn c.good _ _ (ih T _ x h1 G Φ X W c).e (ih T _ y h2 G Φ X W c).e (ih T _ z h3 G Φ X W c).e (by simpa using hm)
  | [], _, h => cases h
  | [_], [], h => cases h
  | [_], _ :: _ :: _, h => cases h
  | [_, _], [], h => cases h
  | [_, _], [_], h => cases h
  | [_, _], _ :: _ :: _ :: _, h => cases h
  | _ :: _ :: _ :: _, _, h => cases h
theorem x_okT {n : Nat} (ih : IH n) (iht : IHT n) : IHT (n + 1) := by
  intro T e r h G Φ X W c
  have j := (x_ok ih iht T e r h G Φ X W c).e
  have gen : plainX e = true → (∀ whole, isTrue e X.env whole = (do let v ← whole; standAt e.pos; holding [v] (truthy v))) → RT G W X e (wT Φ (asE r)) := by
    intro hp he
    have ht : isTest (asE r) = false := by
      rcases tr_inv0 h with ⟨m, h1, rfl⟩ | ⟨_, _, _, h2⟩
      · exact (trXc_test h1).2.1
      · exact h2 hp
    cases hb : plainB (asE r) with
    | true => exact rt_plain c hb j he
    | false => exact rt_no (noT hb ht)
  cases e with
  | BoolOp op es pos =>
    replace h := (tr_inv rfl h).1
    unfold trB at h
    cases op with
    | And =>
      obtain ⟨m, h1, h2⟩ := Option.map_eq_some_iff.mp h
      subst h2
      exact (andT_ok iht c h1).pt
    | Or =>
      obtain ⟨m, h1, h2⟩ := Option.map_eq_some_iff.mp h
      subst h2
      exact (orT_ok iht c h1).pt
  | UnaryOp op a pos =>
    cases op with
    | Not =>
      replace h := (tr_inv rfl h).1
      unfold trB at h
      obtain ⟨x, h1, h2⟩ := Option.map_eq_some_iff.mp h
      subst h2
      exact rt_not (iht T _ x h1 G Φ X W c)
    | _ => exact gen rfl fun _ => rfl
  | IfExp a b d p =>
    obtain ⟨x, y, z, e⟩ := ifx_tr h
    rw [e]
    exact rt_no fun x ς h q k => k
  | Compare a os bs pos =>
    replace h := (tr_inv rfl h).1
    exact cmpT_ok ih c h
  | _ => exact gen rfl fun _ => rfl
theorem tr_sound : ∀ n, IH n ∧ IHT n
  | 0 => ⟨(by intro T e r h; cases h), (by intro T e r h; cases h)⟩
  | n + 1 => ⟨x_ok (tr_sound n).1 (tr_sound n).2, x_okT (tr_sound n).1 (tr_sound n).2⟩
end
end WD
end
section
set_option Elab.async false
set_option linter.all false
set_option maxRecDepth 100000
set_option autoImplicit false
set_option maxHeartbeats 8000000
/-! WSound3: the translation means what the layer says: statements. -/
namespace WD
open PySem PySem.Spec PyProof.Rows L2
structure SCtx (G : GE) (Φ : Phi) (T : TEnv) (X : Cx) (W : WX) : Prop where
  c : Ctx G Φ T X W
  kind : X.env.scope.kind = .function
  pass : T.hot = false → PassesOwn (model X.prog X.w) X.A X.env X.xe
  stk : X.stack = X.env :: X.outer
  frm : X.env.frame = some X.env.locals
section
variable {G : GE} {Φ : Phi} {T : TEnv} {X : Cx} {W : WX}
theorem SCtx.bk (c : SCtx G Φ T X W) : X.env.blockKind = .function := by
  unfold Env.blockKind
  rw [c.kind]
  rfl
theorem swP_ok (c : SCtx G Φ T X W) {ts : List Expr} {e : Expr} {r : Option (List Str)} (h : swP (fun x => T.sc.names.lookup x) ts e = some r) : swappedStores ts e X.env = pure r := by
  have hk : ∀ x, X.env.kindOf x = T.sc.names.lookup x := fun x => by rw [← c.c.sc]; rfl
  unfold swP at h
  split at h
  · rename_i ts k p vs k2 p2
    unfold swappedStores
    simp only [hk, c.bk]
    split at h
    · rename_i z
      cases h
      have z' : (!(ts.length == 2 || ts.length == 3) || vs.length != ts.length || ScopeKind.function != ScopeKind.function) = true := by rw [z]; rfl
      rw [if_pos z']
    · rename_i z
      have z' : ¬ (!(ts.length == 2 || ts.length == 3) || vs.length != ts.length || ScopeKind.function != ScopeKind.function) = true := by
        intro w
        apply z
        rw [Bool.or_eq_true] at w
        rcases w with w | w
        · exact w
        · cases w
      rw [if_neg z']
      split at h
      · rename_i z
        cases h
        exact if_pos z
      · rename_i z
        refine (if_neg z).trans ?_
        dsimp only at h
        split at h
        · rename_i z
          cases h
          exact if_pos z
        · rename_i z
          refine (if_neg z).trans ?_
          split at h
          · rename_i z
            cases h
            exact if_pos z
          · rename_i z
            refine (if_neg z).trans ?_
            split at h
            · cases h
            · rename_i z
              refine (if_neg z).trans ?_
              cases h
              rfl
  · cases h
  · rename_i k1 k2
    cases h
    unfold swappedStores
    split
    · rename_i q
      split at q
      · exact (k1 _ _ _ _ _ _ rfl rfl).elim
      · exact (k2 _ _ _ _ _ rfl rfl).elim
      · cases q
    · rfl
theorem comp_inv {n : Nat} {elt : Expr} {gs : List Comprehension} {scope : Scope} {pos : Pos} {r : Tr} (c : Ctx G Φ T X W) (h : trX (n + 1) T (.ListComp elt gs scope pos) = some r) :
    ∃ tg iter ifs t it cd x, gs = [⟨tg, iter, ifs, 0⟩] ∧ r = .inr (.comp ((ownOf T scope).map (·.2)) x t it cd) ∧ RI G W X tg iter (wI Φ it) ∧ BlkOk X.N X.env.scope scope (ownOf T scope) ∧ BlkR G X scope ((ownOf T scope).map (·.2)) tg elt ifs (setT t) (wC Φ cd) (wE Φ x) ∧ ∀ y, foldedSetIterable iter X.env y = pure y := by
  have hh : T.hot = false := by
    rcases tr_inv0 h with ⟨m, h1, _⟩ | ⟨_, hot, _⟩
    · cases h1
    · exact hot_no hot rfl
  replace h := (tr_inv rfl h).1
  have ih := (tr_sound n).1
  have iht := (tr_sound n).2
  rcases gs with _ | ⟨⟨tg, iter, ifs, (_ | _) | _⟩, _ | ⟨g2, gs⟩⟩
  · cases h
  · change (if blkC T.N T.sc scope (ownOf T scope) then do
        let it ← trI T (trX n T) tg iter
        let t ← trTg (T.block scope) 4 tg
        if (slotsT t).all fun i => (ownOf T scope).any fun p => p.2 == i then do
          let x ← trX n (T.block scope) elt
          match ifs with
          | [] => some (Sum.inr (.comp ((ownOf T scope).map (·.2)) (asE x) t it .no))
          | [c] => do
            let y ← trX n (T.block scope) c
            some (.inr (.comp ((ownOf T scope).map (·.2)) (asE x) t it (.some (asE y))))
          | _ => none
        else none
      else none) = some r at h
    split at h
    · rename_i hb
      simp only [Option.bind_eq_bind, Option.bind_eq_some_iff] at h
      obtain ⟨it, h1, t, h2, h⟩ := h
      split at h
      · rename_i h3
        simp only [Option.bind_eq_bind, Option.bind_eq_some_iff] at h
        obtain ⟨x, h4, h⟩ := h
        split at h
        · cases h
          obtain ⟨own, rfl, ok, B⟩ := comp_ok (G := G) (Φ := Φ) (ifs := []) (cd := .no) ih iht c hh hb h1 h2 h3 h4 (.inl ⟨rfl, rfl⟩)
          exact ⟨_, _, _, _, _, _, _, rfl, rfl, i_ok ih c h1, ok, B, fold_trI h1⟩
        · simp only [Option.bind_eq_some_iff] at h
          obtain ⟨y, h5, h6⟩ := h
          cases h6
          obtain ⟨own, rfl, ok, B⟩ := comp_ok (G := G) (Φ := Φ) (cd := .some (asE y)) ih iht c hh hb h1 h2 h3 h4 (.inr ⟨_, y, rfl, h5, rfl⟩)
          exact ⟨_, _, _, _, _, _, _, rfl, rfl, i_ok ih c h1, ok, B, fold_trI h1⟩
        · cases h
      · cases h
    · cases h
  all_goals cases h
theorem swap_name {elt : Expr} {gs : List Comprehension} {scope : Scope} {pos py : Pos} {y : Str} {l : Nat} {env : Env} : ∃ b : Bool, swapsWith (.ListComp elt gs scope pos) (some (.Name y py)) l env = pure b ∧ (b = true → env.kindOf y = some .local) := by
  refine ⟨_, rfl, fun h => ?_⟩
  simp only [Bool.and_eq_true, beq_iff_eq] at h
  exact h.1.1.2
theorem swap_sole {e t : Expr} {l : Nat} {env : Env} (h : isComp e = false) : swapsWithSole [t] e l env = pure false := by
  unfold swapsWithSole
  exact swap_no h
/-- what the induction gives -/
def IHS (n : Nat) : Prop := ∀ (T : TEnv) (s : Stmt) (r : Sm), trS n T s = some r → ∀ (G : GE) (Φ : Phi) (X : Cx) (W : WX), SCtx G Φ T X W → RS G W X s (wS Φ r)
theorem ss_ok {n : Nat} (ih : IHS n) (c : SCtx G Φ T X W) : ∀ {ss : List Stmt} {r : Sms}, trSs (trS n T) ss = some r → RSs G W X ss (wSs Φ r)
  | [], r, h => by
    cases h
    exact rss_nil
  | s :: ss, r, h => by
    unfold trSs at h
    simp only [Option.bind_eq_bind, Option.bind_eq_some_iff] at h
    obtain ⟨a, h1, b, h2, h3⟩ := h
    cases h3
    show RSs G W X (s :: ss) (fun κ ς h => wS Φ a { κ with nx := wSs Φ b κ } ς h)
    exact rss_cons (ih T s a h1 G Φ X W c) (ss_ok ih c h2)
theorem xe (c : SCtx G Φ T X W) {e : Expr} {r : Tr} (h : trX 60 T e = some r) : RE G W X e (wE Φ (asE r)) := ((tr_sound 60).1 T e r h G Φ X W c.c).e
theorem xt (c : SCtx G Φ T X W) {e : Expr} {r : Tr} (h : trX 60 T e = some r) : RT G W X e (wT Φ (asE r)) := (tr_sound 60).2 T e r h G Φ X W c.c
theorem set_ok (c : SCtx G Φ T X W) {x : Str} {e : Expr} {i : Nat} {r : Tr} {p pos : Pos} (hl : T.loc x = true) (hs : T.stor x = true) (hi : ixName T.N x = some i) (h : trX 60 T e = some r) : RS G W X (.Assign [.Name x p] e pos) (wS Φ (.set (.slot i) (asE r))) := by
  have plain : swapsWith e (some (.Name x p)) pos.line X.env = pure false → RS G W X (.Assign [.Name x p] e pos) (wS Φ (.set (.slot i) (asE r))) := fun hw =>
    rs_set (xe c h) c.c.nd (c.c.ix hi) (c.c.loc hl) (c.c.st _ hs hl) (c.c.fre hs (c.c.ix hi)) hw
  by_cases hc : isComp e = true
  · cases e with
    | ListComp elt gs scope ps =>
      obtain ⟨b, hb, hk⟩ := swap_name (elt := elt) (gs := gs) (scope := scope) (pos := ps) (py := p) (y := x) (l := pos.line) (env := X.env)
      cases b with
      | false => exact plain hb
      | true =>
        obtain ⟨tg, iter, ifs, t, it, cd, z, rfl, rfl, k1, k2, k3, k4⟩ := comp_inv c.c h
        have hh : T.hot = false := by
          rcases tr_inv0 h with ⟨m, h1, _⟩ | ⟨_, hot, _⟩
          · cases h1
          · exact hot_no hot rfl
        exact rs_setLc (c.c.goodC hh) c.c.nd (c.c.ix hi) (hk rfl) hb k1 k2 k3 k4
    | SetComp _ _ _ _ => exact absurd (tr_inv rfl h).1 (by intro z; cases z)
    | DictComp _ _ _ _ _ => exact absurd (tr_inv rfl h).1 (by intro z; cases z)
    | _ => cases hc
  · exact plain (swap_no (by simpa using hc))
theorem notSl {i : Expr} (h : isSl i = false) : ∀ a b d p, i ≠ .Slice a b d p := by
  intro a b d p z
  subst z
  cases h
theorem par_ok (c : SCtx G Φ T X W) (hh : T.hot = false) {x y : Str} {a b : Expr} {i j : Nat} {r s : Tr} {px py pt pt2 pos : Pos} {kt k2 : Nat} {names : List Str} (hw : swP (fun x => T.sc.names.lookup x) [.Tuple [.Name x px, .Name y py] kt pt] (.Tuple [a, b] k2 pt2) = some (some names))
    (hs : (isStar a || isStar b) = false) (hi : ixName T.N x = some i) (hj : ixName T.N y = some j) (ha : trX 60 T a = some r) (hb : trX 60 T b = some s) (hij : i ≠ j) (hn : names = [x, y]) (k1 : T.sc.names.lookup x = some .local) (k2' : T.sc.names.lookup y = some .local) : RS G W X (.Assign [.Tuple [.Name x px, .Name y py] kt pt] (.Tuple [a, b] k2 pt2) pos) (wS Φ (.par i j (asE r) (asE s))) := by
  have h0 := swP_ok c hw
  rw [Bool.or_eq_false_iff] at hs
  subst hn
  exact rs_par (c.c.goodC hh) (xe c ha) (xe c hb) c.c.nd (c.c.ix hi) (c.c.ix hj) hij (by rw [c.c.sc]; exact k1) (by rw [c.c.sc]; exact k2') (star_cons hs.1) (star_cons hs.2) h0 (swap_sole rfl)
theorem hotS_no {s : Stmt} (h : T.hot = true → okHotS s = true) (hs : okHotS s = false) : T.hot = false := by
  cases q : T.hot with
  | false => rfl
  | true =>
    rw [h q] at hs
    cases hs
/-! ### try -/
theorem fid_name {f : Str} {i : Nat} (h : fidOf f = some i) : fName i = some f := by
  unfold fidOf at h
  split at h
  · rename_i e; subst e; cases h; rfl
  · split at h
    · rename_i e; subst e; cases h; rfl
    · split at h
      · rename_i e; subst e; cases h; rfl
      · split at h
        · rename_i e; subst e; cases h; rfl
        · cases h
def gOf (G : GE) (o : Option Nat) (a dd : Addr) (fl : List (Str × V)) : GE := match o with
  | none => G
  | some i => ⟨G.K, G.cls, some ⟨i, a, dd, fl⟩⟩
theorem gOf_K {o : Option Nat} {a dd : Addr} {fl : List (Str × V)} : (gOf G o a dd fl).K = G.K := by cases o <;> rfl
theorem gOf_cls {o : Option Nat} {a dd : Addr} {fl : List (Str × V)} : (gOf G o a dd fl).cls = G.cls := by cases o <;> rfl
/-- what a clause's suite wishes -/
def tsuOf (G : GE) (Φ : Phi) (o : Option Nat) (s : Sms) : Addr → Value → Option Addr → TS := fun a cls d D σ H => ∃ (k : Nat) (fs : List PV) (C dd : Addr) (fl : List (Str × V)), cls = .ref C ∧ d = some dd ∧ G.cls k = some (C, xFields k) ∧ XA G.K k fs fl ∧
  upS (gOf G o a dd fl) (fun _ _ _ _ => False) (wSs (Φx k fs Φ) s) D σ H
/-- the clauses' wishes and their meanings -/
inductive HdR (G : GE) (Φ : Phi) (K : PySem.W.Frag) : Hds → List HdT → Prop
  | nil : HdR G Φ K .nil []
  | cons {c : Nat} {o : Option Nat} {s : Sms} {hs : Hds} {l : List HdT} {D : Addr} (h : ∀ k C ns, G.cls k = some (C, ns) → PySem.W.exmOne K (.ref C) (.ref D) = some (xSub k c)) (r : HdR G Φ K hs l) : HdR G Φ K (.cons c o s hs) ((.ref D, o, tsuOf G Φ o s) :: l)
theorem ctx_suite (c : Ctx G Φ T X W) (hh : T.hot = false) {nm : Option Str} {o : Option Nat} (ho : HdName X nm o) {a C dd : Addr} {oe : Obj} {pn : List (Addr × Obj)} {k : Nat} {fs : List PV} {fl : List (Str × V)}
    (hc : G.cls k = some (C, xFields k)) (hA : XA G.K k fs fl) (hz : Zc (.ref C) (some dd) oe) (hf : ∃ vs, oe.data = .fields vs) : Ctx (gOf G o a dd fl) (Φx k fs Φ) (T.suite nm) (X.suite a ((a, oe) :: pn)) (fun _ _ _ _ => False) := by
  obtain ⟨q1, q2, q3⟩ := c.cool hh
  obtain ⟨_, x1, x2, x3⟩ := c.xrf.cls k C _ hc
  refine {
    good := ⟨by rw [gOf_K]; exact c.good.eK, c.good.hu, takes_none5⟩
    hN := c.hN
    nd := c.nd
    sc := c.sc
    st := fun x h1 h2 => c.st x (by
      unfold TEnv.stor at h1 ⊢
      rw [Bool.and_eq_true] at h1 ⊢
      exact ⟨h1.1, by rw [q3]; rfl⟩) h2
    fns := fun x id e => by cases e
    free := fun x hx => c.free x hx
    cst := fun x v e => ⟨by rw [gOf_K]; exact (c.cst x v e).ex⟩
    dct := fun x r e => by cases e
    cool := fun h => by cases h
    gfree := ?_
    xrf := ⟨by rw [gOf_cls]; exact c.xrf.ref, by rw [gOf_cls]; exact c.xrf.cls⟩
    xmk := fun h => by cases h
    xq := ?_ }
  · intro x i h1 h2 y hy
    cases o with
    | none =>
      have hy' : G.xh = some y := hy
      rw [q2] at hy'
      cases hy'
    | some j =>
      cases nm with
      | none => exact ho.elim
      | some n =>
        cases hy
        intro e
        have e' : j = i := e
        subst e'
        have : X.N[j]? = some n := ho.1
        have h2' : X.N[j]? = some x := h2
        rw [this] at h2'
        exact h1 (by rw [← Option.some.inj h2']; rfl)
  · intro e m h
    have key : ∀ {x : Str}, (T.suite nm).xn = some x → ∃ j, o = some j ∧ nm = some x ∧ X.N[j]? = some x := by
      intro x hx
      have hx' : nm = some x := hx
      subst hx'
      cases o with
      | none => exact ho.elim
      | some j => exact ⟨j, rfl, rfl, ho.1⟩
    unfold trXc at h
    split at h
    · split at h
      · rename_i x p1 f p2 hx
        simp only [Bool.and_eq_true, decide_eq_true_eq, Bool.not_eq_true', badName, Bool.or_eq_false_iff] at hx
        obtain ⟨i, h1, h2⟩ := Option.map_eq_some_iff.mp h
        subst h2
        obtain ⟨j, rfl, rfl, hj⟩ := key hx.1.1
        have hn := fid_name h1
        have em : (wE (Φx k fs Φ) (.call i .nil)) = fun _ ς h q => ∃ v, xGet k fs f = some v ∧ atomP v = true ∧ q v h := by
          funext y ς h q
          show Φx k fs Φ i [] h q y = _
          unfold Φx
          rw [hn]
        rw [em]
        exact re_xf (G := gOf G (some j) a dd fl) rfl hA x1 (x3 i f hn) hz hf hj (c.vis hx.1.2) hx.2.1 hx.2.2
      · cases h
    · split at h
      · rename_i z p1 x p2 y p3 p4 hx
        simp only [Bool.and_eq_true, decide_eq_true_eq, Bool.not_eq_true', badName, Bool.or_eq_false_iff] at hx
        obtain ⟨⟨⟨⟨⟨y1, y2⟩, y3⟩, y4⟩, y5⟩, y6⟩ := hx
        obtain ⟨i, h1, h2⟩ := Option.map_eq_some_iff.mp h
        subst h2
        obtain ⟨j, rfl, rfl, hj⟩ := key y1
        obtain ⟨g1, g2, _⟩ := c.blt y4
        obtain ⟨g3, g4⟩ := c.glob y6
        obtain ⟨D, d1, d2⟩ := c.xrf.ref y i h1
        have em : (wE (Φx k fs Φ) (.call (910000 + i) .nil)) = fun _ ς h q => q (.bl (xSub k i)) h := by
          funext u ς h q
          show Φx k fs Φ (910000 + i) [] h q u = _
          unfold Φx
          have hn : fName (910000 + i) = none := by
            unfold fName
            rw [if_neg (by omega), if_neg (by omega), if_neg (by omega), if_neg (by omega)]
          rw [hn]
          show (if 910000 ≤ 910000 + i then q (.bl (xSub k (910000 + i - 910000))) h else _) = _
          rw [if_pos (by omega), show 910000 + i - 910000 = i by omega]
        rw [em]
        exact re_xis (G := gOf G (some j) a dd fl) rfl x2 hz hf hj (c.vis y2) y3.1 y3.2 y5 g1 g2 g3 d1 g4 (d2 k C _ hc).2
      · cases h
    · cases h
theorem hds_ok {n : Nat} (ih : IHS n) (c : SCtx G Φ T X W) (hh : T.hot = false) : ∀ {hs : List ExceptHandler} {r : Hds}, trHs (trS n) T hs = some r → ∃ l, HdsMix X hs l ∧ HdR G Φ X.K r l
  | [], r, h => by
    cases h
    exact ⟨[], .nil, .nil⟩
  | .ExceptHandler (some (.Name x np)) nm (b₀ :: suite) pos :: hs, r, h => by
    simp only [trHs] at h
    split at h
    · rename_i hq
      rw [Bool.and_eq_true] at hq
      simp only [Option.bind_eq_bind, Option.bind_eq_some_iff] at h
      obtain ⟨k, h1, o, h2, s, h3, q, h4, h5⟩ := h
      cases h5
      obtain ⟨l, l1, l2⟩ := hds_ok ih c hh h4
      obtain ⟨g1, g2⟩ := c.c.glob hq.1
      obtain ⟨D, d1, d2⟩ := c.c.xrf.ref x k h1
      have ho : HdName X nm o := by
        cases nm with
        | none => cases h2; trivial
        | some m =>
          dsimp only at h2
          split at h2
          · rename_i hl
            obtain ⟨i, e1, e2⟩ := Option.map_eq_some_iff.mp h2
            subst e2
            exact ⟨c.c.ix e1, by rw [← c.c.sc] at hl; exact hl⟩
          · cases h2
      refine ⟨(.ref D, o, tsuOf G Φ o s) :: l, .cons ⟨g1, g2, .inl d1⟩ ho (fun a oe cls d pn hz hf => ⟨fun pins s1 σ H D1 I hw => ?_⟩) l1, .cons (fun k C ns e => (d2 k C ns e).1) l2⟩
      obtain ⟨k', fs, C, dd, fl, rfl, rfl, hc, hA, hu⟩ := hw
      have c' : SCtx (gOf G o a dd fl) (Φx k' fs Φ) (T.suite nm) (X.suite a ((a, oe) :: pn)) (fun _ _ _ _ => False) := ⟨ctx_suite c.c hh ho hc hA hz hf, c.kind, fun z => (by cases z), c.stk, c.frm⟩
      exact (ss_ok ih c' h3).run pins s1 σ H D1 I hu
    · cases h
  | .ExceptHandler none nm b pos :: hs, r, h => by cases h
  | .ExceptHandler (some e) nm [] pos :: hs, r, h => by
    cases e <;> cases h
  | .ExceptHandler (some (.BoolOp ..)) nm (b₀ :: suite) pos :: hs, r, h => by cases h
  | .ExceptHandler (some (.NamedExpr ..)) nm (b₀ :: suite) pos :: hs, r, h => by cases h
  | .ExceptHandler (some (.BinOp ..)) nm (b₀ :: suite) pos :: hs, r, h => by cases h
  | .ExceptHandler (some (.UnaryOp ..)) nm (b₀ :: suite) pos :: hs, r, h => by cases h
  | .ExceptHandler (some (.Lambda ..)) nm (b₀ :: suite) pos :: hs, r, h => by cases h
  | .ExceptHandler (some (.IfExp ..)) nm (b₀ :: suite) pos :: hs, r, h => by cases h
  | .ExceptHandler (some (.Dict ..)) nm (b₀ :: suite) pos :: hs, r, h => by cases h
  | .ExceptHandler (some (.Set ..)) nm (b₀ :: suite) pos :: hs, r, h => by cases h
  | .ExceptHandler (some (.ListComp ..)) nm (b₀ :: suite) pos :: hs, r, h => by cases h
  | .ExceptHandler (some (.SetComp ..)) nm (b₀ :: suite) pos :: hs, r, h => by cases h
  | .ExceptHandler (some (.DictComp ..)) nm (b₀ :: suite) pos :: hs, r, h => by cases h
  | .ExceptHandler (some (.GeneratorExp ..)) nm (b₀ :: suite) pos :: hs, r, h => by cases h
  | .ExceptHandler (some (.Await ..)) nm (b₀ :: suite) pos :: hs, r, h => by cases h
  | .ExceptHandler (some (.Yield ..)) nm (b₀ :: suite) pos :: hs, r, h => by cases h
  | .ExceptHandler (some (.YieldFrom ..)) nm (b₀ :: suite) pos :: hs, r, h => by cases h
  | .ExceptHandler (some (.Compare ..)) nm (b₀ :: suite) pos :: hs, r, h => by cases h
  | .ExceptHandler (some (.Call ..)) nm (b₀ :: suite) pos :: hs, r, h => by cases h
  | .ExceptHandler (some (.FormattedValue ..)) nm (b₀ :: suite) pos :: hs, r, h => by cases h
  | .ExceptHandler (some (.JoinedStr ..)) nm (b₀ :: suite) pos :: hs, r, h => by cases h
  | .ExceptHandler (some (.Constant ..)) nm (b₀ :: suite) pos :: hs, r, h => by cases h
  | .ExceptHandler (some (.Attribute ..)) nm (b₀ :: suite) pos :: hs, r, h => by cases h
  | .ExceptHandler (some (.Subscript ..)) nm (b₀ :: suite) pos :: hs, r, h => by cases h
  | .ExceptHandler (some (.Starred ..)) nm (b₀ :: suite) pos :: hs, r, h => by cases h
  | .ExceptHandler (some (.List ..)) nm (b₀ :: suite) pos :: hs, r, h => by cases h
  | .ExceptHandler (some (.Tuple ..)) nm (b₀ :: suite) pos :: hs, r, h => by cases h
  | .ExceptHandler (some (.Slice ..)) nm (b₀ :: suite) pos :: hs, r, h => by cases h
theorem mix_ok {κ : KS} {D : Ends} {ρ0 : Nat → Addr} {h0 : PH} {H0 : Hp} (hx : G.xh = none) (xr : XRefs G X T.xc) (cv : CovS G ρ0 h0 H0 κ D W) : ∀ {hs : Hds} {l : List HdT}, HdR G Φ X.K hs l → ∀ {ρ : Nat → Addr} {h : PH} {H : Hp} {ς : PSt} {σ : L2.St} {e : PV} {cls : Value} {d : Option Addr}, Ext ρ0 h0.length H0 ρ h.length H → HR G.K ρ h H → SR G ρ h.length H ς σ → XR G ρ h.length H e cls d → wH Φ hs e κ ς h → wMix X.K W D l cls d σ H
  | _, _, .nil, ρ, h, H, ς, σ, e, cls, d, E, R, S, x, k => cv.ex ρ h H ς σ e cls d E R S x k
  | _, _, .cons (c := c) (o := o) (s := s) hq r, ρ, h, H, ς, σ, e, cls, d, E, R, S, x, k => by
    have x' := x
    obtain ⟨k', fs, C, ns, dd, us, fl, rfl, e1, rfl, rfl, e2, e3, e4, e5⟩ := x'
    have ens := (xr.cls k' C ns e1).1
    subst ens
    change if xSub k' c = true then inSl o ς ∧ wSs (Φx k' fs Φ) s (unK o κ) (unS o ς) h else wH Φ _ (.xc k' fs) κ ς h at k
    refine ⟨xSub k' c, hq k' C _ e1, fun hb a ha => ?_, fun hb => mix_ok hx xr cv r E R S x ?_⟩
    · rw [if_pos hb] at k
      obtain ⟨k1, k2⟩ := k
      have hA : XA G.K k' fs fl := fun f v g1 g2 => by
        obtain ⟨u, u1, u2⟩ := xa_zip e4 g1
        exact ⟨u, by rw [e3]; exact u1, atom_rep g2 u2⟩
      refine ⟨k', fs, C, dd, fl, rfl, rfl, e1, hA, ?_⟩
      cases o with
      | none =>
        exact ⟨ρ, h, ς, _, R, S, k2, ⟨fun ρ' h' H' ς' σ' E' R' S' z => cv.nx ρ' h' H' ς' σ' (E.trans R E') R' S' z, cv.rt.at R E, fun ρ' h' H' ς' σ' E' R' S' z => cv.bk ρ' h' H' ς' σ' (E.trans R E') R' S' z, fun ρ' h' H' ς' σ' E' R' S' z => cv.ct ρ' h' H' ς' σ' (E.trans R E') R' S' z, fun _ _ _ _ _ _ _ _ _ _ _ _ z => z.elim⟩⟩
      | some i =>
        have hi : i < σ.length := by rw [← S.len]; exact k1
        have back : ∀ {ρ' : Nat → Addr} {n : Nat} {H' : Hp} {ς' : PSt} {σ' : L2.St}, SR (gOf G (some i) a dd fl) ρ' n H' ς' σ' → SR G ρ' n H' (ς'.set i none) (σ'.set i none) := fun S' => ⟨by simp [S'.len], unset_get i none S'.get, fun y hy => by rw [hx] at hy; cases hy⟩
        refine ⟨ρ, h, ς.set i none, _, R, ⟨by simp [entS, S.len], unset_get i _ S.get, fun y hy => ?_⟩, k2, ⟨fun ρ' h' H' ς' σ' E' R' S' z => cv.nx ρ' h' H' _ _ (E.trans R E') R' (back S') z, cv.rt.at R E, fun ρ' h' H' ς' σ' E' R' S' z => cv.bk ρ' h' H' _ _ (E.trans R E') R' (back S') z, fun ρ' h' H' ς' σ' E' R' S' z => cv.ct ρ' h' H' _ _ (E.trans R E') R' (back S') z, fun _ _ _ _ _ _ _ _ _ _ _ _ z => z.elim⟩⟩
        cases hy
        exact ⟨List.getElem?_set_self hi, e2⟩
    · rw [if_neg (by rw [hb]; exact Bool.false_ne_true)] at k
      exact k
theorem try_ok {n : Nat} (ih : IHS n) (c : SCtx G Φ T X W) (hh : T.hot = false) {b : List Stmt} {h₀ : ExceptHandler} {hs : List ExceptHandler} {x : Sms} {y : Hds} {pos : Pos} (h1 : trSs (trS n T) b = some x) (h2 : trHs (trS n) T (h₀ :: hs) = some y) : RS G W X (.Try b (h₀ :: hs) [] [] pos) (wS Φ (.tryx x y)) := by
  obtain ⟨l, l1, l2⟩ := hds_ok ih c hh h2
  refine PS.imp (ps_try_mix c.stk c.frm c.c.nd c.c.good.tk (tb := fun W' => upS G W' (wSs Φ x)) (fun W' pn xe tk' pa => ?_) l1) fun D σ H hw => ?_
  · have c' : SCtx G Φ T (X.tr pn xe) W' := by
      refine ⟨?_, c.kind, fun _ => pa, c.stk, c.frm⟩
      exact {
        good := ⟨c.c.good.eK, c.c.good.hu, tk'⟩
        hN := c.c.hN
        nd := c.c.nd
        sc := c.c.sc
        st := c.c.st
        fns := fun x id e => ⟨(c.c.fns x id e).ex⟩
        free := c.c.free
        cst := fun x v e => ⟨(c.c.cst x v e).ex⟩
        dct := fun x r e => ⟨(c.c.dct x r e).ex⟩
        cool := c.c.cool
        gfree := c.c.gfree
        xrf := ⟨c.c.xrf.ref, c.c.xrf.cls⟩
        xmk := fun h => ⟨(c.c.xmk h).made⟩
        xq := fun e m h => by
          rw [trXc_none (c.c.cool hh).2.2] at h
          cases h }
    exact ss_ok ih c' h1
  · obtain ⟨ρ, h, ς, κ, R, S, z, cv⟩ := hw
    exact ⟨ρ, h, ς, _, R, S, z, ⟨cv.nx, cv.rt, cv.bk, cv.ct, fun ρ' h' H' ς' σ' e cl d E' R' S' xr' z' => mix_ok (c.c.cool hh).2.1 c.c.xrf cv l2 E' R' S' xr' z'⟩⟩
theorem s_ok {n : Nat} (ih : IHS n) : IHS (n + 1) := by
  intro T s r h G Φ X W c
  unfold trS at h
  split at h
  · cases h
  rename_i hk
  have hot : T.hot = true → okHotS s = true := fun ht => by
    rw [ht, Bool.true_and] at hk
    simpa using hk
  clear hk
  split at h
  · -- expression statements
    split at h
    · cases h; exact rs_doc
    · split at h
      · cases h
      · rename_i hc
        obtain ⟨x, h1, h2⟩ := Option.map_eq_some_iff.mp h
        subst h2
        exact rs_expr (xe c h1) (swap_no (by simpa using hc))
  · -- assignments
    split at h
    · split at h
      · rename_i hl
        rw [Bool.and_eq_true] at hl
        simp only [Option.bind_eq_bind, Option.bind_eq_some_iff] at h
        obtain ⟨i, h1, x, h2, h3⟩ := h
        split at h3
        · cases h3
        · cases h3
          exact set_ok c hl.1 hl.2 h1 h2
      · cases h
    · split at h
      · rename_i hw
        split at h
        · cases h
        · rename_i hc
          simp only [Option.bind_eq_bind, Option.bind_eq_some_iff] at h
          obtain ⟨t, h1, x, h2, h3⟩ := h
          cases h3
          exact rs_asg (ws := slotsT t) (xe c h2) (tg_ok c.c (hotS_no hot rfl) h1 fun i hi => hi) (swap_sole (by simpa using hc)) (swP_ok c hw) rfl
      · rename_i hw
        split at h
        · split at h
          · cases h
          · rename_i hs
            simp only [Option.bind_eq_bind, Option.bind_eq_some_iff] at h
            obtain ⟨i, h1, j, h2, x, h3, y, h4, h5⟩ := h
            split at h5
            · cases h5
            · rename_i hij
              cases h5
              simp only [Bool.or_eq_true, not_or, Bool.not_eq_true, decide_eq_false_iff_not, Bool.not_eq_false', Bool.and_eq_true, decide_eq_true_eq] at hij
              exact par_ok c (hotS_no hot rfl) hw (by simpa using hs) h1 h2 h3 h4 hij.1 hij.2.1.1 hij.2.1.2 hij.2.2
        · cases h
      · cases h
    · split at h
      · cases h
      · rename_i hq
        simp only [Option.bind_eq_bind, Option.bind_eq_some_iff] at h
        obtain ⟨x, h1, y, h2, z, h3, h4⟩ := h
        cases h4
        simp only [Bool.or_eq_true, not_or, Bool.not_eq_true] at hq
        refine rs_sub c.c.good (xe c h3) (xe c h1) (xe c h2) (swap_sole hq.2) ?_ rfl ?_
        · unfold swappedStores
          rfl
        · intro v
          have hn := notSl hq.1
          unfold assign
          split <;> first | rfl | (exact absurd rfl (hn _ _ _ _))
    · cases h
  · -- augmented
    split at h
    · split at h
      · rename_i hl
        rw [Bool.and_eq_true] at hl
        simp only [Option.bind_eq_bind, Option.bind_eq_some_iff] at h
        obtain ⟨i, h1, x, h2, h3⟩ := h
        cases h3
        exact rs_aug c.c.good (xe c h2) c.c.nd (c.c.ix h1) (c.c.loc hl.1) (c.c.st _ hl.2 hl.1) (c.c.fre hl.2 (c.c.ix h1))
      · cases h
    · split at h
      · cases h
      · rename_i hq
        simp only [Option.bind_eq_bind, Option.bind_eq_some_iff] at h
        obtain ⟨x, h1, y, h2, z, h3, h4⟩ := h
        cases h4
        refine rs_augS c.c.good (xe c h3) (xe c h1) (xe c h2) fun ov iv new => ?_
        have hn := notSl (by simpa using hq)
        unfold augStore
        split <;> first | rfl | (exact absurd rfl (hn _ _ _ _))
    · cases h
  · obtain ⟨x, h1, h2⟩ := Option.map_eq_some_iff.mp h
    subst h2
    exact rs_ret (xe c h1)
  · cases h
    exact rs_retN
  · simp only [Option.bind_eq_bind, Option.bind_eq_some_iff] at h
    obtain ⟨x, h1, y, h2, z, h3, h4⟩ := h
    cases h4
    exact rs_if (xt c h1) (ss_ok ih c h2) (ss_ok ih c h3)
  · simp only [Option.bind_eq_bind, Option.bind_eq_some_iff] at h
    obtain ⟨w, h1, t, h2, y, h3, h4⟩ := h
    cases h4
    have hh : T.hot = false := hotS_no hot rfl
    exact rs_for (ws := slotsT t) (c.c.goodC hh) (c.pass hh) (i_ok (tr_sound 60).1 c.c h1) (tg_ok c.c hh h2 fun i hi => hi) (ss_ok ih c h3) (fold_trI h1)
  · simp only [Option.bind_eq_bind, Option.bind_eq_some_iff] at h
    obtain ⟨x, h1, y, h2, h3⟩ := h
    cases h3
    exact rs_while c.c.good (c.pass (hotS_no hot rfl)) (xt c h1) (ss_ok ih c h2)
  · simp only [Option.bind_eq_bind, Option.bind_eq_some_iff] at h
    obtain ⟨x, h1, y, h2, h3⟩ := h
    cases h3
    exact try_ok ih c (hotS_no hot rfl) h1 h2
  · split at h
    · rename_i hq
      rw [Bool.and_eq_true] at hq
      simp only [Option.bind_eq_bind, Option.bind_eq_some_iff] at h
      obtain ⟨k, h1, x, h2, h3⟩ := h
      split at h3
      · cases h3
      · rename_i hk
        cases h3
        have hh : T.hot = false := hotS_no hot rfl
        obtain ⟨g1, g2⟩ := c.c.glob hq.1
        have ns := trEs_stars h2
        have hs := es_ok (tr_sound 60).1 c.c h2
        simp only [noStars, Bool.and_eq_true, Bool.not_eq_true'] at ns
        exact rs_raise (c.c.goodC hh) (c.c.xmk hh) h1 (by simpa using hk) hs g1 g2 (star_cons ns.1) (fun _ => plain_args ns.2)
    · cases h
  · cases h
    exact rs_pass
  · cases h
    exact rs_break
  · cases h
    exact rs_cont
  · cases h
theorem trS_sound : ∀ n, IHS n
  | 0 => by intro T s r h; cases h
  | n + 1 => s_ok (trS_sound n)
end
end WD
end
section
set_option Elab.async false
set_option linter.all false
set_option maxRecDepth 100000
set_option autoImplicit false
set_option maxHeartbeats 8000000
/-! WExc: the error classes of a row: how they are made, what the written part says of them. -/
namespace WD
open PySem PySem.Spec PyProof.Rows L2
/-- an error's own __init__ -/
structure XI where
  x : Str
  k : Nat
  q : Str
  st : Stmt
def XI.d (i : XI) : He.DefD := ⟨(i.x, some "__init__"), "__init__", i.q, defArgs i.st, defBody i.st, defScope i.st, [], []⟩
abbrev sf : Str := "self"
/-- its body: self.f = f, field by field -/
def initB : List Str → List Stmt → Bool
  | [], [] => true
  | f :: fs, .Assign [.Attribute (.Name s _) g _] (.Name v _) _ :: r => decide (s = "self") && (decide (g = f) && (decide (v = f) && initB fs r))
  | _, _ => false
inductive InitS : List Str → List Stmt → Prop
  | nil : InitS [] []
  | cons {f : Str} {p1 p2 p3 p4 : Pos} {fs : List Str} {r : List Stmt} : InitS fs r → InitS (f :: fs) (.Assign [.Attribute (.Name sf p1) f p2] (.Name f p3) p4 :: r)
theorem initB_ok : ∀ (fs : List Str) (body : List Stmt), initB fs body = true → InitS fs body := by
  intro fs
  induction fs with
  | nil =>
    intro body h
    cases body with
    | nil => exact .nil
    | cons a r => cases h
  | cons f fs ih =>
    intro body h
    unfold initB at h
    split at h
    · rename_i e
      cases e
    · rename_i e
      cases e
      simp only [Bool.and_eq_true, decide_eq_true_eq] at h
      obtain ⟨rfl, rfl, rfl, h⟩ := h
      exact .cons (ih _ h)
    · cases h
structure XIOk (i : XI) : Prop where
  sc : FnScope (sf :: xFields i.k) (sf :: xFields i.k) (defScope i.st)
  vs : ∀ y, y ∈ sf :: xFields i.k → (defScope i.st).names.lookup y = some .local
  body : initB (xFields i.k) (defBody i.st) = true
  nn : xFields i.k ≠ []
  bind : ∀ (kV doc pm : Value) (an : Option Addr) (cdv ct : Value) (us : List Value), us.length = (sf :: xFields i.k).length → bindArgs (PySem.W.fnOf "__init__" i.q (defArgs i.st) (defBody i.st) (defScope i.st) .none kV doc pm an cdv ct) ⟨us, []⟩ = pure ((sf :: xFields i.k).zip us)
section
variable {P : Program} {w : World} {K : PySem.W.Frag} {mg : Str → Option Value} {base : Heap}
theorem xFields_nodup (k : Nat) : (xFields k).Nodup := by
  unfold xFields
  have : ∀ r ∈ xTab, r.2.2.Nodup := by decide +kernel
  by_cases h : k < xTab.length
  · rw [List.getD_eq_getElem?_getD, List.getElem?_eq_getElem h]
    exact this _ (List.getElem_mem h)
  · rw [List.getD_eq_getElem?_getD, List.getElem?_eq_none (by omega)]
    exact List.nodup_nil
theorem xFields_ok (k : Nat) : ∀ f, f ∈ xFields k → (f == ("__debug__" : Str)) = false ∧ (f == ("__classdict__" : Str)) = false := by
  unfold xFields
  have : ∀ r ∈ xTab, ∀ f, f ∈ r.2.2 → (f == ("__debug__" : Str)) = false ∧ (f == ("__classdict__" : Str)) = false := by decide +kernel
  by_cases h : k < xTab.length
  · rw [List.getD_eq_getElem?_getD, List.getElem?_eq_getElem h]
    exact this _ (List.getElem_mem h)
  · rw [List.getD_eq_getElem?_getD, List.getElem?_eq_none (by omega)]
    intro f hf
    cases hf
theorem init_fn {C fI : Addr} {fd : FuncData} {k : Nat} {q : Str} {st : Stmt} (F : FunD K "__init__" q (defArgs st) (defBody st) (defScope st) [] [] fI fd) (S : FnScope (sf :: xFields k) (sf :: xFields k) (defScope st)) (vs : ∀ y, y ∈ sf :: xFields k → (defScope st).names.lookup y = some .local)
    (hb : initB (xFields k) (defBody st) = true) (nn : xFields k ≠ []) (T : OexC K C) (hno : ∀ f, f ∈ xFields k → PySem.W.findIn K (.ref C) f = some none) : FnOk P w K mg base (L2.CX P w) 1 fI fd (sf :: xFields k) (spInit C (xFields k)) := by
  have nd := xFields_nodup k
  have dbg := xFields_ok k
  have le := xFields_le k
  refine F.ok S (fun vs H Q E h => ?_) fun cdv A outer s H us Q E hr h => ?_
  · obtain ⟨a, ws, rfl, hl, _⟩ := h
    simp [hl]
  have hb' := initB_ok _ _ hb
  clear hb
  generalize xFields k = fs at *
  generalize defBody st = body at *
  obtain ⟨a, ws, rfl, hl, ea, hq⟩ := h
  cases hb' with
  | nil => exact absurd rfl nn
  | cons hb1 =>
    rename_i f p1 p2 p3 p4 fs r
    cases hb1 with
    | nil =>
      match ws, hl with
      | [y], _ =>
        refine ⟨_, pss_cons (ps_ost (pe_var (i := 0) rfl (.inl (vs _ (by simp))) (by decide) (by decide)) (pe_var (i := 1) rfl (.inl (vs _ (by simp))) (dbg _ (by simp)).1 (dbg _ (by simp)).2)) pss_nil, ?_⟩
        refine ⟨y, rfl, .ref a, rfl, a, C, rfl, T, hno _ (by simp), .inl ⟨ea, fun dx hd hda => ?_⟩⟩
        refine hq dx _ [(f, y)] hd hda upd_same ?_ (fun f => rfl) fun b h1 h2 => ?_
        · rw [upd_ne hda, upd_same]
        · rw [upd_ne h1, upd_ne h2]
    | cons hb2 =>
      rename_i f2 p5 p6 p7 p8 fs r
      cases hb2 with
      | cons _ => simp at le
      | nil =>
        have hne : f ≠ f2 := fun e => by
          rw [e] at nd
          simp at nd
        match ws, hl with
        | [y, z], _ =>
          refine ⟨_, pss_cons (ps_ost (pe_var (i := 0) rfl (.inl (vs _ (by simp))) (by decide) (by decide)) (pe_var (i := 1) rfl (.inl (vs _ (by simp))) (dbg _ (by simp)).1 (dbg _ (by simp)).2)) (pss_cons (ps_ost (pe_var (i := 0) rfl (.inl (vs _ (by simp))) (by decide) (by decide)) (pe_var (i := 2) rfl (.inl (vs _ (by simp))) (dbg _ (by simp)).1 (dbg _ (by simp)).2)) pss_nil), ?_⟩
          refine ⟨y, rfl, .ref a, rfl, a, C, rfl, T, hno _ (by simp), .inl ⟨ea, fun dx hd hda => ?_⟩⟩
          refine ⟨z, rfl, .ref a, rfl, a, C, rfl, T, hno _ (by simp), .inr ⟨dx, [(f, y)], upd_same, by rw [upd_ne hda, upd_same], by simp, ?_⟩⟩
          refine hq dx _ [(f2, z), (f, y)] hd hda ?_ upd_same (fun g => ?_) fun b h1 h2 => ?_
          · rw [upd_ne (Ne.symm hda), upd_same]
          · show List.lookup g [(f2, z), (f, y)] = List.lookup g [(f, y), (f2, z)]
            rw [lookup_put, lookup_put, lookup_put, lookup_put]
            by_cases e1 : g = f2
            · rw [if_pos e1, if_neg (fun e2 => hne (e2.symm.trans e1)), if_pos e1]
            · rw [if_neg e1, if_neg e1]
          · rw [upd_ne h2, upd_ne h1, upd_ne h2]
/-! ### what the written part says -/
def oexB (K : PySem.W.Frag) (C : Addr) : Bool := (match K.lookup C with
  | some ⟨.type "type", _, .cls cd, sl⟩ => (match cd.mro, sl.toList with
    | .ref C' :: bm, [_, _, _, _, some (.builtin n), _] => decide (C' = C) && (decide (n = "ValueError.__new__") && (!cd.hasDel && (cd.hasDict && PySem.HandSPX.refsVE bm)))
    | _, _ => false)
  | _ => false) && (decide (PySem.W.findIn K (.ref C) "__setattr__" = some (some (.builtin "object.__setattr__"))) && (decide (PySem.W.subIn K (.ref C) (.type "BaseException") = some true) && (decide (PySem.W.typeIn K (.ref C) = some (.type "type")) && PySem.W.keepIn K (.ref C))))
theorem oexB_ok {C : Addr} (h : oexB K C = true) : OexC K C := by
  unfold oexB at h
  simp only [Bool.and_eq_true, decide_eq_true_eq] at h
  obtain ⟨h1, h2, h3, h4, h5⟩ := h
  refine ⟨?_, h2, h3, h4, h5⟩
  split at h1
  · rename_i dd cd sl ho
    split at h1
    · rename_i C' bm k0 k1 k2 k3 n k5 hm hs
      simp only [Bool.and_eq_true, decide_eq_true_eq, Bool.not_eq_true'] at h1
      obtain ⟨rfl, rfl, hdel, hd, hr⟩ := h1
      obtain ⟨nm, bs, mro, ns, qn, hd', sn, sub, ab, col, del⟩ := cd
      dsimp only at hm hdel hd
      subst hm hdel hd
      have hsl : sl = #[k0, k1, k2, k3, some (.builtin "ValueError.__new__"), k5] := by
        obtain ⟨l⟩ := sl
        simp only at hs
        rw [hs]
      subst hsl
      exact ⟨nm, qn, ns, bs, bm, sn, sub, ab, col, dd, k0, k1, k2, k3, k5, ho, hr⟩
    · cases h1
  · cases h1
def exccB (K : PySem.W.Frag) (D : Addr) : Bool := decide (PySem.W.findIn K (.ref D) "__getattribute__" = some (some (.builtin "BaseException.__getattribute__"))) && (decide (PySem.W.findIn K (.ref D) "__getattr__" = some none) && (decide (PySem.W.subIn K (.ref D) (.type "BaseException") = some true) && (PySem.W.hasDictIn K D &&
  (decide (PySem.W.findIn K (.ref D) "__class__" = some (some (.builtin "object.__class__"))) && (decide (PySem.W.specialIn K (.builtin "object.__class__") "__get__" = some (some (.builtin "getset_descriptor.__get__"))) && (decide (PySem.W.takesIn K (.builtin "object.__class__") = some true) && decide (PySem.W.mroIn K D (.type "object") = some true)))))))
theorem exccB_ok {D : Addr} (h : exccB K D = true) : ExcC K D := by
  unfold exccB at h
  simp only [Bool.and_eq_true, decide_eq_true_eq] at h
  obtain ⟨h1, h2, h3, h4, h5, h6, h7, h8⟩ := h
  exact ⟨h1, h2, h3, h4, h5, h6, h7, h8⟩
def fNames : List Str := ["word", "at", "line", "name"]
theorem fName_mem {i : Nat} {f : Str} (h : fName i = some f) : f ∈ fNames := by
  unfold fName at h
  repeat' split at h
  all_goals first | (cases h; decide) | cases h
theorem xFields_mem {k : Nat} {f : Str} (h : f ∈ xFields k) : f ∈ fNames := by
  have : ∀ r ∈ xTab, ∀ f, f ∈ r.2.2 → f ∈ fNames := by decide +kernel
  unfold xFields at h
  by_cases q : k < xTab.length
  · rw [List.getD_eq_getElem?_getD, List.getElem?_eq_getElem q] at h
    exact this _ (List.getElem_mem q) f h
  · rw [List.getD_eq_getElem?_getD, List.getElem?_eq_none (by omega)] at h
    cases h
def clsOf (xi : List XI) (K : PySem.W.Frag) (k : Nat) : Option (Addr × List Str) := (xi.find? fun i => decide (i.k = k)).map fun i => (He.ga K i.x, xFields i.k)
def xB (xc : List (Str × Nat)) (xi : List XI) (K : PySem.W.Frag) : Bool :=
  (xc.all fun p => He.eqO (PySem.W.nsIn K mainGlobals p.1) (some (some (.ref (He.ga K p.1)))) && xi.all fun i => decide (PySem.W.exmOne K (.ref (He.ga K i.x)) (.ref (He.ga K p.1)) = some (xSub i.k p.2)) && decide (PySem.W.kitOne K (.ref (He.ga K i.x)) (.ref (He.ga K p.1)) = some (xSub i.k p.2))) &&
  ((xi.all fun i => xfB K (He.ga K i.x) && (exccB K (He.ga K i.x) && (oexB K (He.ga K i.x) && ((fNames.all fun f => decide (PySem.W.findIn K (.ref (He.ga K i.x)) f = some none)) && (decide (PySem.W.findIn K (.ref (He.ga K i.x)) "__init__" = some (some (.ref (He.ma K (He.ga K i.x) "__init__")))) && decide (PySem.W.typeIn K (.ref (He.ma K (He.ga K i.x) "__init__")) = some (.type "function"))))))) &&
  xc.all fun p => (xFields p.2).isEmpty || xi.any fun i => decide (i.x = p.1) && decide (i.k = p.2))
/-- the classes with fields have numbers of their own -/
def xiNodup (xi : List XI) : Bool := decide ((xi.map (·.k)).Nodup)
theorem clsOf_mem {xi : List XI} {k : Nat} {C : Addr} {ns : List Str} (h : clsOf xi K k = some (C, ns)) : ∃ i, i ∈ xi ∧ i.k = k ∧ C = He.ga K i.x ∧ ns = xFields k := by
  unfold clsOf at h
  obtain ⟨i, h1, h2⟩ := Option.map_eq_some_iff.mp h
  have e := of_decide_eq_true (List.find?_some (p := fun i : XI => decide (i.k = k)) h1)
  cases h2
  exact ⟨i, List.mem_of_find?_eq_some h1, e, rfl, by rw [e]⟩
theorem clsOf_at {xi : List XI} (hn : xiNodup xi = true) {i : XI} (h : i ∈ xi) : clsOf xi K i.k = some (He.ga K i.x, xFields i.k) := by
  unfold clsOf
  have hn' := of_decide_eq_true hn
  have : xi.find? (fun j => decide (j.k = i.k)) = some i := by
    clear hn
    induction xi with
    | nil => cases h
    | cons a r ih =>
      rw [List.find?_cons]
      rw [List.map_cons, List.nodup_cons] at hn'
      by_cases e : a.k = i.k
      · rw [decide_eq_true e]
        rcases List.mem_cons.mp h with rfl | h
        · rfl
        · exact absurd (List.mem_map.mpr ⟨i, h, e.symm⟩) hn'.1
      · rw [decide_eq_false e]
        rcases List.mem_cons.mp h with rfl | h
        · exact absurd rfl e
        · exact ih h hn'.2
  rw [this]
  rfl
theorem xB_refs {xc : List (Str × Nat)} {xi : List XI} {h : Heap} {G : GE} {X : Cx} (KX : K.In h) (g : h.Ns mainGlobals mg) (b : xB xc xi K = true) (eK : X.K = K) (em : X.mg = mg) (ec : G.cls = clsOf xi K) : XRefs G X xc := by
  subst eK em
  unfold xB at b
  simp only [Bool.and_eq_true] at b
  obtain ⟨b1, b2, b3⟩ := b
  refine ⟨fun x c e => ?_, fun k C ns e => ?_⟩
  · have hm : (x, c) ∈ xc := by
      clear b1 b3
      induction xc with
      | nil => cases e
      | cons p r ih =>
        obtain ⟨y, u⟩ := p
        rw [List.lookup_cons] at e
        split at e
        · rename_i z
          cases e
          rw [eq_of_beq z]
          exact List.mem_cons_self
        · exact List.mem_cons_of_mem _ (ih e)
    have := List.all_eq_true.mp b1 _ hm
    rw [Bool.and_eq_true] at this
    refine ⟨_, PySem.W.mg_of KX g (He.eqO_ok this.1), fun k C ns e2 => ?_⟩
    rw [ec] at e2
    obtain ⟨i, hi, rfl, rfl, _⟩ := clsOf_mem e2
    have z := List.all_eq_true.mp this.2 i hi
    simp only [Bool.and_eq_true, decide_eq_true_eq] at z
    exact z
  · rw [ec] at e
    obtain ⟨i, hi, rfl, rfl, rfl⟩ := clsOf_mem e
    have z := List.all_eq_true.mp b2 i hi
    simp only [Bool.and_eq_true, decide_eq_true_eq] at z
    obtain ⟨z1, z2, z3, z4, z5, z6⟩ := z
    exact ⟨rfl, xfB_ok z1, exccB_ok z2, fun j f hf => of_decide_eq_true (List.all_eq_true.mp z4 f (fName_mem hf))⟩
theorem xB_made {xc : List (Str × Nat)} {xi : List XI} {h : Heap} {G : GE} {X : Cx} (KX : K.In h) (g : h.Ns mainGlobals mg) (b : xB xc xi K = true) (hn : xiNodup xi = true) (ok : ∀ i ∈ xi, XIOk i) (fd : ∀ i ∈ xi, ∃ fd, FunD K "__init__" i.q (defArgs i.st) (defBody i.st) (defScope i.st) [] [] (He.ma K (He.ga K i.x) "__init__") fd)
    (eK : X.K = K) (em : X.mg = mg) (ec : G.cls = clsOf xi K) (hr : Room 2 X.A) : XMade G X xc := by
  subst eK em
  have b' := b
  unfold xB at b
  simp only [Bool.and_eq_true] at b
  obtain ⟨b1, b2, b3⟩ := b
  refine ⟨fun x k e hk => ?_⟩
  have hm : (x, k) ∈ xc := by
    clear b1 b3 b'
    induction xc with
    | nil => cases e
    | cons p r ih =>
      obtain ⟨y, u⟩ := p
      rw [List.lookup_cons] at e
      split at e
      · rename_i z
        cases e
        rw [eq_of_beq z]
        exact List.mem_cons_self
      · exact List.mem_cons_of_mem _ (ih e)
  have m1 := List.all_eq_true.mp b1 _ hm
  rw [Bool.and_eq_true] at m1
  have m2 := List.all_eq_true.mp b3 _ hm
  rw [Bool.or_eq_true] at m2
  rcases m2 with m2 | m2
  · exact absurd (by simpa using m2) hk
  obtain ⟨i, hi, m3⟩ := List.any_eq_true.mp m2
  simp only [Bool.and_eq_true, decide_eq_true_eq] at m3
  obtain ⟨rfl, rfl⟩ := m3
  have z := List.all_eq_true.mp b2 i hi
  simp only [Bool.and_eq_true, decide_eq_true_eq] at z
  obtain ⟨z1, z2, z3, z4, z5, z6⟩ := z
  obtain ⟨f, F⟩ := fd i hi
  have o := ok i hi
  refine ⟨_, PySem.W.mg_of KX g (He.eqO_ok m1.1), by rw [ec]; exact clsOf_at hn hi, oexB_ok z3, _, f, _, z5, z6, init_fn F o.sc o.vs o.body hk (oexB_ok z3) (fun y hy => of_decide_eq_true (List.all_eq_true.mp z4 y (xFields_mem hy))), hr, FunD.bindsN F o.bind⟩
end
end WD
end
section
set_option Elab.async false
set_option linter.all false
set_option maxRecDepth 100000
set_option autoImplicit false
set_option maxHeartbeats 8000000
/-! WAll: all defs of a row keep what their translation means; the head. -/
namespace WD
open PySem PySem.Spec PyProof.Rows L2
structure DE where
  name : Str
  st : Stmt
  N : List Str
  ps : List Str
  fn : Fn
def tabOf (ds : List (Nat × DE)) : Tab := fun id => (ds.lookup id).map (·.fn)
def glOf (ds : List (Nat × DE)) : List (Str × Nat) := ds.map fun p => (p.2.name, p.1)
/-- what is said of the module beside its defs: names that it does not bind, calls with keywords, constants, dicts of text keys, error classes -/
structure MEn where
  fr : List Str
  kw : List KwS
  cs : List (Str × PV)
  cd : List (Str × List Str × List PV)
  xc : List (Str × Nat)
  xi : List XI
abbrev FnP (K : PySem.W.Frag) (d : DE) (f : Addr) (fd : FuncData) : Prop := FunD K d.name d.name (defArgs d.st) (defBody d.st) (defScope d.st) [] [] f fd
structure DOk (ds : List (Nat × DE)) (me : MEn) (id : Nat) (d : DE) : Prop where
  sc : FnScope d.N d.ps (defScope d.st)
  tr : trSs (trS 40 ⟨d.N, defScope d.st, none, glOf ds, me.fr, me.kw, me.cs, me.cd, false, none, me.xc⟩) (defBody d.st) = some d.fn.body
  pn : d.fn.ps = d.ps.length
  nn : d.fn.ns = d.N.length
  bind : ∀ (kV doc pm : Value) (an : Option Addr) (cdv ct : Value) (us : List Value), us.length = d.ps.length → bindArgs (PySem.W.fnOf d.name d.name (defArgs d.st) (defBody d.st) (defScope d.st) .none kV doc pm an cdv ct) ⟨us, []⟩ = pure (d.ps.zip us)
  kbind : ∀ e ∈ me.kw, e.id = id → ∀ (kV doc pm : Value) (an : Option Addr) (cdv ct : Value) (us ws : List Value), us.length = e.n → ws.length = e.ks.length → bindArgs (PySem.W.fnOf d.name d.name (defArgs d.st) (defBody d.st) (defScope d.st) .none kV doc pm an cdv ct) ⟨us, e.ks.zip ws⟩ = pure (d.ps.zip (gP e.ix us ws))
  tab : tabOf ds id = some d.fn
/-- the same for defs that no call names by keywords -/
theorem no_kbind {me : MEn} {id : Nat} (h : (me.kw.any fun e => decide (e.id = id)) = false) {P : KwS → Prop} : ∀ e ∈ me.kw, e.id = id → P e := fun e he hi => by
  have := List.any_eq_false.mp h e he
  simp [hi] at this
theorem FunD.kbn {K : PySem.W.Frag} {x : Str} {params : Arguments} {body : List Stmt} {scope : Scope} {kws : List (Str × V)} {f : Addr} {fd : FuncData} {ps : List Str} {n : Nat} {ks : List Str} {ix : List Nat} (F : FunD K x x params body scope [] kws f fd)
    (h : ∀ (kV doc pm : Value) (an : Option Addr) (cdv ct : Value) (us ws : List Value), us.length = n → ws.length = ks.length → bindArgs (PySem.W.fnOf x x params body scope .none kV doc pm an cdv ct) ⟨us, ks.zip ws⟩ = pure (ps.zip (gP ix us ws))) : KBn K fd ps n ks (gP ix) (gPV ix) := by
  obtain ⟨oc, od, dV, kV, doc, pm, an, cdv, ct, osl, rfl, lk, hcd, hD, hK⟩ := F.ex
  rcases hD with ⟨_, rfl⟩ | ⟨e, _⟩
  · exact ⟨fun s us ws _ l1 l2 => .of_eq (h kV doc pm an cdv ct us ws l1 l2), fun r1 r2 => gP_rel ix r1 r2⟩
  · exact absurd rfl e
theorem spOf0 {G : GE} {T : Tab} {f : Nat} {vs : List V} {H : Hp} {Q : VK} {E : XK} (h : spOf G (den T 0) f vs H Q E) : False := by
  obtain ⟨ρ, h, args, q, x, R, r, z, _⟩ := h
  exact den_zero z
theorem lookup_gl {x : Str} {id : Nat} : ∀ {ds : List (Nat × DE)}, (glOf ds).lookup x = some id → ∃ d, (id, d) ∈ ds ∧ d.name = x
  | [], h => by cases h
  | p :: ds, h => by
    unfold glOf at h
    rw [List.map_cons, List.lookup_cons] at h
    split at h
    · rename_i e
      cases h
      exact ⟨p.2, by simp, (eq_of_beq e).symm⟩
    · obtain ⟨d, h1, h2⟩ := lookup_gl h
      exact ⟨d, List.mem_cons_of_mem _ h1, h2⟩
section
variable {ds : List (Nat × DE)} {me : MEn} {P : Program} {w : World} {K : PySem.W.Frag} {mg : Str → Option Value} {base : Heap}
theorem reps_map {K : PySem.W.Frag} {ρ : Nat → Addr} {n : Nat} {H : Hp} : ∀ {xs : List PV} {us : List V}, Reps K ρ n H xs us → ∀ (i : Nat) (v : PV), (xs.map some)[i]? = some (some v) → ∃ u, (us.map some)[i]? = some (some u) ∧ Rep K ρ n H v u
  | _, _, .nil, i, v, e => by simp at e
  | _, _, .cons r t, 0, v, e => by
    simp at e
    subst e
    exact ⟨_, by simp, r⟩
  | _, _, .cons r t, i + 1, v, e => by
    simp only [List.map_cons, List.getElem?_cons_succ] at e ⊢
    exact reps_map t i v e
theorem fn_all {h0 : Heap} (ok : ∀ p ∈ ds, DOk ds me p.1 p.2) (KX : K.In h0) (g0 : h0.Ns mainGlobals mg) (xb : xB me.xc me.xi K = true) (xn : xiNodup me.xi = true) (xok : ∀ i ∈ me.xi, XIOk i) (xfd : ∀ i ∈ me.xi, ∃ fd, FunD K "__init__" i.q (defArgs i.st) (defBody i.st) (defScope i.st) [] [] (He.ma K (He.ga K i.x) "__init__") fd) (facts : ∀ p ∈ ds, ∃ f fd, FnP K p.2 f fd ∧ mg p.2.name = some (.ref f)) (frk : ∀ x ∈ me.fr, mg x = none)
    (csk : ∀ x v, me.cs.lookup x = some v → ∃ u u', mg x = some u' ∧ RelV u u' ∧ ∀ (ρ : Nat → Addr) (n : Nat) (H : Hp), Rep K ρ n H v u)
    (cdk : ∀ x r, me.cd.lookup x = some r → ∃ d es n, mg x = some (.ref d) ∧ KDict K w d es n ∧ (∀ z, r.1.contains z = false → PySem.W.nsIn K d z = some none) ∧ (∀ z, r.1.contains z = true → ∃ u, PySem.W.nsIn K d z = some (some u)) ∧
      ∀ z y, rodGet r.1 r.2 z = some y → ∃ u v, PySem.W.nsIn K d z = some (some u) ∧ RelV v u ∧ ∀ (ρ : Nat → Addr) (n : Nat) (H : Hp), Rep K ρ n H y v) :
    ∀ (n : Nat) (p : Nat × DE), p ∈ ds → ∀ f fd, FnP K p.2 f fd → FnOk P w K mg base (L2.CX P w) (n + 2) f fd p.2.ps (spOf ⟨K, clsOf me.xi K, none⟩ (den (tabOf ds) n) p.1)
  | 0, p, hp, f, fd, F => ⟨fun vs H Q E h => (spOf0 h).elim, fun A outer s H args us vs Q E hr e0 hb r h => (spOf0 h).elim⟩
  | n + 1, p, hp, f, fd, F => by
    have k := ok p hp
    have len : ∀ vs H Q E, spOf ⟨K, clsOf me.xi K, none⟩ (den (tabOf ds) (n + 1)) p.1 vs H Q E → vs.length = p.2.ps.length := by
      intro vs H Q E h
      obtain ⟨ρ, h, args, q, x, R, r, z, _⟩ := h
      rw [den_succ] at z
      obtain ⟨F', e, l, _⟩ := z
      rw [k.tab] at e
      cases e
      rw [← r.length, l, k.pn]
    refine F.ok k.sc len fun cdv A outer s H vs Q E hr h => ⟨upS ⟨K, clsOf me.xi K, none⟩ (fun c d _ H => E c d H) (wSs (den (tabOf ds) n) p.2.fn.body), ?_, ?_⟩
    · refine ss_ok (trS_sound 40) ⟨⟨⟨rfl, ?_, takes_of rfl rfl rfl rfl⟩, rfl, k.sc.nd, rfl, fun _ _ _ => .inl rfl, ?_, frk, fun x v e => ⟨csk x v e⟩, fun x r e => ⟨cdk x r e⟩, fun _ => ⟨rfl, rfl, rfl⟩, fun x i _ _ => GE.free_none rfl i, xB_refs KX g0 xb rfl rfl rfl, fun _ => xB_made KX g0 xb xn xok xfd rfl rfl rfl (hr.mono (by omega)), fun e m q => by rw [trXc_none rfl] at q; cases q⟩, k.sc.kind, fun _ => passes_of rfl, rfl, rfl⟩ k.tr
      · have := hr.un
        show (A.deeper (envOfC p.2.name (defScope p.2.st) s.heap.objs.size f cdv)).units + 65 < cLine
        omega
      · intro x id e
        obtain ⟨d, h1, h2⟩ := lookup_gl e
        obtain ⟨f', fd', F', g⟩ := facts (id, d) h1
        exact ⟨f', fd', d.ps, n + 2, by rw [← h2]; exact g, fn_all ok KX g0 xb xn xok xfd facts frk csk cdk n (id, d) h1 f' fd' F', hr, F'.kp, FunD.bindsN F' ((ok (id, d) h1).bind), fun e he hi => FunD.kbn F' ((ok (id, d) h1).kbind e he hi)⟩
    · have l := len _ _ _ _ h
      obtain ⟨ρ, h, args, q, x, R, r, z, cv, cx⟩ := h
      rw [den_succ] at z
      obtain ⟨F', e, l', z⟩ := z
      rw [k.tab] at e
      cases e
      refine ⟨ρ, h, _, _, R, ⟨?_, ?_, fun x e => by cases e⟩, z, ⟨?_, cv, fun _ _ _ _ _ _ _ _ z => z.elim, fun _ _ _ _ _ _ _ _ z => z.elim, ?_⟩⟩
      · unfold L2.start
        simp only [List.length_append, List.length_map, List.length_replicate]
        rw [r.length, k.nn, k.pn, l]
      · intro i v e
        unfold L2.start
        by_cases hi : i < args.length
        · rw [List.getElem?_append_left (by simpa using hi)] at e
          rw [List.getElem?_append_left (by rw [List.length_map, ← r.length]; exact hi)]
          exact reps_map r i v e
        · rw [List.getElem?_append_right (by simp; omega)] at e
          rw [List.getElem?_replicate] at e
          split at e <;> cases e
      · intro ρ' h' H' ς' σ' E' R' S' z'
        exact cv ρ' h' H' .non .non E' R' .non z'
      · intro ρ' h' H' ς' σ' e c d E' R' S' X' z'
        exact cx ρ' h' H' e c d E' R' X' z'
/-! ### the head -/
def dOf (d : DE) : He.DefD := ⟨(d.name, none), d.name, d.name, defArgs d.st, defBody d.st, defScope d.st, [], []⟩
def fnsOf (ds : List (Nat × DE)) : List He.DefD := ds.map fun p => dOf p.2
def fasOf (ds : List (Nat × DE)) (fr : List Str) : List He.Fa := (ds.map fun p => He.Fa.glo p.2.name) ++ fr.map He.Fa.free
/-- the law by its pure meaning -/
def PureLaw (ds : List (Nat × DE)) (n id : Nat) : Prop := ∀ ns : List Int, ns.length ≤ 63 → (∀ k ∈ ns, Builtin.Int.intBits k ≤ 1048576) → den (tabOf ds) n id [.rol (ns.map .int)] [] (fun v _ => v = .bl true) (fun _ _ => False)
theorem ints_map {K : PySem.W.Frag} {ρ : Nat → Addr} {n : Nat} {H : Hp} : ∀ ns : List Int, Reps K ρ n H (ns.map .int) (ns.map V.int)
  | [] => .nil
  | i :: r => .cons (.int i) (ints_map r)
/-! ### constants, as they stand in the written part -/
mutual
def repB (K : PySem.W.Frag) : PV → Value → Bool
  | .non, u => (match u with | .none => true | _ => false)
  | .bl b, u => (match u with | .bool c => b == c | _ => false)
  | .int i, u => (match u with | .int j _ => decide (i = j) | _ => false)
  | .str x, u => (match u with | .str y _ => decide (x = y) && PyData.strOk x | _ => false)
  | .tup xs, u => (match u with
    | .ref a => (match K.lookup a with
      | some ⟨.type c, _, .seq its _, _⟩ => decide (c = "tuple") && (decide (its.size ≤ sizeLine) && repsB K xs its.toList)
      | _ => false)
    | _ => false)
  | .rol _, _ => false
  | .loc _, _ => false
  | .xc _ _, _ => false
def repsB (K : PySem.W.Frag) : List PV → List Value → Bool
  | [], us => us.isEmpty
  | x :: xs, us => (match us with
    | [] => false
    | u :: r => repB K x u && repsB K xs r)
end
mutual
theorem repB_ok {K : PySem.W.Frag} : ∀ (v : PV) (u : Value), repB K v u = true → ∃ w, RelV w u ∧ ∀ (ρ : Nat → Addr) (n : Nat) (H : Hp), Rep K ρ n H v w
  | .non, u, h => by
    unfold repB at h
    split at h
    · exact ⟨.non, rfl, fun _ _ _ => .non⟩
    · cases h
  | .bl b, u, h => by
    unfold repB at h
    split at h
    · rename_i c
      exact ⟨.bl b, by rw [eq_of_beq h]; rfl, fun _ _ _ => .bl b⟩
    · cases h
  | .int i, u, h => by
    unfold repB at h
    split at h
    · rename_i j t
      exact ⟨.int i, ⟨t, by rw [of_decide_eq_true h]⟩, fun _ _ _ => .int i⟩
    · cases h
  | .str x, u, h => by
    unfold repB at h
    split at h
    · rename_i y t
      rw [Bool.and_eq_true] at h
      exact ⟨.str x, ⟨t, by rw [of_decide_eq_true h.1]⟩, fun _ _ _ => .str x h.2⟩
    · cases h
  | .tup xs, u, h => by
    unfold repB at h
    split at h
    · rename_i a
      split at h
      · rename_i c dd its n sl q
        simp only [Bool.and_eq_true, decide_eq_true_eq] at h
        obtain ⟨h1, h2, h3⟩ := h
        obtain ⟨ws, r1, r2⟩ := repsB_ok xs its.toList h3
        refine ⟨.ref a, rfl, fun ρ m H => .tup (vs := ws) (.inr ⟨_, its, n, q, congrArg Value.type h1, rfl, h2, r1⟩) (r2 ρ m H)⟩
      · cases h
    · cases h
  | .rol _, _, h => by unfold repB at h; cases h
  | .loc _, _, h => by unfold repB at h; cases h
  | .xc _ _, _, h => by unfold repB at h; cases h
theorem repsB_ok {K : PySem.W.Frag} : ∀ (xs : List PV) (us : List Value), repsB K xs us = true → ∃ ws, Vals ws us ∧ ∀ (ρ : Nat → Addr) (n : Nat) (H : Hp), Reps K ρ n H xs ws
  | [], us, h => by
    unfold repsB at h
    have : us = [] := by simpa using h
    subst this
    exact ⟨[], .nil, fun _ _ _ => .nil⟩
  | x :: xs, us, h => by
    unfold repsB at h
    split at h
    · cases h
    · rename_i u r
      rw [Bool.and_eq_true] at h
      obtain ⟨w, a1, a2⟩ := repB_ok x u h.1
      obtain ⟨ws, b1, b2⟩ := repsB_ok xs r h.2
      exact ⟨w :: ws, .cons a1 b1, fun ρ n H => .cons (a2 ρ n H) (b2 ρ n H)⟩
end
def csB (cs : List (Str × PV)) (K : PySem.W.Frag) : Bool := cs.all fun p => match PySem.W.nsIn K mainGlobals p.1 with
  | some (some u) => repB K p.2 u
  | _ => false
def cdB (cd : List (Str × List Str × List PV)) (K : PySem.W.Frag) : Bool := cd.all fun p => He.eqO (PySem.W.nsIn K mainGlobals p.1) (some (some (.ref (He.ga K p.1)))) && (decide (p.2.1.length = p.2.2.length) && (p.2.1.zip p.2.2).all fun q => match PySem.W.nsIn K (He.ga K p.1) q.1 with
  | some (some u) => repB K q.2 u
  | _ => false)
def exOf (me : MEn) (K : PySem.W.Frag) : Bool := csB me.cs K && (cdB me.cd K && xB me.xc me.xi K)
/-- all defs that are looked at: the law's, the errors' own -/
def fnsAll (ds : List (Nat × DE)) (me : MEn) : List He.DefD := fnsOf ds ++ me.xi.map XI.d
def tsOf (me : MEn) : List He.Tab := me.cd.map fun p => (fun K => He.ga K p.1, p.2.1)
theorem lookup_mem' {β : Type} {x : Str} {v : β} : ∀ {l : List (Str × β)}, l.lookup x = some v → (x, v) ∈ l
  | [], h => by cases h
  | (y, u) :: r, h => by
    rw [List.lookup_cons] at h
    split at h
    · rename_i e
      cases h
      rw [eq_of_beq e]
      exact List.mem_cons_self
    · exact List.mem_cons_of_mem _ (lookup_mem' h)
theorem csB_ok {cs : List (Str × PV)} {h : Heap} (X : K.In h) (G : h.Ns mainGlobals mg) (c : csB cs K = true) : ∀ x v, cs.lookup x = some v → ∃ u u', mg x = some u' ∧ RelV u u' ∧ ∀ (ρ : Nat → Addr) (n : Nat) (H : Hp), Rep K ρ n H v u := by
  intro x v e
  have h1 := List.all_eq_true.mp c (x, v) (lookup_mem' e)
  have h2 : (match PySem.W.nsIn K mainGlobals x with | some (some u) => repB K v u | _ => false) = true := h1
  split at h2
  · rename_i u q
    obtain ⟨w, a1, a2⟩ := repB_ok v u h2
    exact ⟨w, u, PySem.W.mg_of X G q, a1, a2⟩
  · cases h2
theorem rodGet_mem {z : Str} {y : PV} : ∀ {ks : List Str} {xs : List PV}, rodGet ks xs z = some y → (z, y) ∈ ks.zip xs
  | [], _, h => by simp [rodGet] at h
  | _ :: _, [], h => by simp [rodGet] at h
  | k :: ks, x :: xs, h => by
    unfold rodGet at h
    split at h
    · rename_i e
      cases h
      rw [e]
      exact List.mem_cons_self
    · exact List.mem_cons_of_mem _ (rodGet_mem h)
theorem zip_mem {z : Str} : ∀ {ks : List Str} {xs : List PV}, ks.length = xs.length → ks.contains z = true → ∃ y, (z, y) ∈ ks.zip xs
  | [], _, _, h => by simp at h
  | k :: ks, [], e, _ => by simp at e
  | k :: ks, x :: xs, e, h => by
    by_cases q : k = z
    · exact ⟨x, by rw [q]; exact List.mem_cons_self⟩
    · have : ks.contains z = true := by
        rw [List.contains_cons] at h
        simpa [Ne.symm q] using h
      obtain ⟨y, hy⟩ := zip_mem (ks := ks) (xs := xs) (by simpa using e) this
      exact ⟨y, List.mem_cons_of_mem _ hy⟩
theorem keys_none {Q : Params} {z : Str} : ∀ {l : List DictEntry} {ks : List Str}, l.map He.keyOf = He.keysIn Q ks → ks.contains z = false → l.find? (·.key.isStr z) = none ∧ l.any (·.refKey) = false
  | [], _, _, _ => ⟨rfl, rfl⟩
  | e :: r, [], h, _ => by cases h
  | e :: r, k :: ks, h, hz => by
    have h1 : He.keyOf e :: r.map He.keyOf = some (k, PyData.keyHash Q k) :: He.keysIn Q ks := h
    injection h1 with h2 h3
    rw [List.contains_cons, Bool.or_eq_false_iff] at hz
    obtain ⟨a1, a2⟩ := keys_none h3 hz.2
    unfold He.keyOf at h2
    split at h2
    · rename_i x t q
      have h4 := Option.some.inj h2
      obtain ⟨h5, h6⟩ := Prod.mk.inj h4
      refine ⟨?_, ?_⟩
      · rw [List.find?_cons, a1, q]
        have : (Value.str x t).isStr z = false := by
          show (x == z) = false
          rw [h5]
          have := hz.1
          rw [beq_eq_false_iff_ne] at this ⊢
          exact fun y => this y.symm
        rw [this]
      · rw [List.any_cons, a2, Bool.or_false]
        unfold DictEntry.refKey
        rw [q]
    · cases h2
theorem cdB_ok {cd : List (Str × List Str × List PV)} {h : Heap} (X : K.In h) (G : h.Ns mainGlobals mg) (c : cdB cd K = true) (t : ∀ p ∈ cd, He.dicW K (He.ga K p.1) = some (He.keysIn w.params p.2.1)) :
    ∀ x r, cd.lookup x = some r → ∃ d es n, mg x = some (.ref d) ∧ KDict K w d es n ∧ (∀ z, r.1.contains z = false → PySem.W.nsIn K d z = some none) ∧ (∀ z, r.1.contains z = true → ∃ u, PySem.W.nsIn K d z = some (some u)) ∧
      ∀ z y, rodGet r.1 r.2 z = some y → ∃ u v, PySem.W.nsIn K d z = some (some u) ∧ RelV v u ∧ ∀ (ρ : Nat → Addr) (n : Nat) (H : Hp), Rep K ρ n H y v := by
  intro x r e
  have hm := lookup_mem' e
  have h1 := List.all_eq_true.mp c (x, r) hm
  have t1 := t (x, r) hm
  simp only [Bool.and_eq_true, decide_eq_true_eq] at h1
  obtain ⟨c1, c2, c3⟩ := h1
  obtain ⟨es, n, D⟩ := He.dicW_ok t1
  have get : ∀ z y, (z, y) ∈ r.1.zip r.2 → ∃ u v, PySem.W.nsIn K (He.ga K x) z = some (some u) ∧ RelV v u ∧ ∀ (ρ : Nat → Addr) (n : Nat) (H : Hp), Rep K ρ n H y v := by
    intro z y hz
    have h2 := List.all_eq_true.mp c3 (z, y) hz
    have h3 : (match PySem.W.nsIn K (He.ga K x) z with | some (some u) => repB K y u | _ => false) = true := h2
    split at h3
    · rename_i u q
      obtain ⟨v, a1, a2⟩ := repB_ok y u h3
      exact ⟨u, v, q, a1, a2⟩
    · cases h3
  refine ⟨He.ga K x, es, n, PySem.W.mg_of X G (He.eqO_ok c1), D, fun z hz => ?_, fun z hz => ?_, fun z y hz => get z y (rodGet_mem hz)⟩
  · have hk : es.toList.map He.keyOf = He.keysIn w.params r.1 := by
      unfold He.dicW at t1
      rw [D.at_] at t1
      dsimp only at t1
      split at t1
      · exact Option.some.inj t1
      · cases t1
    obtain ⟨a1, a2⟩ := keys_none hk hz
    unfold PySem.W.nsIn
    rw [D.at_]
    dsimp only
    rw [a1, a2]
    rfl
  · obtain ⟨y, hy⟩ := zip_mem c2 hz
    obtain ⟨u, v, a1, _⟩ := get z y hy
    exact ⟨u, a1⟩
theorem head_facts {h : Heap} {f : Addr} {n id : Nat} {d : DE} (ok : ∀ p ∈ ds, DOk ds me p.1 p.2) (xn : xiNodup me.xi = true) (xok : ∀ i ∈ me.xi, XIOk i) (hd : (id, d) ∈ ds) (hps : d.ps = [("script" : Str)]) (pure_ : PureLaw ds n id)
    (X : K.In h) (G : h.Ns mainGlobals mg) (hfa : mg d.name = some (.ref f)) (cx : He.SaysX (fasOf ds me.fr) (fnsAll ds me) (tsOf me) [] (exOf me) w h K) :
    ∃ (fd : FuncData) (sp : Sp), (∀ (s : Shared) (v : Value), BindsTo s fd ⟨[v], []⟩ [(("script" : Str), v)]) ∧
      (∀ (H : Hp) (a : Addr) (ns : List Int), ns.length ≤ 63 → (∀ k ∈ ns, Builtin.Int.intBits k ≤ 1048576) → L2.Only H → SqL K H a (ns.map V.int) → sp [.ref a] H (fun v _ => v = .bl true) fun _ _ _ => False) ∧
      ∀ base : Heap, K.In base → base.Ns mainGlobals mg → FnOk P w K mg base (L2.CX P w) (n + 2) f fd [("script" : Str)] sp := by
  have c : He.SaysD (fasOf ds me.fr) (fnsAll ds me) K := cx.t.d
  have facts : ∀ p ∈ ds, ∃ f fd, FnP K p.2 f fd ∧ mg p.2.name = some (.ref f) := by
    intro p hp
    obtain ⟨fd, F⟩ := He.SaysD.defs c (d := dOf p.2) (List.mem_append.mpr (.inl (List.mem_map.mpr ⟨p, hp, rfl⟩)))
    have g := He.glo_ok X G (He.SaysD.facts c (f := .glo p.2.name) (List.mem_append.mpr (.inl (List.mem_map.mpr ⟨p, hp, rfl⟩))))
    exact ⟨_, fd, F, g⟩
  have frk : ∀ x ∈ me.fr, mg x = none := fun x hx => He.free_ok X G (He.SaysD.facts c (f := .free x) (List.mem_append.mpr (.inr (List.mem_map.mpr ⟨x, hx, rfl⟩))))
  have hex : exOf me K = true := cx.more
  unfold exOf at hex
  rw [Bool.and_eq_true, Bool.and_eq_true] at hex
  have xfd : ∀ i ∈ me.xi, ∃ fd, FunD K "__init__" i.q (defArgs i.st) (defBody i.st) (defScope i.st) [] [] (He.ma K (He.ga K i.x) "__init__") fd := fun i hi => He.SaysD.defs c (d := i.d) (List.mem_append.mpr (.inr (List.mem_map.mpr ⟨i, hi, rfl⟩)))
  have csk := csB_ok X G hex.1
  have cdk := cdB_ok (w := w) X G hex.2.1 fun p hp => by
    have e : (tsOf me).map (fun t => He.dicW K (t.1 K)) = (tsOf me).map fun t => some (He.keysIn w.params t.2) := congrArg (fun z : He.AlT => z.2) cx.t
    unfold tsOf at e
    rw [List.map_map, List.map_map] at e
    exact List.map_inj_left.mp e p hp
  obtain ⟨f', fd, F, g⟩ := facts (id, d) hd
  have e : f' = f := by
    have := g.symm.trans hfa
    cases this
    rfl
  subst e
  refine ⟨fd, spOf ⟨K, clsOf me.xi K, none⟩ (den (tabOf ds) n) id, fun s v => ?_, fun H a ns hl hk hO hS => ?_, fun base _ _ => ?_⟩
  · have b := FunD.bindsA F ((ok (id, d) hd).bind) s [v] (by rw [hps]; rfl)
    rw [hps] at b
    exact b
  · refine ⟨fun _ => 0, [], [.rol (ns.map .int)], _, _, ⟨fun l o e => by simp at e, fun l l' h1 => by simp at h1⟩, .cons (.rol ?_ (ints_map ns)) .nil, pure_ ns hl hk, ?_, fun _ _ _ _ _ _ _ _ _ z => z.elim⟩
    · rcases hS with (s | ⟨o, s⟩) | s
      · exfalso
        rcases hO a with q | ⟨o, xs, q⟩
        · rw [q] at s; cases s
        · rw [q] at s; cases s
      · exact .inl ⟨o, s⟩
      · exact .inr (.inr s)
    · intro ρ' h' H' v u E R r z
      have z' : v = .bl true := z
      subst z'
      cases r
      rfl
  · have := fn_all (P := P) (w := w) (base := base) ok X G hex.2.2 xn xok xfd facts frk csk cdk n (id, d) hd f' fd F
    rw [hps] at this
    exact this
end
/-- the law's end: what may leave a call is told by the world -/
theorem walk_ofW {l : PySem.W.OpenLaw} {n k : Nat} {q : Program} {loose : List Str} {XP : (Str → Option Value) → Heap → Prop} {YP : World → Heap → Prop} {d : DefRec} {x : Str}
    (hn : l.most = some n) (hn2 : n ≤ sizeLine) (hdf : d.params.defaults = []) (hr : Room k callerA)
    (F : ∀ (w : World) (mg : Str → Option Value) (fa : Addr) (h : Heap), YP w h → h.Ns mainGlobals mg → mg d.name = some (.ref fa) →
      ∃ (K : PySem.W.Frag) (fd : FuncData) (sp : Sp), K.In h ∧ (∀ (s : Shared) (u : Value), BindsTo s fd ⟨[u], []⟩ [(x, u)]) ∧
        (∀ (H : Hp) (a : Addr) (ns : List Int), ns.length ≤ n → (∀ k ∈ ns, Builtin.Int.intBits k ≤ 1048576) → L2.Only H → SqL K H a (ns.map V.int) → sp [.ref a] H (fun v _ => v = .bl true) fun _ _ _ => False) ∧
        ∀ base : Heap, K.In base → base.Ns mainGlobals mg → FnOk l.prog w K mg base (L2.CX l.prog w) k fa fd [x] sp) :
    PySem.W.WalkO q loose XP YP l.row.toRowW d [] (fun f vs => PySem.call f vs) := by
  refine Att.attach_callB hn hdf fun w s₀ s₁ mg mb fa o pm cd doc a vs ns G Y ho hd hcd hmg hobj hints hlen hbits hg => ?_
  obtain ⟨K, fd, sp, KX, hb, hsp, hF⟩ := F w mg fa _ Y G.T.g hmg
  exact law_call KX G.T.g G.T.b G.T.builtins G.T.nolimit hg hobj hints (Nat.le_trans hlen hn2) hr hF hb (fun H hO hS => hsp H a ns hlen hbits hO hS) fun H e s' ⟨_, _, _, _, _, _, _, _, _, _, _, _, z⟩ => z
end WD
end
section
set_option Elab.async false
set_option linter.all false
set_option maxRecDepth 100000
set_option autoImplicit false
set_option maxHeartbeats 8000000
/-! WPure: plain lemmas for the laws' plain meaning. -/
namespace WD
open PySem PySem.Spec PyProof.Rows L2
theorem getL_set {h : PH} {l : Nat} {xs ys : List PV} (e : getL h l = some ys) : getL (h.set l (.lst xs)) l = some xs := by
  have := getL_lt e
  unfold getL
  rw [List.getElem?_set_self this]
theorem getL_set_ne {h : PH} {l k : Nat} {o : PO} (e : l ≠ k) : getL (h.set l o) k = getL h k := by
  unfold getL
  rw [List.getElem?_set_ne e]
theorem getL_new {h : PH} {xs : List PV} : getL (h ++ [.lst xs]) h.length = some xs := by
  unfold getL
  simp
theorem getL_app {h : PH} {l : Nat} {o : PO} {xs : List PV} (e : getL h l = some xs) : getL (h ++ [o]) l = some xs := by
  have := getL_lt e
  unfold getL at e ⊢
  rw [List.getElem?_append_left this]
  exact e
/-- what stood still stands, but for the locations of W -/
def Fr (S : List Nat) (h h' : PH) : Prop := h.length ≤ h'.length ∧ ∀ l, l < h.length → l ∉ S → h'[l]? = h[l]?
theorem Fr.refl {S : List Nat} {h : PH} : Fr S h h := ⟨Nat.le_refl _, fun _ _ _ => rfl⟩
theorem Fr.trans {S : List Nat} {h h1 h2 : PH} (a : Fr S h h1) (b : Fr S h1 h2) : Fr S h h2 :=
  ⟨Nat.le_trans a.1 b.1, fun l hl hn => (b.2 l (Nat.lt_of_lt_of_le hl a.1) hn).trans (a.2 l hl hn)⟩
theorem Fr.mono {S S' : List Nat} {h h1 : PH} (a : Fr S h h1) (m : ∀ l, l ∈ S → l ∈ S') : Fr S' h h1 := ⟨a.1, fun l hl hn => a.2 l hl fun z => hn (m l z)⟩
theorem Fr.app {S : List Nat} {h : PH} {o : PO} : Fr S h (h ++ [o]) := ⟨by simp, fun l hl _ => List.getElem?_append_left hl⟩
theorem Fr.set {S : List Nat} {h : PH} {l : Nat} {o : PO} (m : l ∈ S) : Fr S h (h.set l o) := ⟨by simp, fun k _ hn => List.getElem?_set_ne fun z => hn (by rw [← z]; exact m)⟩
/-- a place that was not there may be written -/
theorem Fr.setNew {S : List Nat} {h h1 : PH} {l : Nat} {o : PO} (a : Fr S h h1) (m : h.length ≤ l) : Fr S h (h1.set l o) := ⟨by simpa using a.1, fun k hk hn => by rw [List.getElem?_set_ne (by omega)]; exact a.2 k hk hn⟩
theorem Fr.get {S : List Nat} {h h1 : PH} {l : Nat} {xs : List PV} (a : Fr S h h1) (e : getL h l = some xs) (hn : l ∉ S) : getL h1 l = some xs := by
  have := getL_lt e
  unfold getL at e ⊢
  rw [a.2 l this hn]
  exact e
theorem Fr.drop {S S' : List Nat} {h h1 h2 : PH} (a : Fr S h h1) (b : Fr S' h1 h2) (m : ∀ l, l ∈ S' → l ∈ S ∨ h.length ≤ l) : Fr S h h2 :=
  ⟨Nat.le_trans a.1 b.1, fun l hl hn => (b.2 l (Nat.lt_of_lt_of_le hl a.1) fun z => (m l z).elim hn fun y => absurd hl (by omega)).trans (a.2 l hl hn)⟩
/-- a def is called -/
theorem den_call {T : Tab} {n f : Nat} {vs : List PV} {h : PH} {q : QV} {x : QX} {F : Fn} (e : T f = some F) (l : vs.length = F.ps)
    (k : wSs (den T n) F.body { nx := fun _ h' => q .non h', rt := q, ex := fun e _ h' => x e h' } (vs.map some ++ List.replicate (F.ns - F.ps) none) h) : den T (n + 1) f vs h q x := by
  rw [den_succ]
  exact ⟨F, e, l, k⟩
theorem mulX {i j : Int} (h1 : -(2 ^ 64) < i ∧ i < 2 ^ 64) (h2 : -(2 ^ 64) < j ∧ j < 2 ^ 64) : CMulX i j := by
  have a := intBits_le_64 h1.1 h1.2
  have b := intBits_le_64 h2.1 h2.2
  unfold CMulX
  omega
theorem ite_t {b : Bool} {p q : Prop} (h : b = true) (k : p) : if b = true then p else q := by rw [if_pos h]; exact k
theorem ite_f {b : Bool} {p q : Prop} (h : b = false) (k : q) : if b = true then p else q := by rw [if_neg (by rw [h]; exact Bool.false_ne_true)]; exact k
theorem ite_b {b : Bool} {p q : Prop} (k1 : b = true → p) (k2 : b = false → q) : if b = true then p else q := by
  cases h : b with
  | true => exact ite_t rfl (k1 h)
  | false => exact ite_f rfl (k2 h)
end WD
end
section
set_option Elab.async false
set_option linter.all false
set_option maxRecDepth 100000
set_option autoImplicit false
set_option maxHeartbeats 8000000
/-! WPure2: loops by invariants, objects of the heap, encodings, sizes. -/
namespace WD
open PySem PySem.Spec PyProof.Rows L2
/-! ### loops -/
theorem for_from {g : PH → Prop} {t : Tg} {body : KS → PSt → PH → Prop} {κ : KS} (I : Nat → PSt → PH → Prop) {ys : List PV} (hg : ∀ i ς h, I i ς h → g h)
    (step : ∀ (i : Nat) (x : PV) (ς : PSt) (h : PH) (k : PSt → PH → Prop), ys[i]? = some x → I i ς h → (∀ ς' h', I (i + 1) ς' h' → k ς' h') → setT t x ς fun ς' => body { κ with nx := k, ct := k, bk := κ.nx } ς' h)
    (fin : ∀ ς h, I ys.length ς h → κ.nx ς h) : ∀ (xs : List PV) (i : Nat), (∀ j x, xs[j]? = some x → ys[i + j]? = some x) → i + xs.length = ys.length → ∀ ς h, I i ς h → forW g t body κ xs ς h
  | [], i, _, e, ς, h, z => ⟨hg i ς h z, fin ς h ((show i = ys.length by simpa using e) ▸ z)⟩
  | x :: r, i, hx, e, ς, h, z => by
    refine ⟨hg i ς h z, step i x ς h _ (by simpa using hx 0 x (by simp)) z fun ς' h' z' => ?_⟩
    exact for_from I hg step fin r (i + 1) (fun j y hy => by
      have := hx (j + 1) y (by simpa using hy)
      rw [show i + 1 + j = i + (j + 1) by omega]
      exact this) (by simp at e; omega) ς' h' z'
/-- a loop by an invariant -/
theorem for_inv {g : PH → Prop} {t : Tg} {body : KS → PSt → PH → Prop} {κ : KS} {xs : List PV} {ς : PSt} {h : PH} (I : Nat → PSt → PH → Prop) (h0 : I 0 ς h) (hg : ∀ i ς h, I i ς h → g h)
    (step : ∀ (i : Nat) (x : PV) (ς : PSt) (h : PH) (k : PSt → PH → Prop), xs[i]? = some x → I i ς h → (∀ ς' h', I (i + 1) ς' h' → k ς' h') → setT t x ς fun ς' => body { κ with nx := k, ct := k, bk := κ.nx } ς' h)
    (fin : ∀ ς h, I xs.length ς h → κ.nx ς h) : forW g t body κ xs ς h := for_from I hg step fin xs 0 (fun j x e => by simpa using e) (by simp) ς h h0
theorem cmp_from {g : PH → Prop} {t : Tg} {ς : PSt} {cond : PSt → PH → (Bool → PH → Prop) → Prop} {elt : PSt → PH → QV → Prop} {q : List PV → PH → Prop} (I : Nat → List PV → PH → Prop) {ys : List PV} (hg : ∀ i acc h, I i acc h → g h)
    (step : ∀ (i : Nat) (x : PV) (acc : List PV) (h : PH) (k : List PV → PH → Prop), ys[i]? = some x → I i acc h → (∀ acc' h', I (i + 1) acc' h' → k acc' h') → setT t x ς fun ς' => cond ς' h fun b h1 => if b = true then elt ς' h1 fun y h2 => acc.length < sizeLine ∧ k (acc ++ [y]) h2 else k acc h1)
    (fin : ∀ acc h, I ys.length acc h → q acc h) : ∀ (xs : List PV) (i : Nat), (∀ j x, xs[j]? = some x → ys[i + j]? = some x) → i + xs.length = ys.length → ∀ acc h, I i acc h → compW g t ς cond elt q xs acc h
  | [], i, _, e, acc, h, z => ⟨hg i acc h z, fin acc h ((show i = ys.length by simpa using e) ▸ z)⟩
  | x :: r, i, hx, e, acc, h, z => by
    refine ⟨hg i acc h z, step i x acc h (fun acc h => compW g t ς cond elt q r acc h) (by simpa using hx 0 x (by simp)) z fun acc' h' z' => ?_⟩
    exact cmp_from I hg step fin r (i + 1) (fun j y hy => by
      have := hx (j + 1) y (by simpa using hy)
      rw [show i + 1 + j = i + (j + 1) by omega]
      exact this) (by simp at e; omega) acc' h' z'
/-- a comprehension by an invariant -/
theorem cmp_inv {g : PH → Prop} {t : Tg} {ς : PSt} {cond : PSt → PH → (Bool → PH → Prop) → Prop} {elt : PSt → PH → QV → Prop} {q : List PV → PH → Prop} {xs : List PV} {h : PH} (I : Nat → List PV → PH → Prop) (h0 : I 0 [] h) (hg : ∀ i acc h, I i acc h → g h)
    (step : ∀ (i : Nat) (x : PV) (acc : List PV) (h : PH) (k : List PV → PH → Prop), xs[i]? = some x → I i acc h → (∀ acc' h', I (i + 1) acc' h' → k acc' h') → setT t x ς fun ς' => cond ς' h fun b h1 => if b = true then elt ς' h1 fun y h2 => acc.length < sizeLine ∧ k (acc ++ [y]) h2 else k acc h1)
    (fin : ∀ acc h, I xs.length acc h → q acc h) : compW g t ς cond elt q xs [] h := cmp_from I hg step fin xs 0 (fun j x e => by simpa using e) (by simp) [] h h0
mutual
theorem setT_mono : ∀ {t : Tg} {v : PV} {ς : PSt} {q q' : PSt → Prop}, setT t v ς q → (∀ ς', q ς' → q' ς') → setT t v ς q'
  | .slot _, _, _, _, _, z, i => i _ z
  | .tup _, _, _, _, _, ⟨xs, e, z⟩, i => ⟨xs, e, setTs_mono z i⟩
theorem setTs_mono : ∀ {ts : List Tg} {vs : List PV} {ς : PSt} {q q' : PSt → Prop}, setTs ts vs ς q → (∀ ς', q ς' → q' ς') → setTs ts vs ς q'
  | [], _, _, _, _, ⟨e, z⟩, i => ⟨e, i _ z⟩
  | _ :: _, _, _, _, _, ⟨v, r, e, z⟩, i => ⟨v, r, e, setT_mono z fun _ z' => setTs_mono z' i⟩
end
/-- no condition -/
theorem yes_t {p q : Prop} (k : p) : if true = true then p else q := by rw [if_pos rfl]; exact k
/-! ### objects of the heap -/
theorem gL {h : PH} {l : Nat} {xs : List PV} (e : h[l]? = some (.lst xs)) : getL h l = some xs := by unfold getL; rw [e]
theorem at_lt {h : PH} {l : Nat} {o : PO} (e : h[l]? = some o) : l < h.length := (List.getElem?_eq_some_iff.mp e).1
theorem at_new {h : PH} {o : PO} : (h ++ [o])[h.length]? = some o := by simp
theorem at_app {h : PH} {l : Nat} {o p : PO} (e : h[l]? = some o) : (h ++ [p])[l]? = some o := by rw [List.getElem?_append_left (at_lt e)]; exact e
theorem at_set {h : PH} {l : Nat} {o p : PO} (e : h[l]? = some o) : (h.set l p)[l]? = some p := List.getElem?_set_self (at_lt e)
theorem at_ne {h : PH} {l k : Nat} {o p : PO} (e : h[l]? = some o) (n : k ≠ l) : (h.set k p)[l]? = some o := by rw [List.getElem?_set_ne n]; exact e
theorem Fr.at {S : List Nat} {h h1 : PH} {l : Nat} {o : PO} (a : Fr S h h1) (e : h[l]? = some o) (hn : l ∉ S) : h1[l]? = some o := by rw [a.2 l (at_lt e) hn]; exact e
theorem Fr.le {S : List Nat} {h h1 : PH} (a : Fr S h h1) : h.length ≤ h1.length := a.1
/-- what is written stood not at the start -/
theorem Fr.new {h h1 : PH} {l : Nat} {o : PO} {S : List Nat} (a : Fr S h h1) (m : h.length ≤ l ∨ l ∈ S) : Fr S h (h1.set l o) := by
  rcases m with m | m
  · exact a.setNew m
  · exact a.trans (Fr.set m)
/-! ### sizes, places -/
theorem sz {n : Nat} (h : n ≤ 10000000) : n ≤ sizeLine := by rw [sizeLine_eq]; omega
theorem szl {n : Nat} (h : n < 10000000) : n < sizeLine := by rw [sizeLine_eq]; omega
abbrev ni (i : Nat) : PV := .int (i : Int)
theorem ixP_nat {i n : Nat} (h : i < n) : ixP n (i : Int) = some i := by
  unfold ixP
  rw [if_pos (by omega), if_pos (by omega)]
  simp
theorem ixP_int {i : Int} {n : Nat} (h : 0 ≤ i) (h2 : i < n) : ixP n i = some i.toNat := by
  unfold ixP
  rw [if_pos h, if_pos h2]
theorem ixP_at {i : Int} {n k : Nat} (h : i = (k : Int)) (h2 : k < n) : ixP n i = some k := by rw [h]; exact ixP_nat h2
theorem getD_at {α : Type} {xs : List α} {i : Nat} {d : α} (h : i < xs.length) : xs[i]? = some (xs.getD i d) := by
  rw [List.getD_eq_getElem?_getD, List.getElem?_eq_getElem h]
  rfl
theorem getD_mem {α : Type} {xs : List α} {i : Nat} {d : α} (h : i < xs.length) : xs.getD i d ∈ xs := List.mem_of_getElem? (getD_at h)
theorem len_loc {h : PH} {l : Nat} {xs : List PV} (e : h[l]? = some (.lst xs)) : lenP h (.loc l) = some xs.length := by simp [lenP, e]
theorem mp_get {α β : Type} {f : α → β} {xs : List α} {i : Nat} {x : α} (h : xs[i]? = some x) : (xs.map f)[i]? = some (f x) := by simp [h]
theorem mp_inv {α β : Type} {f : α → β} {xs : List α} {i : Nat} {y : β} (h : (xs.map f)[i]? = some y) : ∃ x, xs[i]? = some x ∧ f x = y := by
  rw [List.getElem?_map] at h
  exact Option.map_eq_some_iff.mp h
theorem get_lt {α : Type} {xs : List α} {i : Nat} {x : α} (h : xs[i]? = some x) : i < xs.length := (List.getElem?_eq_some_iff.mp h).1
theorem range_get {n i : Nat} {lo : Int} {x : PV} (h : (rangeL lo n)[i]? = some x) : i < n ∧ x = .int (lo + i) := rangeL_get h
theorem toNat_nat (n : Nat) : ((n : Int)).toNat = n := Int.toNat_natCast n
theorem cutP_from {α : Type} {xs : List α} {k : Nat} : cutP xs (some (k : Int)) none = xs.drop k := by
  unfold cutP bndP
  rw [HT.sIx_nat, HT.sIx_none]
  by_cases h : k ≤ xs.length
  · rw [Nat.min_eq_left h, List.take_of_length_le (by simp)]
  · rw [Nat.min_eq_right (by omega), List.drop_length, List.drop_of_length_le (by omega)]
    simp
theorem cutP_to {α : Type} {xs : List α} {k : Nat} : cutP xs none (some (k : Int)) = xs.take k := by
  unfold cutP bndP
  rw [HT.sIx_nat, HT.sIx_none, List.drop_zero, Nat.sub_zero]
  by_cases h : k ≤ xs.length
  · rw [Nat.min_eq_left h]
  · rw [Nat.min_eq_right (by omega), List.take_length, List.take_of_length_le (by omega)]
theorem mul_ok {i j : Int} {a b : Nat} (ha : i.natAbs < 2 ^ a) (hb : j.natAbs < 2 ^ b) (h : a + b ≤ 1000000) : CMulX i j := by
  have x := intBits_le ha
  have y := intBits_le hb
  unfold CMulX
  omega
theorem div_ok {i j : Int} (h : 0 < j) (h2 : j < 2 ^ 62) : CDivW i j := wide_div h (b := 62) (by omega) (by decide) (by decide)
theorem strNe {a b : Str} (h : a ≠ b) : decide (PV.str a = PV.str b) = false := decide_eq_false fun z => h (by injection z)
theorem strEq {a b : Str} (h : decide (PV.str a = PV.str b) = true) : a = b := by
  have := of_decide_eq_true h
  injection this
theorem strNe' {a b : Str} (h : decide (PV.str a = PV.str b) = false) : a ≠ b := fun e => of_decide_eq_false h (by rw [e])
theorem intEq {a b : Int} (h : decide (PV.int a = PV.int b) = true) : a = b := by
  have := of_decide_eq_true h
  injection this
theorem intNe {a b : Int} (h : decide (PV.int a = PV.int b) = false) : a ≠ b := fun e => of_decide_eq_false h (by rw [e])
theorem intsOf_map (ns : List Int) : intsOf (ns.map .int) = some ns := by
  induction ns with
  | nil => rfl
  | cons a r ih => simp [intsOf, ih]
theorem strsOf_map (ns : List Str) : strsOf (ns.map .str) = some ns := by
  induction ns with
  | nil => rfl
  | cons a r ih => simp [strsOf, ih]
/-- an item of a tuple -/
theorem ix_of {α : Type} {enc : α → PV} {xs : List α} {r : Nat} {h : PH} {q : QV} (hr : r < xs.length) (k : ∀ x, x ∈ xs → q (enc x) h) : ixS (.tup (xs.map enc)) (ni r) h q :=
  ⟨_, _, _, _, rfl, rfl, ixP_nat (by simpa using hr), mp_get (List.getElem?_eq_getElem hr), k _ (List.getElem_mem hr)⟩
/-! ### data -/
theorem mapM_ok {α β : Type} {f : α → Option β} {g : α → β} : ∀ {xs : List α}, (∀ x, x ∈ xs → f x = some (g x)) → xs.mapM f = some (xs.map g)
  | [], _ => rfl
  | x :: xs, h => by
    rw [List.mapM_cons, h x (by simp), mapM_ok fun y hy => h y (by simp [hy])]
    rfl
theorem mapM_map {α β γ : Type} {f : β → Option γ} {e : α → β} {g : α → γ} {xs : List α} (h : ∀ x, x ∈ xs → f (e x) = some (g x)) : (xs.map e).mapM f = some (xs.map g) := by
  induction xs with
  | nil => rfl
  | cons x xs ih =>
    rw [List.map_cons, List.mapM_cons, h x (by simp), ih fun y hy => h y (by simp [hy])]
    rfl
/-! ### dicts -/
theorem dGet_put {α : Type} (kvs : List (Key × α)) (k j : Key) (y : α) : dGet (dPut kvs k y) j = if j = k then some y else dGet kvs j := by
  have map : ∀ l : List (Key × α), dGet (l.map fun kv => if kv.1 = k then (kv.1, y) else kv) j = (dGet l j).map fun x => if j = k then y else x := by
    intro l
    induction l with
    | nil => rfl
    | cons p r ih =>
      rw [List.map_cons]
      by_cases e : p.1 = k
      · rw [if_pos e]
        by_cases e2 : p.1 = j
        · rw [dGet_pos (p := (p.1, y)) e2, dGet_pos e2, Option.map_some, if_pos (e2.symm.trans e)]
        · rw [dGet_neg (p := (p.1, y)) e2, dGet_neg e2, ih]
      · rw [if_neg e]
        by_cases e2 : p.1 = j
        · rw [dGet_pos e2, dGet_pos e2, Option.map_some, if_neg fun z => e (e2.trans z)]
        · rw [dGet_neg e2, dGet_neg e2, ih]
  have any : ∀ l : List (Key × α), (l.any fun kv => decide (kv.1 = k)) = (dGet l k).isSome := by
    intro l
    induction l with
    | nil => rfl
    | cons p r ih =>
      rw [List.any_cons]
      by_cases e : p.1 = k
      · rw [dGet_pos e, decide_eq_true e]; rfl
      · rw [dGet_neg e, decide_eq_false e, Bool.false_or, ih]
  have snoc : ∀ l : List (Key × α), dGet l k = none → dGet (l ++ [(k, y)]) j = if j = k then some y else dGet l j := by
    intro l
    induction l with
    | nil =>
      intro _
      by_cases e : k = j
      · rw [if_pos e.symm]; exact dGet_pos (p := (k, y)) e
      · rw [if_neg fun z => e z.symm]; exact dGet_neg (p := (k, y)) e
    | cons p r ih =>
      intro hn
      have hk : ¬ p.1 = k := fun z => by rw [dGet_pos z] at hn; cases hn
      rw [dGet_neg hk] at hn
      rw [List.cons_append]
      by_cases e : p.1 = j
      · rw [dGet_pos e, dGet_pos e, if_neg fun z => hk (e.trans z)]
      · rw [dGet_neg e, dGet_neg e, ih hn]
  unfold dPut
  by_cases a : (kvs.any fun kv => decide (kv.1 = k)) = true
  · rw [if_pos a, map]
    rw [any] at a
    by_cases e : j = k
    · obtain ⟨x, hx⟩ := Option.isSome_iff_exists.mp a
      rw [if_pos e, e, hx, Option.map_some, if_pos rfl]
    · rw [if_neg e]
      cases dGet kvs j with
      | none => rfl
      | some x => rw [Option.map_some, if_neg e]
  · rw [if_neg a]
    refine snoc kvs ?_
    rw [any] at a
    cases q : dGet kvs k with
    | none => rfl
    | some x => rw [q] at a; exact (a rfl).elim
theorem dPut_len {α : Type} (kvs : List (Key × α)) (k : Key) (v : α) : (dPut kvs k v).length ≤ kvs.length + 1 := by
  unfold dPut
  split
  · rw [List.length_map]; omega
  · rw [List.length_append]; simp
theorem dPut_mem {α : Type} {kvs : List (Key × α)} {k : Key} {v : α} {p : Key × α} (h : p ∈ dPut kvs k v) : p.1 = k ∨ p.1 ∈ kvs.map (·.1) := by
  unfold dPut at h
  split at h
  · obtain ⟨q, h1, h2⟩ := List.mem_map.mp h
    split at h2
    · rename_i e
      exact .inl (by rw [← h2]; exact e)
    · exact .inr (List.mem_map.mpr ⟨q, h1, by rw [h2]⟩)
  · rcases List.mem_append.mp h with h | h
    · exact .inr (List.mem_map.mpr ⟨p, h, rfl⟩)
    · exact .inl (by simp at h; rw [h])
theorem dGet_mem {α : Type} {kvs : List (Key × α)} {p : Key × α} (h : p ∈ kvs) : ∃ v, dGet kvs p.1 = some v := by
  induction kvs with
  | nil => cases h
  | cons q r ih =>
    by_cases e : q.1 = p.1
    · exact ⟨q.2, dGet_pos e⟩
    · rcases List.mem_cons.mp h with h | h
      · exact absurd (by rw [h]) e
      · obtain ⟨v, hv⟩ := ih h
        exact ⟨v, by rw [dGet_neg e]; exact hv⟩
theorem take_at {α : Type} {xs : List α} {i : Nat} {x : α} (e : xs[i]? = some x) : xs.take (i + 1) = xs.take i ++ [x] := by
  rw [List.take_add_one, e]
  rfl
/-- a comprehension that leaves the heap -/
theorem cmp_map {α : Type} {Φ : Phi} {X : QX} {g : PH → Prop} {t : Tg} {ς : PSt} {e : Ex} {q : List PV → PH → Prop} {enc f : α → PV} {xs : List α} {h : PH} (hg : g h)
    (he : ∀ (i : Nat) (x : α) (Q : QV), xs[i]? = some x → Q (f x) h → setT t (enc x) ς fun ς' => wE Φ e X ς' h Q) (hl : xs.length < 10000000) (k : q (xs.map f) h) : compW g t ς (wC Φ .no X) (wE Φ e X) q (xs.map enc) [] h := by
  refine cmp_inv (fun i acc h' => h' = h ∧ acc = (xs.take i).map f) ⟨rfl, by simp⟩ (fun i acc h' hi => hi.1 ▸ hg) ?_ ?_
  · rintro i y acc h' kk hy ⟨rfl, rfl⟩ hk
    obtain ⟨x, hx, rfl⟩ := mp_inv hy
    refine setT_mono (he i x (fun y h2 => ((xs.take i).map f).length < sizeLine ∧ kk ((xs.take i).map f ++ [y]) h2) hx ⟨szl (by simp; omega), hk _ _ ⟨rfl, by rw [take_at hx]; simp⟩⟩) fun ς' z => yes_t (q := kk ((xs.take i).map f) h') z
  · rintro acc h' ⟨rfl, rfl⟩
    simpa using k
/-- a comprehension by an invariant, no condition -/
theorem cmp_inv0 {Φ : Phi} {X : QX} {g : PH → Prop} {t : Tg} {ς : PSt} {elt : PSt → PH → QV → Prop} {q : List PV → PH → Prop} {xs : List PV} {h : PH} (I : Nat → List PV → PH → Prop) (h0 : I 0 [] h) (hg : ∀ i acc h, I i acc h → g h)
    (step : ∀ (i : Nat) (x : PV) (acc : List PV) (h : PH) (k : List PV → PH → Prop), xs[i]? = some x → I i acc h → (∀ acc' h', I (i + 1) acc' h' → k acc' h') → setT t x ς fun ς' => elt ς' h fun y h2 => acc.length < sizeLine ∧ k (acc ++ [y]) h2)
    (fin : ∀ acc h, I xs.length acc h → q acc h) : compW g t ς (wC Φ .no X) elt q xs [] h :=
  cmp_inv I h0 hg (fun i x acc h k e z i2 => setT_mono (step i x acc h k e z i2) fun ς' z => yes_t (q := k acc h) z) fin
/-- a loop by what is left -/
theorem for_ind {α : Type} {g : PH → Prop} {t : Tg} {body : KS → PSt → PH → Prop} {κ : KS} {enc : α → PV} (P : List α → PSt → PH → Prop) (hg : ∀ ys ς h, P ys ς h → g h) (nil : ∀ ς h, P [] ς h → κ.nx ς h)
    (cons : ∀ (y : α) (ys : List α) (ς : PSt) (h : PH) (k : PSt → PH → Prop), P (y :: ys) ς h → (∀ ς' h', P ys ς' h' → k ς' h') → setT t (enc y) ς fun ς' => body { κ with nx := k, ct := k, bk := κ.nx } ς' h) : ∀ (ys : List α) (ς : PSt) (h : PH), P ys ς h → forW g t body κ (ys.map enc) ς h
  | [], ς, h, z => ⟨hg _ ς h z, nil ς h z⟩
  | y :: ys, ς, h, z => ⟨hg _ ς h z, cons y ys ς h _ z fun ς' h' z' => for_ind P hg nil cons ys ς' h' z'⟩
end WD
end
section
set_option Elab.async false
set_option linter.all false
set_option maxRecDepth 100000
set_option autoImplicit false
set_option maxHeartbeats 8000000
/-! WMono: a weaker wish is granted, too. -/
namespace WD
open PySem PySem.Spec PyProof.Rows L2
def MonoP (Φ : Phi) : Prop := ∀ f vs h (q q' : QV) (x x' : QX), (∀ v h, q v h → q' v h) → (∀ v h, x v h → x' v h) → Φ f vs h q x → Φ f vs h q' x'
section
variable {h : PH} {q q' : QV} {b b' : Bool → Prop}
theorem binS_mono {o : Operator} {v w : PV} (i : ∀ v h, q v h → q' v h) (k : binS o v w h q) : binS o v w h q' := by
  unfold binS at k ⊢
  split at k
  all_goals first
    | exact k.elim
    | exact i _ _ k
    | exact ⟨k.1, i _ _ k.2⟩
    | exact ⟨k.1, k.2.1, k.2.2.1, i _ _ k.2.2.2⟩
    | (obtain ⟨xs, ys, k1, k2, k3, k4⟩ := k; exact ⟨xs, ys, k1, k2, k3, i _ _ k4⟩)
theorem eqS_mono {v w : PV} (i : ∀ c, b c → b' c) (k : eqS h v w b) : eqS h v w b' := by
  rcases k with ⟨k1, k2⟩ | ⟨d, e, k1, k2, k3⟩
  · exact .inl ⟨k1, i _ k2⟩
  · exact .inr ⟨d, e, k1, k2, i _ k3⟩
theorem inS_mono {v w : PV} (i : ∀ c, b c → b' c) (k : inS h v w b) : inS h v w b' := by
  unfold inS at k ⊢
  split at k
  · obtain ⟨y, k1, k2⟩ := k; exact ⟨y, k1, i _ k2⟩
  · obtain ⟨o, k1, k2⟩ := k
    refine ⟨o, k1, ?_⟩
    cases o with
    | lst xs => obtain ⟨d, es, a1, a2, a3⟩ := k2; exact ⟨d, es, a1, a2, i _ a3⟩
    | dic kvs => obtain ⟨d, a1, a3⟩ := k2; exact ⟨d, a1, i _ a3⟩
  · obtain ⟨d, xs, es, k1, k2, k3, k4⟩ := k
    exact ⟨d, xs, es, k1, k2, k3, i _ k4⟩
theorem cmpS_mono {o : CmpOp} {v w : PV} (i : ∀ c, b c → b' c) (k : cmpS o v w h b) : cmpS o v w h b' := by
  cases o with
  | Eq => exact eqS_mono i k
  | NotEq => exact eqS_mono (fun c => i _) k
  | Lt => obtain ⟨x, y, k1, k2, k3⟩ := k; exact ⟨x, y, k1, k2, i _ k3⟩
  | LtE => obtain ⟨x, y, k1, k2, k3⟩ := k; exact ⟨x, y, k1, k2, i _ k3⟩
  | Gt => obtain ⟨x, y, k1, k2, k3⟩ := k; exact ⟨x, y, k1, k2, i _ k3⟩
  | GtE => obtain ⟨x, y, k1, k2, k3⟩ := k; exact ⟨x, y, k1, k2, i _ k3⟩
  | Is =>
    rcases k with ⟨k1, k2⟩ | ⟨x, y, k1, k2, k3⟩
    · exact .inl ⟨k1, i _ k2⟩
    · exact .inr ⟨x, y, k1, k2, i _ k3⟩
  | IsNot =>
    rcases k with ⟨k1, k2⟩ | ⟨x, y, k1, k2, k3⟩
    · exact .inl ⟨k1, i _ k2⟩
    · exact .inr ⟨x, y, k1, k2, i _ k3⟩
  | In => exact inS_mono i k
  | NotIn => exact inS_mono (fun c => i _) k
theorem ixO_mono {o : PO} {w : PV} (i : ∀ v h, q v h → q' v h) (k : ixO o w h q) : ixO o w h q' := by
  cases o with
  | lst xs => obtain ⟨a, j, x, k1, k2, k3, k4⟩ := k; exact ⟨a, j, x, k1, k2, k3, i _ _ k4⟩
  | dic kvs => obtain ⟨a, j, k1, k2, k3⟩ := k; exact ⟨a, j, k1, k2, i _ _ k3⟩
theorem ixS_mono {v w : PV} (i : ∀ v h, q v h → q' v h) (k : ixS v w h q) : ixS v w h q' := by
  unfold ixS at k ⊢
  split at k
  · obtain ⟨a, j, x, k1, k2, k3, k4, k5⟩ := k; exact ⟨a, j, x, k1, k2, k3, k4, i _ _ k5⟩
  · obtain ⟨o, k1, k2⟩ := k; exact ⟨o, k1, ixO_mono i k2⟩
  · obtain ⟨a, xs, j, x, k1, k2, k3, k4, k5⟩ := k; exact ⟨a, xs, j, x, k1, k2, k3, k4, i _ _ k5⟩
theorem augG_mono {v w : PV} (i : ∀ v h, q v h → q' v h) (k : augG v w h q) : augG v w h q' := by
  obtain ⟨l, o, k1, k2, k3⟩ := k
  exact ⟨l, o, k1, k2, ixO_mono i k3⟩
theorem slS_mono {v : PV} {lo hi : Option Int} (i : ∀ v h, q v h → q' v h) (k : slS v lo hi h q) : slS v lo hi h q' := by
  unfold slS at k ⊢
  split at k
  · exact i _ _ k
  · exact ⟨k.1, i _ _ k.2⟩
  · obtain ⟨xs, k1, k2⟩ := k; exact ⟨xs, k1, i _ _ k2⟩
theorem bifS_mono {f : Bif} {vs : List PV} (i : ∀ v h, q v h → q' v h) (k : bifS f vs h q) : bifS f vs h q' := by
  cases f with
  | abs => obtain ⟨a, k1, k2⟩ := k; exact ⟨a, k1, i _ _ k2⟩
  | min2 => obtain ⟨a, c, k1, k2⟩ := k; exact ⟨a, c, k1, i _ _ k2⟩
  | max2 => obtain ⟨a, c, k1, k2⟩ := k; exact ⟨a, c, k1, i _ _ k2⟩
  | _ => obtain ⟨a, c, k1, k2, k3⟩ := k; exact ⟨a, c, k1, k2, i _ _ k3⟩
theorem lifS_mono {f : Lif} {xs : List PV} (i : ∀ v h, q v h → q' v h) (k : lifS f xs h q) : lifS f xs h q' := by
  cases f with
  | tuple => exact i _ _ k
  | len => exact i _ _ k
  | max => obtain ⟨a, k1, k2, k3⟩ := k; exact ⟨a, k1, k2, fun m z1 z2 => i _ _ (k3 m z1 z2)⟩
  | min => obtain ⟨a, k1, k2, k3⟩ := k; exact ⟨a, k1, k2, fun m z1 z2 => i _ _ (k3 m z1 z2)⟩
  | _ => obtain ⟨a, k1, k2⟩ := k; exact ⟨a, k1, i _ _ k2⟩
theorem mthS_mono {m : Mth} {v : PV} {vs : List PV} (i : ∀ v h, q v h → q' v h) (k : mthS m v vs h q) : mthS m v vs h q' := by
  obtain ⟨l, o, k1, k2, k3⟩ := k
  refine ⟨l, o, k1, k2, ?_⟩
  unfold mthO at k3 ⊢
  split at k3
  all_goals first
    | exact k3.elim
    | exact i _ _ k3
    | exact ⟨k3.1, i _ _ k3.2⟩
    | exact ⟨k3.1, k3.2.1, k3.2.2.1, i _ _ k3.2.2.2⟩
    | (obtain ⟨y, a1, a2⟩ := k3; exact ⟨y, a1, i _ _ a2⟩)
    | (obtain ⟨y, z, a1, a2, a3, a4⟩ := k3; exact ⟨y, z, a1, a2, a3, i _ _ a4⟩)
theorem setS_mono {v w z : PV} {p p' : PH → Prop} (i : ∀ h, p h → p' h) (k : setS v w z h p) : setS v w z h p' := by
  obtain ⟨l, o, k1, k2, k3⟩ := k
  refine ⟨l, o, k1, k2, ?_⟩
  cases o with
  | lst xs => obtain ⟨a, j, a1, a2, a3⟩ := k3; exact ⟨a, j, a1, a2, i _ a3⟩
  | dic kvs => obtain ⟨a, a1, a2, a3⟩ := k3; exact ⟨a, a1, a2, i _ a3⟩
theorem augB_mono {o : Operator} {v w : PV} (i : ∀ v h, q v h → q' v h) (k : augB o v w h q) : augB o v w h q' := by
  unfold augB at k ⊢
  split at k
  all_goals first
    | exact k.elim
    | exact i _ _ k
    | exact ⟨k.1, i _ _ k.2⟩
theorem sortS_mono {xs : List PV} {p p' : List PV → PH → Prop} (i : ∀ v h, p v h → p' v h) (k : sortS xs h p) : sortS xs h p' := by
  rcases k with ⟨ns, k1, k2⟩ | ⟨ns, k1, k2, k3⟩
  · exact .inl ⟨ns, k1, fun m a c => i _ _ (k2 m a c)⟩
  · exact .inr ⟨ns, k1, k2, fun m a c => i _ _ (k3 m a c)⟩
theorem ite_mono {r : Bool} {p p' s s' : Prop} (i : p → p') (j : s → s') (k : if r = true then p else s) : if r = true then p' else s' := by
  cases r with
  | true => rw [if_pos rfl] at k ⊢; exact i k
  | false => rw [if_neg Bool.false_ne_true] at k ⊢; exact j k
theorem compW_mono {g : PH → Prop} {t : Tg} {ς : PSt} {cond : PSt → PH → (Bool → PH → Prop) → Prop} {elt : PSt → PH → QV → Prop} {p p' : List PV → PH → Prop} (i : ∀ v h, p v h → p' v h)
    (mc : ∀ ς h (a a' : Bool → PH → Prop), (∀ b h, a b h → a' b h) → cond ς h a → cond ς h a') (me : ∀ ς h (a a' : QV), (∀ v h, a v h → a' v h) → elt ς h a → elt ς h a') : ∀ (xs acc : List PV) (h : PH), compW g t ς cond elt p xs acc h → compW g t ς cond elt p' xs acc h
  | [], acc, h, ⟨k1, k2⟩ => ⟨k1, i _ _ k2⟩
  | x :: r, acc, h, ⟨k1, k2⟩ => ⟨k1, setT_mono k2 fun ς' z => mc _ _ _ _ (fun b h1 z1 => ite_mono (fun z2 => me _ _ _ _ (fun y h2 z3 => ⟨z3.1, compW_mono i mc me r _ _ z3.2⟩) z2) (fun z2 => compW_mono i mc me r _ _ z2) z1) z⟩
end
section
variable {Φ : Phi} (M : MonoP Φ)
include M
mutual
theorem wE_mono : ∀ (e : Ex) {x x' : QX} {ς : PSt} {h : PH} {q q' : QV}, (∀ v h, x v h → x' v h) → (∀ v h, q v h → q' v h) → wE Φ e x ς h q → wE Φ e x' ς h q'
  | .var _, _, _, _, _, _, _, _, i, ⟨v, e, k⟩ => ⟨v, e, i _ _ k⟩
  | .non, _, _, _, _, _, _, _, i, k => i _ _ k
  | .bl _, _, _, _, _, _, _, _, i, k => i _ _ k
  | .int _, _, _, _, _, _, _, _, i, k => i _ _ k
  | .str _, _, _, _, _, _, _, _, i, k => i _ _ k
  | .cst _ _, _, _, _, _, _, _, _, i, k => i _ _ k
  | .tup es, _, _, _, _, _, _, j, i, k => wEs_mono es j (fun _ _ z => ⟨z.1, i _ _ z.2⟩) k
  | .bin _ a b, _, _, _, _, _, _, j, i, k => wE_mono a j (fun _ _ z => wE_mono b j (fun _ _ z => binS_mono i z) z) k
  | .neg a, _, _, _, _, _, _, j, i, k => wE_mono a j (fun _ _ ⟨n, e, z⟩ => ⟨n, e, i _ _ z⟩) k
  | .cmp _ a b, _, _, _, _, _, _, j, i, k => wE_mono a j (fun _ _ z => wE_mono b j (fun _ _ z => cmpS_mono (fun _ => i _ _) z) z) k
  | .chn _ _ a b c, _, _, _, _, _, _, j, i, k => wE_mono a j (fun _ _ z => wE_mono b j (fun _ _ z => cmpS_mono (fun _ z => ite_mono (fun z => wE_mono c j (fun _ _ z => cmpS_mono (fun _ => i _ _) z) z) (i _ _) z) z) z) k
  | .and a b, _, _, _, _, _, _, j, i, k => wE_mono a j (fun _ _ ⟨r, e, z⟩ => ⟨r, e, ite_mono (fun z => wE_mono b j i z) (i _ _) z⟩) k
  | .or a b, _, _, _, _, _, _, j, i, k => wE_mono a j (fun _ _ ⟨r, e, z⟩ => ⟨r, e, ite_mono (i _ _) (fun z => wE_mono b j i z) z⟩) k
  | .not a, _, _, _, _, _, _, j, i, k => wE_mono a j (fun _ _ ⟨r, e, z⟩ => ⟨r, e, i _ _ z⟩) k
  | .ifx c a b, _, _, _, _, _, _, j, i, k => wT_mono c j (fun _ _ z => ite_mono (fun z => wE_mono a j i z) (fun z => wE_mono b j i z) z) k
  | .ix a b, _, _, _, _, _, _, j, i, k => wE_mono a j (fun _ _ z => wE_mono b j (fun _ _ z => ixS_mono i z) z) k
  | .sl a lo hi, _, _, _, _, _, _, j, i, k => wE_mono a j (fun _ _ z => wO_mono lo j (fun _ _ z => wO_mono hi j (fun _ _ z => slS_mono i z) z) z) k
  | .call _ es, _, _, _, _, _, _, j, i, k => wEs_mono es j (fun _ _ z => M _ _ _ _ _ _ _ i j z) k
  | .bif _ es, _, _, _, _, _, _, j, i, k => wEs_mono es j (fun _ _ z => bifS_mono i z) k
  | .lif _ l, _, _, _, _, _, _, j, i, k => wLa_mono l j (fun _ _ ⟨xs, e, z⟩ => ⟨xs, e, lifS_mono i z⟩) k
  | .mth _ a es, _, _, _, _, _, _, j, i, k => wE_mono a j (fun _ _ z => ⟨z.1, wEs_mono es j (fun _ _ z => mthS_mono i z) z.2⟩) k
  | .ext a l, _, _, _, _, _, _, j, i, k => wE_mono a j (fun _ _ z => ⟨z.1, wLa_mono l j (fun _ _ ⟨l, xs, ys, e1, e2, e3, e4, z⟩ => ⟨l, xs, ys, e1, e2, e3, e4, i _ _ z⟩) z.2⟩) k
  | .new l, _, _, _, _, _, _, j, i, k => wL_mono l j (fun _ _ z => i _ _ z) k
  | .dic ps, _, _, _, _, _, _, j, i, k => wPs_mono ps j (fun _ _ ⟨ks, e1, e2, z⟩ => ⟨ks, e1, e2, i _ _ z⟩) k
  | .callk _ _ _ es ks _, _, _, _, _, _, _, j, i, k => wEs_mono es j (fun _ _ z => wEs_mono ks j (fun _ _ ⟨e1, e2, ws, e3, z⟩ => ⟨e1, e2, ws, e3, M _ _ _ _ _ _ _ i j z⟩) z) k
  | .tupR a b, _, _, _, _, _, _, j, i, k => wO_mono a j (fun _ _ z => wO_mono b j (fun _ _ z => ⟨z.1, i _ _ z.2⟩) z) k
  | .cin _ _ a, _, _, _, _, _, _, j, i, k => wE_mono a j (fun _ _ ⟨y, e, z⟩ => ⟨y, e, i _ _ z⟩) k
  | .cix _ _ a, _, _, _, _, _, _, j, i, k => wE_mono a j (fun _ _ ⟨y, w, e, e2, z⟩ => ⟨y, w, e, e2, i _ _ z⟩) k
theorem wPs_mono : ∀ (ps : Prs) {x x' : QX} {ς : PSt} {h : PH} {q q' : List (PV × PV) → PH → Prop}, (∀ v h, x v h → x' v h) → (∀ v h, q v h → q' v h) → wPs Φ ps x ς h q → wPs Φ ps x' ς h q'
  | .nil, _, _, _, _, _, _, _, i, k => i _ _ k
  | .cons a b r, _, _, _, _, _, _, j, i, k => wE_mono a j (fun _ _ z => wE_mono b j (fun _ _ z => wPs_mono r j (fun _ _ z => i _ _ z) z) z) k
theorem wEs_mono : ∀ (es : Exs) {x x' : QX} {ς : PSt} {h : PH} {q q' : List PV → PH → Prop}, (∀ v h, x v h → x' v h) → (∀ v h, q v h → q' v h) → wEs Φ es x ς h q → wEs Φ es x' ς h q'
  | .nil, _, _, _, _, _, _, _, i, k => i _ _ k
  | .cons e es, _, _, _, _, _, _, j, i, k => wE_mono e j (fun _ _ z => wEs_mono es j (fun _ _ z => i _ _ z) z) k
theorem wO_mono : ∀ (o : OEx) {x x' : QX} {ς : PSt} {h : PH} {q q' : Option Int → PH → Prop}, (∀ v h, x v h → x' v h) → (∀ v h, q v h → q' v h) → wO Φ o x ς h q → wO Φ o x' ς h q'
  | .no, _, _, _, _, _, _, _, i, k => i _ _ k
  | .some e, _, _, _, _, _, _, j, i, k => wE_mono e j (fun _ _ ⟨n, e, z⟩ => ⟨n, e, i _ _ z⟩) k
theorem wT_mono : ∀ (e : Ex) {x x' : QX} {ς : PSt} {h : PH} {q q' : Bool → PH → Prop}, (∀ v h, x v h → x' v h) → (∀ v h, q v h → q' v h) → wT Φ e x ς h q → wT Φ e x' ς h q'
  | .and a b, _, _, _, _, _, _, j, i, k => wT_mono a j (fun _ _ z => ite_mono (fun z => wT_mono b j i z) (i _ _) z) k
  | .or a b, _, _, _, _, _, _, j, i, k => wT_mono a j (fun _ _ z => ite_mono (i _ _) (fun z => wT_mono b j i z) z) k
  | .not a, _, _, _, _, _, _, j, i, k => wT_mono a j (fun _ _ z => i _ _ z) k
  | .cmp _ a b, _, _, _, _, _, _, j, i, k => wE_mono a j (fun _ _ z => wE_mono b j (fun _ _ z => cmpS_mono (fun _ => i _ _) z) z) k
  | .chn _ _ a b c, _, _, _, _, _, _, j, i, k => wE_mono a j (fun _ _ z => wE_mono b j (fun _ _ z => cmpS_mono (fun _ z => ite_mono (fun z => wE_mono c j (fun _ _ z => cmpS_mono (fun _ => i _ _) z) z) (i _ _) z) z) z) k
  | .var _, _, _, _, _, _, _, _, i, ⟨v, e, r, e2, k⟩ => ⟨v, e, r, e2, i _ _ k⟩
  | .bl _, _, _, _, _, _, _, _, i, k => i _ _ k
  | .cin _ _ a, _, _, _, _, _, _, j, i, k => wE_mono a j (fun _ _ ⟨y, e, z⟩ => ⟨y, e, i _ _ z⟩) k
  | .ix a b, _, _, _, _, _, _, j, i, k => wE_mono a j (fun _ _ z => wE_mono b j (fun _ _ z => ixS_mono (fun _ _ ⟨r, e, z⟩ => ⟨r, e, i _ _ z⟩) z) z) k
  | .call _ es, _, _, _, _, _, _, j, i, k => wEs_mono es j (fun _ _ z => M _ _ _ _ _ _ _ (fun _ _ ⟨r, e, z⟩ => ⟨r, e, i _ _ z⟩) j z) k
  | .bif _ es, _, _, _, _, _, _, j, i, k => wEs_mono es j (fun _ _ z => bifS_mono (fun _ _ ⟨r, e, z⟩ => ⟨r, e, i _ _ z⟩) z) k
  | .lif _ l, _, _, _, _, _, _, j, i, k => wLa_mono l j (fun _ _ ⟨xs, e, z⟩ => ⟨xs, e, lifS_mono (fun _ _ ⟨r, e, z⟩ => ⟨r, e, i _ _ z⟩) z⟩) k
  | .non, _, _, _, _, _, _, _, _, k => k
  | .int _, _, _, _, _, _, _, _, _, k => k
  | .str _, _, _, _, _, _, _, _, _, k => k
  | .cst _ _, _, _, _, _, _, _, _, _, k => k
  | .tup _, _, _, _, _, _, _, _, _, k => k
  | .bin _ _ _, _, _, _, _, _, _, _, _, k => k
  | .neg _, _, _, _, _, _, _, _, _, k => k
  | .ifx _ _ _, _, _, _, _, _, _, _, _, k => k
  | .sl _ _ _, _, _, _, _, _, _, _, _, k => k
  | .mth _ _ _, _, _, _, _, _, _, _, _, k => k
  | .ext _ _, _, _, _, _, _, _, _, _, k => k
  | .new _, _, _, _, _, _, _, _, _, k => k
  | .dic _, _, _, _, _, _, _, _, _, k => k
  | .callk _ _ _ _ _ _, _, _, _, _, _, _, _, _, k => k
  | .tupR _ _, _, _, _, _, _, _, _, _, k => k
  | .cix _ _ _, _, _, _, _, _, _, _, _, k => k
theorem wL_mono : ∀ (l : Lx) {x x' : QX} {ς : PSt} {h : PH} {q q' : List PV → PH → Prop}, (∀ v h, x v h → x' v h) → (∀ v h, q v h → q' v h) → wL Φ l x ς h q → wL Φ l x' ς h q'
  | .disp es, _, _, _, _, _, _, j, i, k => wEs_mono es j (fun _ _ z => ⟨z.1, i _ _ z.2⟩) k
  | .cat a b, _, _, _, _, _, _, j, i, k => wLa_mono a j (fun _ _ z => wLa_mono b j (fun _ _ ⟨xs, ys, e1, e2, e3, z⟩ => ⟨xs, ys, e1, e2, e3, i _ _ z⟩) z) k
  | .rep a n, _, _, _, _, _, _, j, i, k => wLa_mono a j (fun _ _ z => wE_mono n j (fun _ _ ⟨xs, m, e1, e2, e3, e4, e5, z⟩ => ⟨xs, m, e1, e2, e3, e4, e5, i _ _ z⟩) z) k
  | .comp own elt t it cond, x, x', ς, h, q, q', j, i, k =>
    wI_mono it (q := fun xs g h1 => compW g t (wipeP ς own) (wC Φ cond fun _ _ => False) (wE Φ elt fun _ _ => False) q xs [] h1) (q' := fun xs g h1 => compW g t (wipeP ς own) (wC Φ cond fun _ _ => False) (wE Φ elt fun _ _ => False) q' xs [] h1) j
      (fun xs g h1 z => compW_mono (cond := wC Φ cond fun _ _ => False) (elt := wE Φ elt fun _ _ => False) i (fun ς h a a' ia c => wC_mono cond (fun _ _ z => z) ia c) (fun ς h a a' ia c => wE_mono elt (fun _ _ z => z) ia c) xs [] h1 z) k
  | .cut a lo hi, _, _, _, _, _, _, j, i, k => wLa_mono a j (fun _ _ z => wO_mono lo j (fun _ _ z => wO_mono hi j (fun _ _ ⟨xs, e, z⟩ => ⟨xs, e, i _ _ z⟩) z) z) k
  | .list a, _, _, _, _, _, _, j, i, k => wLa_mono a j (fun _ _ ⟨xs, e, z⟩ => ⟨xs, e, i _ _ z⟩) k
  | .sort a, _, _, _, _, _, _, j, i, k => wLa_mono a j (fun _ _ ⟨xs, e, z⟩ => ⟨xs, e, sortS_mono i z⟩) k
  | .rng a b, _, _, _, _, _, _, j, i, k => wO_mono a j (fun _ _ z => wO_mono b j (fun _ _ z => ⟨z.1, i _ _ z.2⟩) z) k
theorem wLa_mono : ∀ (l : La) {x x' : QX} {ς : PSt} {h : PH} {q q' : LV → PH → Prop}, (∀ v h, x v h → x' v h) → (∀ v h, q v h → q' v h) → wLa Φ l x ς h q → wLa Φ l x' ς h q'
  | .e e, _, _, _, _, _, _, j, i, k => wE_mono e j (fun _ _ z => i _ _ z) k
  | .l l, _, _, _, _, _, _, j, i, k => wL_mono l j (fun _ _ z => i _ _ z) k
theorem wC_mono : ∀ (o : OEx) {x x' : QX} {ς : PSt} {h : PH} {q q' : Bool → PH → Prop}, (∀ v h, x v h → x' v h) → (∀ v h, q v h → q' v h) → wC Φ o x ς h q → wC Φ o x' ς h q'
  | .no, _, _, _, _, _, _, _, i, k => i _ _ k
  | .some e, _, _, _, _, _, _, j, i, k => wT_mono e j i k
theorem wI_mono : ∀ (w : Wk) {x x' : QX} {ς : PSt} {h : PH} {q q' : List PV → (PH → Prop) → PH → Prop}, (∀ v h, x v h → x' v h) → (∀ v g h, q v g h → q' v g h) → wI Φ w x ς h q → wI Φ w x' ς h q'
  | .la (.e e), _, _, _, _, _, _, j, i, k => wE_mono e j (fun _ _ z => z.elim (fun ⟨xs, e, z⟩ => .inl ⟨xs, e, i _ _ _ z⟩) (fun ⟨y, e, z⟩ => .inr ⟨y, e, i _ _ _ z⟩)) k
  | .la (.l l), _, _, _, _, _, _, j, i, k => wL_mono l j (fun _ _ z => i _ _ _ z) k
  | .range1 a, _, _, _, _, _, _, j, i, k => wE_mono a j (fun _ _ ⟨n, e1, e2, e3, z⟩ => ⟨n, e1, e2, e3, i _ _ _ z⟩) k
  | .range2 a b, _, _, _, _, _, _, j, i, k => wE_mono a j (fun _ _ z => wE_mono b j (fun _ _ ⟨n, m, e1, e2, e3, z⟩ => ⟨n, m, e1, e2, e3, i _ _ _ z⟩) z) k
  | .range3 a b c, _, _, _, _, _, _, j, i, k => wE_mono a j (fun _ _ z => wE_mono b j (fun _ _ z => wE_mono c j (fun _ _ ⟨n, m, o, p, e1, e2, e3, e4, z⟩ => ⟨n, m, o, p, e1, e2, e3, e4, i _ _ _ z⟩) z) z) k
  | .enum (.e e), _, _, _, _, _, _, j, i, k => wE_mono e j (fun _ _ ⟨xs, e, z⟩ => ⟨xs, e, i _ _ _ z⟩) k
  | .enum (.l l), _, _, _, _, _, _, j, i, k => wL_mono l j (fun _ _ z => i _ _ _ z) k
  | .zip _ _, _, _, _, _, _, _, _, _, k => k
  | .rev _, _, _, _, _, _, _, _, _, k => k
end
structure KLe (κ κ' : KS) : Prop where
  nx : ∀ ς h, κ.nx ς h → κ'.nx ς h
  rt : ∀ v h, κ.rt v h → κ'.rt v h
  ex : ∀ e ς h, κ.ex e ς h → κ'.ex e ς h
  bk : ∀ ς h, κ.bk ς h → κ'.bk ς h
  ct : ∀ ς h, κ.ct ς h → κ'.ct ς h
omit M in
theorem forW_mono {g : PH → Prop} {t : Tg} {body : KS → PSt → PH → Prop} (mb : ∀ κ κ' ς h, KLe κ κ' → body κ ς h → body κ' ς h) {κ κ' : KS} (l : KLe κ κ') : ∀ (xs : List PV) (ς : PSt) (h : PH), forW g t body κ xs ς h → forW g t body κ' xs ς h
  | [], ς, h, ⟨k1, k2⟩ => ⟨k1, l.nx _ _ k2⟩
  | x :: r, ς, h, ⟨k1, k2⟩ => ⟨k1, setT_mono k2 fun ς' z => mb { κ with nx := forW g t body κ r, ct := forW g t body κ r, bk := κ.nx } { κ' with nx := forW g t body κ' r, ct := forW g t body κ' r, bk := κ'.nx } _ _ ⟨fun ς h z => forW_mono mb l r ς h z, l.rt, l.ex, l.nx, fun ς h z => forW_mono mb l r ς h z⟩ z⟩
omit M in
theorem whileW_mono {c : PSt → PH → (Bool → PH → Prop) → Prop} {c' : PSt → PH → (Bool → PH → Prop) → Prop} (mc : ∀ ς h q q', (∀ v h, q v h → q' v h) → c ς h q → c' ς h q') {body : KS → PSt → PH → Prop} (mb : ∀ κ κ' ς h, KLe κ κ' → body κ ς h → body κ' ς h) {κ κ' : KS} (l : KLe κ κ') : ∀ (n : Nat) (ς : PSt) (h : PH), whileW c body κ n ς h → whileW c' body κ' n ς h
  | 0, _, _, k => k
  | n + 1, ς, h, k => mc _ _ _ _ (fun b h1 z => ite_mono (fun z => mb { κ with nx := whileW c body κ n, ct := whileW c body κ n, bk := κ.nx } { κ' with nx := whileW c' body κ' n, ct := whileW c' body κ' n, bk := κ'.nx } _ _ ⟨fun ς h z => whileW_mono mc mb l n ς h z, l.rt, l.ex, l.nx, fun ς h z => whileW_mono mc mb l n ς h z⟩ z) (l.nx _ _) z) k
end
theorem phx_mono {Φ : Phi} (M : MonoP Φ) {k : Nat} {fs : List PV} : MonoP (Φx k fs Φ) := fun f vs h q q' x x' i j z => by
  unfold Φx at z ⊢
  split at z
  · obtain ⟨v, e1, e2, z⟩ := z
    exact ⟨v, e1, e2, i _ _ z⟩
  · split at z
    · rename_i c
      rw [if_pos c]
      exact i _ _ z
    · rename_i c
      rw [if_neg c]
      exact M _ _ _ _ _ _ _ i j z
mutual
theorem wS_mono : ∀ {Φ : Phi} (M : MonoP Φ) (s : Sm) {κ κ' : KS} {ς : PSt} {h : PH}, KLe κ κ' → wS Φ s κ ς h → wS Φ s κ' ς h
  | _, M, .ct .pass, _, _, _, _, l, k => l.nx _ _ k
  | _, M, .ct .brk, _, _, _, _, l, k => l.bk _ _ k
  | _, M, .ct .cnt, _, _, _, _, l, k => l.ct _ _ k
  | _, M, .expr e, _, _, _, _, l, k => wE_mono M e (fun _ _ => l.ex _ _ _) (fun _ _ z => l.nx _ _ z) k
  | _, M, .set t e, _, _, _, _, l, k => wE_mono M e (fun _ _ => l.ex _ _ _) (fun _ _ z => setT_mono z fun _ => l.nx _ _) k
  | _, M, .par _ _ a b, _, _, _, _, l, k => wE_mono M a (fun _ _ => l.ex _ _ _) (fun _ _ z => wE_mono M b (fun _ _ => l.ex _ _ _) (fun _ _ => l.nx _ _) z) k
  | _, M, .sub o i e, _, _, _, _, l, k => wE_mono M e (fun _ _ => l.ex _ _ _) (fun _ _ z => wE_mono M o (fun _ _ => l.ex _ _ _) (fun _ _ z => wE_mono M i (fun _ _ => l.ex _ _ _) (fun _ _ z => setS_mono (fun _ => l.nx _ _) z) z) z) k
  | _, M, .aug _ _ e, _, _, _, _, l, ⟨v, e1, k⟩ => ⟨v, e1, wE_mono M e (fun _ _ => l.ex _ _ _) (fun _ _ z => augB_mono (fun _ _ => l.nx _ _) z) k⟩
  | _, M, .augS o i _ e, _, _, _, _, l, k => wE_mono M o (fun _ _ => l.ex _ _ _) (fun _ _ z => wE_mono M i (fun _ _ => l.ex _ _ _) (fun _ _ z => augG_mono (fun _ _ z => wE_mono M e (fun _ _ => l.ex _ _ _) (fun _ _ z => augB_mono (fun _ _ z => setS_mono (fun _ => l.nx _ _) z) z) z) z) z) k
  | _, M, .ret e, _, _, _, _, l, k => wE_mono M e (fun _ _ => l.ex _ _ _) l.rt k
  | _, M, .retN, _, _, _, _, l, k => l.rt _ _ k
  | _, M, .ifs c a b, _, _, _, _, l, k => wT_mono M c (fun _ _ => l.ex _ _ _) (fun _ _ z => ite_mono (fun z => wSs_mono M a l z) (fun z => wSs_mono M b l z) z) k
  | _, M, .fors t it b, κ, κ', ς, h, l, k => wI_mono M it (q := fun xs g h1 => forW g t (wSs _ b) κ xs ς h1) (q' := fun xs g h1 => forW g t (wSs _ b) κ' xs ς h1) (fun _ _ => l.ex _ _ _) (fun xs g h1 z => forW_mono (body := wSs _ b) (fun κ κ' ς h l' z => wSs_mono M b l' z) l xs ς h1 z) k
  | _, M, .whil c b, κ, κ', ς, h, l, ⟨n, k⟩ => ⟨n, whileW_mono (c := fun ς h => wT _ c (fun e h => κ.ex e ς h) ς h) (c' := fun ς h => wT _ c (fun e h => κ'.ex e ς h) ς h) (body := wSs _ b) (fun ς h q q' i z => wT_mono M c (fun _ _ => l.ex _ _ _) i z) (fun κ κ' ς h l' z => wSs_mono M b l' z) l n ς h k⟩
  | _, M, .raise _ es, _, _, _, _, l, k => wEs_mono M es (fun _ _ => l.ex _ _ _) (fun _ _ ⟨k1, k2, k3⟩ => ⟨k1, k2, l.ex _ _ _ k3⟩) k
  | _, M, .tryx b hs, κ, κ', _, _, l, k => wSs_mono M b (κ := { κ with ex := fun e ς' h' => wH _ hs e κ ς' h' }) (κ' := { κ' with ex := fun e ς' h' => wH _ hs e κ' ς' h' }) ⟨l.nx, l.rt, fun _ _ _ z => wH_mono M hs l z, l.bk, l.ct⟩ k
theorem wSs_mono : ∀ {Φ : Phi} (M : MonoP Φ) (s : Sms) {κ κ' : KS} {ς : PSt} {h : PH}, KLe κ κ' → wSs Φ s κ ς h → wSs Φ s κ' ς h
  | _, M, .nil, _, _, _, _, l, k => l.nx _ _ k
  | _, M, .cons s r, κ, κ', _, _, l, k => wS_mono M s (κ := { κ with nx := wSs _ r κ }) (κ' := { κ' with nx := wSs _ r κ' }) ⟨fun ς h z => wSs_mono M r l z, l.rt, l.ex, l.bk, l.ct⟩ k
theorem wH_mono : ∀ {Φ : Phi} (M : MonoP Φ) (hs : Hds) {e : PV} {κ κ' : KS} {ς : PSt} {h : PH}, KLe κ κ' → wH Φ hs e κ ς h → wH Φ hs e κ' ς h
  | _, M, .nil, _, _, _, _, _, l, k => l.ex _ _ _ k
  | Φ, M, .cons c i s r, .xc n fs, κ, κ', ς, h, l, k => by
    change if xSub n c = true then inSl i ς ∧ wSs (Φx n fs Φ) s (unK i κ) (unS i ς) h else wH Φ r (.xc n fs) κ ς h at k
    show if xSub n c = true then inSl i ς ∧ wSs (Φx n fs Φ) s (unK i κ') (unS i ς) h else wH Φ r (.xc n fs) κ' ς h
    by_cases q : xSub n c = true
    · rw [if_pos q] at k ⊢
      exact ⟨k.1, wSs_mono (phx_mono M) s (κ := unK i κ) (κ' := unK i κ') ⟨fun _ _ z => l.nx _ _ z, l.rt, fun _ _ _ z => z.elim, fun _ _ z => l.bk _ _ z, fun _ _ z => l.ct _ _ z⟩ k.2⟩
    · rw [if_neg q] at k ⊢
      exact wH_mono M r l k
  | _, _, .cons _ _ _ _, .non, _, _, _, _, _, k => k.elim
  | _, _, .cons _ _ _ _, .bl _, _, _, _, _, _, k => k.elim
  | _, _, .cons _ _ _ _, .int _, _, _, _, _, _, k => k.elim
  | _, _, .cons _ _ _ _, .str _, _, _, _, _, _, k => k.elim
  | _, _, .cons _ _ _ _, .tup _, _, _, _, _, _, k => k.elim
  | _, _, .cons _ _ _ _, .rol _, _, _, _, _, _, k => k.elim
  | _, _, .cons _ _ _ _, .loc _, _, _, _, _, _, k => k.elim
end
theorem den_mono (T : Tab) : ∀ n, MonoP (den T n)
  | 0 => fun f vs h q q' x x' i j k => (den_zero k).elim
  | n + 1 => fun f vs h q q' x x' i j k => by
    rw [den_succ] at k ⊢
    obtain ⟨F, e, l, k⟩ := k
    exact ⟨F, e, l, wSs_mono (den_mono T n) F.body (κ := { nx := fun _ h' => q .non h', rt := q, ex := fun e _ h' => x e h' }) (κ' := { nx := fun _ h' => q' .non h', rt := q', ex := fun e _ h' => x' e h' }) ⟨fun _ h => i _ h, i, fun e _ h => j e h, fun _ _ z => z, fun _ _ z => z⟩ k⟩
/-! ### cuts -/
section
variable {T : Tab} {n : Nat}
/-- what is behind a statement, said by itself -/
theorem cut_nx {s : Sm} {κ : KS} {ς : PSt} {h : PH} (P : PSt → PH → Prop) (k : wS (den T n) s { κ with nx := P } ς h) (i : ∀ ς h, P ς h → κ.nx ς h) : wS (den T n) s κ ς h :=
  wS_mono (den_mono T n) s (κ := { κ with nx := P }) (κ' := κ) ⟨i, fun _ _ z => z, fun _ _ _ z => z, fun _ _ z => z, fun _ _ z => z⟩ k
/-- a test's outcome, said by itself -/
theorem cut_t {e : Ex} {x : QX} {ς : PSt} {h : PH} {q : Bool → PH → Prop} (P : Bool → PH → Prop) (k : wT (den T n) e x ς h P) (i : ∀ b h, P b h → q b h) : wT (den T n) e x ς h q := wT_mono (den_mono T n) e (fun _ _ z => z) i k
/-- a value, said by itself -/
theorem cut_e {e : Ex} {x : QX} {ς : PSt} {h : PH} {q : QV} (P : QV) (k : wE (den T n) e x ς h P) (i : ∀ v h, P v h → q v h) : wE (den T n) e x ς h q := wE_mono (den_mono T n) e (fun _ _ z => z) i k
theorem den_cut {f : Nat} {vs : List PV} {h : PH} {q : QV} {x : QX} (P : QV) (k : den T n f vs h P x) (i : ∀ v h, P v h → q v h) : den T n f vs h q x := den_mono T n f vs h P q x x i (fun _ _ z => z) k
end
/-! ### clauses -/
section
variable {Φ : Phi} {c k : Nat} {i : Option Nat} {s : Sms} {r : Hds} {fs : List PV} {κ : KS} {ς : PSt} {h : PH}
theorem wH_yes (e : xSub k c = true) (hi : inSl i ς) (z : wSs (Φx k fs Φ) s (unK i κ) (unS i ς) h) : wH Φ (.cons c i s r) (.xc k fs) κ ς h := by
  show if xSub k c = true then inSl i ς ∧ wSs (Φx k fs Φ) s (unK i κ) (unS i ς) h else wH Φ r (.xc k fs) κ ς h
  rw [if_pos e]
  exact ⟨hi, z⟩
theorem wH_no (e : xSub k c = false) (z : wH Φ r (.xc k fs) κ ς h) : wH Φ (.cons c i s r) (.xc k fs) κ ς h := by
  show if xSub k c = true then inSl i ς ∧ wSs (Φx k fs Φ) s (unK i κ) (unS i ς) h else wH Φ r (.xc k fs) κ ς h
  rw [if_neg (by rw [e]; exact Bool.false_ne_true)]
  exact z
end
end WD
end
section
set_option Elab.async false
set_option maxRecDepth 100000
set_option maxHeartbeats 40000000
set_option linter.all false
namespace WD
open PySem PySem.Spec PyProof.Rows L2
/-- operands_of(script, value) 138: slots 0=script 1=value 2=word 3=operands -/
def ir_p_operands_of : Fn := ⟨2, 4,
  (.cons (.set (.tup [(.slot 2), (.slot 3)]) (.ix (.ix (.var 0) (.int 0)) (.var 1)))
  (.cons (.ret (.ifx (.cmp .Eq (.var 2) (.str "in")) (.tup .nil) (.var 3)))
  .nil))⟩
/-- is_integer(thing) 142: slots 0=thing -/
def ir_p_is_integer : Fn := ⟨1, 1,
  (.cons (.ret (.and (.bif (.isT "int") (.cons (.var 0) .nil)) (.not (.bif (.isT "bool") (.cons (.var 0) .nil)))))
  .nil)⟩
/-- is_number(thing) 143: slots 0=thing -/
def ir_p_is_number : Fn := ⟨1, 1,
  (.cons (.ret (.and (.call 142 (.cons (.var 0) .nil)) (.cmp .GtE (.var 0) (.int 0))))
  .nil)⟩
/-- is_below(thing, bound) 144: slots 0=thing 1=bound -/
def ir_p_is_below : Fn := ⟨2, 2,
  (.cons (.ret (.and (.call 143 (.cons (.var 0) .nil)) (.cmp .Lt (.var 0) (.var 1))))
  .nil)⟩
/-- check_value(script, value) 198: slots 0=script 1=value -/
def ir_p_check_value : Fn := ⟨2, 2,
  (.cons (.ifs (.not (.call 144 (.cons (.var 1) (.cons (.bif .len (.cons (.ix (.var 0) (.int 0)) .nil)) .nil))))
    (.cons (.raise 12 (.cons (.str "value") .nil))
    .nil)
    .nil)
  .nil)⟩
/-- users_of(script, value) 199: slots 0=script 1=value 2=user -/
def ir_p_users_of : Fn := ⟨2, 3,
  (.cons (.expr (.call 198 (.cons (.var 0) (.cons (.var 1) .nil))))
  (.cons (.ret (.lif .tuple (.l (.comp [2] (.var 2) (.slot 2) (.range1 (.bif .len (.cons (.ix (.var 0) (.int 0)) .nil))) (.some (.cmp .In (.var 1) (.call 138 (.cons (.var 0) (.cons (.var 2) .nil)))))))))
  .nil))⟩
/-- inputs_of(script) 200: slots 0=script 1=value -/
def ir_p_inputs_of : Fn := ⟨1, 2,
  (.cons (.ret (.lif .tuple (.l (.comp [1] (.var 1) (.slot 1) (.range1 (.bif .len (.cons (.ix (.var 0) (.int 0)) .nil))) (.some (.cmp .Eq (.ix (.ix (.ix (.var 0) (.int 0)) (.var 1)) (.int 0)) (.str "in")))))))
  .nil)⟩
/-- depth_of(script, value) 201: slots 0=script 1=value 2=depths 3=one 4=operands 5=operand -/
def ir_p_depth_of : Fn := ⟨2, 6,
  (.cons (.expr (.call 198 (.cons (.var 0) (.cons (.var 1) .nil))))
  (.cons (.set (.slot 2) (.new (.disp .nil)))
  (.cons (.fors (.slot 3) (.range1 (.bin .Add (.var 1) (.int 1)))
    (.cons (.set (.slot 4) (.call 138 (.cons (.var 0) (.cons (.var 3) .nil))))
    (.cons (.expr (.mth .append (.var 2) (.cons (.ifx (.var 4) (.bin .Add (.int 1) (.lif .max (.l (.comp [5] (.ix (.var 2) (.var 5)) (.slot 5) (.la (.e (.var 4))) .no)))) (.int 0)) .nil)))
    .nil)))
  (.cons (.ret (.ix (.var 2) (.var 1)))
  .nil))))⟩
/-- value_of(script, word, operands) 202: slots 0=script 1=word 2=operands 3=value -/
def ir_p_value_of : Fn := ⟨3, 4,
  (.cons (.fors (.slot 3) (.range1 (.bif .len (.cons (.ix (.var 0) (.int 0)) .nil)))
    (.cons (.ifs (.cmp .Eq (.ix (.ix (.var 0) (.int 0)) (.var 3)) (.tup (.cons (.var 1) (.cons (.var 2) .nil))))
      (.cons (.ret (.var 3))
      .nil)
      .nil)
    .nil))
  (.cons (.ret .non)
  .nil))⟩
/-- _law_mill(script) 1000: slots 0=script 1=grist 2=k 3=cell -/
def ir_f_law_mill : Fn := ⟨1, 4,
  (.cons (.set (.slot 1) (.int 60103))
  (.cons (.fors (.tup [(.slot 2), (.slot 3)]) (.enum (.e (.var 0)))
    (.cons (.set (.slot 1) (.bin .Mod (.bin .Add (.bin .Add (.bin .Add (.bin .Mult (.var 1) (.int 5555555555555557)) (.bin .Mod (.bif .int (.cons (.var 3) .nil)) (.int 1152921504606846697))) (.bin .Mult (.int 11) (.var 2))) (.int 3)) (.int 1152921504606846697)))
    .nil))
  (.cons (.ret (.new (.disp (.cons (.var 1) (.cons (.int 0) .nil)))))
  .nil)))⟩
/-- _law_grind(mill, many) 1001: slots 0=mill 1=many -/
def ir_f_law_grind : Fn := ⟨2, 2,
  (.cons (.augS (.var 0) (.int 1) .Add (.int 1))
  (.cons (.sub (.var 0) (.int 0) (.bin .Mod (.bin .Add (.bin .Add (.bin .Mult (.bif .int (.cons (.ix (.var 0) (.int 0)) .nil)) (.int 1865811235122147683)) (.bin .Mult (.ix (.var 0) (.int 1)) (.int 92821))) (.int 4294967311)) (.int 1152921504606846697)))
  (.cons (.ret (.bin .Mod (.bin .FloorDiv (.bif .int (.cons (.ix (.var 0) (.int 0)) .nil)) (.int 131101)) (.var 1)))
  .nil)))⟩
/-- _law_words(mill) 1002: slots 0=mill 1=one 2=two 3=three -/
def ir_f_law_words : Fn := ⟨1, 4,
  (.cons (.set (.slot 1) (.ix (.tup (.cons (.str "f") (.cons (.str "inn") (.cons (.str "worker") (.cons (.str "g7") (.cons (.str "reuse") (.cons (.str "abcdefgh") .nil))))))) (.call 1001 (.cons (.var 0) (.cons (.int 6) .nil)))))
  (.cons (.set (.slot 2) (.ix (.tup (.cons (.str "h") (.cons (.str "outs") (.cons (.str "ff") (.cons (.str "fun2") (.cons (.str "hhhhhhhh") .nil)))))) (.call 1001 (.cons (.var 0) (.cons (.int 5) .nil)))))
  (.cons (.set (.slot 3) (.ix (.tup (.cons (.str "t") (.cons (.str "guards") (.cons (.str "in3") (.cons (.str "repeat1") .nil))))) (.call 1001 (.cons (.var 0) (.cons (.int 4) .nil)))))
  (.cons (.ret (.tup (.cons (.tup (.cons (.str "add") (.cons (.int 2) .nil))) (.cons (.tup (.cons (.var 1) (.cons (.int 1) .nil))) (.cons (.tup (.cons (.var 2) (.cons (.int 2) .nil))) (.cons (.tup (.cons (.str "sub") (.cons (.int 2) .nil))) (.cons (.tup (.cons (.var 3) (.cons (.int 3) .nil))) (.cons (.tup (.cons (.str "mul") (.cons (.int 2) .nil))) (.cons (.tup (.cons (.bin .Add (.str "k") (.sl (.var 1) .no (.some (.int 4)))) (.cons (.int 1) .nil))) .nil)))))))))
  .nil))))⟩
/-- _law_input(k, manner, words) 1003: slots 0=k 1=manner 2=words -/
def ir_f_law_input : Fn := ⟨3, 3,
  (.cons (.ifs (.and (.cmp .Eq (.var 0) (.int 1)) (.cmp .Lt (.var 1) (.int 2)))
    (.cons (.ret (.tup (.cons (.str "in") (.cons (.ix (.ix (.var 2) (.int 1)) (.int 0)) .nil))))
    .nil)
    .nil)
  (.cons (.ifs (.and (.cmp .Eq (.var 1) (.int 0)) (.cmp .Lt (.var 0) (.int 8)))
    (.cons (.ret (.tup (.cons (.str "in") (.cons (.bin .Mult (.str "y") (.bin .Add (.var 0) (.int 1))) .nil))))
    .nil)
    .nil)
  (.cons (.ifs (.cmp .Eq (.var 1) (.int 1))
    (.cons (.ret (.tup (.cons (.str "in") (.cons (.bin .Add (.str "z") (.bif .str (.cons (.bin .Add (.int 1000000) (.bin .Mult (.int 7) (.var 0))) .nil))) .nil))))
    .nil)
    .nil)
  (.cons (.ret (.tup (.cons (.str "in") (.cons (.ix (.tup (.cons (.bin .Add (.str "x") (.bif .str (.cons (.var 0) .nil))) (.cons (.bin .Add (.str "in") (.bif .str (.cons (.var 0) .nil))) (.cons (.bin .Add (.bin .Add (.str "q") (.bif .str (.cons (.var 0) .nil))) (.str "out")) .nil)))) (.bin .Mod (.var 0) (.int 3))) .nil))))
  .nil))))⟩
/-- _law_made(mill, many, inputs, near) 1004: slots 0=mill 1=many 2=inputs 3=near 4=words 5=manner 6=values 7=sizes 8=k 9=value 10=size 11=low 12=operands 13=total 14=word 15=arity 16=slot 17=at -/
def ir_f_law_made : Fn := ⟨4, 18,
  (.cons (.set (.slot 4) (.call 1002 (.cons (.var 0) .nil)))
  (.cons (.set (.slot 5) (.call 1001 (.cons (.var 0) (.cons (.int 3) .nil))))
  (.cons (.set (.slot 6) (.new (.disp .nil)))
  (.cons (.set (.slot 7) (.new (.disp .nil)))
  (.cons (.fors (.slot 8) (.range1 (.var 1))
    (.cons (.set (.slot 9) (.call 1003 (.cons (.var 8) (.cons (.var 5) (.cons (.var 4) .nil)))))
    (.cons (.set (.slot 10) (.int 1))
    (.cons (.ifs (.and (.cmp .Gt (.var 8) (.int 0)) (.cmp .GtE (.call 1001 (.cons (.var 0) (.cons (.int 12) .nil))) (.var 2)))
      (.cons (.set (.tup [(.slot 14), (.slot 15)]) (.ix (.var 4) (.call 1001 (.cons (.var 0) (.cons (.bif .len (.cons (.var 4) .nil)) .nil)))))
      (.cons (.set (.slot 11) (.bif .max2 (.cons (.int 0) (.cons (.bin .Sub (.var 8) (.var 3)) .nil))))
      (.cons (.set (.slot 12) (.new (.comp [16] (.bin .Add (.var 11) (.call 1001 (.cons (.var 0) (.cons (.bin .Sub (.var 8) (.var 11)) .nil)))) (.slot 16) (.range1 (.var 15)) .no)))
      (.cons (.ifs (.cmp .Eq (.call 1001 (.cons (.var 0) (.cons (.int 5) .nil))) (.int 0))
        (.cons (.set (.slot 12) (.new (.comp [16] (.ix (.var 12) (.int 0)) (.slot 16) (.range1 (.var 15)) .no)))
        .nil)
        .nil)
      (.cons (.set (.slot 13) (.bin .Add (.int 1) (.lif .sum (.l (.comp [17] (.ix (.var 7) (.var 17)) (.slot 17) (.la (.e (.var 12))) .no)))))
      (.cons (.ifs (.and (.cmp .LtE (.var 13) (.int 300)) (.cmp .NotIn (.tup (.cons (.var 14) (.cons (.lif .tuple (.e (.var 12))) .nil))) (.var 6)))
        (.cons (.set (.slot 9) (.tup (.cons (.var 14) (.cons (.lif .tuple (.e (.var 12))) .nil))))
        (.cons (.set (.slot 10) (.var 13))
        .nil))
        .nil)
      .nil))))))
      .nil)
    (.cons (.expr (.mth .append (.var 6) (.cons (.var 9) .nil)))
    (.cons (.expr (.mth .append (.var 7) (.cons (.var 10) .nil)))
    .nil))))))
  (.cons (.ret (.var 6))
  .nil))))))⟩
/-- _law_whole(mill, values, most) 1005: slots 0=mill 1=values 2=most 3=manner 4=weights 5=outs 6=value 7=k -/
def ir_f_law_whole : Fn := ⟨3, 8,
  (.cons (.set (.slot 3) (.call 1001 (.cons (.var 0) (.cons (.int 4) .nil))))
  (.cons (.set (.slot 4) (.new (.comp [6] (.int 1) (.slot 6) (.la (.e (.var 1))) .no)))
  (.cons (.ifs (.cmp .Gt (.var 3) (.int 1))
    (.cons (.set (.slot 4) (.new (.comp [6] (.bin .Add (.int 1) (.call 1001 (.cons (.var 0) (.cons (.int 99) .nil)))) (.slot 6) (.la (.e (.var 1))) .no)))
    .nil)
    .nil)
  (.cons (.set (.slot 5) (.new (.disp .nil)))
  (.cons (.ifs (.cmp .Gt (.bif .len (.cons (.var 1) .nil)) (.int 0))
    (.cons (.set (.slot 5) (.new (.comp [7] (.call 1001 (.cons (.var 0) (.cons (.bif .len (.cons (.var 1) .nil)) .nil))) (.slot 7) (.range1 (.call 1001 (.cons (.var 0) (.cons (.bin .Add (.var 2) (.int 1)) .nil)))) .no)))
    .nil)
    .nil)
  (.cons (.ret (.tup (.cons (.lif .tuple (.e (.var 1))) (.cons (.lif .tuple (.e (.var 4))) (.cons (.lif .tuple (.e (.var 5))) .nil)))))
  .nil))))))⟩
/-- _law_users(values, number) 1006: slots 0=values 1=number 2=rows 3=k 4=word 5=operands 6=at -/
def ir_f_law_users : Fn := ⟨2, 7,
  (.cons (.set (.slot 2) (.new (.disp .nil)))
  (.cons (.fors (.slot 3) (.range1 (.bif .len (.cons (.var 0) .nil)))
    (.cons (.set (.tup [(.slot 4), (.slot 5)]) (.ix (.var 0) (.var 3)))
    (.cons (.ifs (.and (.cmp .NotEq (.var 4) (.str "in")) (.cmp .Gt (.lif .len (.l (.comp [6] (.int 1) (.slot 6) (.la (.e (.var 5))) (.some (.cmp .Eq (.var 6) (.var 1)))))) (.int 0)))
      (.cons (.expr (.mth .append (.var 2) (.cons (.var 3) .nil)))
      .nil)
      .nil)
    .nil)))
  (.cons (.ret (.var 2))
  .nil)))⟩
/-- _law_depths(values) 1007: slots 0=values 1=rows 2=word 3=operands 4=deep 5=at -/
def ir_f_law_depths : Fn := ⟨1, 6,
  (.cons (.set (.slot 1) (.new (.disp .nil)))
  (.cons (.fors (.tup [(.slot 2), (.slot 3)]) (.la (.e (.var 0)))
    (.cons (.set (.slot 4) (.int 0))
    (.cons (.ifs (.cmp .NotEq (.var 2) (.str "in"))
      (.cons (.set (.slot 4) (.bin .Add (.int 1) (.lif .max (.l (.comp [5] (.ix (.var 1) (.var 5)) (.slot 5) (.la (.e (.var 3))) .no)))))
      .nil)
      .nil)
    (.cons (.expr (.mth .append (.var 1) (.cons (.var 4) .nil)))
    .nil))))
  (.cons (.ret (.var 1))
  .nil)))⟩
/-- _law_found(values, word, operands) 1008: slots 0=values 1=word 2=operands 3=k -/
def ir_f_law_found : Fn := ⟨3, 4,
  (.cons (.fors (.slot 3) (.range1 (.bif .len (.cons (.var 0) .nil)))
    (.cons (.ifs (.and (.cmp .Eq (.ix (.ix (.var 0) (.var 3)) (.int 0)) (.var 1)) (.cmp .Eq (.ix (.ix (.var 0) (.var 3)) (.int 1)) (.var 2)))
      (.cons (.ret (.var 3))
      .nil)
      .nil)
    .nil))
  (.cons (.ret .non)
  .nil))⟩
/-- _law_like(told, due) 1009: slots 0=told 1=due -/
def ir_f_law_like : Fn := ⟨2, 2,
  (.cons (.ifs (.or (.cmp .Is (.var 1) .non) (.cmp .Is (.var 0) .non))
    (.cons (.ret (.and (.cmp .Is (.var 0) .non) (.cmp .Is (.var 1) .non)))
    .nil)
    .nil)
  (.cons (.ret (.and (.bif (.isT "int") (.cons (.var 0) .nil)) (.and (.not (.bif (.isT "bool") (.cons (.var 0) .nil))) (.cmp .Eq (.var 0) (.var 1)))))
  .nil))⟩
/-- _law_row(told, due) 1010: slots 0=told 1=due 2=k -/
def ir_f_law_row : Fn := ⟨2, 3,
  (.cons (.ifs (.or (.not (.bif (.isT "tuple") (.cons (.var 0) .nil))) (.cmp .NotEq (.bif .len (.cons (.var 0) .nil)) (.bif .len (.cons (.var 1) .nil))))
    (.cons (.ret (.bl false))
    .nil)
    .nil)
  (.cons (.fors (.slot 2) (.range1 (.bif .len (.cons (.var 1) .nil)))
    (.cons (.ifs (.not (.call 1009 (.cons (.ix (.var 0) (.var 2)) (.cons (.ix (.var 1) (.var 2)) .nil))))
      (.cons (.ret (.bl false))
      .nil)
      .nil)
    .nil))
  (.cons (.ret (.bl true))
  .nil)))⟩
/-- _law_at(script, number, deep) 1011: slots 0=script 1=number 2=deep 3=due -/
def ir_f_law_at : Fn := ⟨3, 4,
  (.cons (.set (.slot 3) (.call 1006 (.cons (.ix (.var 0) (.int 0)) (.cons (.var 1) .nil))))
  (.cons (.ifs (.not (.call 1010 (.cons (.call 199 (.cons (.var 0) (.cons (.var 1) .nil))) (.cons (.var 3) .nil))))
    (.cons (.ret (.bl false))
    .nil)
    .nil)
  (.cons (.ret (.call 1009 (.cons (.call 201 (.cons (.var 0) (.cons (.var 1) .nil))) (.cons (.var 2) .nil))))
  .nil)))⟩
/-- _law_sought(script, word, operands, tally) 1012: slots 0=script 1=word 2=operands 3=tally 4=due -/
def ir_f_law_sought : Fn := ⟨4, 5,
  (.cons (.set (.slot 4) (.call 1008 (.cons (.ix (.var 0) (.int 0)) (.cons (.var 1) (.cons (.var 2) .nil)))))
  (.cons (.augS (.var 3) (.bif .int (.cons (.cmp .Is (.var 4) .non) .nil)) .Add (.int 1))
  (.cons (.ret (.call 1009 (.cons (.call 202 (.cons (.var 0) (.cons (.var 1) (.cons (.var 2) .nil)))) (.cons (.var 4) .nil))))
  .nil)))⟩
/-- _law_missing(mill, script, number, tally) 1013: slots 0=mill 1=script 2=number 3=tally 4=many 5=word 6=operands 7=near 8=other 9=back 10=one 11=rest 12=at 13=k -/
def ir_f_law_missing : Fn := ⟨4, 14,
  (.cons (.set (.tup [(.slot 5), (.slot 6)]) (.ix (.ix (.var 1) (.int 0)) (.var 2)))
  (.cons (.set (.slot 4) (.bif .len (.cons (.ix (.var 1) (.int 0)) .nil)))
  (.cons (.ifs (.cmp .Eq (.var 5) (.str "in"))
    (.cons (.set (.slot 7) (.new (.disp (.cons (.tup (.cons (.str "in") (.cons (.bin .Add (.sl (.var 6) .no (.some (.int 7))) (.str "0")) .nil))) (.cons (.tup (.cons (.str "in") (.cons (.sl (.var 6) .no (.some (.int 1))) .nil))) (.cons (.tup (.cons (.str "in") (.cons (.str "nobody") .nil))) (.cons (.tup (.cons (.var 6) (.cons (.tup (.cons (.var 2) .nil)) .nil))) .nil)))))))
    .nil)
    (.cons (.set (.slot 8) (.new (.comp [12] (.var 12) (.slot 12) (.la (.e (.var 6))) .no)))
    (.cons (.sub (.var 8) (.call 1001 (.cons (.var 0) (.cons (.bif .len (.cons (.var 8) .nil)) .nil))) (.call 1001 (.cons (.var 0) (.cons (.var 4) .nil))))
    (.cons (.set (.slot 9) (.lif .tuple (.l (.comp [13] (.ix (.var 6) (.bin .Sub (.bin .Sub (.bif .len (.cons (.var 6) .nil)) (.int 1)) (.var 13))) (.slot 13) (.range1 (.bif .len (.cons (.var 6) .nil))) .no))))
    (.cons (.set (.slot 7) (.new (.disp (.cons (.tup (.cons (.var 5) (.cons (.lif .tuple (.e (.var 8))) .nil))) (.cons (.tup (.cons (.var 5) (.cons (.var 9) .nil))) (.cons (.tup (.cons (.var 5) (.cons (.bin .Add (.sl (.var 6) (.some (.int 1)) .no) (.tup (.cons (.var 2) .nil))) .nil))) (.cons (.tup (.cons (.str "in") (.cons (.var 5) .nil))) .nil)))))))
    (.cons (.expr (.mth .append (.var 7) (.cons (.tup (.cons (.var 5) (.cons (.bin .Add (.sl (.var 6) .no (.some (.int 2))) (.tup (.cons (.ix (.var 6) (.int 0)) .nil))) .nil))) .nil)))
    (.cons (.expr (.mth .append (.var 7) (.cons (.tup (.cons (.bin .Add (.var 5) (.bin .Mult (.str "0") (.bif .int (.cons (.cmp .Lt (.bif .len (.cons (.var 5) .nil)) (.int 8)) .nil)))) (.cons (.var 6) .nil))) .nil)))
    .nil)))))))
  (.cons (.fors (.tup [(.slot 10), (.slot 11)]) (.la (.e (.var 7)))
    (.cons (.ifs (.not (.call 1012 (.cons (.var 1) (.cons (.var 10) (.cons (.var 11) (.cons (.var 3) .nil))))))
      (.cons (.ret (.bl false))
      .nil)
      .nil)
    .nil))
  (.cons (.ret (.bl true))
  .nil)))))⟩
/-- _law_asked(mill, script, tally) 1014: slots 0=mill 1=script 2=tally 3=values 4=many 5=inputs 6=deep 7=begun 8=k 9=number -/
def ir_f_law_asked : Fn := ⟨3, 10,
  (.cons (.set (.slot 3) (.ix (.var 1) (.int 0)))
  (.cons (.set (.slot 4) (.bif .len (.cons (.var 3) .nil)))
  (.cons (.set (.slot 5) (.new (.comp [8] (.var 8) (.slot 8) (.range1 (.var 4)) (.some (.cmp .Eq (.ix (.ix (.var 3) (.var 8)) (.int 0)) (.str "in"))))))
  (.cons (.ifs (.not (.call 1010 (.cons (.call 200 (.cons (.var 1) .nil)) (.cons (.var 5) .nil))))
    (.cons (.ret (.bl false))
    .nil)
    .nil)
  (.cons (.set (.slot 6) (.call 1007 (.cons (.var 3) .nil)))
  (.cons (.set (.slot 7) (.call 1001 (.cons (.var 0) (.cons (.bin .Add (.var 4) (.int 1)) .nil))))
  (.cons (.fors (.slot 8) (.range1 (.bif .min2 (.cons (.var 4) (.cons (.bin .Add (.int 10) (.bin .Mult (.int 4) (.bif .int (.cons (.cmp .Lt (.var 4) (.int 15)) .nil)))) .nil))))
    (.cons (.set (.slot 9) (.bin .Mod (.bin .Add (.var 7) (.bin .Mult (.var 8) (.bin .Add (.int 1) (.bin .Mult (.int 6) (.bif .int (.cons (.cmp .Gt (.var 4) (.int 14)) .nil)))))) (.var 4)))
    (.cons (.ifs (.not (.call 1011 (.cons (.var 1) (.cons (.var 9) (.cons (.ix (.var 6) (.var 9)) .nil)))))
      (.cons (.ret (.bl false))
      .nil)
      .nil)
    (.cons (.ifs (.not (.call 1012 (.cons (.var 1) (.cons (.ix (.ix (.var 3) (.var 9)) (.int 0)) (.cons (.ix (.ix (.var 3) (.var 9)) (.int 1)) (.cons (.var 2) .nil))))))
      (.cons (.ret (.bl false))
      .nil)
      .nil)
    (.cons (.ifs (.and (.cmp .Eq (.bin .Mod (.var 8) (.int 3)) (.int 0)) (.not (.call 1013 (.cons (.var 0) (.cons (.var 1) (.cons (.var 9) (.cons (.var 2) .nil)))))))
      (.cons (.ret (.bl false))
      .nil)
      .nil)
    .nil)))))
  (.cons (.ret (.bl true))
  .nil))))))))⟩
/-- _law_refused(script, bad, first) 1015: slots 0=script 1=bad 2=first 3=error -/
def ir_f_law_refused : Fn := ⟨3, 4,
  (.cons (.tryx
    (.cons (.ifs (.var 2)
      (.cons (.expr (.call 199 (.cons (.var 0) (.cons (.var 1) .nil))))
      .nil)
      (.cons (.expr (.call 201 (.cons (.var 0) (.cons (.var 1) .nil))))
      .nil))
    .nil)
    (.cons 12 (some 3)
    (.cons (.ret (.and (.bif (.isT "str") (.cons (.call 900000 .nil) .nil)) (.cmp .Eq (.call 900000 .nil) (.str "value"))))
    .nil)
    (.cons 0 none
    (.cons (.ret (.bl false))
    .nil)
    .nil)))
  (.cons (.ret (.bl false))
  .nil))⟩
/-- _law_barred(mill, script) 1016: slots 0=mill 1=script 2=many 3=bad 4=thing 5=first -/
def ir_f_law_barred : Fn := ⟨2, 6,
  (.cons (.set (.slot 2) (.bif .len (.cons (.ix (.var 1) (.int 0)) .nil)))
  (.cons (.set (.slot 3) (.new (.disp (.cons (.var 2) (.cons (.neg (.int 1)) (.cons (.bl true) (.cons .non (.cons (.str "0") (.cons (.tup (.cons (.int 0) .nil)) (.cons (.bin .Add (.bin .Add (.var 2) (.int 1)) (.call 1001 (.cons (.var 0) (.cons (.int 100) .nil)))) (.cons (.bin .Sub (.neg (.var 2)) (.int 1)) (.cons (.bl false) (.cons (.new (.disp (.cons (.int 0) .nil))) (.cons (.str "in") (.cons (.bin .Pow (.int 10) (.int 30)) .nil)))))))))))))))
  (.cons (.fors (.slot 4) (.la (.e (.var 3)))
    (.cons (.set (.slot 5) (.cmp .Eq (.call 1001 (.cons (.var 0) (.cons (.int 2) .nil))) (.int 0)))
    (.cons (.ifs (.or (.not (.call 1015 (.cons (.var 1) (.cons (.var 4) (.cons (.var 5) .nil))))) (.not (.call 1015 (.cons (.var 1) (.cons (.var 4) (.cons (.not (.var 5)) .nil))))))
      (.cons (.ret (.bl false))
      .nil)
      .nil)
    .nil)))
  (.cons (.ret (.bl true))
  .nil))))⟩
/-- _law_hand(mill) 1017: slots 0=mill 1=values -/
def ir_f_law_hand : Fn := ⟨1, 2,
  (.cons (.set (.slot 1) (.new (.disp (.cons (.tup (.cons (.str "in") (.cons (.str "x") .nil))) (.cons (.tup (.cons (.str "in") (.cons (.str "f") .nil))) (.cons (.tup (.cons (.str "f") (.cons (.tup (.cons (.int 0) .nil)) .nil))) (.cons (.tup (.cons (.str "f") (.cons (.tup (.cons (.int 1) .nil)) .nil))) (.cons (.tup (.cons (.str "sub") (.cons (.tup (.cons (.int 2) (.cons (.int 3) .nil))) .nil))) (.cons (.tup (.cons (.str "sub") (.cons (.tup (.cons (.int 3) (.cons (.int 2) .nil))) .nil))) (.cons (.tup (.cons (.str "mul") (.cons (.tup (.cons (.int 5) (.cons (.int 5) .nil))) .nil))) .nil))))))))))
  (.cons (.expr (.ext (.var 1) (.l (.disp (.cons (.tup (.cons (.str "t") (.cons (.tup (.cons (.int 0) (.cons (.int 0) (.cons (.int 6) .nil)))) .nil))) (.cons (.tup (.cons (.str "t") (.cons (.tup (.cons (.int 0) (.cons (.int 6) (.cons (.int 0) .nil)))) .nil))) (.cons (.tup (.cons (.str "f") (.cons (.tup (.cons (.int 8) .nil)) .nil))) (.cons (.tup (.cons (.str "g") (.cons (.tup (.cons (.int 0) .nil)) .nil))) (.cons (.tup (.cons (.str "in") (.cons (.str "t") .nil))) .nil)))))))))
  (.cons (.ret (.sl (.var 1) .no (.some (.bin .Add (.int 4) (.call 1001 (.cons (.var 0) (.cons (.int 9) .nil)))))))
  .nil)))⟩
/-- law(script) 1018: slots 0=script 1=mill 2=tally 3=hand 4=first 5=users 6=deep 7=chain 8=alone 9=scripts 10=k 11=one 12=near 13=large 14=values -/
def ir_p_law : Fn := ⟨1, 15,
  (.cons (.set (.slot 1) (.call 1000 (.cons (.var 0) .nil)))
  (.cons (.set (.slot 2) (.new (.disp (.cons (.int 0) (.cons (.int 0) .nil)))))
  (.cons (.set (.slot 3) (.call 1005 (.cons (.var 1) (.cons (.call 1017 (.cons (.var 1) .nil)) (.cons (.int 4) .nil)))))
  (.cons (.set (.slot 4) (.call 1001 (.cons (.var 1) (.cons (.int 4) .nil))))
  (.cons (.set (.slot 5) (.call 1006 (.cons (.ix (.var 3) (.int 0)) (.cons (.var 4) .nil))))
  (.cons (.set (.slot 6) (.ix (.call 1007 (.cons (.ix (.var 3) (.int 0)) .nil)) (.var 4)))
  (.cons (.ifs (.or (.not (.call 1011 (.cons (.var 3) (.cons (.var 4) (.cons (.var 6) .nil))))) (.not (.call 1012 (.cons (.var 3) (.cons (.str "f") (.cons (.tup (.cons (.int 1) .nil)) (.cons (.var 2) .nil)))))))
    (.cons (.ret (.bl false))
    .nil)
    .nil)
  (.cons (.ifs (.or (.not (.call 1012 (.cons (.var 3) (.cons (.str "f") (.cons (.tup (.cons (.int 2) .nil)) (.cons (.var 2) .nil)))))) (.not (.call 1012 (.cons (.var 3) (.cons (.str "in") (.cons (.str "f") (.cons (.var 2) .nil)))))))
    (.cons (.ret (.bl false))
    .nil)
    .nil)
  (.cons (.set (.slot 7) (.new (.cat (.l (.disp (.cons (.tup (.cons (.str "in") (.cons (.str "x0") .nil))) .nil))) (.l (.comp [10] (.tup (.cons (.str "f") (.cons (.tup (.cons (.var 10) .nil)) .nil))) (.slot 10) (.range1 (.call 1001 (.cons (.var 1) (.cons (.int 9) .nil)))) .no)))))
  (.cons (.set (.slot 8) (.new (.comp [10] (.call 1003 (.cons (.var 10) (.cons (.int 2) (.cons (.tup .nil) .nil)))) (.slot 10) (.range1 (.bin .Add (.int 1) (.call 1001 (.cons (.var 1) (.cons (.int 5) .nil))))) .no)))
  (.cons (.set (.slot 9) (.new (.disp (.cons (.var 3) (.cons (.call 1005 (.cons (.var 1) (.cons (.var 7) (.cons (.int 3) .nil)))) (.cons (.call 1005 (.cons (.var 1) (.cons (.var 8) (.cons (.int 3) .nil)))) (.cons (.tup (.cons (.tup .nil) (.cons (.tup .nil) (.cons (.tup .nil) .nil)))) .nil)))))))
  (.cons (.fors (.slot 10) (.range1 (.int 3))
    (.cons (.set (.slot 12) (.bin .Add (.int 3) (.bin .Mult (.int 9) (.call 1001 (.cons (.var 1) (.cons (.int 2) .nil))))))
    (.cons (.expr (.mth .append (.var 9) (.cons (.call 1005 (.cons (.var 1) (.cons (.call 1004 (.cons (.var 1) (.cons (.bin .Add (.int 2) (.call 1001 (.cons (.var 1) (.cons (.int 11) .nil)))) (.cons (.call 1001 (.cons (.var 1) (.cons (.int 7) .nil))) (.cons (.var 12) .nil))))) (.cons (.int 4) .nil)))) .nil)))
    .nil)))
  (.cons (.ifs (.cmp .Eq (.call 1001 (.cons (.var 1) (.cons (.int 7) .nil))) (.int 2))
    (.cons (.set (.slot 13) (.bin .Sub (.int 100) (.bin .Mult (.call 1001 (.cons (.var 1) (.cons (.int 3) .nil))) (.call 1001 (.cons (.var 1) (.cons (.int 20) .nil))))))
    (.cons (.set (.slot 14) (.new (.cat (.l (.disp (.cons (.tup (.cons (.str "in") (.cons (.str "x0") .nil))) .nil))) (.l (.comp [10] (.tup (.cons (.str "f") (.cons (.tup (.cons (.var 10) .nil)) .nil))) (.slot 10) (.range1 (.bin .Sub (.var 13) (.int 1))) .no)))))
    (.cons (.ifs (.cmp .Eq (.call 1001 (.cons (.var 1) (.cons (.int 2) .nil))) (.int 0))
      (.cons (.set (.slot 14) (.call 1004 (.cons (.var 1) (.cons (.var 13) (.cons (.int 3) (.cons (.bin .Add (.int 4) (.bin .Mult (.int 40) (.call 1001 (.cons (.var 1) (.cons (.int 2) .nil))))) .nil))))))
      .nil)
      .nil)
    (.cons (.expr (.mth .append (.var 9) (.cons (.call 1005 (.cons (.var 1) (.cons (.var 14) (.cons (.int 40) .nil)))) .nil)))
    .nil))))
    .nil)
  (.cons (.fors (.slot 11) (.la (.e (.var 9)))
    (.cons (.ifs (.not (.call 1014 (.cons (.var 1) (.cons (.var 11) (.cons (.var 2) .nil)))))
      (.cons (.ret (.bl false))
      .nil)
      .nil)
    .nil))
  (.cons (.ifs (.not (.call 1016 (.cons (.var 1) (.cons (.ix (.var 9) (.call 1001 (.cons (.var 1) (.cons (.int 3) .nil)))) .nil))))
    (.cons (.ret (.bl false))
    .nil)
    .nil)
  (.cons (.ifs (.or (.not (.call 1009 (.cons (.call 201 (.cons (.var 3) (.cons (.var 4) .nil))) (.cons (.var 6) .nil)))) (.not (.call 1010 (.cons (.call 199 (.cons (.var 3) (.cons (.var 4) .nil))) (.cons (.var 5) .nil)))))
    (.cons (.ret (.bl false))
    .nil)
    .nil)
  (.cons (.ret (.and (.cmp .Gt (.ix (.var 2) (.int 0)) (.int 0)) (.cmp .Gt (.ix (.var 2) (.int 1)) (.int 0))))
  .nil)))))))))))))))))⟩
abbrev fr : List PySem.Str := ["len", "int", "str", "abs", "bool", "min", "max", "tuple", "list", "sum", "all", "any", "range", "enumerate", "isinstance", "zip", "reversed", "sorted", "dict", "set", "type", "print", "ValueError"]
abbrev kw : List KwS := []
def top (i : Nat) : PySem.Stmt := PySem.Challenge.pw_whateverdrops_k10_looks_at_scripts.main.body.getD i (.Pass ⟨0, 0, 0, 0⟩)
def clsB (s : PySem.Stmt) : List PySem.Stmt := match s with
  | .ClassDef _ _ _ b _ _ _ _ _ _ _ => b
  | _ => []
def xi_BadStep : XI := ⟨"BadStep", 12, "BadStep.__init__", (clsB (top 3)).getD 0 (.Pass ⟨0, 0, 0, 0⟩)⟩
abbrev me : MEn := ⟨fr, kw, [], [], [("DropError", 0), ("CallError", 2), ("BadStep", 12)], [xi_BadStep]⟩
def de_p_operands_of : DE := ⟨"operands_of", top 5, ["script", "value", "word", "operands"], ["script", "value"], ir_p_operands_of⟩
def de_p_is_integer : DE := ⟨"is_integer", top 7, ["thing"], ["thing"], ir_p_is_integer⟩
def de_p_is_number : DE := ⟨"is_number", top 8, ["thing"], ["thing"], ir_p_is_number⟩
def de_p_is_below : DE := ⟨"is_below", top 9, ["thing", "bound"], ["thing", "bound"], ir_p_is_below⟩
def de_p_check_value : DE := ⟨"check_value", top 11, ["script", "value"], ["script", "value"], ir_p_check_value⟩
def de_p_users_of : DE := ⟨"users_of", top 12, ["script", "value", "user"], ["script", "value"], ir_p_users_of⟩
def de_p_inputs_of : DE := ⟨"inputs_of", top 13, ["script", "value"], ["script"], ir_p_inputs_of⟩
def de_p_depth_of : DE := ⟨"depth_of", top 14, ["script", "value", "depths", "one", "operands", "operand"], ["script", "value"], ir_p_depth_of⟩
def de_p_value_of : DE := ⟨"value_of", top 15, ["script", "word", "operands", "value"], ["script", "word", "operands"], ir_p_value_of⟩
def de_f_law_mill : DE := ⟨"_law_mill", top 17, ["script", "grist", "k", "cell"], ["script"], ir_f_law_mill⟩
def de_f_law_grind : DE := ⟨"_law_grind", top 18, ["mill", "many"], ["mill", "many"], ir_f_law_grind⟩
def de_f_law_words : DE := ⟨"_law_words", top 19, ["mill", "one", "two", "three"], ["mill"], ir_f_law_words⟩
def de_f_law_input : DE := ⟨"_law_input", top 20, ["k", "manner", "words"], ["k", "manner", "words"], ir_f_law_input⟩
def de_f_law_made : DE := ⟨"_law_made", top 21, ["mill", "many", "inputs", "near", "words", "manner", "values", "sizes", "k", "value", "size", "low", "operands", "total", "word", "arity", "slot", "at"], ["mill", "many", "inputs", "near"], ir_f_law_made⟩
def de_f_law_whole : DE := ⟨"_law_whole", top 22, ["mill", "values", "most", "manner", "weights", "outs", "value", "k"], ["mill", "values", "most"], ir_f_law_whole⟩
def de_f_law_users : DE := ⟨"_law_users", top 23, ["values", "number", "rows", "k", "word", "operands", "at"], ["values", "number"], ir_f_law_users⟩
def de_f_law_depths : DE := ⟨"_law_depths", top 24, ["values", "rows", "word", "operands", "deep", "at"], ["values"], ir_f_law_depths⟩
def de_f_law_found : DE := ⟨"_law_found", top 25, ["values", "word", "operands", "k"], ["values", "word", "operands"], ir_f_law_found⟩
def de_f_law_like : DE := ⟨"_law_like", top 26, ["told", "due"], ["told", "due"], ir_f_law_like⟩
def de_f_law_row : DE := ⟨"_law_row", top 27, ["told", "due", "k"], ["told", "due"], ir_f_law_row⟩
def de_f_law_at : DE := ⟨"_law_at", top 28, ["script", "number", "deep", "due"], ["script", "number", "deep"], ir_f_law_at⟩
def de_f_law_sought : DE := ⟨"_law_sought", top 29, ["script", "word", "operands", "tally", "due"], ["script", "word", "operands", "tally"], ir_f_law_sought⟩
def de_f_law_missing : DE := ⟨"_law_missing", top 30, ["mill", "script", "number", "tally", "many", "word", "operands", "near", "other", "back", "one", "rest", "at", "k"], ["mill", "script", "number", "tally"], ir_f_law_missing⟩
def de_f_law_asked : DE := ⟨"_law_asked", top 31, ["mill", "script", "tally", "values", "many", "inputs", "deep", "begun", "k", "number"], ["mill", "script", "tally"], ir_f_law_asked⟩
def de_f_law_refused : DE := ⟨"_law_refused", top 32, ["script", "bad", "first", "error"], ["script", "bad", "first"], ir_f_law_refused⟩
def de_f_law_barred : DE := ⟨"_law_barred", top 33, ["mill", "script", "many", "bad", "thing", "first"], ["mill", "script"], ir_f_law_barred⟩
def de_f_law_hand : DE := ⟨"_law_hand", top 34, ["mill", "values"], ["mill"], ir_f_law_hand⟩
def de_p_law : DE := ⟨"law", top 35, ["script", "mill", "tally", "hand", "first", "users", "deep", "chain", "alone", "scripts", "k", "one", "near", "large", "values"], ["script"], ir_p_law⟩
def ds : List (Nat × DE) := [(138, de_p_operands_of), (142, de_p_is_integer), (143, de_p_is_number), (144, de_p_is_below), (198, de_p_check_value), (199, de_p_users_of), (200, de_p_inputs_of), (201, de_p_depth_of), (202, de_p_value_of), (1000, de_f_law_mill), (1001, de_f_law_grind), (1002, de_f_law_words), (1003, de_f_law_input), (1004, de_f_law_made), (1005, de_f_law_whole), (1006, de_f_law_users), (1007, de_f_law_depths), (1008, de_f_law_found), (1009, de_f_law_like), (1010, de_f_law_row), (1011, de_f_law_at), (1012, de_f_law_sought), (1013, de_f_law_missing), (1014, de_f_law_asked), (1015, de_f_law_refused), (1016, de_f_law_barred), (1017, de_f_law_hand), (1018, de_p_law)]
abbrev T10 : Tab := tabOf ds
end WD
end
section
set_option Elab.async false
set_option linter.all false
set_option maxRecDepth 100000
set_option autoImplicit false
set_option maxHeartbeats 8000000
set_option pp.maxSteps 600
namespace WD
open PySem PySem.Spec PyProof.Rows L2
/-! ### values -/
abbrev Op := Str ⊕ List Nat
def oE : Op → PV
  | .inl s => .str s
  | .inr o => .tup (o.map ni)
def oD : Op → PyData
  | .inl s => .str s
  | .inr o => .tuple (o.map fun (x : Nat) => .int (x : Int))
structure Vl where
  w : Str
  o : Op
def Vl.enc (v : Vl) : PV := .tup [.str v.w, oE v.o]
def Vl.ops (v : Vl) : List Nat := match v.o with
  | .inl _ => []
  | .inr o => o
def VA (i : Nat) (v : Vl) : Prop := (v.w = ("in" : Str) ∧ ∃ s, v.o = .inl s) ∨ (v.w ≠ ("in" : Str) ∧ ∃ o, v.o = .inr o ∧ 1 ≤ o.length ∧ o.length ≤ 3 ∧ ∀ x, x ∈ o → x < i)
def VAs (vs : List Vl) : Prop := ∀ (i : Nat) (v : Vl), vs[i]? = some v → VA i v
def vAt (vs : List Vl) (i : Nat) : Vl := vs.getD i ⟨"in", .inl ""⟩
theorem vAt_get {vs : List Vl} {i : Nat} (h : i < vs.length) : vs[i]? = some (vAt vs i) := getD_at h
def opsAt (vs : List Vl) (i : Nat) : List Nat := (vAt vs i).ops
theorem VA.ops_lt {i : Nat} {v : Vl} (h : VA i v) : ∀ x, x ∈ v.ops → x < i := by
  obtain ⟨w, o⟩ := v
  rcases h with ⟨_, s, e⟩ | ⟨_, p, e, _, _, h⟩
  · have e' : o = .inl s := e
    subst e'
    intro x hx
    cases hx
  · have e' : o = .inr p := e
    subst e'
    exact h
def scr (vs : List Vl) (W O : PV) : PV := .tup [.tup (vs.map Vl.enc), W, O]
theorem VAs.snoc {vs : List Vl} {v : Vl} (hv : VAs vs) (ok : VA vs.length v) : VAs (vs ++ [v]) := by
  intro i u hu
  by_cases q : i < vs.length
  · rw [List.getElem?_append_left q] at hu
    exact hv i u hu
  · rw [List.getElem?_append_right (by omega)] at hu
    have : i - vs.length = 0 := by
      have := get_lt hu
      simp at this
      omega
    rw [this] at hu
    have hu' : v = u := by simpa using hu
    subst hu'
    have : i = vs.length := by omega
    rw [this]
    exact ok
/-! ### data -/
theorem ns_mapM (h : PH) (k : Nat) (o : List Nat) : (o.map ni).mapM (toD h (k + 1)) = some (o.map fun (x : Nat) => PyData.int (x : Int)) := mapM_map fun x _ => rfl
theorem o_D (h : PH) (k : Nat) (o : Op) : toD h (k + 2) (oE o) = some (oD o) := by
  cases o with
  | inl s => rfl
  | inr o =>
    show (List.mapM (toD h (k + 1)) (o.map ni)).map PyData.tuple = _
    rw [ns_mapM]
    rfl
theorem v_D (h : PH) (k : Nat) (w : Str) (o : Op) : toD h (k + 3) (.tup [.str w, oE o]) = some (.tuple [.str w, oD o]) := by
  show (List.mapM (toD h (k + 2)) [PV.str w, oE o]).map PyData.tuple = _
  rw [List.mapM_cons, List.mapM_cons, o_D]
  rfl
theorem eqv_ns : ∀ (a b : List Nat), PyData.eqvAll (a.map fun (x : Nat) => .int (x : Int)) (b.map fun (x : Nat) => .int (x : Int)) = decide (a = b)
  | [], [] => rfl
  | [], _ :: _ => rfl
  | _ :: _, [] => rfl
  | x :: xs, y :: ys => by
    rw [List.map_cons, List.map_cons, PyData.eqvAll, eqv_ns xs ys]
    have : PyData.eqv (.int (x : Int)) (.int (y : Int)) = decide (x = y) := by
      show ((x : Int) == (y : Int)) = _
      by_cases e : x = y
      · subst e; simp
      · simp [e]; omega
    rw [this]
    by_cases e1 : x = y
    · by_cases e2 : xs = ys
      · subst e1 e2; simp
      · simp [e1, e2]
    · simp [e1]
theorem eqv_str (a b : Str) : PyData.eqv (.str a) (.str b) = decide (a = b) := by
  show (a == b) = _
  by_cases e : a = b
  · subst e; simp
  · simp [e]
theorem eqv_o (a b : Op) : PyData.eqv (oD a) (oD b) = decide (a = b) := by
  cases a with
  | inl a =>
    cases b with
    | inl b =>
      show PyData.eqv (.str a) (.str b) = _
      rw [eqv_str]
      simp
    | inr b => rfl
  | inr a =>
    cases b with
    | inl b => rfl
    | inr b =>
      show PyData.eqvAll _ _ = _
      rw [eqv_ns]
      simp
theorem eqv_v (a b : Str) (x y : Op) : PyData.eqv (.tuple [.str a, oD x]) (.tuple [.str b, oD y]) = decide (a = b ∧ x = y) := by
  show PyData.eqvAll [.str a, oD x] [.str b, oD y] = _
  rw [PyData.eqvAll, PyData.eqvAll, PyData.eqvAll, eqv_str, eqv_o, Bool.and_true, ← Bool.decide_and]
theorem any_ns (o : List Nat) (v : Nat) : ((o.map fun (x : Nat) => PyData.int (x : Int)).any fun z => PyData.eqv z (.int (v : Int))) = decide (v ∈ o) := by
  induction o with
  | nil => rfl
  | cons a r ih =>
    rw [List.map_cons, List.any_cons, ih]
    have : PyData.eqv (.int (a : Int)) (.int (v : Int)) = decide (v = a) := by
      show ((a : Int) == (v : Int)) = _
      by_cases e : v = a
      · subst e; simp
      · rw [decide_eq_false e]; simp; omega
    rw [this]
    by_cases e1 : v = a
    · simp [e1]
    · simp [e1]
/-! ### the package's defs -/
theorem operands_ok {n i : Nat} {vs : List Vl} {W O : PV} {h : PH} {q : QV} {x : QX} (hw : VAs vs) (hi : i < vs.length) (k : q (.tup ((opsAt vs i).map ni)) h) : den T10 (n + 1) 138 [scr vs W O, ni i] h q x := by
  have hv := vAt_get hi
  have hok := hw i _ hv
  refine den_call (F := ir_p_operands_of) (by rfl) rfl ?_
  refine ⟨_, rfl, _, _, _, _, rfl, rfl, rfl, rfl, _, rfl, _, _, _, _, rfl, rfl, ixP_nat (by simpa using hi), mp_get hv, ?_⟩
  unfold opsAt at k
  generalize vAt vs i = v at hv hok k
  obtain ⟨w, o⟩ := v
  rcases hok with ⟨e1, s, e2⟩ | ⟨e1, p, e2, _⟩
  · have e1' : w = ("in" : Str) := e1
    have e2' : o = .inl s := e2
    subst e1' e2'
    refine ⟨_, rfl, _, _, rfl, _, _, rfl, rfl, _, rfl, .inl ⟨rfl, ?_⟩⟩
    exact ite_t (by show decide (PV.str ("in" : Str) = PV.str ("in" : Str)) = true; decide +kernel) ⟨Nat.zero_le _, k⟩
  · have e2' : o = .inr p := e2
    subst e2'
    refine ⟨_, rfl, _, _, rfl, _, _, rfl, rfl, _, rfl, .inl ⟨rfl, ?_⟩⟩
    exact ite_f (strNe e1) ⟨_, rfl, k⟩
/-- a value whose kind is known -/
def Kd (h : PH) : PV → Prop
  | .rol _ => False
  | .xc _ _ => False
  | .loc l => ∃ xs, h[l]? = some (.lst xs)
  | _ => True
def isInt : PV → Bool
  | .int _ => true
  | _ => false
theorem integer_ok {n : Nat} {v : PV} {h : PH} {q : QV} {x : QX} (hv : Kd h v) (k : q (.bl (isInt v)) h) : den T10 (n + 1) 142 [v] h q x := by
  refine den_call (F := ir_p_is_integer) (by rfl) rfl ?_
  cases v with
  | int i => exact ⟨_, rfl, _, _, rfl, rfl, _, rfl, ite_t rfl ⟨_, rfl, _, _, rfl, rfl, _, rfl, k⟩⟩
  | bl b => exact ⟨_, rfl, _, _, rfl, rfl, _, rfl, ite_t rfl ⟨_, rfl, _, _, rfl, rfl, _, rfl, k⟩⟩
  | non => exact ⟨_, rfl, _, _, rfl, rfl, _, rfl, ite_f rfl k⟩
  | str s => exact ⟨_, rfl, _, _, rfl, rfl, _, rfl, ite_f rfl k⟩
  | tup xs => exact ⟨_, rfl, _, _, rfl, rfl, _, rfl, ite_f rfl k⟩
  | loc l =>
    obtain ⟨xs, e⟩ := hv
    exact ⟨_, rfl, _, _, rfl, by simp only [typB, e]; rfl, _, rfl, ite_f rfl k⟩
  | rol _ => exact hv.elim
  | xc _ _ => exact hv.elim
def belB (v : PV) (m : Int) : Bool := match v with
  | .int i => decide (0 ≤ i) && decide (i < m)
  | _ => false
theorem below_ok {n : Nat} {v : PV} {m : Int} {h : PH} {q : QV} {x : QX} (hv : Kd h v) (k : q (.bl (belB v m)) h) : den T10 (n + 3) 144 [v, .int m] h q x := by
  refine den_call (F := ir_p_is_below) (by rfl) rfl ?_
  refine ⟨_, rfl, ?_⟩
  refine den_call (F := ir_p_is_number) (by rfl) rfl ?_
  refine ⟨_, rfl, ?_⟩
  refine integer_ok hv ?_
  cases v with
  | int i =>
    refine ⟨_, rfl, ite_t rfl ⟨_, rfl, _, _, rfl, rfl, ?_⟩⟩
    change q (.bl (decide (0 ≤ i) && decide (i < m))) h at k
    refine ⟨_, rfl, ite_b (fun c => ?_) (fun c => ?_)⟩
    · rw [c, Bool.true_and] at k
      exact ⟨_, rfl, _, rfl, _, _, rfl, rfl, k⟩
    · rw [c, Bool.false_and] at k
      exact k
  | _ => exact ⟨_, rfl, ite_f rfl ⟨_, rfl, ite_f rfl k⟩⟩
theorem check_ok {n k : Nat} {vs : List Vl} {W O : PV} {h : PH} {q : QV} {x : QX} (hk : k < vs.length) (z : q .non h) : den T10 (n + 4) 198 [scr vs W O, ni k] h q x := by
  refine den_call (F := ir_p_check_value) (by rfl) rfl ?_
  have ml : (vs.map Vl.enc).length = vs.length := List.length_map ..
  refine ⟨_, rfl, _, rfl, _, _, _, _, rfl, rfl, rfl, rfl, _, _, rfl, rfl, ?_⟩
  refine below_ok trivial ⟨_, rfl, ite_f ?_ z⟩
  show (!(decide ((0 : Int) ≤ (k : Int)) && decide ((k : Int) < ((vs.map Vl.enc).length : Int)))) = false
  rw [ml, decide_eq_true (by omega), decide_eq_true (by omega)]
  rfl
theorem check_bad {n : Nat} {vs : List Vl} {W O v : PV} {h : PH} {q : QV} {x : QX} (hv : Kd h v) (hb : belB v vs.length = false) (z : x (.xc 12 [.str "value"]) h) : den T10 (n + 4) 198 [scr vs W O, v] h q x := by
  refine den_call (F := ir_p_check_value) (by rfl) rfl ?_
  have ml : (vs.map Vl.enc).length = vs.length := List.length_map ..
  refine ⟨_, rfl, _, rfl, _, _, _, _, rfl, rfl, rfl, rfl, _, _, rfl, rfl, ?_⟩
  refine below_ok hv ⟨_, rfl, ite_t ?_ ⟨rfl, rfl, z⟩⟩
  rw [ml, hb]
  rfl
/-! ### users, inputs -/
def usersF (vs : List Vl) (v i : Nat) : List Nat := (List.range i).filter fun u => decide (v ∈ opsAt vs u)
theorem flt_snoc (p : Nat → Bool) (i : Nat) : (List.range (i + 1)).filter p = (List.range i).filter p ++ (if p i = true then [i] else []) := by
  rw [List.range_succ, List.filter_append]
  congr 1
  by_cases c : p i = true
  · rw [if_pos c, List.filter_cons_of_pos c]; rfl
  · rw [if_neg c, List.filter_cons_of_neg c]; rfl
theorem flt_len (p : Nat → Bool) (i : Nat) : ((List.range i).filter p).length ≤ i := by
  have := List.length_filter_le p (List.range i)
  rw [List.length_range] at this
  exact this
theorem users_ok {n v : Nat} {vs : List Vl} {W O : PV} {h : PH} {q : QV} {x : QX} (hw : VAs vs) (hl : vs.length ≤ 1000) (hv : v < vs.length) (k : q (.tup ((usersF vs v vs.length).map ni)) h) : den T10 (n + 5) 199 [scr vs W O, ni v] h q x := by
  refine den_call (F := ir_p_users_of) (by rfl) rfl ?_
  have ml : (vs.map Vl.enc).length = vs.length := List.length_map ..
  refine ⟨_, rfl, _, rfl, ?_⟩
  refine check_ok hv ?_
  refine ⟨_, rfl, _, _, _, _, rfl, rfl, rfl, rfl, _, _, rfl, rfl, _, rfl, by omega, by omega, ?_⟩
  rw [ml, toNat_nat]
  refine cmp_inv (fun i acc h' => h' = h ∧ acc = (usersF vs v i).map ni) ⟨rfl, rfl⟩ (fun _ _ _ _ => trivial) ?_ ?_
  · rintro i y acc h' kk hy ⟨rfl, rfl⟩ hkk
    obtain ⟨hi, rfl⟩ := range_get hy
    have hn := flt_len (fun u => decide (v ∈ opsAt vs u)) i
    refine ⟨_, rfl, _, rfl, _, rfl, ?_⟩
    have e0 : PV.int (0 + (i : Int)) = ni i := by show PV.int _ = PV.int _; rw [Int.zero_add]
    rw [e0]
    refine operands_ok hw hi ?_
    refine ⟨_, _, _, rfl, rfl, ns_mapM _ _ _, ?_⟩
    rw [any_ns]
    have hs : usersF vs v (i + 1) = usersF vs v i ++ (if decide (v ∈ opsAt vs i) = true then [i] else []) := flt_snoc _ i
    refine ite_b (fun c => ?_) (fun c => ?_)
    · refine ⟨_, rfl, szl (by unfold usersF; simp; omega), hkk _ _ ⟨rfl, ?_⟩⟩
      rw [hs, if_pos c, List.map_append]
      rfl
    · refine hkk _ _ ⟨rfl, ?_⟩
      rw [hs, if_neg (by rw [c]; exact Bool.false_ne_true), List.append_nil]
  · rintro acc h' ⟨rfl, rfl⟩
    rw [rangeL_length]
    exact ⟨_, rfl, k⟩
theorem users_bad {n : Nat} {vs : List Vl} {W O v : PV} {h : PH} {q : QV} {x : QX} (hv : Kd h v) (hb : belB v vs.length = false) (z : x (.xc 12 [.str "value"]) h) : den T10 (n + 5) 199 [scr vs W O, v] h q x := by
  refine den_call (F := ir_p_users_of) (by rfl) rfl ?_
  exact ⟨_, rfl, _, rfl, check_bad hv hb z⟩
def isIn (v : Vl) : Bool := decide (v.w = ("in" : Str))
def inputsF (vs : List Vl) (i : Nat) : List Nat := (List.range i).filter fun u => isIn (vAt vs u)
theorem isIn_dec (v : Vl) : decide (PV.str v.w = PV.str ("in" : Str)) = isIn v := by
  unfold isIn
  by_cases e : v.w = ("in" : Str)
  · rw [e]; decide +kernel
  · rw [strNe e, decide_eq_false e]
theorem inputs_ok {n : Nat} {vs : List Vl} {W O : PV} {h : PH} {q : QV} {x : QX} (hl : vs.length ≤ 1000) (k : q (.tup ((inputsF vs vs.length).map ni)) h) : den T10 (n + 1) 200 [scr vs W O] h q x := by
  refine den_call (F := ir_p_inputs_of) (by rfl) rfl ?_
  have ml : (vs.map Vl.enc).length = vs.length := List.length_map ..
  refine ⟨_, rfl, _, _, _, _, rfl, rfl, rfl, rfl, _, _, rfl, rfl, _, rfl, by omega, by omega, ?_⟩
  rw [ml, toNat_nat]
  refine cmp_inv (fun i acc h' => h' = h ∧ acc = (inputsF vs i).map ni) ⟨rfl, rfl⟩ (fun _ _ _ _ => trivial) ?_ ?_
  · rintro i y acc h' kk hy ⟨rfl, rfl⟩ hkk
    obtain ⟨hi, rfl⟩ := range_get hy
    have hn := flt_len (fun u => isIn (vAt vs u)) i
    have e0 : PV.int (0 + (i : Int)) = ni i := by show PV.int _ = PV.int _; rw [Int.zero_add]
    refine ⟨_, rfl, _, _, _, _, rfl, rfl, rfl, rfl, _, rfl, _, _, _, _, rfl, rfl, ixP_at (k := i) (by omega) (by omega), mp_get (vAt_get hi), _, _, _, _, rfl, rfl, rfl, rfl, .inl ⟨rfl, ?_⟩⟩
    rw [isIn_dec]
    have hs : inputsF vs (i + 1) = inputsF vs i ++ (if isIn (vAt vs i) = true then [i] else []) := flt_snoc _ i
    refine ite_b (fun c => ?_) (fun c => ?_)
    · refine ⟨_, rfl, szl (by unfold inputsF; simp; omega), hkk _ _ ⟨rfl, ?_⟩⟩
      rw [hs, if_pos c, List.map_append, e0]
      rfl
    · refine hkk _ _ ⟨rfl, ?_⟩
      rw [hs, if_neg (by rw [c]; exact Bool.false_ne_true), List.append_nil]
  · rintro acc h' ⟨rfl, rfl⟩
    rw [rangeL_length]
    exact ⟨_, rfl, k⟩
/-! ### found -/
def fstF (p : Nat → Bool) : Nat → Nat → Option Nat
  | i, 0 => none
  | i, c + 1 => if p i = true then some i else fstF p (i + 1) c
def hit (vs : List Vl) (w : Str) (o : Op) (i : Nat) : Bool := decide ((vAt vs i).w = w ∧ (vAt vs i).o = o)
def foundF (vs : List Vl) (w : Str) (o : Op) : Option Nat := fstF (hit vs w o) 0 vs.length
def fP : Option Nat → PV
  | none => .non
  | some k => ni k
theorem value_ok {n : Nat} {vs : List Vl} {W O : PV} {w : Str} {o : Op} {h : PH} {q : QV} {x : QX} (hl : vs.length ≤ 1000) (k : q (fP (foundF vs w o)) h) : den T10 (n + 1) 202 [scr vs W O, .str w, oE o] h q x := by
  refine den_call (F := ir_p_value_of) (by rfl) rfl ?_
  have ml : (vs.map Vl.enc).length = vs.length := List.length_map ..
  refine ⟨_, rfl, _, _, _, _, rfl, rfl, rfl, rfl, _, _, rfl, rfl, _, rfl, by omega, by omega, ?_⟩
  rw [ml, toNat_nat]
  refine for_inv (fun i ς h' => (∃ a, ς = [some (scr vs W O), some (.str w), some (oE o), a]) ∧ h' = h ∧ foundF vs w o = fstF (hit vs w o) i (vs.length - i)) ⟨⟨_, rfl⟩, rfl, rfl⟩ (fun _ _ _ _ => trivial) ?_ ?_
  · rintro i y ς h' kk hy ⟨⟨a, rfl⟩, rfl, ef⟩ hkk
    obtain ⟨hi, rfl⟩ := range_get hy
    have hd : vs.length - i = (vs.length - (i + 1)) + 1 := by omega
    rw [hd] at ef
    change foundF vs w o = (if hit vs w o i = true then some i else fstF (hit vs w o) (i + 1) (vs.length - (i + 1))) at ef
    refine ⟨_, rfl, _, _, _, _, rfl, rfl, rfl, rfl, _, rfl, _, _, _, _, rfl, rfl, ixP_at (k := i) (by omega) (by omega), mp_get (vAt_get hi), _, rfl, _, rfl, Nat.le_of_ble_eq_true rfl, .inr ⟨_, _, v_D _ 61 _ _, v_D _ 61 _ _, ?_⟩⟩
    rw [eqv_v]
    refine ite_b (fun c => ?_) (fun c => ?_)
    · rw [if_pos (show hit vs w o i = true from c)] at ef
      rw [ef] at k
      refine ⟨_, rfl, ?_⟩
      have e0 : PV.int (0 + (i : Int)) = ni i := by show PV.int _ = PV.int _; rw [Int.zero_add]
      show q (PV.int (0 + (i : Int))) _
      rw [e0]
      exact k
    · rw [if_neg (by unfold hit; rw [c]; exact Bool.false_ne_true)] at ef
      exact hkk _ _ ⟨⟨_, rfl⟩, rfl, ef⟩
  · rintro ς h' ⟨⟨a, rfl⟩, rfl, ef⟩
    rw [rangeL_length, Nat.sub_self] at ef
    rw [ef] at k
    exact k
end WD
end
section
set_option Elab.async false
set_option linter.all false
set_option maxRecDepth 100000
set_option autoImplicit false
set_option maxHeartbeats 8000000
set_option pp.maxSteps 600
namespace WD
open PySem PySem.Spec PyProof.Rows L2
/-! ### depths -/
def DepAt (vs : List Vl) (D : List Int) (j : Nat) (d : Int) : Prop := (opsAt vs j = [] ∧ d = 0) ∨ (∃ o, o ∈ opsAt vs j ∧ d = 1 + D.getD o 0) ∧ ∀ o, o ∈ opsAt vs j → 1 + D.getD o 0 ≤ d
def DepOk (vs : List Vl) (D : List Int) : Prop := ∀ j d, D[j]? = some d → DepAt vs D j d
theorem ops_lt {vs : List Vl} (hv : VAs vs) {j : Nat} (hj : j < vs.length) : ∀ o, o ∈ opsAt vs j → o < j := (hv j _ (vAt_get hj)).ops_lt
theorem getD_app {D : List Int} {d : Int} {o : Nat} (h : o < D.length) : (D ++ [d]).getD o 0 = D.getD o 0 := by
  rw [List.getD_eq_getElem?_getD, List.getD_eq_getElem?_getD, List.getElem?_append_left h]
theorem DepAt.app {vs : List Vl} {D : List Int} {j : Nat} {d e : Int} (h : DepAt vs D j d) (ho : ∀ o, o ∈ opsAt vs j → o < D.length) : DepAt vs (D ++ [e]) j d := by
  rcases h with h | ⟨⟨o, h1, h2⟩, h3⟩
  · exact .inl h
  · refine .inr ⟨⟨o, h1, by rw [getD_app (ho o h1)]; exact h2⟩, fun p hp => ?_⟩
    rw [getD_app (ho p hp)]
    exact h3 p hp
theorem dep_snoc {vs : List Vl} (hv : VAs vs) {D : List Int} {d : Int} (h : DepOk vs D) (hl : D.length < vs.length) (hd : DepAt vs D D.length d) : DepOk vs (D ++ [d]) := by
  intro j e he
  by_cases c : j < D.length
  · rw [List.getElem?_append_left c] at he
    exact (h j e he).app fun o ho => by have := ops_lt hv (show j < vs.length by omega) o ho; omega
  · have hj : j = D.length := by
      have := get_lt he
      simp at this
      omega
    subst hj
    rw [List.getElem?_append_right (Nat.le_refl _)] at he
    have e' : d = e := by simpa using he
    subst e'
    exact hd.app fun o ho => ops_lt hv hl o ho
theorem dep_uniq {vs : List Vl} (hv : VAs vs) {D D' : List Int} (h : DepOk vs D) (h' : DepOk vs D') (hl : D.length ≤ vs.length) : ∀ j, j < D.length → j < D'.length → D.getD j 0 = D'.getD j 0 := by
  intro j
  induction j using Nat.strongRecOn with
  | ind j ih =>
    intro h1 h2
    have a := h j _ (getD_at (d := 0) h1)
    have b := h' j _ (getD_at (d := 0) h2)
    have lt := ops_lt hv (show j < vs.length by omega)
    have eq : ∀ o, o ∈ opsAt vs j → D.getD o 0 = D'.getD o 0 := fun o ho => ih o (lt o ho) (by have := lt o ho; omega) (by have := lt o ho; omega)
    rcases a with ⟨a1, a2⟩ | ⟨⟨o, a1, a2⟩, a3⟩
    · rcases b with ⟨b1, b2⟩ | ⟨⟨p, b1, b2⟩, b3⟩
      · rw [a2, b2]
      · rw [a1] at b1
        cases b1
    · rcases b with ⟨b1, b2⟩ | ⟨⟨p, b1, b2⟩, b3⟩
      · rw [b1] at a1
        cases a1
      · have c1 := a3 p b1
        have c2 := b3 o a1
        rw [eq p b1] at c1
        rw [← eq o a1] at c2
        omega
/-- the greatest of the operands' depths -/
theorem dep_max {vs : List Vl} {D : List Int} {j : Nat} {o : List Nat} (ho : opsAt vs j = o) (hne : 1 ≤ o.length) {m : Int} (hm : m ∈ o.map fun x => D.getD x 0) (hx : ∀ y, y ∈ (o.map fun x => D.getD x 0) → y ≤ m) : DepAt vs D j (1 + m) := by
  obtain ⟨p, hp, rfl⟩ := List.mem_map.mp hm
  refine .inr ⟨⟨p, by rw [ho]; exact hp, rfl⟩, fun r hr => ?_⟩
  rw [ho] at hr
  have := hx _ (List.mem_map.mpr ⟨r, hr, rfl⟩)
  omega
theorem ints_dep {D : List Int} {o : List Nat} : intsOf (o.map fun x => PV.int (D.getD x 0)) = some (o.map fun x => D.getD x 0) := by
  have := intsOf_map (o.map fun x => D.getD x 0)
  rw [List.map_map] at this
  exact this
theorem va_cases {vs : List Vl} (hv : VAs vs) {i : Nat} (hi : i < vs.length) : ((vAt vs i).w = ("in" : Str) ∧ opsAt vs i = [] ∧ ∃ s, (vAt vs i).o = .inl s) ∨ ((vAt vs i).w ≠ ("in" : Str) ∧ 1 ≤ (opsAt vs i).length ∧ (opsAt vs i).length ≤ 3 ∧ (vAt vs i).o = .inr (opsAt vs i)) := by
  have h := hv i _ (vAt_get hi)
  unfold opsAt
  generalize vAt vs i = v at h
  obtain ⟨w, o⟩ := v
  rcases h with ⟨e1, s, e2⟩ | ⟨e1, p, e2, e3, e4, _⟩
  · have e2' : o = .inl s := e2
    subst e2'
    exact .inl ⟨e1, rfl, s, rfl⟩
  · have e2' : o = .inr p := e2
    subst e2'
    exact .inr ⟨e1, e3, e4, rfl⟩
theorem depth_ok {n v : Nat} {vs : List Vl} {W O : PV} {D : List Int} {h : PH} {q : QV} {x : QX} (hw : VAs vs) (hl : vs.length ≤ 1000) (hv : v < vs.length) (hD : DepOk vs D) (hDl : D.length = vs.length) (k : ∀ h', Fr [] h h' → q (.int (D.getD v 0)) h') : den T10 (n + 5) 201 [scr vs W O, ni v] h q x := by
  refine den_call (F := ir_p_depth_of) (by rfl) rfl ?_
  refine ⟨_, rfl, _, rfl, ?_⟩
  refine check_ok hv ?_
  refine ⟨Nat.zero_le _, ?_⟩
  have e0 : (h ++ [PO.lst []])[h.length]? = some (.lst (([] : List Int).map .int)) := at_new
  refine ⟨_, rfl, _, rfl, by omega, by omega, ?_⟩
  have en : ((v : Int) + 1).toNat = v + 1 := by omega
  rw [en]
  refine for_inv (fun i ς h' => (∃ a b c, ς = [some (scr vs W O), some (ni v), some (.loc h.length), a, b, c]) ∧ (∃ E : List Int, h'[h.length]? = some (.lst (E.map .int)) ∧ E.length = i ∧ DepOk vs E) ∧ Fr [] h h') ⟨⟨_, _, _, rfl⟩, ⟨[], e0, rfl, fun j d e => by simp at e⟩, Fr.app⟩ (fun _ _ _ _ => trivial) ?_ ?_
  · rintro i y ς h1 kk hy ⟨⟨a, b, c, rfl⟩, ⟨E, e1, el, eo⟩, f1⟩ hkk
    obtain ⟨hi, rfl⟩ := range_get hy
    have hil : i < vs.length := by omega
    have z0 : PV.int (0 + (i : Int)) = ni i := by show PV.int _ = PV.int _; rw [Int.zero_add]
    rw [z0]
    refine ⟨_, rfl, _, rfl, ?_⟩
    refine operands_ok hw hil ?_
    refine ⟨_, rfl, ⟨_, _, rfl, e1, rfl⟩, _, rfl, _, rfl, ?_⟩
    have fin : ∀ d, DepAt vs E i d → kk [some (scr vs W O), some (ni v), some (.loc h.length), some (ni i), some (.tup ((opsAt vs i).map ni)), c] (h1.set h.length (.lst (E.map .int ++ [.int d]))) := fun d hd => by
      refine hkk _ _ ⟨⟨_, _, _, rfl⟩, ⟨E ++ [d], ?_, by simp [el], dep_snoc hw eo (by omega) (by rw [el]; exact hd)⟩, f1.new (.inl (Nat.le_refl _))⟩
      rw [at_set e1]
      simp
    rcases va_cases hw hil with ⟨_, ho, _⟩ | ⟨_, h1l, h3l, _⟩
    · refine ite_f (by rw [ho]; rfl) ?_
      exact ⟨_, _, rfl, e1, szl (by simp; omega), fin 0 (.inl ⟨ho, rfl⟩)⟩
    · refine ite_t (by cases ho : opsAt vs i with | nil => rw [ho] at h1l; simp at h1l | cons _ _ => rfl) ?_
      refine ⟨_, rfl, .inl ⟨_, rfl, ?_⟩⟩
      refine cmp_map (enc := ni) (f := fun x => .int (E.getD x 0)) rfl (fun t z Q hz hQ => ?_) (by omega) ?_
      · have := ops_lt hw hil z (List.mem_of_getElem? hz)
        exact ⟨_, rfl, _, rfl, _, e1, _, _, _, rfl, ixP_nat (by simp; omega), mp_get (getD_at (by omega)), hQ⟩
      refine ⟨_, rfl, _, ints_dep, by simp; omega, fun m hm hx => ?_⟩
      exact ⟨_, _, rfl, e1, szl (by simp; omega), fin _ (dep_max rfl h1l hm hx)⟩
  · rintro ς h1 ⟨⟨a, b, c, rfl⟩, ⟨E, e1, el, eo⟩, f1⟩
    rw [rangeL_length] at el
    refine ⟨_, rfl, _, rfl, _, e1, _, _, _, rfl, ixP_nat (by simp; omega), mp_get (getD_at (d := 0) (by omega)), ?_⟩
    rw [dep_uniq hw eo hD (by omega) v (by omega) (by omega)]
    exact k _ f1
theorem depth_bad {n : Nat} {vs : List Vl} {W O v : PV} {h : PH} {q : QV} {x : QX} (hv : Kd h v) (hb : belB v vs.length = false) (z : x (.xc 12 [.str "value"]) h) : den T10 (n + 5) 201 [scr vs W O, v] h q x := by
  refine den_call (F := ir_p_depth_of) (by rfl) rfl ?_
  exact ⟨_, rfl, _, rfl, check_bad hv hb z⟩
theorem law_depths_ok {n : Nat} {vs : List Vl} {h : PH} {q : QV} {x : QX} (hw : VAs vs) (hl : vs.length ≤ 1000) (k : ∀ (D : List Int) h', DepOk vs D → D.length = vs.length → Fr [] h h' → h'[h.length]? = some (.lst (D.map .int)) → q (.loc h.length) h') : den T10 (n + 1) 1007 [.tup (vs.map Vl.enc)] h q x := by
  refine den_call (F := ir_f_law_depths) (by rfl) rfl ?_
  have e0 : (h ++ [PO.lst []])[h.length]? = some (.lst (([] : List Int).map .int)) := at_new
  refine ⟨Nat.zero_le _, _, rfl, .inl ⟨_, rfl, ?_⟩⟩
  refine for_inv (fun i ς h' => (∃ a b c d, ς = [some (.tup (vs.map Vl.enc)), some (.loc h.length), a, b, c, d]) ∧ (∃ E : List Int, h'[h.length]? = some (.lst (E.map .int)) ∧ E.length = i ∧ DepOk vs E) ∧ Fr [] h h') ⟨⟨_, _, _, _, rfl⟩, ⟨[], e0, rfl, fun j d e => by simp at e⟩, Fr.app⟩ (fun _ _ _ _ => rfl) ?_ ?_
  · rintro i y ς h1 kk hy ⟨⟨a, b, c, d0, rfl⟩, ⟨E, e1, el, eo⟩, f1⟩ hkk
    obtain ⟨v, hv, rfl⟩ := mp_inv hy
    have hil := get_lt hv
    have hv2 := vAt_get hil
    rw [hv] at hv2
    have ev : v = vAt vs i := Option.some.inj hv2
    refine ⟨_, rfl, _, _, rfl, _, _, rfl, rfl, ?_⟩
    have fin : ∀ d (z1 z2 z3 z4 : Option PV), DepAt vs E i d → kk [some (.tup (vs.map Vl.enc)), some (.loc h.length), z1, z2, z3, z4] (h1.set h.length (.lst (E.map .int ++ [.int d]))) := fun d z1 z2 z3 z4 hd => by
      refine hkk _ _ ⟨⟨_, _, _, _, rfl⟩, ⟨E ++ [d], ?_, by simp [el], dep_snoc hw eo (by omega) (by rw [el]; exact hd)⟩, f1.new (.inl (Nat.le_refl _))⟩
      rw [at_set e1]
      simp
    rcases va_cases hw hil with ⟨e2, ho, _⟩ | ⟨e2, h1l, h3l, e3⟩
    · rw [← ev] at e2
      refine ⟨_, rfl, .inl ⟨rfl, ite_f (by rw [e2]; decide +kernel) ?_⟩⟩
      exact ⟨_, rfl, ⟨_, _, rfl, e1, rfl⟩, _, rfl, _, _, rfl, e1, szl (by simp; omega), fin 0 _ _ _ _ (.inl ⟨ho, rfl⟩)⟩
    · rw [← ev] at e2 e3
      refine ⟨_, rfl, .inl ⟨rfl, ite_t (by rw [strNe e2]; rfl) ?_⟩⟩
      rw [e3]
      refine ⟨_, rfl, .inl ⟨_, rfl, ?_⟩⟩
      refine cmp_map (enc := ni) (f := fun x => .int (E.getD x 0)) rfl (fun t z Q hz hQ => ?_) (by omega) ?_
      · have := ops_lt hw hil z (List.mem_of_getElem? hz)
        exact ⟨_, rfl, _, rfl, _, e1, _, _, _, rfl, ixP_nat (by simp; omega), mp_get (getD_at (by omega)), hQ⟩
      refine ⟨_, rfl, _, ints_dep, by simp; omega, fun m hm hx => ?_⟩
      exact ⟨_, rfl, ⟨_, _, rfl, e1, rfl⟩, _, rfl, _, _, rfl, e1, szl (by simp; omega), fin _ _ _ _ _ (dep_max rfl h1l hm hx)⟩
  · rintro ς h1 ⟨⟨a, b, c, d, rfl⟩, ⟨E, e1, el, eo⟩, f1⟩
    rw [List.length_map] at el
    exact ⟨_, rfl, k E h1 eo el f1 e1⟩
/-! ### the law's own walks -/
theorem law_users_ok {n v : Nat} {vs : List Vl} {h : PH} {q : QV} {x : QX} (hw : VAs vs) (hl : vs.length ≤ 1000) (k : ∀ h', Fr [] h h' → h'[h.length]? = some (.lst ((usersF vs v vs.length).map ni)) → q (.loc h.length) h') : den T10 (n + 1) 1006 [.tup (vs.map Vl.enc), ni v] h q x := by
  refine den_call (F := ir_f_law_users) (by rfl) rfl ?_
  have ml : (vs.map Vl.enc).length = vs.length := List.length_map ..
  have e0 : (h ++ [PO.lst []])[h.length]? = some (.lst ((usersF vs v 0).map ni)) := at_new
  refine ⟨Nat.zero_le _, _, rfl, _, _, rfl, rfl, _, rfl, by omega, by omega, ?_⟩
  rw [ml, toNat_nat]
  refine for_inv (fun i ς h' => (∃ a b c d, ς = [some (.tup (vs.map Vl.enc)), some (ni v), some (.loc h.length), a, b, c, d]) ∧ h'[h.length]? = some (.lst ((usersF vs v i).map ni)) ∧ Fr [] h h') ⟨⟨_, _, _, _, rfl⟩, e0, Fr.app⟩ (fun _ _ _ _ => trivial) ?_ ?_
  · rintro i y ς h1 kk hy ⟨⟨a, b, c, d, rfl⟩, e1, f1⟩ hkk
    obtain ⟨hi, rfl⟩ := range_get hy
    have z0 : PV.int (0 + (i : Int)) = ni i := by show PV.int _ = PV.int _; rw [Int.zero_add]
    have hs : usersF vs v (i + 1) = usersF vs v i ++ (if decide (v ∈ opsAt vs i) = true then [i] else []) := flt_snoc _ i
    have hn := flt_len (fun u => decide (v ∈ opsAt vs u)) i
    refine ⟨_, rfl, _, rfl, _, _, _, _, rfl, rfl, ixP_at (k := i) (by omega) (by omega), mp_get (vAt_get hi), _, rfl, _, _, rfl, _, _, rfl, rfl, ?_⟩
    refine cut_t (fun bb h' => h' = h1 ∧ bb = decide (v ∈ opsAt vs i)) ?_ ?_
    · rcases va_cases hw hi with ⟨e2, ho, _⟩ | ⟨e2, h1l, h3l, e3⟩
      · exact ⟨_, rfl, .inl ⟨rfl, ite_f (by rw [e2]; decide +kernel) ⟨rfl, by rw [ho]; simp⟩⟩⟩
      · refine ⟨_, rfl, .inl ⟨rfl, ite_t (by rw [strNe e2]; rfl) ?_⟩⟩
        rw [e3]
        refine ⟨_, rfl, .inl ⟨_, rfl, ?_⟩⟩
        refine cmp_inv (fun j acc h' => h' = h1 ∧ (0 < acc.length ↔ v ∈ (opsAt vs i).take j) ∧ acc.length ≤ j) ⟨rfl, by simp, Nat.le_refl _⟩ (fun _ _ _ _ => rfl) ?_ ?_
        · rintro j y acc h2 kc hy2 ⟨rfl, p1, p2⟩ hkc
          obtain ⟨z, hz, rfl⟩ := mp_inv hy2
          have := get_lt hz
          refine ⟨_, rfl, _, rfl, .inl ⟨rfl, ite_b (fun cc => ?_) (fun cc => ?_)⟩⟩
          · have : z = v := by have := intEq cc; omega
            refine ⟨szl (by omega), hkc _ _ ⟨rfl, ?_, by simp; omega⟩⟩
            rw [take_at hz, this]
            simp
          · have hne : z ≠ v := by intro e; rw [e] at cc; exact absurd rfl (of_decide_eq_false cc)
            refine hkc _ _ ⟨rfl, ?_, by omega⟩
            rw [take_at hz, p1]
            simp [Ne.symm hne]
        · rintro acc h2 ⟨rfl, p1, p2⟩
          rw [List.length_map, List.take_length] at p1
          refine ⟨_, rfl, _, _, rfl, rfl, rfl, ?_⟩
          by_cases c : v ∈ opsAt vs i
          · rw [decide_eq_true c, decide_eq_true (by have := p1.mpr c; omega)]
          · rw [decide_eq_false c, decide_eq_false (fun z => c (p1.mp (by omega)))]
    · rintro bb h2 ⟨rfl, rfl⟩
      refine ite_b (fun c => ?_) (fun c => ?_)
      · refine ⟨_, rfl, ⟨_, _, rfl, e1, rfl⟩, _, rfl, _, _, rfl, e1, szl (by unfold usersF; simp; omega), hkk _ _ ⟨⟨_, _, _, _, rfl⟩, ?_, f1.new (.inl (Nat.le_refl _))⟩⟩
        rw [at_set e1, hs, if_pos c, z0]
        simp
      · refine hkk _ _ ⟨⟨_, _, _, _, rfl⟩, ?_, f1⟩
        rw [hs, if_neg (by rw [c]; exact Bool.false_ne_true), List.append_nil]
        exact e1
  · rintro ς h1 ⟨⟨a, b, c, d, rfl⟩, e1, f1⟩
    rw [rangeL_length] at e1
    exact ⟨_, rfl, k h1 f1 e1⟩
theorem law_found_ok {n : Nat} {vs : List Vl} {w : Str} {o : Op} {h : PH} {q : QV} {x : QX} (hl : vs.length ≤ 1000) (k : q (fP (foundF vs w o)) h) : den T10 (n + 1) 1008 [.tup (vs.map Vl.enc), .str w, oE o] h q x := by
  refine den_call (F := ir_f_law_found) (by rfl) rfl ?_
  have ml : (vs.map Vl.enc).length = vs.length := List.length_map ..
  refine ⟨_, rfl, _, _, rfl, rfl, _, rfl, by omega, by omega, ?_⟩
  rw [ml, toNat_nat]
  refine for_inv (fun i ς h' => (∃ a, ς = [some (.tup (vs.map Vl.enc)), some (.str w), some (oE o), a]) ∧ h' = h ∧ foundF vs w o = fstF (hit vs w o) i (vs.length - i)) ⟨⟨_, rfl⟩, rfl, rfl⟩ (fun _ _ _ _ => trivial) ?_ ?_
  · rintro i y ς h' kk hy ⟨⟨a, rfl⟩, rfl, ef⟩ hkk
    obtain ⟨hi, rfl⟩ := range_get hy
    have hd : vs.length - i = (vs.length - (i + 1)) + 1 := by omega
    rw [hd] at ef
    change foundF vs w o = (if hit vs w o i = true then some i else fstF (hit vs w o) (i + 1) (vs.length - (i + 1))) at ef
    refine cut_t (fun bb h1 => h1 = h' ∧ bb = hit vs w o i) ?_ ?_
    · refine ⟨_, rfl, _, rfl, _, _, _, _, rfl, rfl, ixP_at (k := i) (by omega) (by omega), mp_get (vAt_get hi), _, _, _, _, rfl, rfl, rfl, rfl, _, rfl, .inl ⟨rfl, ite_b (fun c => ?_) (fun c => ?_)⟩⟩
      · have c1 : (vAt vs i).w = w := strEq c
        refine ⟨_, rfl, _, rfl, _, _, _, _, rfl, rfl, ixP_at (k := i) (by omega) (by omega), mp_get (vAt_get hi), _, _, _, _, rfl, rfl, rfl, rfl, _, rfl, .inr ⟨_, _, o_D _ 62 _, o_D _ 62 _, rfl, ?_⟩⟩
        rw [eqv_o]
        unfold hit
        simp [c1]
      · have c1 : (vAt vs i).w ≠ w := strNe' c
        refine ⟨rfl, ?_⟩
        unfold hit
        simp [c1]
    · rintro bb h1 ⟨rfl, rfl⟩
      refine ite_b (fun c => ?_) (fun c => ?_)
      · rw [if_pos c] at ef
        rw [ef] at k
        have z0 : PV.int (0 + (i : Int)) = ni i := by show PV.int _ = PV.int _; rw [Int.zero_add]
        refine ⟨_, rfl, ?_⟩
        show q (PV.int (0 + (i : Int))) _
        rw [z0]
        exact k
      · rw [if_neg (by rw [c]; exact Bool.false_ne_true)] at ef
        exact hkk _ _ ⟨⟨_, rfl⟩, rfl, ef⟩
  · rintro ς h' ⟨⟨a, rfl⟩, rfl, ef⟩
    rw [rangeL_length, Nat.sub_self] at ef
    rw [ef] at k
    exact k
theorem like_ok {n : Nat} {v : PV} {h : PH} {q : QV} {x : QX} (hv : v = .non ∨ ∃ i, v = .int i) (k : q (.bl true) h) : den T10 (n + 1) 1009 [v, v] h q x := by
  refine den_call (F := ir_f_law_like) (by rfl) rfl ?_
  rcases hv with rfl | ⟨i, rfl⟩
  · exact ⟨_, rfl, .inl ⟨rfl, ite_t rfl (ite_t rfl ⟨_, rfl, .inl ⟨rfl, _, rfl, ite_t rfl ⟨_, rfl, .inl ⟨rfl, k⟩⟩⟩⟩)⟩⟩
  · refine ⟨_, rfl, .inl ⟨rfl, ite_f rfl ⟨_, rfl, .inl ⟨rfl, ite_f rfl ?_⟩⟩⟩⟩
    refine ⟨_, rfl, _, _, rfl, rfl, _, rfl, ite_t rfl ⟨_, rfl, _, _, rfl, rfl, _, rfl, _, rfl, ite_t rfl ⟨_, rfl, _, rfl, .inl ⟨rfl, ?_⟩⟩⟩⟩
    rw [decide_eq_true rfl]
    exact k
theorem row_ok {n L : Nat} {xs : List Nat} {h : PH} {q : QV} {x : QX} (hl : xs.length ≤ 1000) (e : h[L]? = some (.lst (xs.map ni))) (k : q (.bl true) h) : den T10 (n + 2) 1010 [.tup (xs.map ni), .loc L] h q x := by
  refine den_call (F := ir_f_law_row) (by rfl) rfl ?_
  have ml : (xs.map ni).length = xs.length := List.length_map ..
  refine ⟨_, rfl, _, _, rfl, rfl, _, rfl, ite_f rfl ⟨_, rfl, _, _, rfl, rfl, _, rfl, _, _, rfl, len_loc e, .inl ⟨rfl, ite_f (by simp) ?_⟩⟩⟩
  refine ⟨_, rfl, _, _, rfl, len_loc e, _, rfl, by omega, by omega, ?_⟩
  refine for_inv (fun i ς h' => h' = h ∧ ∃ a, ς = [some (.tup (xs.map ni)), some (.loc L), a]) ⟨rfl, _, rfl⟩ (fun _ _ _ _ => trivial) ?_ ?_
  · rintro i y ς h1 kk hy ⟨rfl, a, rfl⟩ hkk
    obtain ⟨hi, rfl⟩ := range_get hy
    rw [toNat_nat] at hi
    have hg : xs[i]? = some (xs.getD i 0) := getD_at (by omega)
    refine ⟨_, rfl, _, rfl, _, _, _, _, rfl, rfl, ixP_at (k := i) (by omega) hi, mp_get hg, _, rfl, _, rfl, _, e, _, _, _, rfl, ixP_at (k := i) (by omega) hi, mp_get hg, ?_⟩
    refine like_ok (.inr ⟨_, rfl⟩) ⟨_, rfl, ite_f rfl ?_⟩
    exact hkk _ _ ⟨rfl, _, rfl⟩
  · rintro ς h1 ⟨rfl, a, rfl⟩
    exact k
end WD
end
section
set_option Elab.async false
set_option linter.all false
set_option maxRecDepth 100000
set_option autoImplicit false
set_option maxHeartbeats 8000000
set_option pp.maxSteps 600
namespace WD
open PySem PySem.Spec PyProof.Rows L2
theorem users_le {vs : List Vl} {v : Nat} : (usersF vs v vs.length).length ≤ vs.length := flt_len _ _
theorem at_ok {n v : Nat} {vs : List Vl} {W O : PV} {D : List Int} {h : PH} {q : QV} {x : QX} (hw : VAs vs) (hl : vs.length ≤ 1000) (hv : v < vs.length) (hD : DepOk vs D) (hDl : D.length = vs.length) (k : ∀ h', Fr [] h h' → q (.bl true) h') : den T10 (n + 6) 1011 [scr vs W O, ni v, .int (D.getD v 0)] h q x := by
  refine den_call (F := ir_f_law_at) (by rfl) rfl ?_
  have ul := users_le (vs := vs) (v := v)
  refine ⟨_, rfl, _, _, _, _, rfl, rfl, rfl, rfl, _, rfl, ?_⟩
  refine law_users_ok hw hl fun h1 f1 e1 => ?_
  refine ⟨_, rfl, _, rfl, ?_⟩
  refine users_ok hw hl hv ⟨_, rfl, ?_⟩
  refine row_ok (by omega) e1 ⟨_, rfl, ite_f rfl ?_⟩
  refine ⟨_, rfl, _, rfl, ?_⟩
  refine depth_ok hw hl hv hD hDl fun h2 f2 => ⟨_, rfl, ?_⟩
  exact like_ok (.inr ⟨_, rfl⟩) (k h2 (f1.trans f2))
theorem sought_ok {n lt : Nat} {vs : List Vl} {W O : PV} {w : Str} {o : Op} {a b : Int} {h : PH} {q : QV} {x : QX} (hl : vs.length ≤ 1000) (e : h[lt]? = some (.lst [.int a, .int b]))
    (k : ∀ (a' b' : Int) h', h'[lt]? = some (.lst [.int a', .int b']) → a ≤ a' → b ≤ b' → (foundF vs w o = none → b + 1 ≤ b') → (∀ i, foundF vs w o = some i → a + 1 ≤ a') → Fr [lt] h h' → q (.bl true) h') : den T10 (n + 2) 1012 [scr vs W O, .str w, oE o, .loc lt] h q x := by
  refine den_call (F := ir_f_law_sought) (by rfl) rfl ?_
  refine ⟨_, rfl, _, _, _, _, rfl, rfl, rfl, rfl, _, rfl, _, rfl, ?_⟩
  refine law_found_ok hl ?_
  cases ef : foundF vs w o with
  | none =>
    refine ⟨_, rfl, _, rfl, .inl ⟨rfl, _, _, rfl, rfl, _, _, rfl, e, _, _, _, rfl, rfl, rfl, _, _, rfl, e, _, _, rfl, rfl, ?_⟩⟩
    refine ⟨_, rfl, _, rfl, _, rfl, ?_⟩
    refine value_ok hl ?_
    rw [ef]
    refine ⟨_, rfl, ?_⟩
    exact like_ok (.inl rfl) (k a (b + 1) _ (at_set e) (Int.le_refl _) (by omega) (fun _ => Int.le_refl _) (fun i hi => by rw [ef] at hi; cases hi) (Fr.set (List.mem_singleton.mpr rfl)))
  | some i =>
    refine ⟨_, rfl, _, rfl, .inl ⟨rfl, _, _, rfl, rfl, _, _, rfl, e, _, _, _, rfl, rfl, rfl, _, _, rfl, e, _, _, rfl, rfl, ?_⟩⟩
    refine ⟨_, rfl, _, rfl, _, rfl, ?_⟩
    refine value_ok hl ?_
    rw [ef]
    refine ⟨_, rfl, ?_⟩
    exact like_ok (.inr ⟨_, rfl⟩) (k (a + 1) b _ (at_set e) (by omega) (Int.le_refl _) (fun hi => by rw [ef] at hi; cases hi) (fun _ _ => Int.le_refl _) (Fr.set (List.mem_singleton.mpr rfl)))
/-! ### refusals -/
theorem refused_ok {n : Nat} {vs : List Vl} {W O v : PV} {b : Bool} {h : PH} {q : QV} {x : QX} (hv : Kd h v) (hb : belB v vs.length = false) (k : q (.bl true) h) : den T10 (n + 6) 1015 [scr vs W O, v, .bl b] h q x := by
  refine den_call (F := ir_f_law_refused) (by rfl) rfl ?_
  refine ⟨_, rfl, _, rfl, ite_b (fun _ => ?_) (fun _ => ?_)⟩
  · refine ⟨_, rfl, _, rfl, ?_⟩
    refine users_bad hv hb ?_
    change wH _ _ _ _ _ _
    refine wH_yes rfl ?_ ?_
    · exact Nat.le_of_ble_eq_true rfl
    exact ⟨.str "value", rfl, rfl, _, _, rfl, rfl, _, rfl, ite_t rfl ⟨.str "value", rfl, rfl, .inl ⟨rfl, k⟩⟩⟩
  · refine ⟨_, rfl, _, rfl, ?_⟩
    refine depth_bad hv hb ?_
    change wH _ _ _ _ _ _
    refine wH_yes rfl ?_ ?_
    · exact Nat.le_of_ble_eq_true rfl
    exact ⟨.str "value", rfl, rfl, _, _, rfl, rfl, _, rfl, ite_t rfl ⟨.str "value", rfl, rfl, .inl ⟨rfl, k⟩⟩⟩
end WD
end
section
set_option Elab.async false
set_option linter.all false
set_option maxRecDepth 100000
set_option autoImplicit false
set_option maxHeartbeats 8000000
set_option pp.maxSteps 600
namespace WD
open PySem PySem.Spec PyProof.Rows L2
/-- the mill stands at l; at most k draws were made -/
def Ml (h : PH) (l : Nat) (k : Nat) : Prop := ∃ a c : Int, h[l]? = some (.lst [.int a, .int c]) ∧ 0 ≤ a ∧ a < 1152921504606846697 ∧ 0 ≤ c ∧ c ≤ k
theorem Ml.fr {h h' : PH} {l k : Nat} {S : List Nat} (s : Ml h l k) (f : Fr S h h') (hn : l ∉ S) : Ml h' l k := by
  obtain ⟨a, c, e, r⟩ := s
  exact ⟨a, c, f.at e hn, r⟩
theorem Ml.mono {h : PH} {l k k' : Nat} (s : Ml h l k) (e : k ≤ k') : Ml h l k' := by
  obtain ⟨a, c, e1, e2, e3, e4, e5⟩ := s
  exact ⟨a, c, e1, e2, e3, e4, by omega⟩
theorem Ml.lt {h : PH} {l k : Nat} (s : Ml h l k) : l < h.length := by
  obtain ⟨a, c, e1, _⟩ := s
  exact at_lt e1
theorem mill_ok {n : Nat} {ns : List Int} {h : PH} {q : QV} {x : QX} (hl : ns.length ≤ 63) (z : ∀ h', Ml h' h.length 0 → Fr [] h h' → q (.loc h.length) h') : den T10 (n + 1) 1000 [.rol (ns.map .int)] h q x := by
  refine den_call (F := ir_f_law_mill) (by rfl) rfl ?_
  refine ⟨_, rfl, _, rfl, ?_⟩
  refine for_inv (fun i ς h' => h' = h ∧ ∃ (a : Int) (u v : Option PV), ς = [some (.rol (ns.map .int)), some (.int a), u, v] ∧ 0 ≤ a ∧ a < 1152921504606846697) ⟨rfl, 60103, none, none, rfl, by omega, by omega⟩ (fun i ς h' hi => hi.1 ▸ rfl) ?_ ?_
  · rintro i y ς h' kk hy ⟨rfl, a, u, v, rfl, ha, hb⟩ hk
    obtain ⟨w, hw, rfl⟩ := enumL_get hy
    obtain ⟨j, hj, rfl⟩ := mp_inv hw
    have := get_lt hj
    refine ⟨_, rfl, _, _, rfl, _, _, rfl, rfl, ?_⟩
    refine ⟨_, rfl, mulX (by omega) (by omega), _, rfl, _, _, rfl, rfl, by omega, _, rfl, mulX (by omega) (by omega), by omega, ?_⟩
    refine hk _ _ ⟨rfl, _, _, _, rfl, ?_, ?_⟩
    · exact Int.emod_nonneg _ (by omega)
    · exact Int.emod_lt_of_pos _ (by omega)
  · rintro ς h' ⟨rfl, a, u, v, rfl, ha, hb⟩
    refine ⟨_, rfl, Nat.le_of_ble_eq_true rfl, ?_⟩
    exact z _ ⟨a, 0, at_new, ha, hb, by omega, by omega⟩ Fr.app
theorem grind_ok {n l k : Nat} {many : Int} {h : PH} {q : QV} {x : QX} (s : Ml h l k) (hk : k < 2 ^ 40) (hm : 0 < many) (hm2 : many < 2 ^ 62)
    (z : ∀ (r : Nat) h', (r : Int) < many → Ml h' l (k + 1) → Fr [l] h h' → q (ni r) h') : den T10 (n + 1) 1001 [.loc l, .int many] h q x := by
  obtain ⟨a, c, e, a0, a1, c0, c1⟩ := s
  refine den_call (F := ir_f_law_grind) (by rfl) rfl ?_
  refine ⟨_, rfl, _, _, rfl, e, _, _, _, rfl, rfl, rfl, _, _, rfl, e, _, _, rfl, rfl, ?_⟩
  have e1 := at_set (p := .lst [.int a, .int (c + 1)]) e
  refine ⟨_, rfl, _, e1, _, _, _, rfl, rfl, rfl, _, _, rfl, rfl, mulX (by omega) (by omega), _, rfl, _, e1, _, _, _, rfl, rfl, rfl, mulX (by omega) (by omega), by omega, _, rfl, _, _, rfl, e1, _, _, rfl, rfl, ?_⟩
  have e2 := at_set (p := .lst [.int ((a * 1865811235122147683 + (c + 1) * 92821 + 4294967311) % 1152921504606846697), .int (c + 1)]) e1
  refine ⟨_, rfl, _, e2, _, _, _, rfl, rfl, rfl, _, _, rfl, rfl, div_ok (by omega) (by omega), _, rfl, hm, ?_⟩
  have f : Fr [l] h _ := (Fr.set (o := .lst [.int a, .int (c + 1)]) (List.mem_singleton.mpr rfl)).trans (Fr.set (o := .lst [.int ((a * 1865811235122147683 + (c + 1) * 92821 + 4294967311) % 1152921504606846697), .int (c + 1)]) (List.mem_singleton.mpr rfl))
  have b0 := Int.emod_nonneg (a * 1865811235122147683 + (c + 1) * 92821 + 4294967311) (show (1152921504606846697 : Int) ≠ 0 by omega)
  have b1 := Int.emod_lt_of_pos (a * 1865811235122147683 + (c + 1) * 92821 + 4294967311) (show (0 : Int) < 1152921504606846697 by omega)
  have r0 := Int.emod_nonneg ((a * 1865811235122147683 + (c + 1) * 92821 + 4294967311) % 1152921504606846697 / 131101) (show many ≠ 0 by omega)
  have r1 := Int.emod_lt_of_pos ((a * 1865811235122147683 + (c + 1) * 92821 + 4294967311) % 1152921504606846697 / 131101) hm
  have er : PV.int ((a * 1865811235122147683 + (c + 1) * 92821 + 4294967311) % 1152921504606846697 / 131101 % many) = ni ((a * 1865811235122147683 + (c + 1) * 92821 + 4294967311) % 1152921504606846697 / 131101 % many).toNat := by
    show PV.int _ = PV.int ((((a * 1865811235122147683 + (c + 1) * 92821 + 4294967311) % 1152921504606846697 / 131101 % many).toNat : Nat) : Int)
    rw [Int.toNat_of_nonneg r0]
  rw [er]
  exact z _ _ (by omega) ⟨_, _, e2, b0, b1, by omega, by omega⟩ f
/-! ### words -/
def wP (p : Str × Nat) : PV := .tup [.str p.1, ni p.2]
def WOk (ws : List (Str × Nat)) : Prop := ws.length = 7 ∧ ∀ p, p ∈ ws → p.1 ≠ ("in" : Str) ∧ p.1.length ≤ 100 ∧ 1 ≤ p.2 ∧ p.2 ≤ 3
def one6 : List Str := ["f", "inn", "worker", "g7", "reuse", "abcdefgh"]
def two5 : List Str := ["h", "outs", "ff", "fun2", "hhhhhhhh"]
def three4 : List Str := ["t", "guards", "in3", "repeat1"]
theorem one_ok : ∀ s, s ∈ one6 → s ≠ ("in" : Str) ∧ s.length ≤ 100 ∧ ("k" : Str).length + (cutS s none (some 4)).length ≤ 100 ∧ ("k" : Str) ++ cutS s none (some 4) ≠ ("in" : Str) ∧ (("k" : Str) ++ cutS s none (some 4)).length ≤ 100 := by decide +kernel
theorem two_ok : ∀ s, s ∈ two5 → s ≠ ("in" : Str) ∧ s.length ≤ 100 := by decide +kernel
theorem three_ok : ∀ s, s ∈ three4 → s ≠ ("in" : Str) ∧ s.length ≤ 100 := by decide +kernel
theorem words_ok {n l k : Nat} {h : PH} {q : QV} {x : QX} (s : Ml h l k) (hk : k < 2 ^ 39) (z : ∀ (ws : List (Str × Nat)) h', WOk ws → Ml h' l (k + 3) → Fr [l] h h' → q (.tup (ws.map wP)) h') : den T10 (n + 2) 1002 [.loc l] h q x := by
  refine den_call (F := ir_f_law_words) (by rfl) rfl ?_
  refine ⟨Nat.le_of_ble_eq_true rfl, _, rfl, ?_⟩
  refine grind_ok s (by omega) (by omega) (by omega) fun r1 h1 hr1 s1 f1 => ?_
  refine ix_of (enc := PV.str) (xs := one6) (show r1 < 6 by omega) fun a ha => ?_
  refine ⟨Nat.le_of_ble_eq_true rfl, _, rfl, ?_⟩
  refine grind_ok s1 (by omega) (by omega) (by omega) fun r2 h2 hr2 s2 f2 => ?_
  refine ix_of (enc := PV.str) (xs := two5) (show r2 < 5 by omega) fun b hb => ?_
  refine ⟨Nat.le_of_ble_eq_true rfl, _, rfl, ?_⟩
  refine grind_ok s2 (by omega) (by omega) (by omega) fun r3 h3 hr3 s3 f3 => ?_
  refine ix_of (enc := PV.str) (xs := three4) (show r3 < 4 by omega) fun c hc => ?_
  obtain ⟨a1, a2, a3, a4, a5⟩ := one_ok a ha
  obtain ⟨b1, b2⟩ := two_ok b hb
  obtain ⟨c1, c2⟩ := three_ok c hc
  refine ⟨Nat.le_of_ble_eq_true rfl, _, rfl, Nat.le_of_ble_eq_true rfl, _, rfl, Nat.le_of_ble_eq_true rfl, Nat.le_of_ble_eq_true rfl, _, rfl, Nat.le_of_ble_eq_true rfl, Nat.le_of_ble_eq_true rfl, _, rfl, _, rfl, sz (by omega), sz (by omega), Nat.le_of_ble_eq_true rfl, Nat.le_of_ble_eq_true rfl, ?_⟩
  refine z [("add", 2), (a, 1), (b, 2), ("sub", 2), (c, 3), ("mul", 2), (("k" : Str) ++ cutS a none (some 4), 1)] h3 ⟨rfl, fun p hp => ?_⟩ s3 ((f1.trans f2).trans f3)
  simp only [List.mem_cons, List.not_mem_nil, or_false] at hp
  rcases hp with rfl | rfl | rfl | rfl | rfl | rfl | rfl
  · exact ⟨by decide +kernel, by decide +kernel, by omega, by omega⟩
  · exact ⟨a1, a2, by omega, by omega⟩
  · exact ⟨b1, b2, by omega, by omega⟩
  · exact ⟨by decide +kernel, by decide +kernel, by omega, by omega⟩
  · exact ⟨c1, c2, by omega, by omega⟩
  · exact ⟨by decide +kernel, by decide +kernel, by omega, by omega⟩
  · exact ⟨a4, a5, by omega, by omega⟩
/-! ### inputs -/
def sI (i : Int) : Str := (toString i : String)
def inOk (k : Nat) : Bool := decide (((k : Nat) : Int).natAbs.log2 < 1920) && decide (((1000000 + 7 * (k : Nat)) : Int).natAbs.log2 < 1920) && decide (("z" : Str).length + (sI (1000000 + 7 * (k : Int))).length ≤ 100) && decide (("x" : Str).length + (sI k).length ≤ 100) && decide (("in" : Str).length + (sI k).length ≤ 100) &&
  decide (("q" : Str).length + (sI k).length ≤ 100) && decide ((("q" : Str) ++ sI k).length + ("out" : Str).length ≤ 100) && decide ((("z" : Str) ++ sI (1000000 + 7 * (k : Int))).length ≤ 100) && decide ((("x" : Str) ++ sI k).length ≤ 100) && decide ((("in" : Str) ++ sI k).length ≤ 100) && decide (((("q" : Str) ++ sI k) ++ ("out" : Str)).length ≤ 100)
theorem in_all : ∀ k : Fin 128, inOk k.val = true := by decide +kernel
theorem y_all : ∀ k : Fin 8, (strMul ("y" : Str) ((k.val : Int) + 1)).length ≤ 100 := by decide +kernel
theorem input_ok {n k m : Nat} {i0 i1 : Int} {WS : PV} {h : PH} {q : QV} {x : QX} (e0 : i0 = (k : Int)) (e1 : i1 = (m : Int)) (hk : k < 128) (hm : m < 3) (hW : m < 2 → ∃ ws, WS = .tup (ws.map wP) ∧ WOk ws) (z : ∀ s : Str, s.length ≤ 100 → q (Vl.enc ⟨"in", .inl s⟩) h) : den T10 (n + 1) 1003 [.int i0, .int i1, WS] h q x := by
  subst e0
  subst e1
  have ok := in_all ⟨k, hk⟩
  unfold inOk at ok
  simp only [Bool.and_eq_true, decide_eq_true_eq] at ok
  obtain ⟨⟨⟨⟨⟨⟨⟨⟨⟨⟨o1, o2⟩, o3⟩, o4⟩, o5⟩, o6⟩, o7⟩, o8⟩, o9⟩, o10⟩, o11⟩ := ok
  have sp : strP (ni k) = some (sI k) := if_pos o1
  have sp2 : strP (.int (1000000 + 7 * (k : Int))) = some (sI (1000000 + 7 * (k : Int))) := if_pos o2
  refine den_call (F := ir_f_law_input) (by rfl) rfl ?_
  have end0 : h = h ∧ [some (ni k), some (ni m), some WS] = [some (ni k), some (ni m), some WS] := ⟨rfl, rfl⟩
  refine cut_nx (fun ς h' => h' = h ∧ ς = [some (ni k), some (ni m), some WS]) ?_ ?_
  · refine ⟨_, rfl, .inl ⟨rfl, ite_b (fun c => ?_) (fun c => end0)⟩⟩
    refine ⟨_, rfl, _, _, rfl, rfl, ite_b (fun d => ?_) (fun d => end0)⟩
    obtain ⟨ws, rfl, w1, w2⟩ := hW (by have := of_decide_eq_true d; omega)
    have hg : ws[1]? = some (ws.getD 1 ("", 0)) := getD_at (by omega)
    refine ⟨_, rfl, _, _, _, _, rfl, rfl, ixP_at (k := 1) rfl (by simp; omega), mp_get hg, _, _, _, _, rfl, rfl, rfl, rfl, Nat.le_of_ble_eq_true rfl, ?_⟩
    exact z _ (w2 _ (List.mem_of_getElem? hg)).2.1
  rintro ς h' ⟨rfl, rfl⟩
  refine cut_nx (fun ς h1 => h1 = h' ∧ ς = [some (ni k), some (ni m), some WS]) ?_ ?_
  · refine ⟨_, rfl, .inl ⟨rfl, ite_b (fun c => ?_) (fun c => end0)⟩⟩
    refine ⟨_, rfl, _, _, rfl, rfl, ite_b (fun d => ?_) (fun d => end0)⟩
    have hk8 : k < 8 := by have := of_decide_eq_true d; omega
    have yl : ("y" : Str).length = 1 := by decide +kernel
    exact ⟨_, rfl, by omega, by omega, by rw [yl]; omega, Nat.le_of_ble_eq_true rfl, z _ (y_all ⟨k, hk8⟩)⟩
  rintro ς h1 ⟨rfl, rfl⟩
  refine ⟨_, rfl, .inl ⟨rfl, ite_b (fun c => ?_) (fun c => ?_)⟩⟩
  · exact ⟨_, rfl, mulX (by omega) (by omega), _, _, rfl, sp2, sz (by omega), Nat.le_of_ble_eq_true rfl, z _ o8⟩
  · refine ⟨_, rfl, _, _, rfl, sp, sz (by omega), _, rfl, _, _, rfl, sp, sz (by omega), _, rfl, _, _, rfl, sp, sz (by omega), sz (by omega), Nat.le_of_ble_eq_true rfl, _, rfl, by omega, ?_⟩
    have hm3 : ∃ j : Nat, j < 3 ∧ ((k : Nat) : Int) % 3 = (j : Int) := ⟨k % 3, Nat.mod_lt _ (by omega), by omega⟩
    obtain ⟨j, j1, j2⟩ := hm3
    rw [j2]
    refine ix_of (enc := PV.str) (xs := [("x" : Str) ++ sI k, ("in" : Str) ++ sI k, (("q" : Str) ++ sI k) ++ ("out" : Str)]) (show j < 3 from j1) fun y hy => ⟨Nat.le_of_ble_eq_true rfl, z y ?_⟩
    simp only [List.mem_cons, List.not_mem_nil, or_false] at hy
    rcases hy with rfl | rfl | rfl
    · exact o9
    · exact o10
    · exact o11
/-! ### a new value -/
/-- names are short -/
def Shs (vs : List Vl) : Prop := ∀ v, v ∈ vs → v.w.length ≤ 100 ∧ ∀ s, v.o = .inl s → s.length ≤ 100
theorem Shs.snoc {vs : List Vl} {v : Vl} (a : Shs vs) (b : v.w.length ≤ 100) (c : ∀ s, v.o = .inl s → s.length ≤ 100) : Shs (vs ++ [v]) := by
  intro u hu
  rcases List.mem_append.mp hu with hu | hu
  · exact a u hu
  · rw [List.mem_singleton.mp hu]
    exact ⟨b, c⟩
theorem set_go {i : Nat} {v : PV} {ς : PSt} {q : PSt → Prop} (k : q (ς.set i (some v))) : setT (.slot i) v ς q := k
theorem set_int {Φ : Phi} {i : Nat} {j : Int} {r : Sms} {κ : KS} {ς : PSt} {h : PH} (k : wSs Φ r κ (ς.set i (some (.int j))) h) : wSs Φ (.cons (.set (.slot i) (.int j)) r) κ ς h := k
theorem vs_mapM (h : PH) (vs : List Vl) : (vs.map Vl.enc).mapM (toD h 63) = some (vs.map fun v => .tuple [.str v.w, oD v.o]) := mapM_map fun v _ => v_D h 60 v.w v.o
theorem va_in (i : Nat) (s : Str) : VA i ⟨"in", .inl s⟩ := .inl ⟨rfl, s, rfl⟩
theorem in_len : ("in" : Str).length ≤ 100 := by decide +kernel
/-- picks among the values below K -/
theorem picks_ok {n l k K : Nat} {low : Nat} {h : PH} {ς : PSt} {q : List PV → PH → Prop} {ar : Nat} {X : QX} (s : Ml h l k) (hk : k < 2 ^ 39) (hlow : low < K) (har : ar ≤ 3) (hK : K ≤ 1000) {g : PH → Prop} (hg : ∀ h, g h)
    (he : ∀ (y : PV) (h : PH) (Q : QV) (k : Nat), Ml h l k → k < 2 ^ 40 → (∀ (r : Nat) h', low + r < K → Ml h' l (k + 1) → Fr [l] h h' → Q (.int ((low : Int) + (r : Int))) h') → wE (den T10 (n + 1)) (.bin .Add (.var 11) (.call 1001 (.cons (.var 0) (.cons (.bin .Sub (.var 8) (.var 11)) .nil)))) X (ς.set 16 (some y)) h Q)
    (z : ∀ (ps : List Nat) h', ps.length = ar → (∀ x, x ∈ ps → x < K) → Ml h' l (k + 3) → Fr [l] h h' → q (ps.map ni) h') : compW g (.slot 16) ς (wC (den T10 (n + 1)) .no X) (wE (den T10 (n + 1)) (.bin .Add (.var 11) (.call 1001 (.cons (.var 0) (.cons (.bin .Sub (.var 8) (.var 11)) .nil)))) X) q (rangeL 0 ar) [] h := by
  refine cmp_inv0 (fun i acc h' => (∃ ps : List Nat, acc = ps.map ni ∧ ps.length = i ∧ ∀ x, x ∈ ps → x < K) ∧ Ml h' l (k + i) ∧ Fr [l] h h') ⟨⟨[], rfl, rfl, by simp⟩, s, Fr.refl⟩ (fun _ _ h _ => hg h) ?_ ?_
  · rintro i y acc h1 kk hy ⟨⟨ps, rfl, pl, pb⟩, s1, f1⟩ hkk
    have hi := get_lt hy
    rw [rangeL_length] at hi
    refine he y h1 _ _ s1 (by omega) fun r h2 hr s2 f2 => ?_
    refine ⟨szl (by simp; omega), hkk _ _ ⟨⟨ps ++ [low + r], by simp [ni], by simp [pl], ?_⟩, s2, f1.trans f2⟩⟩
    intro x hx
    rcases List.mem_append.mp hx with hx | hx
    · exact pb x hx
    · rw [List.mem_singleton.mp hx]
      exact hr
  · rintro acc h1 ⟨⟨ps, rfl, pl, pb⟩, s1, f1⟩
    rw [rangeL_length] at pl s1
    exact z ps h1 pl pb (s1.mono (by omega)) f1
end WD
end
section
set_option Elab.async false
set_option linter.all false
set_option maxRecDepth 100000
set_option autoImplicit false
set_option maxHeartbeats 8000000
set_option pp.maxSteps 600
namespace WD
open PySem PySem.Spec PyProof.Rows L2
theorem made_ok {n l k m : Nat} {i0 inputs near : Int} {h : PH} {q : QV} {x : QX} (s : Ml h l k) (hk : k < 2 ^ 38) (ei : i0 = (m : Int)) (hm : m ≤ 100) (hnear : 1 ≤ near)
    (z : ∀ (vs : List Vl) h' L, h'[L]? = some (.lst (vs.map Vl.enc)) → h.length ≤ L → vs.length = m → VAs vs → Shs vs → Ml h' l (k + 2000) → Fr [l] h h' → q (.loc L) h') : den T10 (n + 3) 1004 [.loc l, .int i0, .int inputs, .int near] h q x := by
  subst ei
  refine den_call (F := ir_f_law_made) (by rfl) rfl ?_
  refine ⟨_, rfl, ?_⟩
  refine words_ok s (by omega) fun ws h1 hws s1 f1 => ?_
  refine ⟨_, rfl, ?_⟩
  refine grind_ok s1 (by omega) (by omega) (by omega) fun mn h2 hmn s2 f2 => ?_
  refine ⟨Nat.zero_le _, Nat.zero_le _, ?_⟩
  have f02 := f1.trans f2
  have h02 := f02.1
  have ll := s2.lt
  have e4 : (h2 ++ [PO.lst []])[h2.length]? = some (.lst (([] : List Vl).map Vl.enc)) := at_new
  have e4' := at_app (p := .lst []) e4
  have e5 : (h2 ++ [PO.lst []] ++ [PO.lst []])[(h2 ++ [PO.lst []]).length]? = some (.lst (([] : List Int).map .int)) := at_new
  have fa : Fr [] h2 (h2 ++ [PO.lst []] ++ [PO.lst []]) := Fr.app.trans Fr.app
  have l5 : (h2 ++ [PO.lst []]).length = h2.length + 1 := by simp
  have s3 := s2.fr fa (by simp)
  have f3 := f02.trans (fa.mono (S' := [l]) (by simp))
  have wl : (ws.map wP).length = 7 := by rw [List.length_map, hws.1]
  refine ⟨_, rfl, _, rfl, by omega, by omega, ?_⟩
  rw [toNat_nat]
  refine for_inv (fun i ς h' => (∃ a8 a9 a10 a11 a12 a13 a14 a15 a16 a17, ς = [some (.loc l), some (ni m), some (.int inputs), some (.int near), some (.tup (ws.map wP)), some (ni mn), some (.loc h2.length), some (.loc (h2 ++ [PO.lst []]).length), a8, a9, a10, a11, a12, a13, a14, a15, a16, a17]) ∧
      (∃ (vs : List Vl) (P : List Int), h'[h2.length]? = some (.lst (vs.map Vl.enc)) ∧ h'[(h2 ++ [PO.lst []]).length]? = some (.lst (P.map .int)) ∧ vs.length = i ∧ P.length = i ∧ VAs vs ∧ Shs vs) ∧ Ml h' l (k + 4 + 10 * i) ∧ Fr [l] h h')
    ⟨⟨_, _, _, _, _, _, _, _, _, _, rfl⟩, ⟨[], [], e4', e5, rfl, rfl, fun i v hv => by simp at hv, fun v hv => by cases hv⟩, s3, f3⟩ (fun _ _ _ _ => trivial) ?_ ?_
  · rintro i y ς h4 kk hy ⟨⟨a8, a9, a10, a11, a12, a13, a14, a15, a16, a17, rfl⟩, ⟨vs, P, ev, ep, vl, pl, va, sh⟩, s4, f4⟩ hkk
    obtain ⟨hi, rfl⟩ := range_get hy
    have z0 : PV.int (0 + (i : Int)) = ni i := by show PV.int _ = PV.int _; rw [Int.zero_add]
    rw [z0]
    have ml : (vs.map Vl.enc).length = vs.length := List.length_map ..
    refine ⟨_, rfl, _, rfl, _, rfl, ?_⟩
    refine input_ok (m := mn) rfl rfl (by omega) (by omega) (fun _ => ⟨ws, rfl, hws⟩) fun st hst => ?_
    refine set_go ?_
    refine set_int ?_
    refine cut_nx (fun ς h' => (∃ (v : Vl) (t : Int) (b11 b12 b13 b14 b15 b16 b17 : Option PV), ς = [some (.loc l), some (ni m), some (.int inputs), some (.int near), some (.tup (ws.map wP)), some (ni mn), some (.loc h2.length), some (.loc (h2 ++ [PO.lst []]).length), some (ni i), some v.enc, some (.int t), b11, b12, b13, b14, b15, b16, b17] ∧
        VA i v ∧ v.w.length ≤ 100 ∧ ∀ s, v.o = .inl s → s.length ≤ 100) ∧ Ml h' l (k + 4 + 10 * i + 10) ∧ Fr [l] h4 h') ?_ ?_
    · have plain : ∀ h', Ml h' l (k + 4 + 10 * i + 10) → Fr [l] h4 h' → ∀ (b11 b12 b13 b14 b15 b16 b17 : Option PV), (∃ (v : Vl) (t : Int) (c11 c12 c13 c14 c15 c16 c17 : Option PV), [some (.loc l), some (ni m), some (.int inputs), some (.int near), some (.tup (ws.map wP)), some (ni mn), some (.loc h2.length), some (.loc (h2 ++ [PO.lst []]).length), some (ni i), some (Vl.enc ⟨"in", .inl st⟩), some (.int 1), b11, b12, b13, b14, b15, b16, b17] = [some (.loc l), some (ni m), some (.int inputs), some (.int near), some (.tup (ws.map wP)), some (ni mn), some (.loc h2.length), some (.loc (h2 ++ [PO.lst []]).length), some (ni i), some v.enc, some (.int t), c11, c12, c13, c14, c15, c16, c17] ∧
          VA i v ∧ v.w.length ≤ 100 ∧ ∀ s, v.o = .inl s → s.length ≤ 100) ∧ Ml h' l (k + 4 + 10 * i + 10) ∧ Fr [l] h4 h' := fun h' a b b11 b12 b13 b14 b15 b16 b17 => ⟨⟨⟨"in", .inl st⟩, 1, _, _, _, _, _, _, _, rfl, va_in i st, in_len, fun s e => by cases e; exact hst⟩, a, b⟩
      refine cut_t (fun b h' => (b = true → 0 < i) ∧ Ml h' l (k + 4 + 10 * i + 1) ∧ Fr [l] h4 h') ?_ ?_
      · refine ⟨_, rfl, _, _, rfl, rfl, ite_b (fun c => ?_) (fun c => ?_)⟩
        · have c2 := of_decide_eq_true c
          refine ⟨_, rfl, ?_⟩
          refine grind_ok s4 (by omega) (by omega) (by omega) fun r h5 _ s5 f5 => ?_
          exact ⟨_, rfl, _, _, rfl, rfl, fun _ => by omega, s5, f5⟩
        · exact ⟨fun z => (Bool.false_ne_true z).elim, s4.mono (by omega), Fr.refl⟩
      rintro b h5 ⟨hb, s5, f5⟩
      refine ite_b (fun c => ?_) (fun c => plain h5 (s5.mono (by omega)) f5 _ _ _ _ _ _ _)
      have hi0 := hb c
      refine ⟨_, rfl, _, rfl, _, rfl, _, _, rfl, rfl, ?_⟩
      refine grind_ok s5 (by omega) (by rw [wl]; omega) (by rw [wl]; omega) fun r h6 hr s6 f6 => ?_
      rw [wl] at hr
      refine ix_of (enc := wP) (xs := ws) (show r < ws.length by rw [hws.1]; omega) fun p hp => ?_
      obtain ⟨p1, p2, p3, p4⟩ := hws.2 p hp
      obtain ⟨w, ar⟩ := p
      refine ⟨_, rfl, _, _, rfl, _, _, rfl, rfl, ?_⟩
      obtain ⟨low, el, hlow⟩ : ∃ low : Nat, (if (i : Int) - near > 0 then (i : Int) - near else 0) = (low : Int) ∧ low < i := by
        by_cases c : (i : Int) - near > 0
        · rw [if_pos c]
          exact ⟨((i : Int) - near).toNat, by omega, by omega⟩
        · rw [if_neg c]
          exact ⟨0, rfl, by omega⟩
      refine ⟨_, rfl, _, rfl, _, _, rfl, ?_⟩
      rw [el]
      have ar3 : ar ≤ 3 := p4
      have ar1 : 1 ≤ ar := p3
      refine ⟨_, rfl, _, rfl, by omega, by omega, ?_⟩
      rw [toNat_nat]
      refine picks_ok (K := i) s6 (by omega) hlow ar3 (by omega) (fun _ => trivial) (fun y h Q kq sq hkq hQ => ?_) fun ps h7 psl psb s7 f7 => ?_
      · refine ⟨_, rfl, _, rfl, _, rfl, _, rfl, ?_⟩
        refine grind_ok sq hkq (by omega) (by omega) fun r h' hr s' f' => ?_
        exact hQ r h' (by omega) s' f'
      have e7 : (h7 ++ [PO.lst (ps.map ni)])[h7.length]? = some (.lst (ps.map ni)) := at_new
      have s77 := s7.fr (Fr.app (S := []) (o := PO.lst (ps.map ni))) (by simp)
      have f57 := ((f5.trans f6).trans f7).trans (Fr.app (S := [l]) (o := PO.lst (ps.map ni)))
      have h47 := ((f5.trans f6).trans f7).1
      have lv4 := at_lt ev
      have lp4 := at_lt ep
      have ll7 := s7.lt
      refine set_go ?_
      refine cut_nx (fun ς h' => (∃ (Lp : Nat) (ps : List Nat) (b13 b16 b17 : Option PV), ς = [some (.loc l), some (ni m), some (.int inputs), some (.int near), some (.tup (ws.map wP)), some (ni mn), some (.loc h2.length), some (.loc (h2 ++ [PO.lst []]).length), some (ni i), some (Vl.enc ⟨"in", .inl st⟩), some (.int 1), some (ni low), some (.loc Lp), b13, some (.str w), some (ni ar), b16, b17] ∧ h'[Lp]? = some (.lst (ps.map ni)) ∧ ps.length = ar ∧ ∀ x, x ∈ ps → x < i) ∧ Ml h' l (k + 4 + 10 * i + 6) ∧ Fr [l] h4 h') ?_ ?_
      · refine ⟨_, rfl, ?_⟩
        refine grind_ok s77 (by omega) (by omega) (by omega) fun r2 h8 hr2 s8 f8 => ?_
        have e8 := f8.at e7 (by simp; omega)
        refine .inl ⟨rfl, ite_b (fun _ => ?_) (fun _ => ?_)⟩
        · refine ⟨_, rfl, _, rfl, by omega, by omega, ?_⟩
          rw [toNat_nat]
          have g0 : ps[0]? = some (ps.getD 0 0) := getD_at (by omega)
          refine cmp_inv0 (fun j acc h' => h' = h8 ∧ acc = (List.replicate j (ps.getD 0 0)).map ni) ⟨rfl, rfl⟩ (fun _ _ _ _ => trivial) ?_ ?_
          · rintro j y acc h9 kc hy2 ⟨rfl, rfl⟩ hkc
            have hj := get_lt hy2
            rw [rangeL_length] at hj
            refine ⟨_, rfl, _, e8, _, _, _, rfl, ixP_at (k := 0) rfl (by simp; omega), mp_get g0, szl (by simp; omega), hkc _ _ ⟨rfl, ?_⟩⟩
            rw [List.replicate_succ']
            simp
          · rintro acc h9 ⟨rfl, rfl⟩
            rw [rangeL_length]
            refine ⟨⟨_, _, _, _, _, rfl, at_new, by simp, fun x hx => ?_⟩, (s8.fr (Fr.app (S := [])) (by simp)).mono (by omega), (f57.trans f8).trans Fr.app⟩
            rw [(List.mem_replicate.mp hx).2]
            exact psb _ (List.mem_of_getElem? g0)
        · exact ⟨⟨_, _, _, _, _, rfl, e8, psl, psb⟩, s8.mono (by omega), f57.trans f8⟩
      rintro ς h8 ⟨⟨Lp, qs, b13, b16, b17, rfl, eq8, ql, qb⟩, s8, f8⟩
      have ev8 := f8.at ev (by simp; omega)
      have ep8 := f8.at ep (by simp; omega)
      refine ⟨_, rfl, .inl ⟨_, gL eq8, ?_⟩⟩
      refine cmp_map (enc := ni) (f := fun x => .int (P.getD x 0)) (gL eq8) (fun t j Q ht hQ => ?_) (by omega) ?_
      · have := qb j (List.mem_of_getElem? ht)
        exact ⟨_, rfl, _, rfl, _, ep8, _, _, _, rfl, ixP_nat (by simp; omega), mp_get (getD_at (by omega)), hQ⟩
      refine ⟨_, rfl, _, ints_dep, ?_⟩
      refine cut_t (fun b h' => h' = h8) ?_ ?_
      · refine ⟨_, rfl, _, _, rfl, rfl, ite_b (fun _ => ?_) (fun _ => rfl)⟩
        exact ⟨_, rfl, _, rfl, _, gL eq8, Nat.le_of_ble_eq_true rfl, _, rfl, _, ev8, _, _, v_D h8 61 w (.inr qs), vs_mapM h8 vs, rfl⟩
      rintro b h9 rfl
      refine ite_b (fun _ => ?_) (fun _ => plain h9 (s8.mono (by omega)) f8 _ _ _ _ _ _ _)
      refine ⟨_, rfl, _, rfl, _, gL eq8, Nat.le_of_ble_eq_true rfl, _, rfl, ?_⟩
      exact ⟨⟨⟨w, .inr qs⟩, _, _, _, _, _, _, _, _, rfl, .inr ⟨p1, qs, rfl, by omega, by omega, qb⟩, p2, fun s e => by cases e⟩, s8.mono (by omega), f8⟩
    · rintro ς h5 ⟨⟨v, t, b11, b12, b13, b14, b15, b16, b17, rfl, hva, hw1, hw2⟩, s5, f5⟩
      have ev5 := f5.at ev (by simp; omega)
      have ep5 := f5.at ep (by simp; omega)
      refine ⟨_, rfl, ⟨_, _, rfl, ev5, rfl⟩, _, rfl, _, _, rfl, ev5, szl (by simp; omega), ?_⟩
      have ep6 := at_ne (k := h2.length) (p := .lst (vs.map Vl.enc ++ [v.enc])) ep5 (by omega)
      refine ⟨_, rfl, ⟨_, _, rfl, ep6, rfl⟩, _, rfl, _, _, rfl, ep6, szl (by simp; omega), ?_⟩
      refine hkk _ _ ⟨⟨_, _, _, _, _, _, _, _, _, _, rfl⟩, ⟨vs ++ [v], P ++ [t], ?_, ?_, by simp; omega, by simp; omega, va.snoc (by rw [vl]; exact hva), sh.snoc hw1 hw2⟩, ?_, ?_⟩
      · rw [at_ne (at_set ev5) (by omega)]
        simp
      · rw [at_set ep6]
        simp
      · exact ((s5.fr (Fr.set (S := [h2.length]) (l := h2.length) (List.mem_singleton.mpr rfl)) (by simp; omega)).fr (Fr.set (S := [(h2 ++ [PO.lst []]).length]) (l := (h2 ++ [PO.lst []]).length) (List.mem_singleton.mpr rfl)) (by simp; omega)).mono (by omega)
      · exact ((f4.trans f5).new (.inl h02)).new (.inl (by omega))
  · rintro ς h4 ⟨⟨a8, a9, a10, a11, a12, a13, a14, a15, a16, a17, rfl⟩, ⟨vs, P, ev, ep, vl, pl, va, sh⟩, s4, f4⟩
    rw [rangeL_length] at vl s4
    exact ⟨_, rfl, z vs h4 _ ev h02 vl va sh (s4.mono (by omega)) f4⟩
theorem whole_ok {n l lv k most : Nat} {i0 : Int} {vs : List Vl} {h : PH} {q : QV} {x : QX} (s : Ml h l k) (hk : k < 2 ^ 38) (e0 : i0 = (most : Int)) (hmo : most ≤ 100) (nv : lv ≠ l) (ev : h[lv]? = some (.lst (vs.map Vl.enc))) (vl : vs.length ≤ 1000)
    (z : ∀ (W O : PV) h', Ml h' l (k + 3000) → Fr [l] h h' → q (scr vs W O) h') : den T10 (n + 2) 1005 [.loc l, .loc lv, .int i0] h q x := by
  subst e0
  refine den_call (F := ir_f_law_whole) (by rfl) rfl ?_
  have ml : (vs.map Vl.enc).length = vs.length := List.length_map ..
  refine ⟨_, rfl, ?_⟩
  refine grind_ok s (by omega) (by omega) (by omega) fun mn h1 hmn s1 f1 => ?_
  have ev1 := f1.at ev (by simpa using nv)
  have ll := s1.lt
  refine ⟨_, rfl, .inl ⟨_, gL ev1, ?_⟩⟩
  refine cmp_map (enc := Vl.enc) (f := fun _ => .int 1) (gL ev1) (fun t j Q ht hQ => hQ) (by omega) ?_
  refine set_go ?_
  refine cut_nx (fun ς h' => (∃ L4 xs a6, ς = [some (.loc l), some (.loc lv), some (ni most), some (ni mn), some (.loc L4), none, a6, none] ∧ h'[L4]? = some (.lst xs) ∧ L4 ≠ l) ∧ Ml h' l (k + 1001) ∧ Fr [l] h h') ?_ ?_
  · refine ⟨_, rfl, _, _, rfl, rfl, ite_b (fun _ => ?_) (fun _ => ?_)⟩
    · have ev2 := at_app (p := .lst (vs.map fun _ => PV.int 1)) ev1
      refine ⟨_, rfl, .inl ⟨_, gL ev2, ?_⟩⟩
      refine cmp_inv0 (fun i acc h' => acc.length = i ∧ Ml h' l (k + 1 + i) ∧ Fr [l] (h1 ++ [PO.lst (vs.map fun _ => PV.int 1)]) h') ⟨rfl, s1.fr (Fr.app (S := [])) (by simp), Fr.refl⟩ (fun i acc h' hi => gL (hi.2.2.at ev2 (by simpa using nv))) ?_ ?_
      · rintro i y acc h2 kk hy ⟨al, s2, f2⟩ hkk
        have := get_lt hy
        refine ⟨_, rfl, ?_⟩
        refine grind_ok s2 (by omega) (by omega) (by omega) fun r h3 hr3 s3 f3 => ?_
        exact ⟨szl (by omega), hkk _ _ ⟨by simp [al], s3, f2.trans f3⟩⟩
      · rintro acc h2 ⟨al, s2, f2⟩
        have := s2.lt
        refine ⟨⟨_, acc, _, rfl, at_new, by omega⟩, (s2.fr (Fr.app (S := [])) (by simp)).mono (by omega), ((f1.trans Fr.app).trans f2).trans Fr.app⟩
    · exact ⟨⟨_, _, _, rfl, at_new, by omega⟩, (s1.fr (Fr.app (S := [])) (by simp)).mono (by omega), f1.trans Fr.app⟩
  rintro ς h2 ⟨⟨L4, xs, a6, rfl, e4, n4⟩, s2, f2⟩
  have ev2 := f2.at ev (by simpa using nv)
  have l2 := s2.lt
  refine ⟨Nat.zero_le _, ?_⟩
  refine set_go ?_
  have e4' := at_app (p := .lst []) e4
  have ev2' := at_app (p := .lst []) ev2
  have s2' := s2.fr (Fr.app (S := []) (o := .lst [])) (by simp)
  have f2' := f2.trans (Fr.app (S := [l]) (o := .lst []))
  refine cut_nx (fun ς h' => (∃ L5 ys a7, ς = [some (.loc l), some (.loc lv), some (ni most), some (ni mn), some (.loc L4), some (.loc L5), a6, a7] ∧ h'[L5]? = some (.lst ys)) ∧ Ml h' l (k + 3000) ∧ Fr [l] (h2 ++ [PO.lst []]) h') ?_ ?_
  · refine ⟨_, rfl, _, _, rfl, len_loc ev2', _, _, rfl, rfl, ite_b (fun c => ?_) (fun _ => ?_)⟩
    · have c2 := of_decide_eq_true c
      rw [ml] at c2
      refine ⟨_, rfl, _, rfl, ?_⟩
      refine grind_ok s2' (by omega) (by omega) (by omega) fun r h3 hr s3 f3 => ?_
      have ev3 := f3.at ev2' (by simpa using nv)
      refine ⟨_, rfl, by omega, by omega, ?_⟩
      rw [toNat_nat]
      refine cmp_inv0 (fun i acc h' => acc.length = i ∧ Ml h' l (k + 1001 + 1 + i) ∧ Fr [l] h3 h') ⟨rfl, s3, Fr.refl⟩ (fun _ _ _ _ => trivial) ?_ ?_
      · rintro i y acc h4 kk hy ⟨al, s4, f4⟩ hkk
        have hi := get_lt hy
        rw [rangeL_length] at hi
        have ev4 := f4.at ev3 (by simpa using nv)
        refine ⟨_, rfl, _, rfl, _, _, rfl, len_loc ev4, ?_⟩
        refine grind_ok s4 (by omega) (by rw [ml]; omega) (by rw [ml]; omega) fun r2 h5 hr5 s5 f5 => ?_
        exact ⟨szl (by omega), hkk _ _ ⟨by simp [al], s5, f4.trans f5⟩⟩
      · rintro acc h4 ⟨al, s4, f4⟩
        rw [rangeL_length] at s4
        exact ⟨⟨_, acc, _, rfl, at_new⟩, (s4.fr (Fr.app (S := [])) (by simp)).mono (by omega), (f3.trans f4).trans Fr.app⟩
    · exact ⟨⟨_, _, _, rfl, at_new⟩, s2'.mono (by omega), Fr.refl⟩
  rintro ς h3 ⟨⟨L5, ys, a7, rfl, e5⟩, s3, f3⟩
  refine ⟨_, rfl, _, gL (f3.at ev2' (by simpa using nv)), _, rfl, _, gL (f3.at e4' (by simpa using n4)), _, rfl, _, gL e5, Nat.le_of_ble_eq_true rfl, ?_⟩
  exact z _ _ h3 s3 (f2'.trans f3)
/-! ### by hand -/
def handV : List Vl := [⟨"in", .inl "x"⟩, ⟨"in", .inl "f"⟩, ⟨"f", .inr [0]⟩, ⟨"f", .inr [1]⟩, ⟨"sub", .inr [2, 3]⟩, ⟨"sub", .inr [3, 2]⟩, ⟨"mul", .inr [5, 5]⟩, ⟨"t", .inr [0, 0, 6]⟩, ⟨"t", .inr [0, 6, 0]⟩, ⟨"f", .inr [8]⟩, ⟨"g", .inr [0]⟩, ⟨"in", .inl "t"⟩]
def vaB (i : Nat) (v : Vl) : Bool := match v.o with
  | .inl s => decide (v.w = ("in" : Str)) && decide (s.length ≤ 100)
  | .inr o => decide (v.w ≠ ("in" : Str)) && (decide (v.w.length ≤ 100) && (decide (1 ≤ o.length) && (decide (o.length ≤ 3) && o.all fun x => decide (x < i))))
theorem va_of {vs : List Vl} (h : (vs.zipIdx.all fun p => vaB p.2 p.1) = true) : VAs vs ∧ Shs vs := by
  have key : ∀ i v, vs[i]? = some v → vaB i v = true := fun i v hv => by
    have hz : (v, i) ∈ vs.zipIdx := List.mem_of_getElem? (i := i) (by rw [List.getElem?_zipIdx, hv]; simp)
    exact List.all_eq_true.mp h _ hz
  refine ⟨fun i v hv => ?_, fun v hv => ?_⟩
  · have h2 := key i v hv
    obtain ⟨w, o⟩ := v
    cases o with
    | inl s =>
      simp only [vaB, Bool.and_eq_true, decide_eq_true_eq] at h2
      exact .inl ⟨h2.1, s, rfl⟩
    | inr o =>
      simp only [vaB, Bool.and_eq_true, decide_eq_true_eq, List.all_eq_true] at h2
      exact .inr ⟨h2.1, o, rfl, h2.2.2.1, h2.2.2.2.1, h2.2.2.2.2⟩
  · obtain ⟨i, hi⟩ := List.mem_iff_getElem?.mp hv
    have h2 := key i v hi
    obtain ⟨w, o⟩ := v
    cases o with
    | inl s =>
      simp only [vaB, Bool.and_eq_true, decide_eq_true_eq] at h2
      exact ⟨by rw [h2.1]; exact in_len, fun t e => by cases e; exact h2.2⟩
    | inr o =>
      simp only [vaB, Bool.and_eq_true, decide_eq_true_eq] at h2
      exact ⟨h2.2.1, fun t e => by cases e⟩
def handOk (r : Nat) : Bool := decide ((handV.take (4 + r)).length = 4 + r) && (((handV.take (4 + r)).zipIdx.all fun p => vaB p.2 p.1) && (decide (foundF (handV.take (4 + r)) "f" (.inr [1]) = some 3) && decide (foundF (handV.take (4 + r)) "f" (.inr [2]) = none)))
theorem hand_all : ∀ r : Fin 9, handOk r.val = true := by decide +kernel
theorem hand_ok {n l k : Nat} {h : PH} {q : QV} {x : QX} (s : Ml h l k) (hk : k < 2 ^ 38)
    (z : ∀ (vs : List Vl) h' L, h'[L]? = some (.lst (vs.map Vl.enc)) → L ≠ l → 4 ≤ vs.length → vs.length ≤ 12 → VAs vs → Shs vs → foundF vs "f" (.inr [1]) = some 3 → foundF vs "f" (.inr [2]) = none → Ml h' l (k + 1) → Fr [l] h h' → q (.loc L) h') : den T10 (n + 2) 1017 [.loc l] h q x := by
  refine den_call (F := ir_f_law_hand) (by rfl) rfl ?_
  have ll := s.lt
  refine ⟨Nat.le_of_ble_eq_true rfl, Nat.le_of_ble_eq_true rfl, Nat.le_of_ble_eq_true rfl, Nat.le_of_ble_eq_true rfl, Nat.le_of_ble_eq_true rfl, Nat.le_of_ble_eq_true rfl, Nat.le_of_ble_eq_true rfl, Nat.le_of_ble_eq_true rfl, Nat.le_of_ble_eq_true rfl, Nat.le_of_ble_eq_true rfl, Nat.le_of_ble_eq_true rfl, Nat.le_of_ble_eq_true rfl, Nat.le_of_ble_eq_true rfl, ?_⟩
  have e1 : (h ++ [PO.lst ((handV.take 7).map Vl.enc)])[h.length]? = some (.lst ((handV.take 7).map Vl.enc)) := at_new
  have s1 := s.fr (Fr.app (S := []) (o := PO.lst ((handV.take 7).map Vl.enc))) (by simp)
  have f1 : Fr [l] h (h ++ [PO.lst ((handV.take 7).map Vl.enc)]) := Fr.app
  refine ⟨_, rfl, ⟨_, _, rfl, gL e1⟩, Nat.le_of_ble_eq_true rfl, Nat.le_of_ble_eq_true rfl, Nat.le_of_ble_eq_true rfl, Nat.le_of_ble_eq_true rfl, Nat.le_of_ble_eq_true rfl, Nat.le_of_ble_eq_true rfl, Nat.le_of_ble_eq_true rfl, Nat.le_of_ble_eq_true rfl, Nat.le_of_ble_eq_true rfl, Nat.le_of_ble_eq_true rfl, _, _, _, rfl, gL e1, rfl, Nat.le_of_ble_eq_true rfl, ?_⟩
  have e2 : ((h ++ [PO.lst ((handV.take 7).map Vl.enc)]).set h.length (.lst (handV.map Vl.enc)))[h.length]? = some (.lst (handV.map Vl.enc)) := at_set e1
  have s2 := s1.fr (Fr.set (S := [h.length]) (l := h.length) (o := PO.lst (handV.map Vl.enc)) (List.mem_singleton.mpr rfl)) (by simp; omega)
  have f2 := f1.new (o := PO.lst (handV.map Vl.enc)) (.inl (Nat.le_refl h.length))
  refine ⟨_, rfl, _, rfl, ?_⟩
  refine grind_ok s2 (by omega) (by omega) (by omega) fun r h3 hr s3 f3 => ?_
  have e3 := f3.at e2 (by simp; omega)
  have hr9 : r < 9 := by omega
  refine ⟨_, rfl, _, gL e3, ?_⟩
  have ok := hand_all ⟨r, hr9⟩
  unfold handOk at ok
  simp only [Bool.and_eq_true, decide_eq_true_eq] at ok
  obtain ⟨o1, o2, o3, o4⟩ := ok
  obtain ⟨v1, v2⟩ := va_of o2
  have ec : cutP (handV.map Vl.enc) none (some (4 + (r : Int))) = (handV.take (4 + r)).map Vl.enc := by
    have : (4 + (r : Int)) = ((4 + r : Nat) : Int) := by omega
    rw [this, cutP_to, List.map_take]
  rw [ec]
  have l3 := s3.lt
  refine z (handV.take (4 + r)) _ h3.length at_new (by omega) (by omega) (by omega) v1 v2 o3 o4 (s3.fr (Fr.app (S := [])) (by simp)) ((f2.trans f3).trans Fr.app)
end WD
end
section
set_option Elab.async false
set_option linter.all false
set_option maxRecDepth 100000
set_option autoImplicit false
set_option maxHeartbeats 8000000
set_option pp.maxSteps 600
namespace WD
open PySem PySem.Spec PyProof.Rows L2
theorem cutS_len (s : Str) (lo hi : Option Int) : (cutS s lo hi).length ≤ s.length := by
  show (Array.size (List.toArray _)) ≤ s.cps.size
  rw [List.size_toArray, List.length_take, List.length_drop, Array.length_toList]
  omega
/-- what may be sought -/
def Tgt (y : PV) : Prop := ∃ (w : Str) (o : Op), y = .tup [.str w, oE o]
theorem missing_ok {n l lt v k : Nat} {vs : List Vl} {W O : PV} {a b : Int} {h : PH} {q : QV} {x : QX} (hw : VAs vs) (sh : Shs vs) (hl : vs.length ≤ 1000) (hv : v < vs.length) (s : Ml h l k) (hk : k < 2 ^ 38) (nl : lt ≠ l) (e : h[lt]? = some (.lst [.int a, .int b]))
    (z : ∀ (a' b' : Int) h', h'[lt]? = some (.lst [.int a', .int b']) → a ≤ a' → b ≤ b' → Ml h' l (k + 2) → Fr [l, lt] h h' → q (.bl true) h') : den T10 (n + 3) 1013 [.loc l, scr vs W O, ni v, .loc lt] h q x := by
  refine den_call (F := ir_f_law_missing) (by rfl) rfl ?_
  have ml : (vs.map Vl.enc).length = vs.length := List.length_map ..
  have hv2 := vAt_get hv
  have hsh := sh _ (List.mem_of_getElem? hv2)
  have ll := s.lt
  have lt1 := at_lt e
  refine ⟨_, rfl, _, _, _, _, rfl, rfl, rfl, rfl, _, rfl, _, _, _, _, rfl, rfl, ixP_nat (by omega), mp_get hv2, _, rfl, _, _, rfl, _, _, rfl, rfl, ?_⟩
  refine ⟨_, rfl, _, _, _, _, rfl, rfl, rfl, rfl, _, _, rfl, rfl, ?_⟩
  refine set_go ?_
  refine cut_nx (fun ς h' => (∃ (L : Nat) (ys : List PV) (b8 b9 b10 b11 b12 b13 : Option PV), ς = [some (.loc l), some (scr vs W O), some (ni v), some (.loc lt), some (.int ((vs.map Vl.enc).length : Int)), some (.str (vAt vs v).w), some (oE (vAt vs v).o), some (.loc L), b8, b9, b10, b11, b12, b13] ∧ h'[L]? = some (.lst ys) ∧ L ≠ l ∧ L ≠ lt ∧ ∀ y, y ∈ ys → Tgt y) ∧ Ml h' l (k + 2) ∧ Fr [l] h h') ?_ ?_
  · rcases va_cases hw hv with ⟨e2, ho, st, e3⟩ | ⟨e2, h1l, h3l, e3⟩
    · have hst := hsh.2 st e3
      rw [e2, e3]
      have hc7 := cutS_len st none (some 7)
      have hc1 := cutS_len st none (some 1)
      have z1 : ("0" : Str).length = 1 := by decide +kernel
      refine ⟨_, rfl, .inl ⟨rfl, ite_t (by decide +kernel) ?_⟩⟩
      refine ⟨_, rfl, _, rfl, sz (by omega), sz (by rw [z1]; omega), Nat.le_of_ble_eq_true rfl, _, rfl, _, rfl, sz (by omega), Nat.le_of_ble_eq_true rfl, Nat.le_of_ble_eq_true rfl, _, rfl, _, rfl, Nat.le_of_ble_eq_true rfl, Nat.le_of_ble_eq_true rfl, Nat.le_of_ble_eq_true rfl, ?_⟩
      refine ⟨⟨h.length, _, _, _, _, _, _, _, rfl, at_new, by omega, by omega, fun y hy => ?_⟩, (s.fr (Fr.app (S := [])) (by simp)).mono (by omega), Fr.app⟩
      simp only [List.mem_cons, List.not_mem_nil, or_false] at hy
      rcases hy with rfl | rfl | rfl | rfl
      · exact ⟨_, .inl _, rfl⟩
      · exact ⟨_, .inl _, rfl⟩
      · exact ⟨_, .inl _, rfl⟩
      · exact ⟨_, .inr [v], rfl⟩
    · rw [e3]
      have hwl := hsh.1
      generalize opsAt vs v = o at h1l h3l
      generalize (vAt vs v).w = w at e2 hwl
      refine ⟨_, rfl, .inl ⟨rfl, ite_f (strNe e2) ?_⟩⟩
      refine ⟨_, rfl, .inl ⟨_, rfl, ?_⟩⟩
      refine cmp_map (enc := ni) (f := ni) rfl (fun t y Q hy hQ => ⟨_, rfl, hQ⟩) (by omega) ?_
      have e8 : (h ++ [PO.lst (o.map ni)])[h.length]? = some (.lst (o.map ni)) := at_new
      have s1 := s.fr (Fr.app (S := []) (o := PO.lst (o.map ni))) (by simp)
      have f1 : Fr [l] h (h ++ [PO.lst (o.map ni)]) := Fr.app
      have ol : (o.map ni).length = o.length := List.length_map ..
      refine ⟨_, rfl, _, rfl, ?_⟩
      refine grind_ok s1 (by omega) (by rw [ml]; omega) (by rw [ml]; omega) fun r1 h1 hr1 s2 f2 => ?_
      have e81 := f2.at e8 (by simp; omega)
      refine ⟨_, rfl, _, rfl, _, rfl, _, _, rfl, len_loc e81, ?_⟩
      refine grind_ok s2 (by omega) (by rw [ol]; omega) (by rw [ol]; omega) fun r2 h2 hr2 s3 f3 => ?_
      have e82 := f3.at e81 (by simp; omega)
      rw [ol] at hr2
      refine ⟨_, _, rfl, e82, _, _, rfl, ixP_nat (by omega), ?_⟩
      have e83 := at_set (p := .lst ((o.map ni).set r2 (ni r1))) e82
      have s4 := s3.fr (Fr.set (S := [h.length]) (l := h.length) (o := .lst ((o.map ni).set r2 (ni r1))) (List.mem_singleton.mpr rfl)) (by simp; omega)
      have f4 := ((f1.trans f2).trans f3).new (o := .lst ((o.map ni).set r2 (ni r1))) (.inl (Nat.le_refl h.length))
      refine ⟨_, rfl, _, _, rfl, rfl, _, rfl, by omega, by omega, ?_⟩
      rw [ol, toNat_nat]
      refine cmp_inv0 (fun i acc h' => h' = h2.set h.length (.lst ((o.map ni).set r2 (ni r1))) ∧ ∃ bs : List Nat, acc = bs.map ni ∧ bs.length = i) ⟨rfl, [], rfl, rfl⟩ (fun _ _ _ _ => trivial) ?_ ?_
      · rintro i y acc h' kk hy ⟨rfl, bs, rfl, bl⟩ hkk
        obtain ⟨hi, rfl⟩ := range_get hy
        have g : o[o.length - 1 - i]? = some (o.getD (o.length - 1 - i) 0) := getD_at (by omega)
        exact ⟨_, rfl, _, rfl, _, _, rfl, rfl, _, rfl, _, _, _, _, rfl, rfl, ixP_at (k := o.length - 1 - i) (by omega) (by omega), mp_get g, szl (by simp; omega), hkk _ _ ⟨rfl, bs ++ [o.getD (o.length - 1 - i) 0], by simp, by simp [bl]⟩⟩
      rintro acc h' ⟨rfl, bs, rfl, bl⟩
      rw [rangeL_length] at bl
      refine ⟨_, rfl, ?_⟩
      have c1 : cutP (o.map ni) (some (1 : Int)) none = (o.drop 1).map ni := by
        have := cutP_from (xs := o.map ni) (k := 1)
        rw [List.map_drop]
        exact this
      have c2 : cutP (o.map ni) none (some (2 : Int)) = (o.take 2).map ni := by
        have := cutP_to (xs := o.map ni) (k := 2)
        rw [List.map_take]
        exact this
      refine ⟨_, rfl, _, rfl, _, gL e83, Nat.le_of_ble_eq_true rfl, _, rfl, _, rfl, Nat.le_of_ble_eq_true rfl, _, rfl, _, rfl, _, rfl, _, rfl, Nat.le_of_ble_eq_true rfl, sz (by rw [c1]; simp; omega), Nat.le_of_ble_eq_true rfl, _, rfl, Nat.le_of_ble_eq_true rfl, Nat.le_of_ble_eq_true rfl, ?_⟩
      have lh3 := at_lt e83
      have g0 : o[0]? = some (o.getD 0 0) := getD_at (by omega)
      have lenw : lenP ((h2.set h.length (.lst ((o.map ni).set r2 (ni r1))) ++ [PO.lst [PV.tup [.str w, .tup ((o.map ni).set r2 (ni r1))], PV.tup [.str w, .tup (bs.map ni)], PV.tup [.str w, .tup (cutP (o.map ni) (some (1 : Int)) none ++ [ni v])], PV.tup [.str "in", .str w]]]).set (h2.set h.length (.lst ((o.map ni).set r2 (ni r1)))).length (.lst ([PV.tup [.str w, .tup ((o.map ni).set r2 (ni r1))], PV.tup [.str w, .tup (bs.map ni)], PV.tup [.str w, .tup (cutP (o.map ni) (some (1 : Int)) none ++ [ni v])], PV.tup [.str "in", .str w]] ++ [PV.tup [.str w, .tup (cutP (o.map ni) none (some (2 : Int)) ++ [ni (o.getD 0 0)])]]))) (.str w) = some w.length := if_pos (sz (by omega))
      have hz : ∀ c : Bool, (strMul ("0" : Str) (if c = true then 1 else 0)).length ≤ 1 := by decide +kernel
      have z1 : ("0" : Str).length = 1 := by decide +kernel
      refine ⟨_, rfl, ⟨_, _, rfl, at_new, rfl⟩, _, rfl, _, rfl, _, rfl, _, rfl, _, _, _, _, rfl, rfl, ixP_at (k := 0) rfl (by omega), mp_get g0, Nat.le_of_ble_eq_true rfl, sz (by rw [c2]; simp; omega), Nat.le_of_ble_eq_true rfl, _, _, rfl, at_new, Nat.le_of_ble_eq_true rfl, ?_⟩
      refine ⟨_, rfl, ⟨_, _, rfl, at_set at_new, rfl⟩, _, rfl, _, rfl, _, _, rfl, lenw, _, _, rfl, rfl, _, _, rfl, rfl, by split <;> omega, by split <;> omega, by rw [z1]; split <;> omega, sz (by have := hz (decide ((w.length : Int) < 8)); omega), _, rfl, Nat.le_of_ble_eq_true rfl, _, _, rfl, at_set at_new, Nat.le_of_ble_eq_true rfl, ?_⟩
      have f5 := f4.trans (Fr.app (S := [l]) (o := PO.lst [PV.tup [.str w, .tup ((o.map ni).set r2 (ni r1))], PV.tup [.str w, .tup (bs.map ni)], PV.tup [.str w, .tup (cutP (o.map ni) (some (1 : Int)) none ++ [ni v])], PV.tup [.str "in", .str w]]))
      have lh0 := f4.1
      refine ⟨⟨_, _, _, _, _, _, _, _, rfl, at_set (at_set at_new), by have := s4.lt; omega, by have := lt1; omega, fun y hy => ?_⟩, ?_, (f5.new (.inl lh0)).new (.inl lh0)⟩
      · simp only [List.mem_append, List.mem_cons, List.not_mem_nil, or_false] at hy
        rcases hy with ((rfl | rfl | rfl | rfl) | rfl) | rfl
        · exact ⟨w, .inr (o.set r2 r1), by simp [oE, List.map_set]⟩
        · exact ⟨w, .inr bs, rfl⟩
        · exact ⟨w, .inr (o.drop 1 ++ [v]), by rw [c1]; simp [oE]⟩
        · exact ⟨"in", .inl w, rfl⟩
        · exact ⟨w, .inr (o.take 2 ++ [o.getD 0 0]), by rw [c2]; simp [oE]⟩
        · exact ⟨_, .inr o, rfl⟩
      · have l4 := s4.lt
        refine ((s4.fr (Fr.app (S := [])) (by simp)).fr (Fr.set (l := (h2.set h.length (.lst ((o.map ni).set r2 (ni r1)))).length) (S := [(h2.set h.length (.lst ((o.map ni).set r2 (ni r1)))).length]) (List.mem_singleton.mpr rfl)) ?_).fr (Fr.set (l := (h2.set h.length (.lst ((o.map ni).set r2 (ni r1)))).length) (S := [(h2.set h.length (.lst ((o.map ni).set r2 (ni r1)))).length]) (List.mem_singleton.mpr rfl)) ?_
        · intro hm
          have := List.mem_singleton.mp hm
          omega
        · intro hm
          have := List.mem_singleton.mp hm
          omega
  · rintro ς h1 ⟨⟨L, ys, b8, b9, b10, b11, b12, b13, rfl, eL, n1, n2, hy⟩, s1, f1⟩
    have e1 := f1.at e (by simpa using nl)
    refine ⟨_, rfl, .inl ⟨_, gL eL, ?_⟩⟩
    refine for_inv (fun i ς h' => (∃ b10 b11, ς = [some (.loc l), some (scr vs W O), some (ni v), some (.loc lt), some (.int ((vs.map Vl.enc).length : Int)), some (.str (vAt vs v).w), some (oE (vAt vs v).o), some (.loc L), b8, b9, b10, b11, b12, b13]) ∧ (∃ a' b', h'[lt]? = some (.lst [.int a', .int b']) ∧ a ≤ a' ∧ b ≤ b') ∧ Fr [lt] h1 h') ⟨⟨_, _, rfl⟩, ⟨a, b, e1, Int.le_refl _, Int.le_refl _⟩, Fr.refl⟩ (fun _ _ _ hi => gL (hi.2.2.at eL (by simpa using n2))) ?_ ?_
    · rintro i y ς h2 kk hyi ⟨⟨b10, b11, rfl⟩, ⟨a', b', e2, ha, hb⟩, f2⟩ hkk
      obtain ⟨w, o, rfl⟩ := hy y (List.mem_of_getElem? hyi)
      refine ⟨_, rfl, _, _, rfl, _, _, rfl, rfl, ?_⟩
      refine ⟨_, rfl, _, rfl, _, rfl, _, rfl, ?_⟩
      refine sought_ok hl e2 fun a2 b2 h3 e3 ha2 hb2 _ _ f3 => ⟨_, rfl, ite_f rfl ?_⟩
      exact hkk _ _ ⟨⟨_, _, rfl⟩, ⟨a2, b2, e3, by omega, by omega⟩, f2.trans f3⟩
    · rintro ς h2 ⟨⟨b10, b11, rfl⟩, ⟨a', b', e2, ha, hb⟩, f2⟩
      exact z a' b' h2 e2 ha hb (s1.fr f2 (by simpa using Ne.symm nl)) ((f1.mono (by simp)).trans (f2.mono (by simp)))
end WD
end
section
set_option Elab.async false
set_option linter.all false
set_option maxRecDepth 100000
set_option autoImplicit false
set_option maxHeartbeats 8000000
set_option pp.maxSteps 600
namespace WD
open PySem PySem.Spec PyProof.Rows L2
/-- the tally stands at lt, each number at least so great -/
def Ty (h : PH) (lt : Nat) (a b : Int) : Prop := ∃ a' b' : Int, h[lt]? = some (.lst [.int a', .int b']) ∧ a ≤ a' ∧ b ≤ b'
theorem Ty.fr {h h' : PH} {lt : Nat} {a b : Int} {S : List Nat} (t : Ty h lt a b) (f : Fr S h h') (hn : lt ∉ S) : Ty h' lt a b := by
  obtain ⟨a', b', e, r⟩ := t
  exact ⟨a', b', f.at e hn, r⟩
theorem asked_ok {n l lt k : Nat} {vs : List Vl} {W O : PV} {a b : Int} {h : PH} {q : QV} {x : QX} (hw : VAs vs) (sh : Shs vs) (hl : vs.length ≤ 1000) (s : Ml h l k) (hk : k < 2 ^ 37) (nl : lt ≠ l) (t : Ty h lt a b)
    (z : ∀ h', Ty h' lt a b → Ml h' l (k + 3000) → Fr [l, lt] h h' → q (.bl true) h') : den T10 (n + 7) 1014 [.loc l, scr vs W O, .loc lt] h q x := by
  refine den_call (F := ir_f_law_asked) (by rfl) rfl ?_
  have ml : (vs.map Vl.enc).length = vs.length := List.length_map ..
  have ltl : lt < h.length := by
    obtain ⟨a', b', e, _⟩ := t
    exact at_lt e
  have ll := s.lt
  refine ⟨_, rfl, _, _, _, _, rfl, rfl, rfl, rfl, ?_⟩
  refine ⟨_, rfl, _, _, rfl, rfl, ?_⟩
  refine ⟨_, rfl, _, rfl, by omega, by omega, ?_⟩
  rw [ml, toNat_nat]
  refine cmp_inv (fun i acc h' => h' = h ∧ acc = (inputsF vs i).map ni) ⟨rfl, rfl⟩ (fun _ _ _ _ => trivial) ?_ ?_
  · rintro i y acc h' kk hy ⟨rfl, rfl⟩ hkk
    obtain ⟨hi, rfl⟩ := range_get hy
    have hn := flt_len (fun u => isIn (vAt vs u)) i
    have e0 : PV.int (0 + (i : Int)) = ni i := by show PV.int _ = PV.int _; rw [Int.zero_add]
    refine ⟨_, rfl, _, rfl, _, _, _, _, rfl, rfl, ixP_at (k := i) (by omega) (by omega), mp_get (vAt_get hi), _, _, _, _, rfl, rfl, rfl, rfl, .inl ⟨rfl, ?_⟩⟩
    rw [isIn_dec]
    have hs : inputsF vs (i + 1) = inputsF vs i ++ (if isIn (vAt vs i) = true then [i] else []) := flt_snoc _ i
    refine ite_b (fun c => ?_) (fun c => ?_)
    · refine ⟨_, rfl, szl (by unfold inputsF; simp; omega), hkk _ _ ⟨rfl, ?_⟩⟩
      rw [hs, if_pos c, List.map_append, e0]
      rfl
    · refine hkk _ _ ⟨rfl, ?_⟩
      rw [hs, if_neg (by rw [c]; exact Bool.false_ne_true), List.append_nil]
  rintro acc hh ⟨rfl, rfl⟩
  rw [rangeL_length]
  have e5 : (hh ++ [PO.lst ((inputsF vs vs.length).map ni)])[hh.length]? = some (.lst ((inputsF vs vs.length).map ni)) := at_new
  have il : (inputsF vs vs.length).length ≤ vs.length := flt_len _ _
  refine ⟨_, rfl, ?_⟩
  refine inputs_ok hl ⟨_, rfl, ?_⟩
  refine row_ok (by omega) e5 ⟨_, rfl, ite_f rfl ?_⟩
  have s1 := s.fr (Fr.app (S := []) (o := .lst ((inputsF vs vs.length).map ni))) (by simp)
  have t1 := t.fr (Fr.app (S := []) (o := .lst ((inputsF vs vs.length).map ni))) (by simp)
  refine ⟨_, rfl, ?_⟩
  refine law_depths_ok hw hl fun D h2 hD hDl f2 e6 => ?_
  have s2 := s1.fr f2 (by simp)
  have t2 := t1.fr f2 (by simp)
  have f02 : Fr [l, lt] hh h2 := Fr.app.trans (f2.mono (by simp))
  refine ⟨_, rfl, _, rfl, ?_⟩
  refine grind_ok s2 (by omega) (by omega) (by omega) fun bg h3 hbg s3 f3 => ?_
  have l6 : hh.length < (hh ++ [PO.lst ((inputsF vs vs.length).map ni)]).length := by simp
  have e63 := f3.at e6 (by simp; omega)
  have t3 := t2.fr f3 (by simpa using nl)
  have f03 := f02.trans (f3.mono (S' := [l, lt]) (by simp))
  refine ⟨_, rfl, _, rfl, _, _, rfl, rfl, _, _, rfl, rfl, mulX (by omega) (by split <;> omega), _, _, rfl, ?_⟩
  have hcnt : ∀ c : Bool, ((if (10 : Int) + 4 * (if c = true then 1 else 0) < (vs.length : Int) then (10 : Int) + 4 * (if c = true then 1 else 0) else (vs.length : Int)).toNat ≤ vs.length) ∧ ((if (10 : Int) + 4 * (if c = true then 1 else 0) < (vs.length : Int) then (10 : Int) + 4 * (if c = true then 1 else 0) else (vs.length : Int)).toNat ≤ 14) ∧ 0 ≤ (if (10 : Int) + 4 * (if c = true then 1 else 0) < (vs.length : Int) then (10 : Int) + 4 * (if c = true then 1 else 0) else (vs.length : Int)) := fun c => by
    cases c <;> simp only [Bool.false_eq_true, if_false, if_true] <;> split <;> omega
  obtain ⟨c1, c2, c3⟩ := hcnt (decide ((vs.length : Int) < 15))
  refine ⟨_, rfl, by omega, by omega, ?_⟩
  refine for_inv (fun i ς h' => (∃ a9, ς = [some (.loc l), some (scr vs W O), some (.loc lt), some (.tup (vs.map Vl.enc)), some (ni vs.length), some (.loc hh.length), some (.loc (hh ++ [PO.lst ((inputsF vs vs.length).map ni)]).length), some (ni bg), a9.1, a9.2]) ∧ Ml h' l (k + 10 + 10 * i) ∧ Ty h' lt a b ∧ Fr [l, lt] h3 h') ⟨⟨(_, _), rfl⟩, s3.mono (by omega), t3, Fr.refl⟩ (fun _ _ _ _ => trivial) ?_ ?_
  · rintro i y ς h4 kk hy ⟨⟨⟨a8, a9⟩, rfl⟩, s4, t4, f4⟩ hkk
    obtain ⟨hi, rfl⟩ := range_get hy
    have hmany : 1 ≤ vs.length := by omega
    have e64 := f4.at e63 (by simp; omega)
    have z0 : PV.int (0 + (i : Int)) = ni i := by show PV.int _ = PV.int _; rw [Int.zero_add]
    rw [z0]
    obtain ⟨v, ev, hv⟩ : ∃ v : Nat, ((bg : Int) + (i : Int) * (1 + 6 * (if decide (((14 : Int)) < (vs.length : Int)) = true then 1 else 0))) % (vs.length : Int) = (v : Int) ∧ v < vs.length := by
      have h0 := Int.emod_nonneg ((bg : Int) + (i : Int) * (1 + 6 * (if decide (((14 : Int)) < (vs.length : Int)) = true then 1 else 0))) (show (vs.length : Int) ≠ 0 by omega)
      have h1 := Int.emod_lt_of_pos ((bg : Int) + (i : Int) * (1 + 6 * (if decide (((14 : Int)) < (vs.length : Int)) = true then 1 else 0))) (show (0 : Int) < (vs.length : Int) by omega)
      exact ⟨_, (Int.toNat_of_nonneg h0).symm, by omega⟩
    refine ⟨_, rfl, _, rfl, _, rfl, _, _, rfl, rfl, _, _, rfl, rfl, mulX (by omega) (by split <;> omega), mulX (by omega) (by split <;> omega), _, rfl, by omega, ?_⟩
    rw [ev]
    have hgD : D[v]? = some (D.getD v 0) := getD_at (by omega)
    refine ⟨_, rfl, _, rfl, _, rfl, _, rfl, _, e64, _, _, _, rfl, ixP_nat (by simp; omega), mp_get hgD, ?_⟩
    refine at_ok (n := n) hw hl hv hD hDl fun h5 f5 => ⟨_, rfl, ite_f rfl ?_⟩
    have s5 := s4.fr f5 (by simp)
    have t5 := t4.fr f5 (by simp)
    have hv2 := vAt_get hv
    obtain ⟨a', b', et, ha, hb⟩ := t5
    refine ⟨_, rfl, _, rfl, _, rfl, _, _, _, _, rfl, rfl, ixP_nat (by omega), mp_get hv2, _, _, _, _, rfl, rfl, rfl, rfl, _, rfl, _, rfl, _, _, _, _, rfl, rfl, ixP_nat (by omega), mp_get hv2, _, _, _, _, rfl, rfl, rfl, rfl, _, rfl, ?_⟩
    refine sought_ok (n := n + 4) hl et fun a2 b2 h6 e6' ha2 hb2 _ _ f6 => ⟨_, rfl, ite_f rfl ?_⟩
    have s6 := s5.fr f6 (by simpa using Ne.symm nl)
    have f46 : Fr [l, lt] h3 h6 := (f4.trans (f5.mono (by simp))).trans (f6.mono (by simp))
    refine cut_t (fun bb h' => bb = false ∧ Ml h' l (k + 10 + 10 * (i + 1)) ∧ Ty h' lt a b ∧ Fr [l, lt] h3 h') ?_ ?_
    · refine ⟨_, rfl, by omega, .inl ⟨rfl, ite_b (fun _ => ?_) (fun _ => ?_)⟩⟩
      · refine ⟨_, rfl, _, rfl, _, rfl, _, rfl, ?_⟩
        refine missing_ok (n := n + 3) hw sh hl hv s6 (by omega) nl e6' fun a3 b3 h7 e7 ha3 hb3 s7 f7 => ⟨_, rfl, ?_⟩
        exact ⟨rfl, s7.mono (by omega), ⟨a3, b3, e7, by omega, by omega⟩, f46.trans f7⟩
      · exact ⟨rfl, s6.mono (by omega), ⟨a2, b2, e6', by omega, by omega⟩, f46⟩
    · rintro bb h7 ⟨rfl, s7, t7, f7⟩
      refine ite_f rfl ?_
      exact hkk _ _ ⟨⟨(_, _), rfl⟩, s7, t7, f7⟩
  · rintro ς h4 ⟨⟨⟨a8, a9⟩, rfl⟩, s4, t4, f4⟩
    rw [rangeL_length] at s4
    exact z h4 t4 (s4.mono (by omega)) (f03.trans f4)
end WD
end
section
set_option Elab.async false
set_option linter.all false
set_option maxRecDepth 100000
set_option autoImplicit false
set_option maxHeartbeats 8000000
set_option pp.maxSteps 600
namespace WD
open PySem PySem.Spec PyProof.Rows L2
theorem barred_ok {n l k : Nat} {vs : List Vl} {W O : PV} {h : PH} {q : QV} {x : QX} (hl : vs.length ≤ 1000) (s : Ml h l k) (hk : k < 2 ^ 37) (z : ∀ h', Ml h' l (k + 30) → Fr [l] h h' → q (.bl true) h') : den T10 (n + 7) 1016 [.loc l, scr vs W O] h q x := by
  refine den_call (F := ir_f_law_barred) (by rfl) rfl ?_
  have ml : (vs.map Vl.enc).length = vs.length := List.length_map ..
  refine ⟨_, rfl, _, _, _, _, rfl, rfl, rfl, rfl, _, _, rfl, rfl, ?_⟩
  refine ⟨_, rfl, _, rfl, Nat.le_of_ble_eq_true rfl, _, rfl, _, rfl, ?_⟩
  refine grind_ok s (by omega) (by omega) (by omega) fun r h1 hr s1 f1 => ?_
  refine ⟨_, rfl, _, rfl, Nat.le_of_ble_eq_true rfl, ⟨by decide, by decide, by decide +kernel⟩, Nat.le_of_ble_eq_true rfl, ?_⟩
  have ll := s1.lt
  have e1 : (h1 ++ [PO.lst [PV.int 0]])[h1.length]? = some (.lst [PV.int 0]) := at_new
  have s2 := s1.fr (Fr.app (S := []) (o := PO.lst [PV.int 0])) (by simp)
  refine ⟨_, rfl, .inl ⟨_, gL at_new, ?_⟩⟩
  refine for_inv (fun i ς h' => (∃ a b, ς = [some (.loc l), some (scr vs W O), some (.int ((vs.map Vl.enc).length : Int)), some (.loc (h1 ++ [PO.lst [PV.int 0]]).length), a, b]) ∧ Ml h' l (k + 1 + i) ∧ Fr [l] h1 h' ∧ h'[h1.length]? = some (.lst [PV.int 0]) ∧ getL h' (h1 ++ [PO.lst [PV.int 0]]).length = getL (h1 ++ [PO.lst [PV.int 0]] ++ [PO.lst [PV.int ((vs.map Vl.enc).length : Int), .int (-1), .bl true, .non, .str "0", .tup [.int 0], .int (((vs.map Vl.enc).length : Int) + 1 + (r : Int)), .int (-((vs.map Vl.enc).length : Int) - 1), .bl false, .loc h1.length, .str "in", .int (10 ^ (30 : Int).toNat)]]) (h1 ++ [PO.lst [PV.int 0]]).length) ⟨⟨_, _, rfl⟩, s2.fr (Fr.app (S := [])) (by simp), Fr.app.trans Fr.app, at_app e1, rfl⟩ (fun _ _ _ hi => hi.2.2.2.2.trans (gL at_new)) ?_ ?_
  · rintro i y ς h2 kk hy ⟨⟨a, b, rfl⟩, s3, f3, e3, g3⟩ hkk
    have hi := get_lt hy
    have hi' : i < 12 := hi
    have hm := List.mem_of_getElem? hy
    have bad : Kd h2 y ∧ belB y vs.length = false := by
      simp only [List.mem_cons, List.not_mem_nil, or_false] at hm
      rcases hm with rfl | rfl | rfl | rfl | rfl | rfl | rfl | rfl | rfl | rfl | rfl | rfl
      · exact ⟨trivial, by rw [ml]; show (decide ((0 : Int) ≤ (vs.length : Int)) && decide ((vs.length : Int) < (vs.length : Int))) = false; rw [decide_eq_false (p := (vs.length : Int) < (vs.length : Int)) (by omega), Bool.and_false]⟩
      · exact ⟨trivial, rfl⟩
      · exact ⟨trivial, rfl⟩
      · exact ⟨trivial, rfl⟩
      · exact ⟨trivial, rfl⟩
      · exact ⟨trivial, rfl⟩
      · refine ⟨trivial, ?_⟩
        rw [ml]
        show (decide ((0 : Int) ≤ (vs.length : Int) + 1 + (r : Int)) && decide ((vs.length : Int) + 1 + (r : Int) < (vs.length : Int))) = false
        rw [decide_eq_false (p := (vs.length : Int) + 1 + (r : Int) < (vs.length : Int)) (by omega), Bool.and_false]
      · refine ⟨trivial, ?_⟩
        rw [ml]
        show (decide ((0 : Int) ≤ -(vs.length : Int) - 1) && decide (-(vs.length : Int) - 1 < (vs.length : Int))) = false
        rw [decide_eq_false (p := (0 : Int) ≤ -(vs.length : Int) - 1) (by omega), Bool.false_and]
      · exact ⟨trivial, rfl⟩
      · exact ⟨⟨_, e3⟩, rfl⟩
      · exact ⟨trivial, rfl⟩
      · refine ⟨trivial, ?_⟩
        have h30 : (1000 : Int) < 10 ^ (30 : Int).toNat := by decide +kernel
        show (decide ((0 : Int) ≤ 10 ^ (30 : Int).toNat) && decide ((10 : Int) ^ (30 : Int).toNat < (vs.length : Int))) = false
        generalize (10 : Int) ^ (30 : Int).toNat = big at h30
        rw [decide_eq_false (p := big < (vs.length : Int)) (by omega), Bool.and_false]
    refine ⟨_, rfl, ?_⟩
    refine grind_ok s3 (by omega) (by omega) (by omega) fun r2 h3 hr2 s4 f4 => ?_
    have e4 := f4.at e3 (by simp; omega)
    have kd : Kd h3 y := by
      revert bad
      cases y with
      | loc L =>
        intro bad
        have : L = h1.length := by
          simp only [List.mem_cons, List.not_mem_nil, or_false] at hm
          simp at hm
          exact hm
        subst this
        exact ⟨_, e4⟩
      | _ => exact fun b => b.1
    refine .inl ⟨rfl, ?_⟩
    refine ⟨_, rfl, _, rfl, _, rfl, ?_⟩
    refine refused_ok (n := n) kd bad.2 ⟨_, rfl, ite_f rfl ?_⟩
    refine ⟨_, rfl, _, rfl, _, rfl, _, rfl, ?_⟩
    refine refused_ok (n := n) kd bad.2 ⟨_, rfl, ite_f rfl ?_⟩
    refine hkk _ _ ⟨⟨_, _, rfl⟩, s4, f3.trans f4, e4, ?_⟩
    rw [← g3]
    unfold getL
    rw [f4.2 _ (by
      have := g3.trans (gL at_new)
      exact at_lt (getL_some this)) (by simp; omega)]
  · rintro ς h2 ⟨⟨a, b, rfl⟩, s3, f3, e3, g3⟩
    exact z h2 (s3.mono (by show k + 1 + 12 ≤ k + 30; omega)) (f1.trans f3)
/-! ### the law -/
abbrev Sc := List Vl × PV × PV
def sE (s : Sc) : PV := scr s.1 s.2.1 s.2.2
def ScOk (s : Sc) : Prop := VAs s.1 ∧ Shs s.1 ∧ s.1.length ≤ 1000
structure Jw (l lt Lu L9 k c : Nat) (us : List Nat) (h : PH) : Prop where
  ml : Ml h l k
  ty : Ty h lt 1 1
  us : h[Lu]? = some (.lst (us.map ni))
  ord : l < lt ∧ lt < Lu ∧ Lu < L9
  ss : ∃ ss : List Sc, h[L9]? = some (.lst (ss.map sE)) ∧ (∀ s, s ∈ ss → ScOk s) ∧ 4 ≤ ss.length ∧ ss.length ≤ c
section
variable {l lt Lu L9 k k' c c' : Nat} {us : List Nat} {h h' : PH}
theorem Jw.frT (j : Jw l lt Lu L9 k c us h) (s : Ml h' l k') (t : Ty h' lt 1 1) (f : Fr [l, lt] h h') : Jw l lt Lu L9 k' c us h' := by
  obtain ⟨_, _, u, o, ss, e, r⟩ := j
  exact ⟨s, t, f.at u (by simp; omega), o, ss, f.at e (by simp; omega), r⟩
theorem Jw.fr (j : Jw l lt Lu L9 k c us h) (s : Ml h' l k') (f : Fr [l] h h') : Jw l lt Lu L9 k' c us h' := j.frT s (j.ty.fr f (by have := j.ord; simp; omega)) (f.mono (by simp))
theorem Jw.mono (j : Jw l lt Lu L9 k c us h) (a : k ≤ k') (b : c ≤ c') : Jw l lt Lu L9 k' c' us h := by
  obtain ⟨s, t, u, o, ss, e, r1, r2, r3⟩ := j
  exact ⟨s.mono a, t, u, o, ss, e, r1, r2, by omega⟩
theorem Jw.app {o : PO} (j : Jw l lt Lu L9 k c us h) : Jw l lt Lu L9 k c us (h ++ [o]) := j.fr (j.ml.fr (Fr.app (S := [])) (by simp)) Fr.app
theorem Jw.obj (j : Jw l lt Lu L9 k c us h) : isObj .append h (.loc L9) := by
  obtain ⟨ss, e, _⟩ := j.ss
  exact ⟨_, _, rfl, e, rfl⟩
theorem Jw.push {vs : List Vl} {W O : PV} {q : QV} (j : Jw l lt Lu L9 k c us h) (hc : c < 1000) (b : ScOk (vs, W, O)) (z : ∀ h', Jw l lt Lu L9 k (c + 1) us h' → q .non h') : mthS .append (.loc L9) [scr vs W O] h q := by
  obtain ⟨s, t, u, o, ss, e, r1, r2, r3⟩ := j
  have fs : Fr [L9] h (h.set L9 (.lst (ss.map sE ++ [scr vs W O]))) := Fr.set (List.mem_singleton.mpr rfl)
  refine ⟨_, _, rfl, e, szl (by simp; omega), z _ ⟨s.fr fs (by simp; omega), t.fr fs (by simp; omega), fs.at u (by simp; omega), o, ss ++ [(vs, W, O)], ?_, ?_, by simp; omega, by simp; omega⟩⟩
  · rw [at_set e]
    simp [sE]
  · intro p hp
    rcases List.mem_append.mp hp with hp | hp
    · exact r1 p hp
    · rw [List.mem_singleton.mp hp]
      exact b
end
def chainV (m : Nat) : List Vl := ⟨"in", .inl "x0"⟩ :: (List.range m).map fun j => ⟨"f", .inr [j]⟩
theorem chain_va (m : Nat) : VAs (chainV m) ∧ Shs (chainV m) := by
  refine ⟨fun i v hv => ?_, fun v hv => ?_⟩
  · cases i with
    | zero =>
      have : (⟨"in", .inl "x0"⟩ : Vl) = v := by simpa [chainV] using hv
      subst this
      exact va_in _ _
    | succ i =>
      unfold chainV at hv
      rw [List.getElem?_cons_succ] at hv
      obtain ⟨j, hj, rfl⟩ := mp_inv hv
      obtain ⟨a, b⟩ := List.getElem?_eq_some_iff.mp hj
      have : j = i := by simpa using b.symm
      subst this
      exact .inr ⟨show ("f" : Str) ≠ "in" by decide +kernel, [j], rfl, by simp, by simp, by simp⟩
  · rcases List.mem_cons.mp hv with rfl | hv
    · exact ⟨in_len, fun s e => by cases e; decide +kernel⟩
    · obtain ⟨j, _, rfl⟩ := List.mem_map.mp hv
      exact ⟨show ("f" : Str).length ≤ 100 by decide +kernel, fun s e => by cases e⟩
theorem ins_va {ss : List Str} (h : ∀ s, s ∈ ss → s.length ≤ 100) : VAs (ss.map fun s => ⟨"in", .inl s⟩) ∧ Shs (ss.map fun s => ⟨"in", .inl s⟩) := by
  refine ⟨fun i v hv => ?_, fun v hv => ?_⟩
  · obtain ⟨s, _, rfl⟩ := mp_inv hv
    exact va_in _ _
  · obtain ⟨s, hs, rfl⟩ := List.mem_map.mp hv
    exact ⟨in_len, fun t e => by cases e; exact h s hs⟩
end WD
end
section
set_option Elab.async false
set_option linter.all false
set_option maxRecDepth 100000
set_option autoImplicit false
set_option maxHeartbeats 8000000
set_option pp.maxSteps 600
namespace WD
open PySem PySem.Spec PyProof.Rows L2
theorem sub_to {i j r : Int} {h : PH} {q : QV} (e : i - j = r) (k : q (.int r) h) : binS .Sub (.int i) (.int j) h q := by
  subst e
  exact k
theorem pure_law : PureLaw ds 40 1018 := by
  intro ns hns _
  refine den_call (F := ir_p_law) (by rfl) rfl ?_
  refine cut_nx (fun ς h' => ∃ l, ς = [some (.rol (ns.map .int)), some (.loc l), none, none, none, none, none, none, none, none, none, none, none, none, none] ∧ Ml h' l 0) ?_ ?_
  · exact ⟨_, rfl, mill_ok hns fun h1 s1 f1 => ⟨_, rfl, s1⟩⟩
  rintro ς h0 ⟨l, rfl, s0⟩
  refine ⟨Nat.le_of_ble_eq_true rfl, ?_⟩
  have ll := s0.lt
  have et : (h0 ++ [PO.lst [PV.int 0, PV.int 0]])[h0.length]? = some (.lst [.int 0, .int 0]) := at_new
  have s1 := s0.fr (Fr.app (S := []) (o := PO.lst [PV.int 0, PV.int 0])) (by simp)
  refine ⟨_, rfl, _, rfl, ?_⟩
  refine hand_ok (n := 37) s1 (by omega) fun vs h2 L2 e2 nL2 l4 l12 va sh fo3 fn s2 f2 => ?_
  refine whole_ok (n := 37) (most := 4) s2 (by omega) rfl (by omega) nL2 e2 (by omega) fun W O h3 s3 f3 => ?_
  have et3 := f3.at (f2.at et (by simp; omega)) (by simp; omega)
  refine ⟨_, rfl, ?_⟩
  refine grind_ok s3 (by omega) (by omega) (by omega) fun fst h4 hfst s4 f4 => ?_
  have et4 := f4.at et3 (by simp; omega)
  have hf : fst < vs.length := by omega
  refine ⟨_, rfl, _, _, _, _, rfl, rfl, rfl, rfl, _, rfl, ?_⟩
  refine law_users_ok (n := 38) va (by omega) fun h5 f5 e5 => ?_
  have ul := users_le (vs := vs) (v := fst)
  have lt4 := at_lt et4
  have et5 := f5.at et4 (by simp)
  have s5 := s4.fr f5 (by simp)
  refine ⟨_, rfl, _, _, _, _, rfl, rfl, rfl, rfl, ?_⟩
  refine law_depths_ok (n := 38) va (by omega) fun D h6 hD hDl f6 e6 => ?_
  have et6 := f6.at et5 (by simp)
  have s6 := s5.fr f6 (by simp)
  have u6 := f6.at e5 (by simp)
  have l45 := at_lt e5
  have hgD : D[fst]? = some (D.getD fst 0) := getD_at (by omega)
  refine ⟨_, rfl, _, e6, _, _, _, rfl, ixP_nat (by simp; omega), mp_get hgD, ?_⟩
  refine ⟨_, rfl, _, rfl, _, rfl, ?_⟩
  refine at_ok (n := 33) va (by omega) hf hD hDl fun h7 f7 => ⟨_, rfl, ite_f rfl ?_⟩
  have et7 := f7.at et6 (by simp)
  refine ⟨_, rfl, Nat.le_of_ble_eq_true rfl, _, rfl, ?_⟩
  refine sought_ok (n := 37) (o := .inr [1]) (by omega) et7 fun a1 b1 h8 e8 ha1 hb1 _ hs1 f8 => ⟨_, rfl, ite_f rfl ?_⟩
  have ha1' := hs1 3 fo3
  refine ⟨_, rfl, Nat.le_of_ble_eq_true rfl, _, rfl, ?_⟩
  refine sought_ok (n := 37) (o := .inr [2]) (by omega) e8 fun a2 b2 h9 e9 ha2 hb2 hn2 _ f9 => ⟨_, rfl, ite_f rfl ?_⟩
  have hb2' := hn2 fn
  refine ⟨_, rfl, _, rfl, ?_⟩
  refine sought_ok (n := 37) (o := .inl "f") (by omega) e9 fun a3 b3 h10 e10 ha3 hb3 _ _ f10 => ⟨_, rfl, ite_f rfl ?_⟩
  have f710 : Fr [h0.length] h7 h10 := (f8.trans f9).trans f10
  have s10 := (s6.fr f7 (by simp)).fr f710 (by simp; omega)
  have ty10 : Ty h10 h0.length 1 1 := ⟨a3, b3, e10, by omega, by omega⟩
  have u10 := f710.at (f7.at u6 (by simp)) (by simp; omega)
  have l10 : h4.length < h10.length := at_lt u10
  -- chain
  refine ⟨Nat.le_of_ble_eq_true rfl, Nat.le_of_ble_eq_true rfl, _, rfl, ?_⟩
  refine grind_ok s10 (by omega) (by omega) (by omega) fun r1 h11 hr1 s11 f11 => ?_
  have ty11 := ty10.fr f11 (by simp; omega)
  have u11 := f11.at u10 (by simp; omega)
  refine ⟨_, rfl, by omega, by omega, ?_⟩
  rw [toNat_nat]
  have comp1 : ∀ (m : Nat) (i : Nat) (hh : PH) (c : List PV), c = ((List.range i).map fun j => (⟨"f", .inr [j]⟩ : Vl)).map Vl.enc → c ++ [PV.tup [.str "f", .tup [.int (0 + (i : Int))]]] = ((List.range (i + 1)).map fun j => (⟨"f", .inr [j]⟩ : Vl)).map Vl.enc := fun m i hh c e => by
    rw [e, List.range_succ]
    simp [Vl.enc, oE, ni]
  refine cmp_inv0 (fun i acc h' => h' = h11 ∧ acc = ((List.range i).map fun j => (⟨"f", .inr [j]⟩ : Vl)).map Vl.enc) ⟨rfl, rfl⟩ (fun _ _ _ _ => trivial) ?_ ?_
  · rintro i y acc h' kc hy ⟨rfl, rfl⟩ hkc
    obtain ⟨hi, rfl⟩ := range_get hy
    exact ⟨_, rfl, Nat.le_of_ble_eq_true rfl, Nat.le_of_ble_eq_true rfl, szl (by simp; omega), hkc _ _ ⟨rfl, comp1 0 i h' _ rfl⟩⟩
  rintro acc h' ⟨rfl, rfl⟩
  rw [rangeL_length]
  refine ⟨_, _, rfl, rfl, sz (by simp; omega), ?_⟩
  have e7 : (h' ++ [PO.lst ((chainV r1).map Vl.enc)])[h'.length]? = some (.lst ((chainV r1).map Vl.enc)) := at_new
  have s12 := s11.fr (Fr.app (S := []) (o := PO.lst ((chainV r1).map Vl.enc))) (by simp)
  have ty12 := ty11.fr (Fr.app (S := []) (o := PO.lst ((chainV r1).map Vl.enc))) (by simp)
  have u12 := at_app (p := PO.lst ((chainV r1).map Vl.enc)) u11
  have l11 := at_lt u11
  -- alone
  refine ⟨_, rfl, ?_⟩
  refine grind_ok s12 (by omega) (by omega) (by omega) fun r2 h13 hr2 s13 f13 => ?_
  have e73 := f13.at e7 (by simp; omega)
  have ty13 := ty12.fr f13 (by simp; omega)
  have u13 := f13.at u12 (by simp; omega)
  refine ⟨_, rfl, by omega, by omega, ?_⟩
  have en : ((1 : Int) + (r2 : Int)).toNat = 1 + r2 := by omega
  rw [en]
  refine cmp_inv0 (fun i acc h' => h' = h13 ∧ ∃ ss : List Str, acc = (ss.map fun s => (⟨"in", .inl s⟩ : Vl)).map Vl.enc ∧ ss.length = i ∧ ∀ s, s ∈ ss → s.length ≤ 100) ⟨rfl, [], rfl, rfl, by simp⟩ (fun _ _ _ _ => trivial) ?_ ?_
  · rintro i y acc h' kc hy ⟨rfl, ss, rfl, sl, sb⟩ hkc
    obtain ⟨hi, rfl⟩ := range_get hy
    refine ⟨_, rfl, Nat.zero_le _, ?_⟩
    refine input_ok (k := i) (m := 2) (by omega) rfl (by omega) (by omega) (fun z => absurd z (by omega)) fun st hst => ?_
    refine ⟨szl (by simp; omega), hkc _ _ ⟨rfl, ss ++ [st], by simp, by simp [sl], fun s hs => ?_⟩⟩
    rcases List.mem_append.mp hs with hs | hs
    · exact sb s hs
    · rw [List.mem_singleton.mp hs]
      exact hst
  rintro acc hh ⟨rfl, ss, rfl, sl, sb⟩
  rw [rangeL_length] at sl
  obtain ⟨iv1, iv2⟩ := ins_va sb
  have e8' : (hh ++ [PO.lst ((ss.map fun s => (⟨"in", .inl s⟩ : Vl)).map Vl.enc)])[hh.length]? = some (.lst ((ss.map fun s => (⟨"in", .inl s⟩ : Vl)).map Vl.enc)) := at_new
  have e74 := at_app (p := PO.lst ((ss.map fun s => (⟨"in", .inl s⟩ : Vl)).map Vl.enc)) e73
  have s14 := s13.fr (Fr.app (S := []) (o := PO.lst ((ss.map fun s => (⟨"in", .inl s⟩ : Vl)).map Vl.enc))) (by simp)
  have ty14 := ty13.fr (Fr.app (S := []) (o := PO.lst ((ss.map fun s => (⟨"in", .inl s⟩ : Vl)).map Vl.enc))) (by simp)
  have u14 := at_app (p := PO.lst ((ss.map fun s => (⟨"in", .inl s⟩ : Vl)).map Vl.enc)) u13
  have l13 := at_lt e73
  have cl : (chainV r1).length ≤ 10 := by unfold chainV; simp; omega
  obtain ⟨cv1, cv2⟩ := chain_va r1
  have isl : (ss.map fun s => (⟨"in", .inl s⟩ : Vl)).length ≤ 10 := by simp; omega
  refine ⟨_, rfl, _, rfl, _, rfl, ?_⟩
  refine whole_ok (n := 37) (most := 3) s14 (by omega) rfl (by omega) (by omega) e74 (by omega) fun W1 O1 h15 s15 f15 => ?_
  have e85 := f15.at e8' (by simp; omega)
  refine ⟨_, rfl, _, rfl, ?_⟩
  refine whole_ok (n := 37) (most := 3) s15 (by omega) rfl (by omega) (by omega) e85 (by omega) fun W2 O2 h16 s16 f16 => ?_
  refine ⟨Nat.zero_le _, Nat.zero_le _, Nat.zero_le _, Nat.le_of_ble_eq_true rfl, Nat.le_of_ble_eq_true rfl, ?_⟩
  have ty16 := (ty14.fr f15 (by simp; omega)).fr f16 (by simp; omega)
  have u16 := f16.at (f15.at u14 (by simp; omega)) (by simp; omega)
  have l16 := at_lt u16
  have oks : ∀ s, s ∈ ([(vs, W, O), (chainV r1, W1, O1), (ss.map fun s => (⟨"in", .inl s⟩ : Vl), W2, O2), ([], .tup [], .tup [])] : List Sc) → ScOk s := by
    intro s hs
    simp only [List.mem_cons, List.not_mem_nil, or_false] at hs
    rcases hs with rfl | rfl | rfl | rfl
    · exact ⟨va, sh, by show vs.length ≤ 1000; omega⟩
    · exact ⟨cv1, cv2, by show (chainV r1).length ≤ 1000; omega⟩
    · exact ⟨iv1, iv2, by show (ss.map fun s => (⟨"in", .inl s⟩ : Vl)).length ≤ 1000; omega⟩
    · exact ⟨fun i v hv => by simp at hv, fun v hv => (by cases hv), Nat.zero_le _⟩
  have j17 : Jw l h0.length h4.length h16.length 20000 4 (usersF vs fst vs.length) (h16 ++ [PO.lst (([(vs, W, O), (chainV r1, W1, O1), (ss.map fun s => (⟨"in", .inl s⟩ : Vl), W2, O2), ([], .tup [], .tup [])] : List Sc).map sE)]) :=
    ⟨(s16.fr (Fr.app (S := [])) (by simp)).mono (by omega), ty16.fr (Fr.app (S := [])) (by simp), at_app u16, ⟨ll, lt4, l16⟩, _, at_new, oks, Nat.le_refl _, Nat.le_refl _⟩
  -- three
  refine ⟨_, rfl, by omega, by omega, ?_⟩
  refine for_inv (fun i ς hx => (∃ a10 a11 a12 a13 a14, ς = [some (.rol (ns.map .int)), some (.loc l), some (.loc h0.length), some (scr vs W O), some (ni fst), some (.loc h4.length), some (.int (D.getD fst 0)), some (.loc h'.length), some (.loc hh.length), some (.loc h16.length), a10, a11, a12, a13, a14]) ∧ Jw l h0.length h4.length h16.length (20000 + 10000 * i) (4 + i) (usersF vs fst vs.length) hx) ⟨⟨none, none, none, none, none, rfl⟩, j17⟩ (fun _ _ _ _ => trivial) ?_ ?_
  · rintro i y ς hA kk hy ⟨⟨a10, a11, a12, a13, a14, rfl⟩, jA⟩ hkk
    obtain ⟨hi, rfl⟩ := range_get hy
    have hi3 : i < 3 := hi
    refine ⟨_, rfl, ?_⟩
    refine grind_ok jA.ml (by omega) (by omega) (by omega) fun q1 hB hq1 sB fB => ?_
    have jB := jA.fr sB fB
    refine ⟨mulX (by omega) (by omega), _, rfl, jB.obj, _, rfl, _, rfl, _, rfl, ?_⟩
    refine grind_ok sB (by omega) (by omega) (by omega) fun q2 hC hq2 sC fC => ?_
    refine ⟨_, rfl, ?_⟩
    refine grind_ok sC (by omega) (by omega) (by omega) fun q3 hD' hq3 sD fD => ?_
    have jD := (jB.fr sC fC).fr sD fD
    refine ⟨_, rfl, ?_⟩
    refine made_ok (n := 36) (m := 2 + q2) sD (by omega) (by omega) (by omega) (by omega) fun vg hE Lg eg hLg lg vag shg sE' fE => ?_
    have jE := jD.fr sE' fE
    have ng : Lg ≠ l := by have := sD.lt; omega
    refine whole_ok (n := 37) (most := 4) sE' (by omega) rfl (by omega) ng eg (by omega) fun Wg Og hF sF fF => ?_
    refine (jE.fr sF fF).push (by omega) ⟨vag, shg, by show vg.length ≤ 1000; omega⟩ fun hG jG => ?_
    exact hkk _ _ ⟨⟨_, _, _, _, _, rfl⟩, jG.mono (by omega) (by omega)⟩
  rintro ς hA ⟨⟨a10, a11, a12, a13, a14, rfl⟩, jA⟩
  rw [rangeL_length] at jA
  replace jA : Jw l h0.length h4.length h16.length 50000 7 (usersF vs fst vs.length) hA := jA
  refine cut_nx (fun ς hx => (∃ a10 a11 a12 a13 a14, ς = [some (.rol (ns.map .int)), some (.loc l), some (.loc h0.length), some (scr vs W O), some (ni fst), some (.loc h4.length), some (.int (D.getD fst 0)), some (.loc h'.length), some (.loc hh.length), some (.loc h16.length), a10, a11, a12, a13, a14]) ∧ Jw l h0.length h4.length h16.length 80000 8 (usersF vs fst vs.length) hx) ?_ ?_
  · refine ⟨_, rfl, ?_⟩
    refine grind_ok jA.ml (by omega) (by omega) (by omega) fun q1 hB hq1 sB fB => ?_
    have jB := jA.fr sB fB
    refine .inl ⟨rfl, ite_b (fun _ => ?_) (fun _ => ⟨⟨_, _, _, _, _, rfl⟩, jB.mono (by omega) (by omega)⟩)⟩
    refine ⟨_, rfl, ?_⟩
    refine grind_ok sB (by omega) (by omega) (by omega) fun q2 hC hq2 sC fC => ?_
    refine ⟨_, rfl, ?_⟩
    refine grind_ok sC (by omega) (by omega) (by omega) fun q3 hD' hq3 sD fD => ?_
    have jD := (jB.fr sC fC).fr sD fD
    refine ⟨mulX (by omega) (by omega), ?_⟩
    obtain ⟨m, em, m1, m2⟩ : ∃ m : Nat, (100 : Int) - (q2 : Int) * (q3 : Int) = (m : Int) ∧ 2 ≤ m ∧ m ≤ 100 := by
      have : q2 = 0 ∨ q2 = 1 ∨ q2 = 2 := by omega
      rcases this with rfl | rfl | rfl
      · exact ⟨100, by simp, by omega, by omega⟩
      · exact ⟨100 - q3, by omega, by omega, by omega⟩
      · exact ⟨100 - 2 * q3, by omega, by omega, by omega⟩
    refine sub_to em ?_
    refine ⟨Nat.le_of_ble_eq_true rfl, Nat.le_of_ble_eq_true rfl, _, rfl, _, rfl, by omega, by omega, ?_⟩
    have e1 : ((m : Int) - 1).toNat = m - 1 := by omega
    rw [e1]
    refine cmp_inv0 (fun i acc h' => h' = hD' ∧ acc = ((List.range i).map fun j => (⟨"f", .inr [j]⟩ : Vl)).map Vl.enc) ⟨rfl, rfl⟩ (fun _ _ _ _ => trivial) ?_ ?_
    · rintro i y acc h' kc hy ⟨rfl, rfl⟩ hkc
      obtain ⟨hi, rfl⟩ := range_get hy
      exact ⟨_, rfl, Nat.le_of_ble_eq_true rfl, Nat.le_of_ble_eq_true rfl, szl (by simp; omega), hkc _ _ ⟨rfl, comp1 0 i h' _ rfl⟩⟩
    rintro acc hD2 ⟨rfl, rfl⟩
    rw [rangeL_length]
    refine ⟨_, _, rfl, rfl, sz (by simp; omega), ?_⟩
    have eC : (hD2 ++ [PO.lst ((chainV (m - 1)).map Vl.enc)])[hD2.length]? = some (.lst ((chainV (m - 1)).map Vl.enc)) := at_new
    have jE := jD.app (o := PO.lst ((chainV (m - 1)).map Vl.enc))
    have lD := sD.lt
    refine set_go ?_
    refine cut_nx (fun ς hx => (∃ (vg : List Vl) (Lg : Nat) (a10 a11 a12 a13 : Option PV), ς = [some (.rol (ns.map .int)), some (.loc l), some (.loc h0.length), some (scr vs W O), some (ni fst), some (.loc h4.length), some (.int (D.getD fst 0)), some (.loc h'.length), some (.loc hh.length), some (.loc h16.length), a10, a11, a12, a13, some (.loc Lg)] ∧ hx[Lg]? = some (.lst (vg.map Vl.enc)) ∧ Lg ≠ l ∧ vg.length ≤ 100 ∧ VAs vg ∧ Shs vg) ∧ Jw l h0.length h4.length h16.length 70000 7 (usersF vs fst vs.length) hx) ?_ ?_
    · refine ⟨_, rfl, ?_⟩
      refine grind_ok jE.ml (by omega) (by omega) (by omega) fun q4 hF hq4 sF fF => ?_
      have jF := jE.fr sF fF
      refine .inl ⟨rfl, ite_b (fun _ => ?_) (fun _ => ?_)⟩
      · refine ⟨_, rfl, _, rfl, _, rfl, ?_⟩
        refine grind_ok sF (by omega) (by omega) (by omega) fun q5 hG hq5 sG fG => ?_
        refine ⟨mulX (by omega) (by omega), ?_⟩
        refine made_ok (n := 36) (m := m) sG (by omega) rfl (by omega) (by omega) fun vg hH Lg eg hLg lg vag shg sH fH => ?_
        exact ⟨⟨vg, Lg, _, _, _, _, rfl, eg, by have := sG.lt; omega, by omega, vag, shg⟩, ((jF.fr sG fG).fr sH fH).mono (by omega) (by omega)⟩
      · refine ⟨⟨chainV (m - 1), hD2.length, _, _, _, _, rfl, fF.at eC (by simp; omega), by omega, ?_, (chain_va _).1, (chain_va _).2⟩, jF.mono (by omega) (by omega)⟩
        unfold chainV
        simp
        omega
    rintro ς hF ⟨⟨vg, Lg, b10, b11, b12, b13, rfl, eg, ng, lg, vag, shg⟩, jF⟩
    refine ⟨_, rfl, jF.obj, _, rfl, _, rfl, ?_⟩
    refine whole_ok (n := 37) (most := 40) jF.ml (by omega) rfl (by omega) ng eg (by omega) fun Wg Og hG sG fG => ?_
    refine (jF.fr sG fG).push (by omega) ⟨vag, shg, by show vg.length ≤ 1000; omega⟩ fun hH jH => ?_
    exact ⟨⟨_, _, _, _, _, rfl⟩, jH.mono (by omega) (by omega)⟩
  rintro ς hB ⟨⟨a10, a11, a12, a13, a14, rfl⟩, jB⟩
  obtain ⟨scs, eS, okS, l4S, l8S⟩ := jB.ss
  have ord := jB.ord
  refine ⟨_, rfl, .inl ⟨_, gL eS, ?_⟩⟩
  refine for_inv (fun i ς hx => (∃ a11, ς = [some (.rol (ns.map .int)), some (.loc l), some (.loc h0.length), some (scr vs W O), some (ni fst), some (.loc h4.length), some (.int (D.getD fst 0)), some (.loc h'.length), some (.loc hh.length), some (.loc h16.length), a10, a11, a12, a13, a14]) ∧ Ml hx l (80000 + 3000 * i) ∧ Ty hx h0.length 1 1 ∧ Fr [l, h0.length] hB hx) ⟨⟨_, rfl⟩, jB.ml, jB.ty, Fr.refl⟩ (fun _ _ _ hi => gL (hi.2.2.2.at eS (by simp; omega))) ?_ ?_
  · rintro i y ς hC kk hy ⟨⟨a11, rfl⟩, sC, tC, fC⟩ hkk
    obtain ⟨sc, hsc, rfl⟩ := mp_inv hy
    have := get_lt hsc
    obtain ⟨o1, o2, o3⟩ := okS sc (List.mem_of_getElem? hsc)
    refine ⟨_, rfl, _, rfl, _, rfl, ?_⟩
    refine asked_ok (n := 32) o1 o2 o3 sC (by omega) (by omega) tC fun hD' tD sD fD => ⟨_, rfl, ite_f rfl ?_⟩
    exact hkk _ _ ⟨⟨_, rfl⟩, sD.mono (by omega), tD, fC.trans fD⟩
  rintro ς hC ⟨⟨a11, rfl⟩, sC, tC, fC⟩
  rw [List.length_map] at sC
  have eSC := fC.at eS (by simp; omega)
  have uC := fC.at jB.us (by simp; omega)
  -- barred
  refine ⟨_, rfl, _, rfl, _, rfl, ?_⟩
  refine grind_ok sC (by omega) (by omega) (by omega) fun q1 hD' hq1 sD fD => ?_
  have eSD := fD.at eSC (by simp; omega)
  have uD := fD.at uC (by simp; omega)
  have tD := tC.fr fD (by simp; omega)
  have gq : scs[q1]? = some (scs.getD q1 ([], .non, .non)) := getD_at (by omega)
  have oq := okS _ (List.mem_of_getElem? gq)
  refine ⟨_, eSD, _, _, _, rfl, ixP_nat (by simp; omega), mp_get gq, ?_⟩
  refine barred_ok (n := 32) oq.2.2 sD (by omega) fun hE sE' fE => ⟨_, rfl, ite_f rfl ?_⟩
  have uE := fE.at uD (by simp; omega)
  have tE := tD.fr fE (by simp; omega)
  refine ⟨_, rfl, _, rfl, ?_⟩
  refine depth_ok (n := 34) va (by omega) hf hD hDl fun hF fF => ⟨_, rfl, ?_⟩
  refine like_ok (n := 38) (.inr ⟨_, rfl⟩) ⟨_, rfl, ite_f rfl ?_⟩
  refine ⟨_, rfl, _, rfl, ?_⟩
  refine users_ok (n := 34) va (by omega) hf ⟨_, rfl, ?_⟩
  refine row_ok (n := 37) (by omega) (fF.at uE (by simp)) ⟨_, rfl, ite_f rfl ?_⟩
  obtain ⟨a', b', e', ha', hb'⟩ := tE.fr fF (by simp)
  refine ⟨_, rfl, _, e', _, _, _, rfl, rfl, rfl, _, _, rfl, rfl, _, rfl, ite_t (decide_eq_true (by omega)) ?_⟩
  refine ⟨_, rfl, _, e', _, _, _, rfl, rfl, rfl, _, _, rfl, rfl, ?_⟩
  rw [decide_eq_true (by omega)]
end WD
end
set_option Elab.async false
set_option maxRecDepth 100000
set_option maxHeartbeats 40000000
set_option linter.all false
namespace WD
open PySem PySem.Spec PyProof.Rows L2
theorem ok_p_operands_of : DOk ds me 138 de_p_operands_of := ⟨⟨rfl, rfl, rfl, by decide +kernel, rfl, by decide +kernel, by decide +kernel⟩, by kernel_rfl, rfl, rfl, (fun _ _ _ _ _ _ us hl => match us, hl with | [_, _], _ => rfl), no_kbind (by rfl), by rfl⟩
theorem ok_p_is_integer : DOk ds me 142 de_p_is_integer := ⟨⟨rfl, rfl, rfl, by decide +kernel, rfl, by decide +kernel, by decide +kernel⟩, by kernel_rfl, rfl, rfl, (fun _ _ _ _ _ _ us hl => match us, hl with | [_], _ => rfl), no_kbind (by rfl), by rfl⟩
theorem ok_p_is_number : DOk ds me 143 de_p_is_number := ⟨⟨rfl, rfl, rfl, by decide +kernel, rfl, by decide +kernel, by decide +kernel⟩, by kernel_rfl, rfl, rfl, (fun _ _ _ _ _ _ us hl => match us, hl with | [_], _ => rfl), no_kbind (by rfl), by rfl⟩
theorem ok_p_is_below : DOk ds me 144 de_p_is_below := ⟨⟨rfl, rfl, rfl, by decide +kernel, rfl, by decide +kernel, by decide +kernel⟩, by kernel_rfl, rfl, rfl, (fun _ _ _ _ _ _ us hl => match us, hl with | [_, _], _ => rfl), no_kbind (by rfl), by rfl⟩
theorem ok_p_check_value : DOk ds me 198 de_p_check_value := ⟨⟨rfl, rfl, rfl, by decide +kernel, rfl, by decide +kernel, by decide +kernel⟩, by kernel_rfl, rfl, rfl, (fun _ _ _ _ _ _ us hl => match us, hl with | [_, _], _ => rfl), no_kbind (by rfl), by rfl⟩
theorem ok_p_users_of : DOk ds me 199 de_p_users_of := ⟨⟨rfl, rfl, rfl, by decide +kernel, rfl, by decide +kernel, by decide +kernel⟩, by kernel_rfl, rfl, rfl, (fun _ _ _ _ _ _ us hl => match us, hl with | [_, _], _ => rfl), no_kbind (by rfl), by rfl⟩
theorem ok_p_inputs_of : DOk ds me 200 de_p_inputs_of := ⟨⟨rfl, rfl, rfl, by decide +kernel, rfl, by decide +kernel, by decide +kernel⟩, by kernel_rfl, rfl, rfl, (fun _ _ _ _ _ _ us hl => match us, hl with | [_], _ => rfl), no_kbind (by rfl), by rfl⟩
theorem ok_p_depth_of : DOk ds me 201 de_p_depth_of := ⟨⟨rfl, rfl, rfl, by decide +kernel, rfl, by decide +kernel, by decide +kernel⟩, by kernel_rfl, rfl, rfl, (fun _ _ _ _ _ _ us hl => match us, hl with | [_, _], _ => rfl), no_kbind (by rfl), by rfl⟩
theorem ok_p_value_of : DOk ds me 202 de_p_value_of := ⟨⟨rfl, rfl, rfl, by decide +kernel, rfl, by decide +kernel, by decide +kernel⟩, by kernel_rfl, rfl, rfl, (fun _ _ _ _ _ _ us hl => match us, hl with | [_, _, _], _ => rfl), no_kbind (by rfl), by rfl⟩
theorem ok_f_law_mill : DOk ds me 1000 de_f_law_mill := ⟨⟨rfl, rfl, rfl, by decide +kernel, rfl, by decide +kernel, by decide +kernel⟩, by kernel_rfl, rfl, rfl, (fun _ _ _ _ _ _ us hl => match us, hl with | [_], _ => rfl), no_kbind (by rfl), by rfl⟩
theorem ok_f_law_grind : DOk ds me 1001 de_f_law_grind := ⟨⟨rfl, rfl, rfl, by decide +kernel, rfl, by decide +kernel, by decide +kernel⟩, by kernel_rfl, rfl, rfl, (fun _ _ _ _ _ _ us hl => match us, hl with | [_, _], _ => rfl), no_kbind (by rfl), by rfl⟩
theorem ok_f_law_words : DOk ds me 1002 de_f_law_words := ⟨⟨rfl, rfl, rfl, by decide +kernel, rfl, by decide +kernel, by decide +kernel⟩, by kernel_rfl, rfl, rfl, (fun _ _ _ _ _ _ us hl => match us, hl with | [_], _ => rfl), no_kbind (by rfl), by rfl⟩
theorem ok_f_law_input : DOk ds me 1003 de_f_law_input := ⟨⟨rfl, rfl, rfl, by decide +kernel, rfl, by decide +kernel, by decide +kernel⟩, by kernel_rfl, rfl, rfl, (fun _ _ _ _ _ _ us hl => match us, hl with | [_, _, _], _ => rfl), no_kbind (by rfl), by rfl⟩
theorem ok_f_law_made : DOk ds me 1004 de_f_law_made := ⟨⟨rfl, rfl, rfl, by decide +kernel, rfl, by decide +kernel, by decide +kernel⟩, by kernel_rfl, rfl, rfl, (fun _ _ _ _ _ _ us hl => match us, hl with | [_, _, _, _], _ => rfl), no_kbind (by rfl), by rfl⟩
theorem ok_f_law_whole : DOk ds me 1005 de_f_law_whole := ⟨⟨rfl, rfl, rfl, by decide +kernel, rfl, by decide +kernel, by decide +kernel⟩, by kernel_rfl, rfl, rfl, (fun _ _ _ _ _ _ us hl => match us, hl with | [_, _, _], _ => rfl), no_kbind (by rfl), by rfl⟩
theorem ok_f_law_users : DOk ds me 1006 de_f_law_users := ⟨⟨rfl, rfl, rfl, by decide +kernel, rfl, by decide +kernel, by decide +kernel⟩, by kernel_rfl, rfl, rfl, (fun _ _ _ _ _ _ us hl => match us, hl with | [_, _], _ => rfl), no_kbind (by rfl), by rfl⟩
theorem ok_f_law_depths : DOk ds me 1007 de_f_law_depths := ⟨⟨rfl, rfl, rfl, by decide +kernel, rfl, by decide +kernel, by decide +kernel⟩, by kernel_rfl, rfl, rfl, (fun _ _ _ _ _ _ us hl => match us, hl with | [_], _ => rfl), no_kbind (by rfl), by rfl⟩
theorem ok_f_law_found : DOk ds me 1008 de_f_law_found := ⟨⟨rfl, rfl, rfl, by decide +kernel, rfl, by decide +kernel, by decide +kernel⟩, by kernel_rfl, rfl, rfl, (fun _ _ _ _ _ _ us hl => match us, hl with | [_, _, _], _ => rfl), no_kbind (by rfl), by rfl⟩
theorem ok_f_law_like : DOk ds me 1009 de_f_law_like := ⟨⟨rfl, rfl, rfl, by decide +kernel, rfl, by decide +kernel, by decide +kernel⟩, by kernel_rfl, rfl, rfl, (fun _ _ _ _ _ _ us hl => match us, hl with | [_, _], _ => rfl), no_kbind (by rfl), by rfl⟩
theorem ok_f_law_row : DOk ds me 1010 de_f_law_row := ⟨⟨rfl, rfl, rfl, by decide +kernel, rfl, by decide +kernel, by decide +kernel⟩, by kernel_rfl, rfl, rfl, (fun _ _ _ _ _ _ us hl => match us, hl with | [_, _], _ => rfl), no_kbind (by rfl), by rfl⟩
theorem ok_f_law_at : DOk ds me 1011 de_f_law_at := ⟨⟨rfl, rfl, rfl, by decide +kernel, rfl, by decide +kernel, by decide +kernel⟩, by kernel_rfl, rfl, rfl, (fun _ _ _ _ _ _ us hl => match us, hl with | [_, _, _], _ => rfl), no_kbind (by rfl), by rfl⟩
theorem ok_f_law_sought : DOk ds me 1012 de_f_law_sought := ⟨⟨rfl, rfl, rfl, by decide +kernel, rfl, by decide +kernel, by decide +kernel⟩, by kernel_rfl, rfl, rfl, (fun _ _ _ _ _ _ us hl => match us, hl with | [_, _, _, _], _ => rfl), no_kbind (by rfl), by rfl⟩
theorem ok_f_law_missing : DOk ds me 1013 de_f_law_missing := ⟨⟨rfl, rfl, rfl, by decide +kernel, rfl, by decide +kernel, by decide +kernel⟩, by kernel_rfl, rfl, rfl, (fun _ _ _ _ _ _ us hl => match us, hl with | [_, _, _, _], _ => rfl), no_kbind (by rfl), by rfl⟩
theorem ok_f_law_asked : DOk ds me 1014 de_f_law_asked := ⟨⟨rfl, rfl, rfl, by decide +kernel, rfl, by decide +kernel, by decide +kernel⟩, by kernel_rfl, rfl, rfl, (fun _ _ _ _ _ _ us hl => match us, hl with | [_, _, _], _ => rfl), no_kbind (by rfl), by rfl⟩
theorem ok_f_law_refused : DOk ds me 1015 de_f_law_refused := ⟨⟨rfl, rfl, rfl, by decide +kernel, rfl, by decide +kernel, by decide +kernel⟩, by kernel_rfl, rfl, rfl, (fun _ _ _ _ _ _ us hl => match us, hl with | [_, _, _], _ => rfl), no_kbind (by rfl), by rfl⟩
theorem ok_f_law_barred : DOk ds me 1016 de_f_law_barred := ⟨⟨rfl, rfl, rfl, by decide +kernel, rfl, by decide +kernel, by decide +kernel⟩, by kernel_rfl, rfl, rfl, (fun _ _ _ _ _ _ us hl => match us, hl with | [_, _], _ => rfl), no_kbind (by rfl), by rfl⟩
theorem ok_f_law_hand : DOk ds me 1017 de_f_law_hand := ⟨⟨rfl, rfl, rfl, by decide +kernel, rfl, by decide +kernel, by decide +kernel⟩, by kernel_rfl, rfl, rfl, (fun _ _ _ _ _ _ us hl => match us, hl with | [_], _ => rfl), no_kbind (by rfl), by rfl⟩
theorem ok_p_law : DOk ds me 1018 de_p_law := ⟨⟨rfl, rfl, rfl, by decide +kernel, rfl, by decide +kernel, by decide +kernel⟩, by kernel_rfl, rfl, rfl, (fun _ _ _ _ _ _ us hl => match us, hl with | [_], _ => rfl), no_kbind (by rfl), by rfl⟩
theorem ok_all : ∀ p ∈ ds, DOk ds me p.1 p.2 := by
  intro p hp
  unfold ds at hp
  simp only [List.mem_cons, List.not_mem_nil, or_false] at hp
  rcases hp with rfl | rfl | rfl | rfl | rfl | rfl | rfl | rfl | rfl | rfl | rfl | rfl | rfl | rfl | rfl | rfl | rfl | rfl | rfl | rfl | rfl | rfl | rfl | rfl | rfl | rfl | rfl | rfl
  · exact ok_p_operands_of
  · exact ok_p_is_integer
  · exact ok_p_is_number
  · exact ok_p_is_below
  · exact ok_p_check_value
  · exact ok_p_users_of
  · exact ok_p_inputs_of
  · exact ok_p_depth_of
  · exact ok_p_value_of
  · exact ok_f_law_mill
  · exact ok_f_law_grind
  · exact ok_f_law_words
  · exact ok_f_law_input
  · exact ok_f_law_made
  · exact ok_f_law_whole
  · exact ok_f_law_users
  · exact ok_f_law_depths
  · exact ok_f_law_found
  · exact ok_f_law_like
  · exact ok_f_law_row
  · exact ok_f_law_at
  · exact ok_f_law_sought
  · exact ok_f_law_missing
  · exact ok_f_law_asked
  · exact ok_f_law_refused
  · exact ok_f_law_barred
  · exact ok_f_law_hand
  · exact ok_p_law
theorem xok_BadStep : XIOk xi_BadStep := ⟨⟨rfl, rfl, rfl, by decide +kernel, rfl, by decide +kernel, by decide +kernel⟩, by decide +kernel, by kernel_rfl, by decide, (fun _ _ _ _ _ _ us hl => match us, hl with | [_, _], _ => rfl)⟩
theorem xok_all : ∀ i ∈ me.xi, XIOk i := by
  intro i hi
  simp only [me, List.mem_cons, List.not_mem_nil, or_false] at hi
  rcases hi with rfl
  · exact xok_BadStep
abbrev R : PySem.W.OpenRow := PySem.W.OpenLaw.row PySem.Challenge.rw_whateverdrops_k10_looks_at_scripts
abbrev hk : PySem.W.Hook := He.hookX 4 (fasOf ds fr) (fnsAll ds me) (tsOf me) [] (exOf me)
def ob (s : PySem.W.SharedT) : He.AlX := He.obsX 4 (fasOf ds fr) (fnsAll ds me) (tsOf me) [] (exOf me) (HandSHeadRun.getT s)
theorem ob_eq (s : PySem.W.SharedT) : ob s = hk.obs s.abs := He.obsX_eq (HandSHeadRun.getT_eq s)
theorem run_false (w : World) : HandSHeadRun.RunEq R (PySem.W.view R.prog [35]) hk ob 4000 ["DropError", "CallError", "BadStep", "operands_of", "is_integer", "is_number", "is_below", "check_value", "users_of", "inputs_of", "depth_of", "value_of", "_law_mill", "_law_grind", "_law_words", "_law_input", "_law_made", "_law_whole", "_law_users", "_law_depths", "_law_found", "_law_like", "_law_row", "_law_at", "_law_sought", "_law_missing", "_law_asked", "_law_refused", "_law_barred", "_law_hand"] (w.withFollow "special-get-raises" false) := by
  intro os
  kernel_rfl
theorem run_true (w : World) : HandSHeadRun.RunEq R (PySem.W.view R.prog [35]) hk ob 4000 ["DropError", "CallError", "BadStep", "operands_of", "is_integer", "is_number", "is_below", "check_value", "users_of", "inputs_of", "depth_of", "value_of", "_law_mill", "_law_grind", "_law_words", "_law_input", "_law_made", "_law_whole", "_law_users", "_law_depths", "_law_found", "_law_like", "_law_row", "_law_at", "_law_sought", "_law_missing", "_law_asked", "_law_refused", "_law_barred", "_law_hand"] (w.withFollow "special-get-raises" true) := by
  intro os
  kernel_rfl
theorem run (w : World) : HandSHeadRun.RunEq R (PySem.W.view R.prog [35]) hk ob 4000 ["DropError", "CallError", "BadStep", "operands_of", "is_integer", "is_number", "is_below", "check_value", "users_of", "inputs_of", "depth_of", "value_of", "_law_mill", "_law_grind", "_law_words", "_law_input", "_law_made", "_law_whole", "_law_users", "_law_depths", "_law_found", "_law_like", "_law_row", "_law_at", "_law_sought", "_law_missing", "_law_asked", "_law_refused", "_law_barred", "_law_hand"] w := PySem.W.byRow2 "special-get-raises" (P := fun w => HandSHeadRun.RunEq R (PySem.W.view R.prog [35]) hk ob 4000 ["DropError", "CallError", "BadStep", "operands_of", "is_integer", "is_number", "is_below", "check_value", "users_of", "inputs_of", "depth_of", "value_of", "_law_mill", "_law_grind", "_law_words", "_law_input", "_law_made", "_law_whole", "_law_users", "_law_depths", "_law_found", "_law_like", "_law_row", "_law_at", "_law_sought", "_law_missing", "_law_asked", "_law_refused", "_law_barred", "_law_hand"] w) run_false run_true w
end WD
open PySem PySem.W PySem.Calls PyProof.Rows
theorem PySem.Challenge.cw_whateverdrops_k10_looks_at_scripts_holds : PySem.Challenge.rw_whateverdrops_k10_looks_at_scripts.Holds := by
  w_on; o_law
  refine HandSHeadRun.head_any (r := OpenLaw.row PySem.Challenge.rw_whateverdrops_k10_looks_at_scripts) (q := view (OpenLaw.row PySem.Challenge.rw_whateverdrops_k10_looks_at_scripts).prog [35]) (H := WD.hk) (ob := WD.ob) (M := 4000) (loose := ["DropError", "CallError", "BadStep", "operands_of", "is_integer", "is_number", "is_below", "check_value", "users_of", "inputs_of", "depth_of", "value_of", "_law_mill", "_law_grind", "_law_words", "_law_input", "_law_made", "_law_whole", "_law_users", "_law_depths", "_law_found", "_law_like", "_law_row", "_law_at", "_law_sought", "_law_missing", "_law_asked", "_law_refused", "_law_barred", "_law_hand"]) (d := HandSHeadRun.topDef (OpenLaw.row PySem.Challenge.rw_whateverdrops_k10_looks_at_scripts).prog 35) (kwd := []) WD.ob_eq
    (by kernel_rfl) (fun s => by kernel_rfl) WD.run (by kernel_rfl) (by kernel_rfl) (by kernel_rfl) (by rfl) (by first | assumption | decide +kernel) (by decide +kernel) ⟨rfl, rfl, rfl, rfl, rfl, by decide +kernel⟩ ?hw ?hc
  case hw => w_witness2
  case hc =>
    refine WD.walk_ofW (l := PySem.Challenge.rw_whateverdrops_k10_looks_at_scripts) (n := 63) (k := 42) (x := "script") rfl (by decide) (by kernel_rfl) ⟨rfl, by decide, by decide⟩ ?F
    intro w mg fa h Y G hmg0
    obtain ⟨K, KX, c⟩ := Y
    have hmg : mg ("law" : PySem.Str) = some (.ref fa) := by
      have e : (HandSHeadRun.topDef (OpenLaw.row PySem.Challenge.rw_whateverdrops_k10_looks_at_scripts).prog 35).name = ("law" : PySem.Str) := by kernel_rfl
      rw [← e]
      exact hmg0
    obtain ⟨fd, sp, hb, hsp, hF⟩ := WD.head_facts (P := (PySem.Challenge.rw_whateverdrops_k10_looks_at_scripts).prog) (w := w) (id := 1018) (d := WD.de_p_law) (n := 40) WD.ok_all (by decide) WD.xok_all (by simp [WD.ds]) rfl WD.pure_law KX G hmg c
    exact ⟨K, fd, sp, KX, hb, hsp, hF⟩

