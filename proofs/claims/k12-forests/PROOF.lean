import PyProof.Rows.All
import Wide.All
import OpenK.AllK
import Wide.FinOn
import HandS.ForMost
import HandS.ForExc
import HandS.Deep
import HandS.TupAny
import HandS.IsInst
import HandS.Wide
import HandS.WideBits
import HandS.Style
import HandS.RaiseMore
import HandS.More
import HandS.Zip
import HandS.Lambda
import HandS.Head0
import HandS.Head1
import HandS.Head2
import HandS.HeadEnd
import HandS.EndBits
import HandS.HeadHook1
import HandS.HeadHook2
import HandS.HeadHook4
import PySem.Challenge.RW_whateverdrops_k12_forests
section
set_option Elab.async false
set_option linter.all false
set_option maxRecDepth 100000
set_option maxHeartbeats 4000000
/-! WCore: pure values, pure heaps, the small language and its meaning (weakest preconditions). -/
namespace WD
open PySem PySem.Spec PyProof.Rows L2

/-- pure values: tuples by value, lists and dicts by location; rol: a list that is only read (the script) -/
inductive PV where
  | non | bl (b : Bool) | int (i : Int) | str (x : Str) | tup (xs : List PV) | rol (xs : List PV) | loc (l : Nat) | xc (c : Nat) (fs : List PV)

mutual
def PV.beq : PV → PV → Bool
  | .non, .non => true
  | .bl a, .bl b => a == b
  | .int a, .int b => decide (a = b)
  | .str a, .str b => decide (a = b)
  | .tup a, .tup b => PV.beqs a b
  | .rol a, .rol b => PV.beqs a b
  | .loc a, .loc b => decide (a = b)
  | .xc c a, .xc d b => decide (c = d) && PV.beqs a b
  | _, _ => false
def PV.beqs : List PV → List PV → Bool
  | [], [] => true
  | a :: as, b :: bs => PV.beq a b && PV.beqs as bs
  | _, _ => false
end
mutual
theorem PV.beq_self : ∀ a : PV, PV.beq a a = true
  | .non => rfl
  | .bl b => by simp [PV.beq]
  | .int a => by simp [PV.beq]
  | .str a => by simp [PV.beq]
  | .tup a => by simpa [PV.beq] using PV.beqs_self a
  | .rol a => by simpa [PV.beq] using PV.beqs_self a
  | .loc a => by simp [PV.beq]
  | .xc c a => by simpa [PV.beq] using PV.beqs_self a
theorem PV.beqs_self : ∀ a : List PV, PV.beqs a a = true
  | [] => rfl
  | a :: as => by simp [PV.beqs, PV.beq_self a, PV.beqs_self as]
end
mutual
theorem PV.eq_of_beq : ∀ a b : PV, PV.beq a b = true → a = b
  | .non, b, h => by cases b <;> simp_all [PV.beq]
  | .bl x, b, h => by cases b <;> simp_all [PV.beq]
  | .int x, b, h => by cases b <;> simp_all [PV.beq]
  | .str x, b, h => by cases b <;> simp_all [PV.beq]
  | .tup x, b, h => by
    cases b with
    | tup y => rw [PV.eq_of_beqs x y (by simpa [PV.beq] using h)]
    | _ => simp [PV.beq] at h
  | .rol x, b, h => by
    cases b with
    | rol y => rw [PV.eq_of_beqs x y (by simpa [PV.beq] using h)]
    | _ => simp [PV.beq] at h
  | .loc x, b, h => by cases b <;> simp_all [PV.beq]
  | .xc c x, b, h => by
    cases b with
    | xc d y =>
      simp only [PV.beq, Bool.and_eq_true, decide_eq_true_eq] at h
      rw [h.1, PV.eq_of_beqs x y h.2]
    | _ => simp [PV.beq] at h
theorem PV.eq_of_beqs : ∀ a b : List PV, PV.beqs a b = true → a = b
  | [], [], _ => rfl
  | [], _ :: _, h => by simp [PV.beqs] at h
  | _ :: _, [], h => by simp [PV.beqs] at h
  | a :: as, b :: bs, h => by
    simp only [PV.beqs, Bool.and_eq_true] at h
    rw [PV.eq_of_beq a b h.1, PV.eq_of_beqs as bs h.2]
end
instance : DecidableEq PV := fun a b => if h : PV.beq a b = true then .isTrue (PV.eq_of_beq a b h) else .isFalse fun e => h (e ▸ PV.beq_self a)
instance : Inhabited PV := ⟨.non⟩

/-- what stands at a location -/
inductive PO where
  | lst (xs : List PV)
  | dic (kvs : List (PV × PV))
abbrev PH := List PO
abbrev PSt := List (Option PV)
/-- what is wanted of a value, of an exception (its class and fields) -/
abbrev QV := PV → PH → Prop
abbrev QX := PV → PH → Prop

/-! ### the language -/
/-- built-in functions by values -/
inductive Bif where
  | len | int | str | abs | min2 | max2 | isT (t : String) | bool
  deriving DecidableEq, Repr
/-- built-in functions of a list's or a tuple's items -/
inductive Lif where
  | tuple | len | sum | max | min | all | any
  deriving DecidableEq, Repr
/-- methods that change or look at an object -/
inductive Mth where
  | append | pop | popAt | insert | reverse
  deriving DecidableEq, Repr
/-- targets -/
inductive Tg where
  | slot (i : Nat) | tup (ts : List Tg)
  deriving Repr
instance : Inhabited Tg := ⟨.slot 0⟩

mutual
inductive Ex where
  | var (i : Nat)
  | non | bl (b : Bool) | int (i : Int) | str (x : Str)
  | cst (v : PV) (x : Str)
  | tup (es : Exs)
  | bin (o : Operator) (a b : Ex)
  | neg (a : Ex)
  | cmp (o : CmpOp) (a b : Ex)
  | chn (o o' : CmpOp) (a b c : Ex)
  | and (a b : Ex) | or (a b : Ex) | not (a : Ex)
  | ifx (c a b : Ex)
  | ix (a b : Ex)
  | sl (a : Ex) (lo hi : OEx)
  | call (f : Nat) (es : Exs)
  | bif (b : Bif) (es : Exs)
  | lif (b : Lif) (l : La)
  | mth (m : Mth) (a : Ex) (es : Exs)
  | ext (a : Ex) (l : La)
  | new (l : Lx)
inductive Exs where
  | nil | cons (e : Ex) (es : Exs)
inductive OEx where
  | no | some (e : Ex)
/-- what makes a new list -/
inductive Lx where
  | disp (es : Exs)
  | cat (a b : La)
  | rep (a : La) (n : Ex)
  | comp (own : List Nat) (elt : Ex) (tg : Tg) (it : Wk) (cond : OEx)
  | cut (a : La) (lo hi : OEx)
  | list (a : La)
/-- a list (or a tuple) to be read: one that stands, or one just made -/
inductive La where
  | e (x : Ex) | l (x : Lx)
/-- what a loop walks -/
inductive Wk where
  | la (a : La)
  | range1 (a : Ex) | range2 (a b : Ex) | range3 (a b c : Ex)
  | enum (a : La) | zip (a b : La) | rev (a : La)
end

inductive Ct where
  | pass | brk | cnt
  deriving Repr

mutual
inductive Sm where
  | ct (c : Ct)
  | expr (e : Ex)
  | set (t : Tg) (e : Ex)
  | par (i j : Nat) (a b : Ex)
  | sub (o i e : Ex)
  | aug (i : Nat) (op : Operator) (e : Ex)
  | augS (o i : Ex) (op : Operator) (e : Ex)
  | ret (e : Ex)
  | retN
  | ifs (c : Ex) (a b : Sms)
  | fors (t : Tg) (it : Wk) (b : Sms)
  | whil (c : Ex) (b : Sms)
inductive Sms where
  | nil | cons (s : Sm) (r : Sms)
end

/-! ### operations by values -/
/-- the place that an index means -/
def ixP (n : Nat) (i : Int) : Option Nat := if 0 ≤ i then (if i < n then some i.toNat else none) else if -(n : Int) ≤ i then some (i + n).toNat else none
def getL (h : PH) (l : Nat) : Option (List PV) := match h[l]? with
  | some (.lst xs) => some xs
  | _ => none
/-- the items of what is a list or a tuple -/
def items (h : PH) : PV → Option (List PV)
  | .tup xs => some xs
  | .rol xs => some xs
  | .loc l => getL h l
  | _ => none
/-- the items of what is a list -/
def itemsL (h : PH) : PV → Option (List PV)
  | .rol xs => some xs
  | .loc l => getL h l
  | _ => none

/-- data: what == compares -/
def toD (h : PH) : Nat → PV → Option PyData
  | 0, _ => none
  | n + 1, v => match v with
    | .non => some .none
    | .bl b => some (.bool b)
    | .int i => some (.int i)
    | .str x => some (.str x)
    | .tup xs => (xs.mapM (toD h n)).map .tuple
    | .rol xs => (xs.mapM (toD h n)).map .list
    | .loc l => match getL h l with
      | some xs => (xs.mapM (toD h n)).map .list
      | none => none
    | .xc _ _ => none
/-- the scalars -/
def scalP : PV → PV → Bool
  | .non, .non => true | .non, .int _ => true | .int _, .non => true | .non, .bl _ => true | .bl _, .non => true | .non, .str _ => true | .str _, .non => true
  | .int _, .int _ => true | .bl _, .bl _ => true | .str _, .str _ => true
  | .int _, .str _ => true | .str _, .int _ => true | .bl _, .str _ => true | .str _, .bl _ => true
  | _, _ => false
/-- == -/
def eqS (h : PH) (v w : PV) (q : Bool → Prop) : Prop :=
  (scalP v w = true ∧ q (decide (v = w))) ∨ ∃ d e, toD h 64 v = some d ∧ toD h 64 w = some e ∧ q (PyData.eqv d e)
/-- truth -/
def truS (h : PH) (v : PV) : Option Bool := match v with
  | .non => some false
  | .bl b => some b
  | .int i => some (i != 0)
  | .str x => if x.length ≤ sizeLine then some ((x.length : Int) != 0) else none
  | .tup xs => some !xs.isEmpty
  | .rol xs => some !xs.isEmpty
  | .loc l => match h[l]? with
    | some (.lst xs) => some !xs.isEmpty
    | some (.dic kvs) => some !kvs.isEmpty
    | none => none
  | .xc _ _ => none
/-- v in w -/
def inS (h : PH) (v w : PV) (q : Bool → Prop) : Prop := match w with
  | .str z => ∃ y, v = .str y ∧ q (!(Builtin.Str.occurrences z y 0 z.length 1).isEmpty)
  | _ => ∃ d xs es, toD h 64 v = some d ∧ items h w = some xs ∧ xs.mapM (toD h 63) = some es ∧ q (es.any fun z => PyData.eqv z d)
def strMul (x : Str) (n : Int) : Str := ⟨(List.replicate n.toNat x.cps.toList).flatten.toArray⟩
def binS (o : Operator) (v w : PV) (h : PH) (q : QV) : Prop := match o, v, w with
  | .Add, .int i, .int j => q (.int (i + j)) h
  | .Add, .str a, .str b => a.length + b.length ≤ sizeLine ∧ q (.str (a ++ b)) h
  | .Add, .tup xs, .tup ys => xs.length + ys.length ≤ sizeLine ∧ q (.tup (xs ++ ys)) h
  | .Add, .loc a, .loc b => ∃ xs ys, getL h a = some xs ∧ getL h b = some ys ∧ xs.length + ys.length ≤ sizeLine ∧ q (.loc h.length) (h ++ [.lst (xs ++ ys)])
  | .Sub, .int i, .int j => q (.int (i - j)) h
  | .Mult, .int i, .int j => CMulX i j ∧ q (.int (i * j)) h
  | .Mult, .str x, .int n => n ≤ 1000000 ∧ -1000000 ≤ n ∧ x.length * n.toNat ≤ 16777216 ∧ q (.str (strMul x n)) h
  | .FloorDiv, .int i, .int j => CDivW i j ∧ q (.int (i / j)) h
  | .Mod, .int i, .int j => 0 < j ∧ q (.int (i % j)) h
  | .Pow, .int i, .int j => CPow i j ∧ q (.int (i ^ j.toNat)) h
  | .LShift, .int i, .int j => CPow i j ∧ q (.int (i * 2 ^ j.toNat)) h
  | .RShift, .int i, .int j => 0 ≤ j ∧ q (.int (i / 2 ^ j.toNat)) h
  | .BitAnd, .int i, .int j => q (.int (Builtin.bitAnd i j)) h
  | .BitOr, .int i, .int j => q (.int (Builtin.bitOr i j)) h
  | .BitXor, .int i, .int j => q (.int (Builtin.bitXor i j)) h
  | _, _, _ => False
def cmpS (o : CmpOp) (v w : PV) (h : PH) (q : Bool → Prop) : Prop := match o with
  | .Eq => eqS h v w q
  | .NotEq => eqS h v w fun b => q (!b)
  | .Lt => ∃ i j, v = .int i ∧ w = .int j ∧ q (decide (i < j))
  | .LtE => ∃ i j, v = .int i ∧ w = .int j ∧ q (decide (i ≤ j))
  | .Gt => ∃ i j, v = .int i ∧ w = .int j ∧ q (decide (j < i))
  | .GtE => ∃ i j, v = .int i ∧ w = .int j ∧ q (decide (j ≤ i))
  | .Is => (w = .non ∧ q (decide (v = .non))) ∨ ∃ a b, v = .bl a ∧ w = .bl b ∧ q (decide (a = b))
  | .IsNot => (w = .non ∧ q (!decide (v = .non))) ∨ ∃ a b, v = .bl a ∧ w = .bl b ∧ q (!decide (a = b))
  | .In => inS h v w q
  | .NotIn => inS h v w fun b => q (!b)
/-- v[w] -/
def ixS (v w : PV) (h : PH) (q : QV) : Prop := match v with
  | .str z => ∃ i k c, w = .int i ∧ z.length ≤ sizeLine ∧ ixP z.length i = some k ∧ z.cps.toList[k]? = some c ∧ q (.str ⟨#[c]⟩) h
  | _ => ∃ i xs k x, w = .int i ∧ items h v = some xs ∧ ixP xs.length i = some k ∧ xs[k]? = some x ∧ q x h
/-- v[w] of what can be written -/
def augG (v w : PV) (h : PH) (q : QV) : Prop := ∃ l i xs k x, v = .loc l ∧ w = .int i ∧ getL h l = some xs ∧ ixP xs.length i = some k ∧ xs[k]? = some x ∧ q x h
/-- a slice's bound as a place -/
def bndP (n d : Nat) (o : Option Int) : Nat := HT.sIx n d o
def cutP {α : Type} (xs : List α) (lo hi : Option Int) : List α := (xs.drop (bndP xs.length 0 lo)).take (bndP xs.length xs.length hi - bndP xs.length 0 lo)
/-- v[lo:hi] of a tuple or a text -/
def slS (v : PV) (lo hi : Option Int) (h : PH) (q : QV) : Prop := match v with
  | .tup xs => q (.tup (cutP xs lo hi)) h
  | .str z => z.length ≤ sizeLine ∧ q (.str (cutS z lo hi)) h
  | v => ∃ xs, itemsL h v = some xs ∧ q (.loc h.length) (h ++ [.lst (cutP xs lo hi)])
def typB (t : String) (v : PV) (h : PH) : Option Bool := match v with
  | .non => kitB "NoneType" t
  | .bl _ => kitB "bool" t
  | .int _ => kitB "int" t
  | .str _ => kitB "str" t
  | .tup _ => kitB "tuple" t
  | .rol _ => kitB "list" t
  | .loc l => match h[l]? with
    | some (.lst _) => kitB "list" t
    | some (.dic _) => kitB "dict" t
    | none => none
  | .xc _ _ => none
/-- len -/
def lenP (h : PH) (v : PV) : Option Nat := match v with
  | .str x => if x.length ≤ sizeLine then some x.length else none
  | .tup xs => some xs.length
  | .rol xs => some xs.length
  | .loc l => match h[l]? with
    | some (.lst xs) => some xs.length
    | some (.dic kvs) => some kvs.length
    | none => none
  | _ => none
def intP : PV → Option Int
  | .int i => some i
  | .bl k => some (if k then 1 else 0)
  | _ => none
def boolP : PV → Option Bool
  | .int i => some (i != 0)
  | .bl k => some k
  | _ => none
def strP : PV → Option Str
  | .int i => if i.natAbs.log2 < 1920 then some (toString i : String) else none
  | .str x => some x
  | _ => none
def bifS (b : Bif) (vs : List PV) (h : PH) (q : QV) : Prop := match b with
  | .len => ∃ v n, vs = [v] ∧ lenP h v = some n ∧ q (.int n) h
  | .int => ∃ v i, vs = [v] ∧ intP v = some i ∧ q (.int i) h
  | .bool => ∃ v i, vs = [v] ∧ boolP v = some i ∧ q (.bl i) h
  | .str => ∃ v x, vs = [v] ∧ strP v = some x ∧ q (.str x) h
  | .abs => ∃ i, vs = [.int i] ∧ q (.int (if i < 0 then -i else i)) h
  | .min2 => ∃ i j, vs = [.int i, .int j] ∧ q (.int (if j < i then j else i)) h
  | .max2 => ∃ i j, vs = [.int i, .int j] ∧ q (.int (if j > i then j else i)) h
  | .isT t => ∃ v b, vs = [v] ∧ typB t v h = some b ∧ q (.bl b) h
def intsOf : List PV → Option (List Int)
  | [] => some []
  | .int i :: r => (intsOf r).map (i :: ·)
  | _ => none
def blsOf : List PV → Option (List Bool)
  | [] => some []
  | .bl i :: r => (blsOf r).map (i :: ·)
  | _ => none
def lifS (b : Lif) (xs : List PV) (h : PH) (q : QV) : Prop := match b with
  | .tuple => q (.tup xs) h
  | .len => q (.int xs.length) h
  | .sum => ∃ ns, intsOf xs = some ns ∧ q (.int ns.sum) h
  | .max => ∃ ns, intsOf xs = some ns ∧ 0 < ns.length ∧ ∀ m, m ∈ ns → (∀ y, y ∈ ns → y ≤ m) → q (.int m) h
  | .min => ∃ ns, intsOf xs = some ns ∧ 0 < ns.length ∧ ∀ m, m ∈ ns → (∀ y, y ∈ ns → m ≤ y) → q (.int m) h
  | .all => ∃ bs, blsOf xs = some bs ∧ q (.bl (bs.all id)) h
  | .any => ∃ bs, blsOf xs = some bs ∧ q (.bl (bs.any id)) h
def mthS (m : Mth) (v : PV) (vs : List PV) (h : PH) (q : QV) : Prop := ∃ l xs, v = .loc l ∧ getL h l = some xs ∧ match m with
  | .append => ∃ y, vs = [y] ∧ xs.length < sizeLine ∧ q .non (h.set l (.lst (xs ++ [y])))
  | .pop => ∃ y, vs = [] ∧ xs[xs.length - 1]? = some y ∧ q y (h.set l (.lst xs.dropLast))
  | .popAt => ∃ i k y, vs = [.int i] ∧ (-(2 ^ 63) ≤ i ∧ i < 2 ^ 63) ∧ ixP xs.length i = some k ∧ xs[k]? = some y ∧ q y (h.set l (.lst (xs.eraseIdx k)))
  | .insert => ∃ i y, vs = [.int i, y] ∧ xs.length < sizeLine ∧ 0 ≤ i ∧ i < 2 ^ 63 ∧ q .non (h.set l (.lst (xs.take i.toNat ++ y :: xs.drop i.toNat)))
  | .reverse => vs = [] ∧ q .non (h.set l (.lst xs.reverse))
/-- it is a list that may be written -/
def isLst (h : PH) (v : PV) : Prop := ∃ l xs, v = .loc l ∧ getL h l = some xs
def setS (v i w : PV) (h : PH) (q : PH → Prop) : Prop := ∃ l xs k j, v = .loc l ∧ getL h l = some xs ∧ i = .int k ∧ ixP xs.length k = some j ∧ q (h.set l (.lst (xs.set j w)))
def augB (o : Operator) (v w : PV) (h : PH) (q : QV) : Prop := match o, v, w with
  | .Add, .int i, .int j => q (.int (i + j)) h
  | .Sub, .int i, .int j => q (.int (i - j)) h
  | .Add, .str a, .str b => a.length + b.length ≤ sizeLine ∧ q (.str (a ++ b)) h
  | _, _, _ => False
/-! ### targets -/
mutual
def setT : Tg → PV → PSt → (PSt → Prop) → Prop
  | .slot i, v, ς, q => q (ς.set i (some v))
  | .tup ts, v, ς, q => ∃ xs, v = .tup xs ∧ setTs ts xs ς q
def setTs : List Tg → List PV → PSt → (PSt → Prop) → Prop
  | [], vs, ς, q => vs = [] ∧ q ς
  | t :: ts, vs, ς, q => ∃ v r, vs = v :: r ∧ setT t v ς fun ς' => setTs ts r ς' q
end
/-- the slots of a comprehension's own names forgotten -/
def wipeP (ς : PSt) : List Nat → PSt
  | [] => ς
  | v :: vs => (wipeP ς vs).set v none

/-- what is wanted behind a statement -/
structure KS where
  nx : PSt → PH → Prop
  rt : QV
  ex : PV → PSt → PH → Prop := fun _ _ _ => False
  bk : PSt → PH → Prop := fun _ _ => False
  ct : PSt → PH → Prop := fun _ _ => False

/-- a loop over items; g: what must hold of the heap (the walked list stands) -/
def forW (g : PH → Prop) (t : Tg) (body : KS → PSt → PH → Prop) (κ : KS) : List PV → PSt → PH → Prop
  | [], ς, h => g h ∧ κ.nx ς h
  | x :: r, ς, h => g h ∧ setT t x ς fun ς' => body { κ with nx := forW g t body κ r, ct := forW g t body κ r, bk := κ.nx } ς' h
def whileW (c : PSt → PH → (Bool → PH → Prop) → Prop) (body : KS → PSt → PH → Prop) (κ : KS) : Nat → PSt → PH → Prop
  | 0, _, _ => False
  | n + 1, ς, h => c ς h fun b h1 => if b = true then body { κ with nx := whileW c body κ n, ct := whileW c body κ n, bk := κ.nx } ς h1 else κ.nx ς h1
/-- a comprehension over items -/
def compW (g : PH → Prop) (t : Tg) (ς : PSt) (cond : PSt → PH → (Bool → PH → Prop) → Prop) (elt : PSt → PH → QV → Prop) (q : List PV → PH → Prop) : List PV → List PV → PH → Prop
  | [], acc, h => g h ∧ q acc h
  | x :: r, acc, h => g h ∧ setT t x ς fun ς' => cond ς' h fun b h1 => if b = true then elt ς' h1 fun y h2 => acc.length < sizeLine ∧ compW g t ς cond elt q r (acc ++ [y]) h2 else compW g t ς cond elt q r acc h1

/-- the meaning of defs: by number, arguments, heap, what is wanted of the value, of an exception -/
abbrev Phi := Nat → List PV → PH → QV → QX → Prop

def rangeL (lo : Int) : Nat → List PV
  | 0 => []
  | n + 1 => .int lo :: rangeL (lo + 1) n
def rangeC (lo c : Int) : Nat → List PV
  | 0 => []
  | n + 1 => .int lo :: rangeC (lo + c) c n
def enumL (k : Int) : List PV → List PV
  | [] => []
  | x :: r => .tup [.int k, x] :: enumL (k + 1) r
def zipL : List PV → List PV → List PV
  | x :: r, y :: s => .tup [x, y] :: zipL r s
  | _, _ => []
/-- a value, or the items of a list just made -/
inductive LV where
  | v (v : PV) | t (xs : List PV)
def lvA (h : PH) : LV → Option (List PV)
  | .v v => items h v
  | .t xs => some xs
def lvL (h : PH) : LV → Option (List PV)
  | .v v => itemsL h v
  | .t xs => some xs
def lvM (h : PH) : LV → Option (List PV)
  | .v (.loc l) => getL h l
  | .v _ => none
  | .t xs => some xs
/-- what is asked of sum, max, min, all, any: a list -/
def needL : Lif → Bool
  | .tuple => false
  | .len => false
  | _ => true
def lvB (b : Lif) (h : PH) (u : LV) : Option (List PV) := if needL b = true then lvL h u else lvA h u
/-- that the list at a location stands -/
def standsP (v : PV) (xs : List PV) (h : PH) : Prop := items h v = some xs
section
variable (Φ : Phi)
mutual
def wE : Ex → QX → PSt → PH → QV → Prop
  | .var i, x, ς, h, q => ∃ v, ς[i]? = some (some v) ∧ q v h
  | .non, x, _, h, q => q .non h
  | .bl b, x, _, h, q => q (.bl b) h
  | .int i, x, _, h, q => q (.int i) h
  | .str z, x, _, h, q => q (.str z) h
  | .cst v _, x, _, h, q => q v h
  | .tup es, x, ς, h, q => wEs es x ς h fun vs h1 => vs.length ≤ sizeLine ∧ q (.tup vs) h1
  | .bin o a b, x, ς, h, q => wE a x ς h fun v h1 => wE b x ς h1 fun w h2 => binS o v w h2 q
  | .neg a, x, ς, h, q => wE a x ς h fun v h1 => ∃ i, v = .int i ∧ q (.int (-i)) h1
  | .cmp o a b, x, ς, h, q => wE a x ς h fun v h1 => wE b x ς h1 fun w h2 => cmpS o v w h2 fun r => q (.bl r) h2
  | .chn o o' a b c, x, ς, h, q => wE a x ς h fun u h1 => wE b x ς h1 fun v h2 => cmpS o u v h2 fun r => if r = true then wE c x ς h2 fun w h3 => cmpS o' v w h3 fun r' => q (.bl r') h3 else q (.bl false) h2
  | .and a b, x, ς, h, q => wE a x ς h fun v h1 => ∃ r, v = .bl r ∧ if r = true then wE b x ς h1 q else q (.bl false) h1
  | .or a b, x, ς, h, q => wE a x ς h fun v h1 => ∃ r, v = .bl r ∧ if r = true then q (.bl true) h1 else wE b x ς h1 q
  | .not a, x, ς, h, q => wE a x ς h fun v h1 => ∃ r, v = .bl r ∧ q (.bl (!r)) h1
  | .ifx c a b, x, ς, h, q => wT c x ς h fun r h1 => if r = true then wE a x ς h1 q else wE b x ς h1 q
  | .ix a b, x, ς, h, q => wE a x ς h fun v h1 => wE b x ς h1 fun w h2 => ixS v w h2 q
  | .sl a lo hi, x, ς, h, q => wE a x ς h fun v h1 => wO lo x ς h1 fun l h2 => wO hi x ς h2 fun u h3 => slS v l u h3 q
  | .call f es, x, ς, h, q => wEs es x ς h fun vs h1 => Φ f vs h1 q x
  | .bif b es, x, ς, h, q => wEs es x ς h fun vs h1 => bifS b vs h1 q
  | .lif b l, x, ς, h, q => wLa l x ς h fun u h1 => ∃ xs, lvB b h1 u = some xs ∧ lifS b xs h1 q
  | .mth m a es, x, ς, h, q => wE a x ς h fun v h1 => isLst h1 v ∧ wEs es x ς h1 fun vs h2 => mthS m v vs h2 q
  | .ext a l, x, ς, h, q => wE a x ς h fun v h1 => isLst h1 v ∧ wLa l x ς h1 fun u h2 => ∃ l xs ys, v = .loc l ∧ getL h2 l = some xs ∧ lvM h2 u = some ys ∧ xs.length + ys.length ≤ sizeLine ∧ q .non (h2.set l (.lst (xs ++ ys)))
  | .new l, x, ς, h, q => wL l x ς h fun xs h1 => q (.loc h1.length) (h1 ++ [.lst xs])
def wEs : Exs → QX → PSt → PH → (List PV → PH → Prop) → Prop
  | .nil, x, _, h, q => q [] h
  | .cons e es, x, ς, h, q => wE e x ς h fun v h1 => wEs es x ς h1 fun vs h2 => q (v :: vs) h2
def wO : OEx → QX → PSt → PH → (Option Int → PH → Prop) → Prop
  | .no, x, _, h, q => q none h
  | .some e, x, ς, h, q => wE e x ς h fun v h1 => ∃ i, v = .int i ∧ q (some i) h1
/-- a test -/
def wT : Ex → QX → PSt → PH → (Bool → PH → Prop) → Prop
  | .and a b, x, ς, h, q => wT a x ς h fun r h1 => if r = true then wT b x ς h1 q else q false h1
  | .or a b, x, ς, h, q => wT a x ς h fun r h1 => if r = true then q true h1 else wT b x ς h1 q
  | .not a, x, ς, h, q => wT a x ς h fun r h1 => q (!r) h1
  | .cmp o a b, x, ς, h, q => wE a x ς h fun v h1 => wE b x ς h1 fun w h2 => cmpS o v w h2 fun r => q r h2
  | .chn o o' a b c, x, ς, h, q => wE a x ς h fun u h1 => wE b x ς h1 fun v h2 => cmpS o u v h2 fun r => if r = true then wE c x ς h2 fun w h3 => cmpS o' v w h3 fun r' => q r' h3 else q false h2
  | .var i, x, ς, h, q => ∃ v, ς[i]? = some (some v) ∧ ∃ r, truS h v = some r ∧ q r h
  | .bl b, x, _, h, q => q b h
  | .ix a b, x, ς, h, q => wE a x ς h fun v h1 => wE b x ς h1 fun w h2 => ixS v w h2 fun u h3 => ∃ r, truS h3 u = some r ∧ q r h3
  | .call f es, x, ς, h, q => wEs es x ς h fun vs h1 => Φ f vs h1 (fun v h2 => ∃ r, truS h2 v = some r ∧ q r h2) x
  | .bif b es, x, ς, h, q => wEs es x ς h fun vs h1 => bifS b vs h1 fun v h2 => ∃ r, truS h2 v = some r ∧ q r h2
  | .lif b l, x, ς, h, q => wLa l x ς h fun u h1 => ∃ xs, lvB b h1 u = some xs ∧ lifS b xs h1 fun v h2 => ∃ r, truS h2 v = some r ∧ q r h2
  | _, _, _, _, _ => False
def wL : Lx → QX → PSt → PH → (List PV → PH → Prop) → Prop
  | .disp es, x, ς, h, q => wEs es x ς h fun vs h1 => vs.length ≤ sizeLine ∧ q vs h1
  | .cat a b, x, ς, h, q => wLa a x ς h fun u h1 => wLa b x ς h1 fun w h2 => ∃ xs ys, lvM h2 u = some xs ∧ lvM h2 w = some ys ∧ xs.length + ys.length ≤ sizeLine ∧ q (xs ++ ys) h2
  | .rep a n, x, ς, h, q => wLa a x ς h fun u h1 => wE n x ς h1 fun w h2 => ∃ xs i, lvM h2 u = some xs ∧ w = .int i ∧ -(2 ^ 63) ≤ i ∧ i < 2 ^ 63 ∧ xs.length * i.toNat ≤ sizeLine ∧ q (List.replicate i.toNat xs).flatten h2
  | .comp own elt t it cond, x, ς, h, q => wI it x ς h fun xs g h1 => compW g t (wipeP ς own) (wC cond fun _ _ => False) (wE elt fun _ _ => False) q xs [] h1
  | .cut a lo hi, x, ς, h, q => wLa a x ς h fun u h1 => wO lo x ς h1 fun l h2 => wO hi x ς h2 fun w h3 => ∃ xs, lvL h3 u = some xs ∧ q (cutP xs l w) h3
  | .list a, x, ς, h, q => wLa a x ς h fun u h1 => ∃ xs, lvA h1 u = some xs ∧ q xs h1
/-- a list or tuple: the value, or the items of one just made -/
def wLa : La → QX → PSt → PH → (LV → PH → Prop) → Prop
  | .e e, x, ς, h, q => wE e x ς h fun v h1 => q (.v v) h1
  | .l l, x, ς, h, q => wL l x ς h fun xs h1 => q (.t xs) h1
def wC : OEx → QX → PSt → PH → (Bool → PH → Prop) → Prop
  | .no, x, _, h, q => q true h
  | .some e, x, ς, h, q => wT e x ς h q
def wI : Wk → QX → PSt → PH → (List PV → (PH → Prop) → PH → Prop) → Prop
  | .la (.e e), x, ς, h, q => wE e x ς h fun v h1 => (∃ xs, items h1 v = some xs ∧ q xs (standsP v xs) h1) ∨ ∃ z, v = .str z ∧ q (z.cps.toList.map fun c => .str ⟨#[c]⟩) (fun _ => True) h1
  | .la (.l l), x, ς, h, q => wL l x ς h fun xs h1 => q xs (fun _ => True) h1
  | .range1 a, x, ς, h, q => wE a x ς h fun v h1 => ∃ j : Int, v = .int j ∧ -(2 ^ 62) ≤ j ∧ j < 2 ^ 62 ∧ q (rangeL 0 j.toNat) (fun _ => True) h1
  | .range2 a b, x, ς, h, q => wE a x ς h fun v h1 => wE b x ς h1 fun w h2 => ∃ i j : Int, v = .int i ∧ w = .int j ∧ (-(2 ^ 62) ≤ i ∧ i < 2 ^ 62 ∧ -(2 ^ 62) ≤ j ∧ j < 2 ^ 62) ∧ q (rangeL i (j - i).toNat) (fun _ => True) h2
  | .range3 a b c, x, ς, h, q => wE a x ς h fun v h1 => wE b x ς h1 fun w h2 => wE c x ς h2 fun u h3 => ∃ (i j k : Int) (n : Nat), v = .int i ∧ w = .int j ∧ u = .int k ∧ RgC i j k n ∧ q (rangeC i k n) (fun _ => True) h3
  | .enum (.e e), x, ς, h, q => wE e x ς h fun v h1 => ∃ xs, items h1 v = some xs ∧ q (enumL 0 xs) (standsP v xs) h1
  | .enum (.l l), x, ς, h, q => wL l x ς h fun xs h1 => q (enumL 0 xs) (fun _ => True) h1
  | _, _, _, _, _ => False
end
mutual
def wS : Sm → KS → PSt → PH → Prop
  | .ct .pass, κ, ς, h => κ.nx ς h
  | .ct .brk, κ, ς, h => κ.bk ς h
  | .ct .cnt, κ, ς, h => κ.ct ς h
  | .expr e, κ, ς, h => wE Φ e (fun e h => κ.ex e ς h) ς h fun _ h1 => κ.nx ς h1
  | .set t e, κ, ς, h => wE Φ e (fun e h => κ.ex e ς h) ς h fun v h1 => setT t v ς fun ς' => κ.nx ς' h1
  | .par i j a b, κ, ς, h => wE Φ a (fun e h => κ.ex e ς h) ς h fun v h1 => wE Φ b (fun e h => κ.ex e ς h) ς h1 fun w h2 => κ.nx ((ς.set i (some v)).set j (some w)) h2
  | .sub o i e, κ, ς, h => wE Φ e (fun e h => κ.ex e ς h) ς h fun w h1 => wE Φ o (fun e h => κ.ex e ς h) ς h1 fun v h2 => wE Φ i (fun e h => κ.ex e ς h) ς h2 fun k h3 => setS v k w h3 fun h4 => κ.nx ς h4
  | .aug i op e, κ, ς, h => ∃ v, ς[i]? = some (some v) ∧ wE Φ e (fun e h => κ.ex e ς h) ς h fun w h1 => augB op v w h1 fun u h2 => κ.nx (ς.set i (some u)) h2
  | .augS o i op e, κ, ς, h => wE Φ o (fun e h => κ.ex e ς h) ς h fun v h1 => wE Φ i (fun e h => κ.ex e ς h) ς h1 fun k h2 => augG v k h2 fun u h3 => wE Φ e (fun e h => κ.ex e ς h) ς h3 fun w h4 => augB op u w h4 fun z h5 => setS v k z h5 fun h6 => κ.nx ς h6
  | .ret e, κ, ς, h => wE Φ e (fun e h => κ.ex e ς h) ς h κ.rt
  | .retN, κ, _, h => κ.rt .non h
  | .ifs c a b, κ, ς, h => wT Φ c (fun e h => κ.ex e ς h) ς h fun r h1 => if r = true then wSs a κ ς h1 else wSs b κ ς h1
  | .fors t it b, κ, ς, h => wI Φ it (fun e h => κ.ex e ς h) ς h fun xs g h1 => forW g t (wSs b) κ xs ς h1
  | .whil c b, κ, ς, h => ∃ n, whileW (fun ς h => wT Φ c (fun e h => κ.ex e ς h) ς h) (wSs b) κ n ς h
def wSs : Sms → KS → PSt → PH → Prop
  | .nil, κ, ς, h => κ.nx ς h
  | .cons s r, κ, ς, h => wS s { κ with nx := wSs r κ } ς h
end
end
/-- a def: how many parameters, how many slots, the body -/
structure Fn where
  ps : Nat
  ns : Nat
  body : Sms
abbrev Tab := Nat → Option Fn
/-- the meaning of the defs of a table, n calls deep -/
def den (T : Tab) (n : Nat) : Phi := match n with
  | 0 => fun _ _ _ _ _ => False
  | n + 1 => fun f vs h q x => ∃ F, T f = some F ∧ vs.length = F.ps ∧ wSs (den T n) F.body { nx := fun _ h' => q .non h', rt := q, ex := fun e _ h' => x e h' } (vs.map some ++ List.replicate (F.ns - F.ps) none) h
termination_by n
theorem den_zero {T : Tab} {f : Nat} {vs : List PV} {h : PH} {q : QV} {x : QX} (z : den T 0 f vs h q x) : False := by
  rw [den] at z
  exact z
theorem den_succ {T : Tab} {n f : Nat} {vs : List PV} {h : PH} {q : QV} {x : QX} : den T (n + 1) f vs h q x = ∃ F, T f = some F ∧ vs.length = F.ps ∧ wSs (den T n) F.body { nx := fun _ h' => q .non h', rt := q, ex := fun e _ h' => x e h' } (vs.map some ++ List.replicate (F.ns - F.ps) none) h := by
  rw [den]
end WD
end
section
set_option Elab.async false
set_option linter.all false
set_option maxRecDepth 100000
set_option autoImplicit false
set_option maxHeartbeats 4000000
/-! WRel: how pure values and heaps stand in the abstract heap of the layer. -/
namespace WD
open PySem PySem.Spec PyProof.Rows L2

/-- a list that no code may change: locked, or of the written part -/
def SqF (K : PySem.W.Frag) (H : Hp) (a : Addr) (vs : List V) : Prop := (∃ o, H a = some (.frz o (.lst vs))) ∨ SqL K (fun _ => none) a vs
mutual
inductive Rep (K : PySem.W.Frag) (ρ : Nat → Addr) (n : Nat) (H : Hp) : PV → V → Prop
  | non : Rep K ρ n H .non .non
  | bl (b : Bool) : Rep K ρ n H (.bl b) (.bl b)
  | int (i : Int) : Rep K ρ n H (.int i) (.int i)
  | str (x : Str) : PyData.strOk x = true → Rep K ρ n H (.str x) (.str x)
  | tup {xs : List PV} {a : Addr} {vs : List V} : SqT K H a vs → Reps K ρ n H xs vs → Rep K ρ n H (.tup xs) (.ref a)
  | rol {xs : List PV} {a : Addr} {vs : List V} : SqF K H a vs → Reps K ρ n H xs vs → Rep K ρ n H (.rol xs) (.ref a)
  | loc (l : Nat) : l < n → Rep K ρ n H (.loc l) (.ref (ρ l))
inductive Reps (K : PySem.W.Frag) (ρ : Nat → Addr) (n : Nat) (H : Hp) : List PV → List V → Prop
  | nil : Reps K ρ n H [] []
  | cons {x : PV} {u : V} {xs : List PV} {us : List V} : Rep K ρ n H x u → Reps K ρ n H xs us → Reps K ρ n H (x :: xs) (u :: us)
end
/-- what stands at an address for an object -/
inductive OR (K : PySem.W.Frag) (ρ : Nat → Addr) (n : Nat) (H : Hp) : PO → Option HO → Prop
  | lst {xs : List PV} {vs : List V} : Reps K ρ n H xs vs → OR K ρ n H (.lst xs) (some (.lst vs))
structure HR (K : PySem.W.Frag) (ρ : Nat → Addr) (h : PH) (H : Hp) : Prop where
  obj : ∀ l o, h[l]? = some o → OR K ρ h.length H o (H (ρ l))
  inj : ∀ l l', l < h.length → l' < h.length → ρ l = ρ l' → l = l'
structure Ext (ρ : Nat → Addr) (n : Nat) (H : Hp) (ρ' : Nat → Addr) (n' : Nat) (H' : Hp) : Prop where
  le : n ≤ n'
  eq : ∀ l, l < n → ρ' l = ρ l
  keep : ∀ a u, H a = some u → (∀ l, l < n → ρ l ≠ a) → H' a = some u
  new : ∀ l, n ≤ l → l < n' → H (ρ' l) = none

variable {K : PySem.W.Frag} {ρ ρ' ρ1 ρ2 : Nat → Addr} {n n' n1 n2 : Nat} {H H' H1 H2 : Hp} {h h' h1 h2 : PH} {v w : PV} {u : V} {xs ys : List PV} {us vs : List V} {a p : Addr} {l : Nat} {ς : PSt} {σ : L2.St}

theorem Reps.length : ∀ {xs : List PV} {us : List V}, Reps K ρ n H xs us → xs.length = us.length
  | _, _, .nil => rfl
  | _, _, .cons _ t => by simp [Reps.length t]
theorem Reps.get : ∀ {xs : List PV} {us : List V} {i : Nat} {x : PV}, Reps K ρ n H xs us → xs[i]? = some x → ∃ u, us[i]? = some u ∧ Rep K ρ n H x u
  | _, _, _, _, .nil, e => by simp at e
  | _, _, 0, _, .cons r _, e => by simp at e; subst e; exact ⟨_, rfl, r⟩
  | _, _, i + 1, x, .cons _ t, e => by
    obtain ⟨u, h1, h2⟩ := Reps.get (i := i) (x := x) t (by simpa using e)
    exact ⟨u, by simpa using h1, h2⟩
theorem Reps.get' : ∀ {xs : List PV} {us : List V} {i : Nat} {u : V}, Reps K ρ n H xs us → us[i]? = some u → ∃ x, xs[i]? = some x ∧ Rep K ρ n H x u
  | _, _, _, _, .nil, e => by simp at e
  | _, _, 0, _, .cons r _, e => by simp at e; subst e; exact ⟨_, rfl, r⟩
  | _, _, i + 1, u, .cons _ t, e => by
    obtain ⟨x, h1, h2⟩ := Reps.get' (i := i) (u := u) t (by simpa using e)
    exact ⟨x, by simpa using h1, h2⟩
theorem Reps.append : ∀ {xs ys : List PV} {us vs : List V}, Reps K ρ n H xs us → Reps K ρ n H ys vs → Reps K ρ n H (xs ++ ys) (us ++ vs)
  | _, _, _, _, .nil, s => s
  | _, _, _, _, .cons r t, s => .cons r (Reps.append t s)
theorem Reps.set {x : PV} {u : V} (r : Rep K ρ n H x u) : ∀ {xs : List PV} {us : List V} (i : Nat), Reps K ρ n H xs us → Reps K ρ n H (xs.set i x) (us.set i u)
  | _, _, _, .nil => .nil
  | _, _, 0, .cons _ t => .cons r t
  | _, _, i + 1, .cons q t => .cons q (Reps.set r i t)
theorem Reps.take : ∀ {xs : List PV} {us : List V} (k : Nat), Reps K ρ n H xs us → Reps K ρ n H (xs.take k) (us.take k)
  | _, _, 0, _ => .nil
  | _, _, _ + 1, .nil => .nil
  | _, _, k + 1, .cons r t => .cons r (Reps.take k t)
theorem Reps.drop : ∀ {xs : List PV} {us : List V} (k : Nat), Reps K ρ n H xs us → Reps K ρ n H (xs.drop k) (us.drop k)
  | _, _, 0, r => r
  | _, _, _ + 1, .nil => .nil
  | _, _, k + 1, .cons _ t => Reps.drop k t
theorem Reps.erase : ∀ {xs : List PV} {us : List V} (k : Nat), Reps K ρ n H xs us → Reps K ρ n H (xs.eraseIdx k) (us.eraseIdx k)
  | _, _, _, .nil => .nil
  | _, _, 0, .cons _ t => t
  | _, _, k + 1, .cons r t => .cons r (Reps.erase k t)
theorem Reps.reverse : ∀ {xs : List PV} {us : List V}, Reps K ρ n H xs us → Reps K ρ n H xs.reverse us.reverse
  | _, _, .nil => .nil
  | _, _, .cons r t => by simpa using (Reps.reverse t).append (.cons r .nil)
theorem Reps.dropLast {xs : List PV} {us : List V} (r : Reps K ρ n H xs us) : Reps K ρ n H xs.dropLast us.dropLast := by
  rw [List.dropLast_eq_take, List.dropLast_eq_take, r.length]; exact r.take _
theorem Reps.repl {xs : List PV} {us : List V} (r : Reps K ρ n H xs us) : ∀ k : Nat, Reps K ρ n H (List.replicate k xs).flatten (List.replicate k us).flatten
  | 0 => .nil
  | k + 1 => by simpa [List.replicate_succ] using r.append (Reps.repl r k)
theorem Reps.cut {xs : List PV} {us : List V} (r : Reps K ρ n H xs us) (lo hi : Option Int) : Reps K ρ n H (cutP xs lo hi) (cutV us lo hi) := by
  unfold cutP cutV bndP
  rw [r.length]
  exact (r.drop _).take _

theorem HR.ntup (R : HR K ρ h H) {o : HO} (hl : l < h.length) (e : H (ρ l) = some o) : ∃ vs, o = .lst vs := by
  have q := R.obj l h[l] (List.getElem?_eq_getElem hl)
  rw [e] at q
  generalize h[l] = po at q
  cases q with
  | lst r => exact ⟨_, rfl⟩
theorem HR.there (R : HR K ρ h H) (hl : l < h.length) : ∃ o, H (ρ l) = some o := by
  have q := R.obj l h[l] (List.getElem?_eq_getElem hl)
  generalize h[l] = po at q
  cases e : H (ρ l) with
  | some o => exact ⟨o, rfl⟩
  | none => rw [e] at q; cases q
theorem SqT.ext (R : HR K ρ h H) (E : Ext ρ h.length H ρ' n' H') (s : SqT K H a us) : SqT K H' a us := by
  rcases s with (s | ⟨o, s⟩) | s
  · exact .inl (.inl (E.keep a _ s fun l hl z => by
      rw [← z] at s
      obtain ⟨vs, q⟩ := R.ntup hl s
      cases q))
  · exact .inl (.inr ⟨o, E.keep a _ s fun l hl z => by
      rw [← z] at s
      obtain ⟨vs, q⟩ := R.ntup hl s
      cases q⟩)
  · exact .inr s
theorem SqF.sq (s : SqF K H a us) : SqL K H a us := by
  rcases s with ⟨o, s⟩ | s
  · exact .inl (.inr ⟨o, s⟩)
  · rcases s with (s | ⟨o, s⟩) | s
    · cases s
    · cases s
    · exact .inr s
theorem SqF.ext (R : HR K ρ h H) (E : Ext ρ h.length H ρ' n' H') (s : SqF K H a us) : SqF K H' a us := by
  rcases s with ⟨o, s⟩ | s
  · exact .inl ⟨o, E.keep a _ s fun l hl z => by
      rw [← z] at s
      obtain ⟨vs, q⟩ := R.ntup hl s
      cases q⟩
  · exact .inr s
mutual
theorem Rep.ext (R : HR K ρ h H) (E : Ext ρ h.length H ρ' n' H') : ∀ {v : PV} {u : V}, Rep K ρ h.length H v u → Rep K ρ' n' H' v u
  | _, _, .non => .non
  | _, _, .bl b => .bl b
  | _, _, .int i => .int i
  | _, _, .str x e => .str x e
  | _, _, .tup s r => .tup (WD.SqT.ext R E s) (Reps.ext R E r)
  | _, _, .rol s r => .rol (SqF.ext R E s) (Reps.ext R E r)
  | _, _, .loc l hl => by
    rw [← E.eq l hl]
    exact .loc l (Nat.lt_of_lt_of_le hl E.le)
theorem Reps.ext (R : HR K ρ h H) (E : Ext ρ h.length H ρ' n' H') : ∀ {xs : List PV} {us : List V}, Reps K ρ h.length H xs us → Reps K ρ' n' H' xs us
  | _, _, .nil => .nil
  | _, _, .cons r t => .cons (Rep.ext R E r) (Reps.ext R E t)
end
theorem Ext.refl : Ext ρ n H ρ n H := ⟨Nat.le_refl _, fun _ _ => rfl, fun _ _ e _ => e, fun l h1 h2 => absurd (Nat.lt_of_lt_of_le h2 h1) (Nat.lt_irrefl _)⟩
theorem Ext.trans (R1 : HR K ρ1 h1 H1) (A : Ext ρ n H ρ1 h1.length H1) (B : Ext ρ1 h1.length H1 ρ2 n2 H2) : Ext ρ n H ρ2 n2 H2 where
  le := Nat.le_trans A.le B.le
  eq := fun l hl => (B.eq l (Nat.lt_of_lt_of_le hl A.le)).trans (A.eq l hl)
  keep := fun a u e hn => B.keep a u (A.keep a u e hn) fun l hl z => by
    by_cases q : l < n
    · exact hn l q ((A.eq l q).symm.trans z)
    · have := A.new l (Nat.le_of_not_lt q) hl
      rw [z, e] at this
      cases this
  new := fun l hl hl2 => by
    by_cases q : l < h1.length
    · rw [B.eq l q]
      exact A.new l hl q
    · have z := B.new l (Nat.le_of_not_lt q) hl2
      cases e : H (ρ2 l) with
      | none => rfl
      | some u =>
        by_cases r : ∃ l', l' < n ∧ ρ l' = ρ2 l
        · obtain ⟨l', h3, h4⟩ := r
          obtain ⟨o, h5⟩ := R1.there (Nat.lt_of_lt_of_le h3 A.le)
          rw [A.eq l' h3, h4, z] at h5
          cases h5
        · have := A.keep _ u e fun l' h3 h4 => r ⟨l', h3, h4⟩
          rw [z] at this
          cases this
/-- the slots -/
structure SR (K : PySem.W.Frag) (ρ : Nat → Addr) (n : Nat) (H : Hp) (ς : PSt) (σ : L2.St) : Prop where
  len : ς.length = σ.length
  get : ∀ (i : Nat) (v : PV), ς[i]? = some (some v) → ∃ u, σ[i]? = some (some u) ∧ Rep K ρ n H v u
theorem SR.ext (S : SR K ρ h.length H ς σ) (R : HR K ρ h H) (E : Ext ρ h.length H ρ' n' H') : SR K ρ' n' H' ς σ :=
  ⟨S.len, fun i v e => let ⟨u, a, b⟩ := S.get i v e; ⟨u, a, b.ext R E⟩⟩
theorem SR.set (S : SR K ρ n H ς σ) (i : Nat) (r : Rep K ρ n H v u) : SR K ρ n H (ς.set i (some v)) (σ.set i (some u)) := by
  refine ⟨by simp [S.len], fun j w e => ?_⟩
  by_cases q : i = j
  · subst q
    by_cases hl : i < ς.length
    · rw [List.getElem?_set_self hl] at e
      cases e
      exact ⟨u, by rw [List.getElem?_set_self (by rw [← S.len]; exact hl)], r⟩
    · rw [List.getElem?_eq_none (by simpa using hl)] at e
      cases e
  · rw [List.getElem?_set_ne q] at e
    obtain ⟨u', a, b⟩ := S.get j w e
    exact ⟨u', by rw [List.getElem?_set_ne q]; exact a, b⟩
theorem SR.unset (S : SR K ρ n H ς σ) (i : Nat) : SR K ρ n H (ς.set i none) (σ.set i none) := by
  refine ⟨by simp [S.len], fun j w e => ?_⟩
  by_cases q : i = j
  · subst q
    by_cases hl : i < ς.length
    · rw [List.getElem?_set_self hl] at e
      cases e
    · rw [List.getElem?_eq_none (by simpa using hl)] at e
      cases e
  · rw [List.getElem?_set_ne q] at e
    obtain ⟨u', a, b⟩ := S.get j w e
    exact ⟨u', by rw [List.getElem?_set_ne q]; exact a, b⟩
theorem SR.wipe (S : SR K ρ n H ς σ) : ∀ vs : List Nat, SR K ρ n H (wipeP ς vs) (wipe σ vs)
  | [] => S
  | v :: vs => (SR.wipe S vs).unset v

/-! ### steps of the heap -/
theorem getL_some (e : getL h l = some xs) : h[l]? = some (.lst xs) := by
  unfold getL at e
  split at e
  · cases e; assumption
  · cases e
theorem getL_lt (e : getL h l = some xs) : l < h.length := by
  have := getL_some e
  exact (List.getElem?_eq_some_iff.mp this).1
/-- a new untracked object -/
theorem Ext.fresh {o : HO} (hp : H p = none) : Ext ρ n H ρ n (upd H p o) :=
  ⟨Nat.le_refl _, fun _ _ => rfl, fun a u e _ => by rw [upd_ne (ne_of_none e hp)]; exact e, fun l h1 h2 => absurd (Nat.lt_of_lt_of_le h2 h1) (Nat.lt_irrefl _)⟩
theorem HR.fresh {o : HO} (R : HR K ρ h H) (hp : H p = none) : HR K ρ h (upd H p o) := by
  refine ⟨fun l o' e => ?_, R.inj⟩
  have hl : l < h.length := (List.getElem?_eq_some_iff.mp e).1
  have q := R.obj l o' e
  obtain ⟨o2, e2⟩ := R.there hl
  rw [e2] at q
  rw [upd_ne (ne_of_none e2 hp), e2]
  cases q with
  | lst r => exact .lst (Reps.ext R (Ext.fresh hp) r)
/-- a list that stands at p, untracked, is tracked from now on -/
def ρadd (ρ : Nat → Addr) (n : Nat) (p : Addr) : Nat → Addr := fun l => if l = n then p else ρ l
theorem ρadd_lt {p : Addr} (hl : l < n) : ρadd ρ n p l = ρ l := by unfold ρadd; rw [if_neg (Nat.ne_of_lt hl)]
theorem ρadd_self {p : Addr} : ρadd ρ n p n = p := by unfold ρadd; rw [if_pos rfl]
/-- from H, where p is new, to H1, where the list stands at p -/
theorem Ext.track (E : Ext ρ n H ρ1 h1.length H1) (hp : H p = none) : Ext ρ n H (ρadd ρ1 h1.length p) (h1.length + 1) H1 where
  le := Nat.le_succ_of_le E.le
  eq := fun l hl => by rw [ρadd_lt (Nat.lt_of_lt_of_le hl E.le)]; exact E.eq l hl
  keep := E.keep
  new := fun l h1' h2' => by
    by_cases q : l = h1.length
    · rw [q, ρadd_self]; exact hp
    · have hl : l < h1.length := by omega
      rw [ρadd_lt hl]; exact E.new l h1' hl
mutual
theorem Rep.more (hn : ∀ l, l < n → ρ' l = ρ l) (hle : n ≤ n') : ∀ {v : PV} {u : V}, Rep K ρ n H v u → Rep K ρ' n' H v u
  | _, _, .non => .non
  | _, _, .bl b => .bl b
  | _, _, .int i => .int i
  | _, _, .str x e => .str x e
  | _, _, .tup s r => .tup s (Reps.more hn hle r)
  | _, _, .rol s r => .rol s (Reps.more hn hle r)
  | _, _, .loc l hl => by rw [← hn l hl]; exact .loc l (Nat.lt_of_lt_of_le hl hle)
theorem Reps.more (hn : ∀ l, l < n → ρ' l = ρ l) (hle : n ≤ n') : ∀ {xs : List PV} {us : List V}, Reps K ρ n H xs us → Reps K ρ' n' H xs us
  | _, _, .nil => .nil
  | _, _, .cons r t => .cons (Rep.more hn hle r) (Reps.more hn hle t)
end
theorem HR.track (R : HR K ρ h H) (hp : H p = some (.lst us)) (hn : ∀ l, l < h.length → ρ l ≠ p) (r : Reps K ρ h.length H xs us) : HR K (ρadd ρ h.length p) (h ++ [.lst xs]) H where
  obj := fun l o e => by
    by_cases q : l < h.length
    · rw [List.getElem?_append_left q] at e
      have z := R.obj l o e
      rw [ρadd_lt q]
      obtain ⟨o2, e2⟩ := R.there q
      rw [e2] at z ⊢
      cases z with
      | lst r => exact .lst (r.more (fun l hl => ρadd_lt hl) (by simp))
    · have hl : l < (h ++ [PO.lst xs]).length := (List.getElem?_eq_some_iff.mp e).1
      have q2 : l = h.length := by simp at hl; omega
      subst q2
      simp at e
      subst e
      rw [ρadd_self, hp]
      exact .lst (r.more (fun l hl => ρadd_lt hl) (by simp))
  inj := fun l l' hl hl' e => by
    simp only [List.length_append, List.length_cons, List.length_nil] at hl hl'
    by_cases q : l < h.length <;> by_cases q' : l' < h.length
    · rw [ρadd_lt q, ρadd_lt q'] at e; exact R.inj l l' q q' e
    · have : l' = h.length := by omega
      subst this
      rw [ρadd_lt q, ρadd_self] at e
      exact absurd e (hn l q)
    · have : l = h.length := by omega
      subst this
      rw [ρadd_lt q', ρadd_self] at e
      exact absurd e.symm (hn l' q')
    · omega
/-- a tracked list is written -/
theorem Ext.write (R : HR K ρ h H) (hl : l < h.length) {o : HO} : Ext ρ h.length H ρ h.length (upd H (ρ l) o) :=
  ⟨Nat.le_refl _, fun _ _ => rfl, fun a u e hn => by rw [upd_ne (Ne.symm (hn l hl))]; exact e, fun l h1 h2 => absurd (Nat.lt_of_lt_of_le h2 h1) (Nat.lt_irrefl _)⟩
theorem HR.write (R : HR K ρ h H) (hl : l < h.length) (r : Reps K ρ h.length H xs us) : HR K ρ (h.set l (.lst xs)) (upd H (ρ l) (.lst us)) := by
  have E : Ext ρ h.length H ρ (h.set l (.lst xs)).length (upd H (ρ l) (.lst us)) := by
    rw [List.length_set]
    exact Ext.write R hl
  refine ⟨fun j o e => ?_, fun j j' hj hj' e => R.inj j j' (by simpa using hj) (by simpa using hj') e⟩
  by_cases q : l = j
  · subst q
    rw [List.getElem?_set_self hl] at e
    cases e
    rw [upd_same]
    exact .lst (Reps.ext R E r)
  · rw [List.getElem?_set_ne q] at e
    have hj : j < h.length := (List.getElem?_eq_some_iff.mp e).1
    have z := R.obj j o e
    rw [upd_ne fun y => q (R.inj l j hl hj y.symm)]
    obtain ⟨o2, e2⟩ := R.there hj
    rw [e2] at z ⊢
    cases z with
    | lst r => exact .lst (Reps.ext R E r)
theorem Ext.write' (R : HR K ρ h H) (hl : l < h.length) {o : HO} {po : PO} : Ext ρ h.length H ρ (h.set l po).length (upd H (ρ l) o) := by
  rw [List.length_set]
  exact Ext.write R hl
/-- what stands at a location -/
theorem HR.list (R : HR K ρ h H) (e : getL h l = some xs) : ∃ us, H (ρ l) = some (.lst us) ∧ Reps K ρ h.length H xs us := by
  have q := R.obj l _ (getL_some e)
  obtain ⟨o2, e2⟩ := R.there (getL_lt e)
  rw [e2] at q
  cases q with
  | lst r => exact ⟨_, e2, r⟩
end WD
end
section
set_option Elab.async false
set_option linter.all false
set_option maxRecDepth 100000
set_option autoImplicit false
set_option maxHeartbeats 4000000
/-! WOps: each operation by values, seen in the abstract heap. -/
namespace WD
open PySem PySem.Spec PyProof.Rows L2

/-- what is fixed: the written part, the exception classes -/
structure GE where
  K : PySem.W.Frag
  cls : Nat → Option (Addr × List Str)
/-- an exception, as it flies -/
def XR (G : GE) (ρ : Nat → Addr) (n : Nat) (H : Hp) (e : PV) (c : Value) (d : Option Addr) : Prop :=
  ∃ k fs C ns dd vs, e = .xc k fs ∧ G.cls k = some (C, ns) ∧ c = .ref C ∧ d = some dd ∧ H dd = some (.xd (ns.zip vs)) ∧ Reps G.K ρ n H fs vs ∧ vs.length = ns.length
/-- what follows is answered: for values related by R -/
def Cov {α β : Type} (G : GE) (R : (Nat → Addr) → Nat → Hp → α → β → Prop) (ρ : Nat → Addr) (h : PH) (H : Hp) (q : α → PH → Prop) (Q : β → Hp → Prop) : Prop :=
  ∀ ρ' h' H' v u, Ext ρ h.length H ρ' h'.length H' → HR G.K ρ' h' H' → R ρ' h'.length H' v u → q v h' → Q u H'
def CovX (G : GE) (ρ : Nat → Addr) (h : PH) (H : Hp) (x : QX) (σ : L2.St) (W : WX) : Prop :=
  ∀ ρ' h' H' e c d, Ext ρ h.length H ρ' h'.length H' → HR G.K ρ' h' H' → XR G ρ' h'.length H' e c d → x e h' → W c d σ H'

section
variable {α β : Type} {G : GE} {R : (Nat → Addr) → Nat → Hp → α → β → Prop} {ρ ρ1 : Nat → Addr} {h h1 : PH} {H H1 : Hp} {q : α → PH → Prop} {Q : β → Hp → Prop} {x : QX} {σ : L2.St} {W : WX}
theorem Cov.at (c : Cov G R ρ h H q Q) (R1 : HR G.K ρ1 h1 H1) (E : Ext ρ h.length H ρ1 h1.length H1) : Cov G R ρ1 h1 H1 q Q :=
  fun ρ' h' H' v u E' R' r k => c ρ' h' H' v u (E.trans R1 E') R' r k
theorem CovX.at (c : CovX G ρ h H x σ W) (R1 : HR G.K ρ1 h1 H1) (E : Ext ρ h.length H ρ1 h1.length H1) : CovX G ρ1 h1 H1 x σ W :=
  fun ρ' h' H' e k d E' R' r z => c ρ' h' H' e k d (E.trans R1 E') R' r z
theorem CovX.none : CovX G ρ h H (fun _ _ => False) σ W := fun _ _ _ _ _ _ _ _ _ z => z.elim
end
abbrev RV (G : GE) : (Nat → Addr) → Nat → Hp → PV → V → Prop := Rep G.K
abbrev RVs (G : GE) : (Nat → Addr) → Nat → Hp → List PV → List V → Prop := Reps G.K
abbrev REq (α : Type) : (Nat → Addr) → Nat → Hp → α → α → Prop := fun _ _ _ a b => a = b

/-! ### texts -/
theorem strOk_append {a b : Str} (ha : PyData.strOk a = true) (hb : PyData.strOk b = true) : PyData.strOk (a ++ b) = true := by
  have e : (a ++ b).cps = a.cps ++ b.cps := rfl
  unfold PyData.strOk at *
  rw [e, Array.all_append, ha, hb]
  rfl
theorem strOk_iff {a : Str} : PyData.strOk a = true ↔ ∀ c ∈ a.cps.toList, c < 0x110000 := by
  unfold PyData.strOk
  rw [← Array.all_toList, List.all_eq_true]
  simp
theorem strOk_sign {a : Str} (ha : PyData.strOk a = true) {c : Nat} {k : Nat} (e : a.cps.toList[k]? = some c) : PyData.strOk ⟨#[c]⟩ = true := by
  rw [strOk_iff] at ha ⊢
  intro d hd
  have : d = c := by simpa using hd
  rw [this]
  exact ha c (List.mem_of_getElem? e)
theorem strOk_cut {a : Str} (ha : PyData.strOk a = true) (lo hi : Option Int) : PyData.strOk (cutS a lo hi) = true := by
  rw [strOk_iff] at ha ⊢
  intro d hd
  refine ha d ?_
  have e : (cutS a lo hi).cps.toList = (a.cps.toList.drop (HT.sIx a.length 0 lo)).take (HT.sIx a.length a.length hi - HT.sIx a.length 0 lo) := by
    show (Array.toList (List.toArray _)) = _
    rw [List.toList_toArray]
  rw [e] at hd
  exact List.mem_of_mem_drop (List.mem_of_mem_take hd)
theorem strOk_mul {a : Str} (ha : PyData.strOk a = true) (n : Int) : PyData.strOk (strMul a n) = true := by
  rw [strOk_iff] at ha ⊢
  intro d hd
  refine ha d ?_
  have e : (strMul a n).cps.toList = (List.replicate n.toNat a.cps.toList).flatten := by
    show (Array.toList (List.toArray _)) = _
    rw [List.toList_toArray]
  rw [e, List.mem_flatten] at hd
  obtain ⟨l, h1, h2⟩ := hd
  rw [List.mem_replicate] at h1
  rw [h1.2] at h2
  exact h2
theorem strOk_int (i : Int) : PyData.strOk (Str.ofString (toString i)) = true := by
  rw [strOk_iff]
  intro d hd
  rw [Str.ofString_eq_toList] at hd
  simp only [List.toList_toArray, List.mem_map] at hd
  obtain ⟨c, _, rfl⟩ := hd
  have := c.valid
  simp only [UInt32.isValidChar, Nat.isValidChar] at this
  show c.val.toNat < _
  omega

section
variable {K : PySem.W.Frag} {ρ : Nat → Addr} {n : Nat} {H : Hp} {h : PH} {v w : PV} {u u' : V}
/-! ### data -/
theorem Rep.intInv {i : Int} (r : Rep K ρ n H (.int i) u) : u = .int i := by cases r; rfl
theorem Rep.strInv {x : Str} (r : Rep K ρ n H (.str x) u) : u = .str x ∧ PyData.strOk x = true := by cases r; exact ⟨rfl, by assumption⟩
theorem Rep.blInv {b : Bool} (r : Rep K ρ n H (.bl b) u) : u = .bl b := by cases r; rfl
theorem Rep.nonInv (r : Rep K ρ n H .non u) : u = .non := by cases r; rfl
theorem Rep.tupInv {xs : List PV} (r : Rep K ρ n H (.tup xs) u) : ∃ a vs, u = .ref a ∧ SqT K H a vs ∧ Reps K ρ n H xs vs := by cases r; exact ⟨_, _, rfl, by assumption, by assumption⟩
theorem Rep.rolInv {xs : List PV} (r : Rep K ρ n H (.rol xs) u) : ∃ a vs, u = .ref a ∧ SqF K H a vs ∧ Reps K ρ n H xs vs := by cases r; exact ⟨_, _, rfl, by assumption, by assumption⟩
theorem Rep.locInv {l : Nat} (r : Rep K ρ n H (.loc l) u) : u = .ref (ρ l) ∧ l < n := by cases r; exact ⟨rfl, by assumption⟩
/-- what is a list or a tuple -/
theorem items_sq (R : HR K ρ h H) {xs : List PV} (e : items h v = some xs) (r : Rep K ρ h.length H v u) : ∃ a vs, u = .ref a ∧ (SqL K H a vs ∨ SqT K H a vs) ∧ Reps K ρ h.length H xs vs := by
  cases v with
  | tup ys =>
    have e1 : ys = xs := Option.some.inj e
    subst e1
    obtain ⟨a, vs, h1, h2, h3⟩ := r.tupInv
    exact ⟨a, vs, h1, .inr h2, h3⟩
  | rol ys =>
    have e1 : ys = xs := Option.some.inj e
    subst e1
    obtain ⟨a, vs, h1, h2, h3⟩ := r.rolInv
    exact ⟨a, vs, h1, .inl h2.sq, h3⟩
  | loc l =>
    obtain ⟨us, h1, h2⟩ := R.list (show getL h l = some xs from e)
    exact ⟨_, us, r.locInv.1, .inl (SqL.of h1), h2⟩
  | _ => cases e
theorem itemsL_sq (R : HR K ρ h H) {xs : List PV} (e : itemsL h v = some xs) (r : Rep K ρ h.length H v u) : ∃ a vs, u = .ref a ∧ SqL K H a vs ∧ Reps K ρ h.length H xs vs := by
  cases v with
  | rol ys =>
    have e1 : ys = xs := Option.some.inj e
    subst e1
    obtain ⟨a, vs, h1, h2, h3⟩ := r.rolInv
    exact ⟨a, vs, h1, h2.sq, h3⟩
  | loc l =>
    obtain ⟨us, h1, h2⟩ := R.list (show getL h l = some xs from e)
    exact ⟨_, us, r.locInv.1, SqL.of h1, h2⟩
  | _ => cases e
theorem mapM_len {α β : Type} {f : α → Option β} : ∀ {xs : List α} {ys : List β}, xs.mapM f = some ys → xs.length = ys.length
  | [], ys, e => by
    have : ([] : List β) = ys := by simpa using e
    rw [← this]; rfl
  | x :: xs, ys, e => by
    rw [List.mapM_cons] at e
    cases h1 : f x with
    | none => rw [h1] at e; cases e
    | some y =>
      rw [h1] at e
      cases h2 : xs.mapM f with
      | none => rw [h2] at e; cases e
      | some zs =>
        rw [h2] at e
        have : y :: zs = ys := Option.some.inj e
        rw [← this, List.length_cons, List.length_cons, mapM_len h2]
theorem mapM_cons_some {α β : Type} {f : α → Option β} {x : α} {xs : List α} {ys : List β} (e : (x :: xs).mapM f = some ys) : ∃ y zs, f x = some y ∧ xs.mapM f = some zs ∧ ys = y :: zs := by
  rw [List.mapM_cons] at e
  cases h1 : f x with
  | none => rw [h1] at e; cases e
  | some y =>
    rw [h1] at e
    cases h2 : xs.mapM f with
    | none => rw [h2] at e; cases e
    | some zs =>
      rw [h2] at e
      exact ⟨y, zs, rfl, rfl, (Option.some.inj e).symm⟩
mutual
theorem toD_dp (R : HR K ρ h H) : ∀ (k : Nat) (v : PV) (u : V) (d : PyData), toD h k v = some d → Rep K ρ h.length H v u → Dp K H u d ∧ d.canLay0 = true ∧ d.depth ≤ k
  | 0, _, _, _, e, _ => by cases e
  | k + 1, .non, _, _, e, r => by cases e; cases r; exact ⟨.non, rfl, Nat.zero_le _⟩
  | k + 1, .bl b, _, _, e, r => by cases e; cases r; exact ⟨.bl b, rfl, Nat.zero_le _⟩
  | k + 1, .int i, _, _, e, r => by cases e; cases r; exact ⟨.int i, rfl, Nat.zero_le _⟩
  | k + 1, .str x, _, _, e, r => by
    cases e
    obtain ⟨rfl, hs⟩ := r.strInv
    exact ⟨.str x, by simpa [PyData.canLay0] using hs, Nat.zero_le _⟩
  | k + 1, .tup xs, _, _, e, r => by
    simp only [toD, Option.map_eq_some_iff] at e
    obtain ⟨ds, e1, rfl⟩ := e
    obtain ⟨a, vs, rfl, h2, h3⟩ := r.tupInv
    obtain ⟨z1, z2, z3⟩ := toD_dps R k xs vs ds e1 h3
    exact ⟨.tup h2 z1, by simpa [PyData.canLay0] using z2, by simp only [PyData.depth]; omega⟩
  | k + 1, .rol xs, _, _, e, r => by
    simp only [toD, Option.map_eq_some_iff] at e
    obtain ⟨ds, e1, rfl⟩ := e
    obtain ⟨a, vs, rfl, h2, h3⟩ := r.rolInv
    obtain ⟨z1, z2, z3⟩ := toD_dps R k xs vs ds e1 h3
    exact ⟨.lst h2.sq z1, by simpa [PyData.canLay0] using z2, by simp only [PyData.depth]; omega⟩
  | k + 1, .loc l, _, _, e, r => by
    simp only [toD] at e
    cases h0 : getL h l with
    | none => rw [h0] at e; cases e
    | some xs =>
      rw [h0] at e
      simp only [Option.map_eq_some_iff] at e
      obtain ⟨ds, e1, rfl⟩ := e
      obtain ⟨us, h1, h2⟩ := R.list h0
      rw [r.locInv.1]
      obtain ⟨z1, z2, z3⟩ := toD_dps R k xs us ds e1 h2
      exact ⟨.lst (SqL.of h1) z1, by simpa [PyData.canLay0] using z2, by simp only [PyData.depth]; omega⟩
  | k + 1, .xc _ _, _, _, e, _ => by cases e
theorem toD_dps (R : HR K ρ h H) : ∀ (k : Nat) (xs : List PV) (us : List V) (ds : List PyData), xs.mapM (toD h k) = some ds → Reps K ρ h.length H xs us → DpAll K H us ds ∧ PyData.canLayAll0 ds = true ∧ PyData.depthAll ds ≤ k
  | k, [], us, ds, e, r => by
    cases r
    have : ds = [] := by simpa using e.symm
    subst this
    exact ⟨.nil, rfl, Nat.zero_le _⟩
  | k, x :: xs, us, ds, e, r => by
    cases r with
    | cons r1 r2 =>
      obtain ⟨y, zs, e1, e2, rfl⟩ := mapM_cons_some e
      obtain ⟨a1, a2, a3⟩ := toD_dp R k x _ y e1 r1
      obtain ⟨b1, b2, b3⟩ := toD_dps R k xs _ zs e2 r2
      exact ⟨.cons a1 b1, by simp [PyData.canLayAll0, a2, b2], by simp only [PyData.depthAll]; omega⟩
end
theorem shaped_of {d : PyData} (h1 : d.canLay0 = true) (h2 : d.depth ≤ 64) : SeqAt.shaped d = true := by
  unfold SeqAt.shaped
  rw [h1, decide_eq_true h2]
  rfl
theorem scal_rep (e : scalP v w = true) (r : Rep K ρ n H v u) (r' : Rep K ρ n H w u') : L2.scal u u' = true ∧ decide (u = u') = decide (v = w) := by
  cases r <;> cases r' <;> first
    | (simp [scalP] at e; done)
    | (refine ⟨rfl, ?_⟩; simp)
end
section
variable {X : Cx} {ρ : Nat → Addr} {H : Hp} {h : PH} {v w : PV} {u u' : V}
/-- a two-place operation that gives a value -/
def OpOk (X : Cx) (f : Value → Value → Sem Value) (m : PV → PV → PH → QV → Prop) : Prop :=
  ∃ r : R2, OpR X f r ∧ ∀ (G : GE) (ρ : Nat → Addr) (h : PH) (H : Hp) (v w : PV) (u u' : V) (q : QV) (Q : VK), G.K = X.K → HR G.K ρ h H → Rep G.K ρ h.length H v u → Rep G.K ρ h.length H w u' → m v w h q → Cov G (RV G) ρ h H q Q → r u u' H Q
theorem Cov.here {G : GE} {q : QV} {Q : VK} (c : Cov G (RV G) ρ h H q Q) (R : HR G.K ρ h H) (r : Rep G.K ρ h.length H v u) (k : q v h) : Q u H := c ρ h H v u Ext.refl R r k
/-- a new tuple -/
theorem Cov.newTup {G : GE} {q : QV} {Q : VK} {xs : List PV} {us : List V} (c : Cov G (RV G) ρ h H q Q) (R : HR G.K ρ h H) (r : Reps G.K ρ h.length H xs us) (k : q (.tup xs) h) (p : Addr) (hp : H p = none) : Q (.ref p) (upd H p (.tup us)) :=
  c ρ h _ (.tup xs) (.ref p) (Ext.fresh hp) (R.fresh hp) (.tup (SqT.of upd_same) (Reps.ext R (Ext.fresh hp) r)) k
/-- a new list, tracked from now on -/
theorem Cov.newLst {G : GE} {q : QV} {Q : VK} {xs : List PV} {us : List V} (c : Cov G (RV G) ρ h H q Q) (R : HR G.K ρ h H) (r : Reps G.K ρ h.length H xs us) (k : q (.loc h.length) (h ++ [.lst xs])) (p : Addr) (hp : H p = none) : Q (.ref p) (upd H p (.lst us)) := by
  have R1 : HR G.K ρ h (upd H p (.lst us)) := R.fresh hp
  have E1 : Ext ρ h.length H ρ h.length (upd H p (.lst us)) := Ext.fresh hp
  have nl : ∀ l, l < h.length → ρ l ≠ p := fun l hl z => by
    obtain ⟨o, e⟩ := R.there hl
    rw [z, hp] at e
    cases e
  refine c (ρadd ρ h.length p) (h ++ [.lst xs]) _ (.loc h.length) (.ref p) ?_ (R1.track upd_same nl (Reps.ext R E1 r)) ?_ k
  · have := Ext.track (h1 := h) E1 hp
    rwa [show (h ++ [PO.lst xs]).length = h.length + 1 by simp]
  · have e : V.ref p = V.ref (ρadd ρ h.length p h.length) := by rw [ρadd_self]
    rw [e]
    exact .loc h.length (by simp)
theorem strOk_of_mul {a : Str} {k : Nat} : (⟨(List.replicate k a.cps).foldl (· ++ ·) #[]⟩ : Str) = strMul a k := by
  unfold strMul
  congr 1
  have : ∀ (m : Nat) (acc : Array Nat), ((List.replicate m a.cps).foldl (· ++ ·) acc) = acc ++ (List.replicate m a.cps.toList).flatten.toArray := by
    intro m
    induction m with
    | zero => intro acc; simp
    | succ m ih =>
      intro acc
      rw [List.replicate_succ, List.foldl_cons, ih]
      rw [List.replicate_succ, List.flatten_cons]
      apply Array.ext'
      simp
  rw [this]
  simp
theorem op_strMul : OpR X (binaryOp .Mult) (fun x y H Q => ∃ (z : Str) (k : Int), x = .str z ∧ y = .int k ∧ k ≤ 1000000 ∧ -1000000 ≤ k ∧ z.length * k.toNat ≤ 16777216 ∧ Q (.str (strMul z k)) H) := by
  intro pins s σ H x y v u Q I rx ry hh
  obtain ⟨z, k, rfl, rfl, h1, h2, h3, q⟩ := hh
  obtain ⟨t, rfl⟩ := rx
  obtain ⟨t', rfl⟩ := ry
  have hl : (z.length : Int) * k.toNat ≤ 16777216 := by
    have h9 := Int.ofNat_le.mpr h3
    rw [Int.natCast_mul] at h9
    exact h9
  refine PySem.P.mul_str (by rw [decide_eq_false (by omega), decide_eq_false (by omega)]; rfl) (fun h4 _ h5 => ?_) (fun h4 _ => ?_) ?_
  · have hk : 1 ≤ k := by omega
    have e1 : (2 ^ 63 - 1) / k ≥ 16777216 := by
      have : (16777216 : Int) * k ≤ 2 ^ 63 - 1 := by omega
      exact (Int.le_ediv_iff_mul_le (by omega)).mpr this
    have e2 : (z.length : Int) ≤ 16777216 := by
      have : (1 : Int) ≤ k.toNat := by omega
      have : (z.length : Int) * 1 ≤ (z.length : Int) * k.toNat := Int.mul_le_mul_of_nonneg_left this (by omega)
      omega
    omega
  · show decide (z.length * k.toNat > sizeLine) = false
    rw [decide_eq_false]
    rw [sizeLine_eq]
    omega
  · have fin : ∀ s', Inv X pins σ H s' → ∀ tk, EP X pins σ Q (.str (strMul z k) tk) s' := fun s' I' tk => ⟨.str (strMul z k), H, I', ⟨_, rfl⟩, q⟩
    split
    · rename_i h4
      have e : strMul z k = Str.empty := by
        unfold strMul
        have : k.toNat = 0 := by omega
        rw [this]
        rfl
      rw [← e]
      exact ⟨by rw [e]; decide, fin _ (I.tok _) _⟩
    · rename_i h4
      split
      · rename_i h5
        have e : strMul z k = z := by
          simp only [Bool.or_eq_true, beq_iff_eq] at h5
          rcases h5 with h5 | h5
          · subst h5
            unfold strMul
            simp
          · unfold strMul
            have : z.cps = #[] := Array.eq_empty_of_size_eq_zero h5
            obtain ⟨c⟩ := z
            simp only at this
            subst this
            simp
        rw [e] at fin
        exact fin _ I _
      · have e : (⟨(List.replicate k.toNat z.cps).foldl (· ++ ·) #[]⟩ : Str) = strMul z k := by
          rw [strOk_of_mul]
          congr 1
          omega
        rw [e]
        refine ⟨?_, fin _ (I.tok _) _⟩
        have : (strMul z k).length ≤ sizeLine := by
          unfold strMul Str.length
          simp only [List.size_toArray, List.length_flatten, List.map_replicate, List.sum_replicate_nat, Array.length_toList]
          rw [sizeLine_eq]
          have : z.cps.size * k.toNat ≤ 16777216 := h3
          rw [Nat.mul_comm]
          exact this
        exact this
end
end WD
end
section
set_option Elab.async false
set_option linter.all false
set_option maxRecDepth 100000
set_option autoImplicit false
set_option maxHeartbeats 4000000
/-! WOps2: binary operations, comparisons, subscripts, slices, truth. -/
namespace WD
open PySem PySem.Spec PyProof.Rows L2
section
variable {X : Cx}
abbrev rF : R2 := fun _ _ _ _ => False
theorem op_F {f : Value → Value → Sem Value} : OpR X f rF := fun _ _ _ _ _ _ _ _ _ _ _ _ h => h.elim
theorem bin_ok (o : Operator) : OpOk X (binaryOp o) (binS o) := by
  cases o with
  | Add =>
    refine ⟨_, (op_add.or (op_add_str.or (op_catA.or op_cat))), fun G ρ h H v w u u' q Q eK R r r' m c => ?_⟩
    cases v <;> cases w <;> try (exact (m : False).elim)
    · rw [r.intInv, r'.intInv]
      exact .inl ⟨_, _, rfl, rfl, c.here R (.int _) m⟩
    · obtain ⟨e1, s1⟩ := r.strInv
      obtain ⟨e2, s2⟩ := r'.strInv
      rw [e1, e2]
      exact .inr (.inl ⟨_, _, rfl, rfl, m.1, c.here R (.str _ (strOk_append s1 s2)) m.2⟩)
    · obtain ⟨a, vs, rfl, q1, r1⟩ := r.tupInv
      obtain ⟨b, ws, rfl, q2, r2⟩ := r'.tupInv
      obtain ⟨m1, m2⟩ := m
      rw [eK] at q1 q2
      refine .inr (.inr (.inl ⟨a, b, vs, ws, rfl, rfl, q1, q2, by rw [← r1.length, ← r2.length]; exact m1, fun e => ?_, fun e1 e2 => ?_, fun e1 e2 p hp => c.newTup R (r1.append r2) m2 p hp⟩))
      · subst e
        cases r1
        exact c.here R (.tup (eK ▸ q2) r2) m2
      · subst e2
        cases r2
        rw [List.append_nil] at m2
        exact c.here R (.tup (eK ▸ q1) r1) m2
    · obtain ⟨xs, ys, m1, m2, m3, m4⟩ := m
      obtain ⟨us, a1, a2⟩ := R.list m1
      obtain ⟨ws, b1, b2⟩ := R.list m2
      exact .inr (.inr (.inr ⟨_, _, us, ws, r.locInv.1, r'.locInv.1, a1, b1, by rw [← a2.length, ← b2.length]; exact m3, fun p hp => c.newLst R (a2.append b2) m4 p hp⟩))
  | Sub =>
    refine ⟨_, op_sub, fun G ρ h H v w u u' q Q eK R r r' m c => ?_⟩
    cases v <;> cases w <;> try (exact (m : False).elim)
    rw [r.intInv, r'.intInv]
    exact ⟨_, _, rfl, rfl, c.here R (.int _) m⟩
  | Mult =>
    refine ⟨_, op_mulX.or op_strMul, fun G ρ h H v w u u' q Q eK R r r' m c => ?_⟩
    cases v <;> cases w <;> try (exact (m : False).elim)
    · rw [r.intInv, r'.intInv]
      exact .inl ⟨_, _, rfl, rfl, m.1, c.here R (.int _) m.2⟩
    · obtain ⟨e1, s1⟩ := r.strInv
      rw [e1, r'.intInv]
      obtain ⟨m1, m2, m3, m4⟩ := m
      exact .inr ⟨_, _, rfl, rfl, m1, m2, m3, c.here R (.str _ (strOk_mul s1 _)) m4⟩
  | FloorDiv =>
    refine ⟨_, op_fdivW, fun G ρ h H v w u u' q Q eK R r r' m c => ?_⟩
    cases v <;> cases w <;> try (exact (m : False).elim)
    rw [r.intInv, r'.intInv]
    exact ⟨_, _, rfl, rfl, m.1, c.here R (.int _) m.2⟩
  | Mod =>
    refine ⟨_, op_mod, fun G ρ h H v w u u' q Q eK R r r' m c => ?_⟩
    cases v <;> cases w <;> try (exact (m : False).elim)
    rw [r.intInv, r'.intInv]
    exact ⟨_, _, rfl, rfl, m.1, c.here R (.int _) m.2⟩
  | Pow =>
    refine ⟨_, op_pow, fun G ρ h H v w u u' q Q eK R r r' m c => ?_⟩
    cases v <;> cases w <;> try (exact (m : False).elim)
    rw [r.intInv, r'.intInv]
    exact ⟨_, _, rfl, rfl, m.1, c.here R (.int _) m.2⟩
  | LShift =>
    refine ⟨_, op_shl, fun G ρ h H v w u u' q Q eK R r r' m c => ?_⟩
    cases v <;> cases w <;> try (exact (m : False).elim)
    rw [r.intInv, r'.intInv]
    exact ⟨_, _, rfl, rfl, m.1, c.here R (.int _) m.2⟩
  | RShift =>
    refine ⟨_, op_shr, fun G ρ h H v w u u' q Q eK R r r' m c => ?_⟩
    cases v <;> cases w <;> try (exact (m : False).elim)
    rw [r.intInv, r'.intInv]
    exact ⟨_, _, rfl, rfl, m.1, c.here R (.int _) m.2⟩
  | BitAnd =>
    refine ⟨_, op_and, fun G ρ h H v w u u' q Q eK R r r' m c => ?_⟩
    cases v <;> cases w <;> try (exact (m : False).elim)
    rw [r.intInv, r'.intInv]
    exact ⟨_, _, rfl, rfl, c.here R (.int _) m⟩
  | BitOr =>
    refine ⟨_, op_or, fun G ρ h H v w u u' q Q eK R r r' m c => ?_⟩
    cases v <;> cases w <;> try (exact (m : False).elim)
    rw [r.intInv, r'.intInv]
    exact ⟨_, _, rfl, rfl, c.here R (.int _) m⟩
  | BitXor =>
    refine ⟨_, op_xor, fun G ρ h H v w u u' q Q eK R r r' m c => ?_⟩
    cases v <;> cases w <;> try (exact (m : False).elim)
    rw [r.intInv, r'.intInv]
    exact ⟨_, _, rfl, rfl, c.here R (.int _) m⟩
  | MatMult => exact ⟨rF, op_F, fun G ρ h H v w u u' q Q eK R r r' m c => by cases v <;> cases w <;> exact m⟩
  | Div => exact ⟨rF, op_F, fun G ρ h H v w u u' q Q eK R r r' m c => by cases v <;> cases w <;> exact m⟩
/-- a comparison -/
def CmpOk (X : Cx) (f : Value → Value → Sem Value) (m : PV → PV → PH → (Bool → Prop) → Prop) : Prop :=
  ∃ r : R2, OpR X f r ∧ ∀ (G : GE) (ρ : Nat → Addr) (h : PH) (H : Hp) (v w : PV) (u u' : V) (q : Bool → Prop) (Q : VK), G.K = X.K → HR G.K ρ h H → Rep G.K ρ h.length H v u → Rep G.K ρ h.length H w u' → m v w h q → (∀ b, q b → Q (.bl b) H) → r u u' H Q
theorem eq_ok (hu : X.A.units + 64 < cLine) : CmpOk X (compareOp .Eq) (fun v w h q => eqS h v w q) := by
  refine ⟨_, op_eq.or (op_eqD hu), fun G ρ h H v w u u' q Q eK R r r' m c => ?_⟩
  rcases m with ⟨m1, m2⟩ | ⟨d, e, m1, m2, m3⟩
  · obtain ⟨z1, z2⟩ := scal_rep m1 r r'
    refine .inl ⟨z1, ?_⟩
    rw [z2]
    exact c _ m2
  · obtain ⟨a1, a2, a3⟩ := toD_dp R 64 v u d m1 r
    obtain ⟨b1, b2, b3⟩ := toD_dp R 64 w u' e m2 r'
    exact .inr ⟨d, e, eK ▸ a1, eK ▸ b1, shaped_of a2 a3, shaped_of b2 b3, c _ m3⟩
theorem ne_ok (hu : X.A.units + 64 < cLine) : CmpOk X (compareOp .NotEq) (fun v w h q => eqS h v w fun b => q (!b)) := by
  refine ⟨_, op_ne.or (op_neD hu), fun G ρ h H v w u u' q Q eK R r r' m c => ?_⟩
  rcases m with ⟨m1, m2⟩ | ⟨d, e, m1, m2, m3⟩
  · obtain ⟨z1, z2⟩ := scal_rep m1 r r'
    refine .inl ⟨z1, ?_⟩
    rw [z2]
    exact c _ m2
  · obtain ⟨a1, a2, a3⟩ := toD_dp R 64 v u d m1 r
    obtain ⟨b1, b2, b3⟩ := toD_dp R 64 w u' e m2 r'
    exact .inr ⟨d, e, eK ▸ a1, eK ▸ b1, shaped_of a2 a3, shaped_of b2 b3, c _ m3⟩

/-- x in a list or tuple of data; c in s -/
def rInA (K : PySem.W.Frag) (neg : Bool) : R2 := fun x y H Q => ∃ d ds, Dp K H x d ∧ (Dp K H y (.tuple ds) ∨ Dp K H y (.list ds)) ∧ d.canLay0 = true ∧ d.depth ≤ 64 ∧ PyData.canLayAll0 ds = true ∧ Q (.bl (if neg then !ds.any fun z => PyData.eqv z d else ds.any fun z => PyData.eqv z d)) H
theorem op_inA (hu : X.A.units + 65 < cLine) : OpR X (compareOp .In) (rInA X.K false) := by
  intro pins s σ H x y v u Q I rx ry hh
  obtain ⟨d, ds, hd, he, h1, h2, h3, q⟩ := hh
  obtain ⟨as, r1⟩ := Dp.reads I d x v hd rx
  have hroom : X.A.units + 1 + min (PyData.depthAll ds) d.depth < cLine := by
    have : min (PyData.depthAll ds) d.depth ≤ d.depth := Nat.min_le_right _ _
    omega
  rcases he with he | he
  · obtain ⟨bs, r2⟩ := Dp.reads I (.tuple ds) y u he ry
    exact SeqAt.in_tuple_reads r2 r1 h3 h1 hroom ⟨.bl _, H, I, rfl, q⟩
  · obtain ⟨bs, r2⟩ := Dp.reads I (.list ds) y u he ry
    exact SeqAt.in_list_reads r2 r1 h3 h1 hroom ⟨.bl _, H, I, rfl, q⟩
theorem op_notInA (hu : X.A.units + 65 < cLine) : OpR X (compareOp .NotIn) (rInA X.K true) := by
  intro pins s σ H x y v u Q I rx ry hh
  obtain ⟨d, ds, hd, he, h1, h2, h3, q⟩ := hh
  obtain ⟨as, r1⟩ := Dp.reads I d x v hd rx
  have hroom : X.A.units + 1 + min (PyData.depthAll ds) d.depth < cLine := by
    have : min (PyData.depthAll ds) d.depth ≤ d.depth := Nat.min_le_right _ _
    omega
  rcases he with he | he
  · obtain ⟨bs, r2⟩ := Dp.reads I (.tuple ds) y u he ry
    exact SeqAt.notIn_tuple_reads r2 r1 h3 h1 hroom ⟨.bl _, H, I, rfl, q⟩
  · obtain ⟨bs, r2⟩ := Dp.reads I (.list ds) y u he ry
    exact SeqAt.notIn_list_reads r2 r1 h3 h1 hroom ⟨.bl _, H, I, rfl, q⟩
theorem items_dp {G : GE} {ρ : Nat → Addr} {h : PH} {H : Hp} {v : PV} {u : V} {xs : List PV} {es : List PyData} (R : HR G.K ρ h H) (r : Rep G.K ρ h.length H v u) (e : items h v = some xs) (m : xs.mapM (toD h 63) = some es) :
    (Dp G.K H u (.tuple es) ∨ Dp G.K H u (.list es)) ∧ PyData.canLayAll0 es = true := by
  obtain ⟨a, vs, rfl, q, rs⟩ := items_sq R e r
  obtain ⟨z1, z2, z3⟩ := toD_dps R 63 xs vs es m rs
  rcases q with q | q
  · exact ⟨.inr (.lst q z1), z2⟩
  · exact ⟨.inl (.tup q z1), z2⟩
theorem in_ok (hu : X.A.units + 65 < cLine) : CmpOk X (compareOp .In) (fun v w h q => inS h v w q) := by
  refine ⟨_, op_in_str.or (op_inA hu), fun G ρ h H v w u u' q Q eK R r r' m c => ?_⟩
  by_cases hw : ∃ z, w = .str z
  · obtain ⟨z, rfl⟩ := hw
    obtain ⟨y, rfl, m⟩ := m
    rw [r.strInv.1, r'.strInv.1]
    exact .inl ⟨_, _, rfl, rfl, c _ m⟩
  · have m' : ∃ d xs es, toD h 64 v = some d ∧ items h w = some xs ∧ xs.mapM (toD h 63) = some es ∧ q (es.any fun z => PyData.eqv z d) := by
      cases w <;> first | exact m | exact absurd ⟨_, rfl⟩ hw
    obtain ⟨d, xs, es, m1, m2, m3, m4⟩ := m'
    obtain ⟨a1, a2, a3⟩ := toD_dp R 64 v u d m1 r
    obtain ⟨b1, b2⟩ := items_dp R r' m2 m3
    rw [eK] at a1 b1
    exact .inr ⟨d, es, a1, b1, a2, a3, b2, c _ m4⟩
theorem notIn_ok (hu : X.A.units + 65 < cLine) : CmpOk X (compareOp .NotIn) (fun v w h q => inS h v w fun b => q (!b)) := by
  refine ⟨_, op_notin_str.or (op_notInA hu), fun G ρ h H v w u u' q Q eK R r r' m c => ?_⟩
  by_cases hw : ∃ z, w = .str z
  · obtain ⟨z, rfl⟩ := hw
    obtain ⟨y, rfl, m⟩ := m
    rw [r.strInv.1, r'.strInv.1]
    exact .inl ⟨_, _, rfl, rfl, c _ m⟩
  · have m' : ∃ d xs es, toD h 64 v = some d ∧ items h w = some xs ∧ xs.mapM (toD h 63) = some es ∧ q (!es.any fun z => PyData.eqv z d) := by
      cases w <;> first | exact m | exact absurd ⟨_, rfl⟩ hw
    obtain ⟨d, xs, es, m1, m2, m3, m4⟩ := m'
    obtain ⟨a1, a2, a3⟩ := toD_dp R 64 v u d m1 r
    obtain ⟨b1, b2⟩ := items_dp R r' m2 m3
    rw [eK] at a1 b1
    exact .inr ⟨d, es, a1, b1, a2, a3, b2, c _ m4⟩
theorem cmp_ok (hu : X.A.units + 65 < cLine) (o : CmpOp) : CmpOk X (compareOp o) (cmpS o) := by
  cases o with
  | Eq => exact eq_ok (by omega)
  | NotEq => exact ne_ok (by omega)
  | Lt =>
    refine ⟨_, op_lt, fun G ρ h H v w u u' q Q eK R r r' m c => ?_⟩
    obtain ⟨i, j, rfl, rfl, m⟩ := m
    exact ⟨_, _, r.intInv, r'.intInv, c _ m⟩
  | LtE =>
    refine ⟨_, op_le, fun G ρ h H v w u u' q Q eK R r r' m c => ?_⟩
    obtain ⟨i, j, rfl, rfl, m⟩ := m
    exact ⟨_, _, r.intInv, r'.intInv, c _ m⟩
  | Gt =>
    refine ⟨_, op_gt, fun G ρ h H v w u u' q Q eK R r r' m c => ?_⟩
    obtain ⟨i, j, rfl, rfl, m⟩ := m
    exact ⟨_, _, r.intInv, r'.intInv, c _ m⟩
  | GtE =>
    refine ⟨_, op_ge, fun G ρ h H v w u u' q Q eK R r r' m c => ?_⟩
    obtain ⟨i, j, rfl, rfl, m⟩ := m
    exact ⟨_, _, r.intInv, r'.intInv, c _ m⟩
  | Is =>
    refine ⟨_, op_isN.or op_isBl, fun G ρ h H v w u u' q Q eK R r r' m c => ?_⟩
    rcases m with ⟨rfl, m⟩ | ⟨a, b, rfl, rfl, m⟩
    · refine .inl ⟨r'.nonInv, ?_⟩
      have e : decide (u = .non) = decide (v = .non) := by cases r <;> rfl
      rw [e]
      exact c _ m
    · exact .inr ⟨a, b, r.blInv, r'.blInv, c _ m⟩
  | IsNot =>
    refine ⟨_, op_notN.or op_notBl, fun G ρ h H v w u u' q Q eK R r r' m c => ?_⟩
    rcases m with ⟨rfl, m⟩ | ⟨a, b, rfl, rfl, m⟩
    · refine .inl ⟨r'.nonInv, ?_⟩
      have e : decide (u = .non) = decide (v = .non) := by cases r <;> rfl
      rw [e]
      exact c _ m
    · exact .inr ⟨a, b, r.blInv, r'.blInv, c _ m⟩
  | In => exact in_ok hu
  | NotIn => exact notIn_ok hu
/-! ### subscripts -/
theorem ixP_eq (n : Nat) (i : Int) : ixN n i = ixP n i := rfl
theorem ixS_ok {G : GE} {ρ : Nat → Addr} {h : PH} {H : Hp} {v w : PV} {u u' : V} {q : QV} {Q : VK} (eK : G.K = X.K) (R : HR G.K ρ h H) (r : Rep G.K ρ h.length H v u) (r' : Rep G.K ρ h.length H w u') (m : ixS v w h q) (c : ∀ x z, Rep G.K ρ h.length H x z → q x h → Q z H) : rIx X.K u u' H Q := by
  by_cases hv : ∃ z, v = .str z
  · obtain ⟨z, rfl⟩ := hv
    obtain ⟨i, k, d, rfl, m1, m2, m3, m4⟩ := m
    obtain ⟨e1, s1⟩ := r.strInv
    refine .inr (.inr ⟨z, i, d, e1, r'.intInv, m1, ?_, c _ _ (.str _ (strOk_sign s1 m3)) m4⟩)
    unfold atI
    rw [ixP_eq, show z.cps.toList.length = z.length from Array.length_toList, m2]
    exact m3
  · have m' : ∃ i xs k x, w = .int i ∧ items h v = some xs ∧ ixP xs.length i = some k ∧ xs[k]? = some x ∧ q x h := by
      cases v <;> first | exact m | exact absurd ⟨_, rfl⟩ hv
    obtain ⟨i, xs, k, x, rfl, m1, m2, m3, m4⟩ := m'
    obtain ⟨a, vs, rfl, sq, rs⟩ := items_sq R m1 r
    obtain ⟨z, e1, e2⟩ := rs.get m3
    have e3 : atI vs i = some z := by
      unfold atI
      rw [ixP_eq, ← rs.length, m2]
      exact e1
    rcases sq with sq | sq
    · exact .inl ⟨a, vs, i, z, rfl, r'.intInv, eK ▸ sq, e3, c _ _ e2 m4⟩
    · exact .inr (.inl ⟨a, vs, i, z, rfl, r'.intInv, eK ▸ sq, e3, c _ _ e2 m4⟩)
/-- v[w] as augmented assignment asks it -/
theorem get_list : PGet X (rIxL X.K) := by
  intro pins s σ H o i ov iv Q I r1 r2 hh
  obtain ⟨p, xs, k, z, rfl, rfl, hq, he, q⟩ := hh
  cases r1
  obtain ⟨t, rfl⟩ := r2
  obtain ⟨its, r, pl, hz⟩ := I.list hq
  obtain ⟨j, h1, h2, h3, h4, h5⟩ := atI_get he
  obtain ⟨w, ew, rw'⟩ := r.get h2
  have hl := r.length
  have hn := line63
  have fin : EP X pins σ Q w s := ⟨z, H, I, rw', q⟩
  by_cases h0 : 0 ≤ k
  · have hj : k.toNat = j := by
      rw [seqIndex_of h0 h5] at h1
      exact Option.some.inj h1
    exact wpAny_getItem_list pl.isList h0 (by omega) (by rw [hj]; simpa using ew) fin
  · have hj : (k + (its.toArray.size : Int)).toNat = j := by
      rw [seqIndex_neg (by omega) h4] at h1
      rw [List.size_toArray, ← hl]
      exact Option.some.inj h1
    exact wpAny_getItem_list_neg pl.isList (by omega) (by rw [List.size_toArray] <;> omega) (by omega) (by rw [hj]; simpa using ew) fin
theorem augG_ok {G : GE} {ρ : Nat → Addr} {h : PH} {H : Hp} {v w : PV} {u u' : V} {q : QV} {Q : VK} (eK : G.K = X.K) (R : HR G.K ρ h H) (r : Rep G.K ρ h.length H v u) (r' : Rep G.K ρ h.length H w u') (m : augG v w h q) (c : ∀ x z, Rep G.K ρ h.length H x z → q x h → Q z H) : rIxL X.K u u' H Q := by
  obtain ⟨l, i, xs, k, x, rfl, rfl, m1, m2, m3, m4⟩ := m
  obtain ⟨us, e1, rs⟩ := R.list m1
  obtain ⟨z, e2, e3⟩ := rs.get m3
  refine ⟨ρ l, us, i, z, r.locInv.1, r'.intInv, SqL.of e1, ?_, c _ _ e3 m4⟩
  unfold atI
  rw [ixP_eq, ← rs.length, m2]
  exact e2
/-! ### slices -/
theorem slS_ok {G : GE} {ρ : Nat → Addr} {h : PH} {H : Hp} {v : PV} {u : V} {lo hi : Option Int} {q : QV} {Q : VK} (eK : G.K = X.K) (R : HR G.K ρ h H) (r : Rep G.K ρ h.length H v u) (m : slS v lo hi h q) (c : Cov G (RV G) ρ h H q Q) :
    rSlA X.K u lo hi H Q ∨ rSlS u lo hi H Q ∨ rSlL X.K u lo hi H Q := by
  cases v with
  | tup xs =>
    obtain ⟨a, vs, rfl, sq, rs⟩ := r.tupInv
    have m' : q (.tup (cutP xs lo hi)) h := m
    refine .inl ⟨a, vs, rfl, eK ▸ sq, fun hw => ?_, fun _ p hp => c.newTup R (rs.cut lo hi) m' p hp⟩
    have e : cutP xs lo hi = xs := by
      unfold cutP bndP
      rw [rs.length, hw.1, hw.2, List.drop_zero, Nat.sub_zero, ← rs.length]
      exact List.take_length
    rw [e] at m'
    exact c.here R (.tup sq rs) m'
  | str z =>
    obtain ⟨e1, s1⟩ := r.strInv
    exact .inr (.inl ⟨z, e1, m.1, c.here R (.str _ (strOk_cut s1 lo hi)) m.2⟩)
  | loc l =>
    obtain ⟨xs, m1, m2⟩ := m
    obtain ⟨a, vs, rfl, sq, rs⟩ := itemsL_sq R m1 r
    exact .inr (.inr ⟨a, vs, rfl, eK ▸ sq, fun p hp => c.newLst R (rs.cut lo hi) m2 p hp⟩)
  | rol l =>
    obtain ⟨xs, m1, m2⟩ := m
    obtain ⟨a, vs, rfl, sq, rs⟩ := itemsL_sq R m1 r
    exact .inr (.inr ⟨a, vs, rfl, eK ▸ sq, fun p hp => c.newLst R (rs.cut lo hi) m2 p hp⟩)
  | _ => obtain ⟨xs, m1, m2⟩ := m; cases m1
/-! ### truth -/
theorem tru_of {G : GE} {ρ : Nat → Addr} {h : PH} {H : Hp} {v : PV} {u : V} {b : Bool} (eK : G.K = X.K) (R : HR G.K ρ h H) (r : Rep G.K ρ h.length H v u) (m : truS h v = some b) : TruV X.K u H b := by
  cases v with
  | non =>
    rw [r.nonInv]
    exact (Option.some.inj m).symm
  | bl k =>
    rw [r.blInv]
    exact (Option.some.inj m).symm
  | int i =>
    rw [r.intInv]
    exact (Option.some.inj m).symm
  | str x =>
    rw [r.strInv.1]
    simp only [truS] at m
    split at m
    · exact ⟨by assumption, (Option.some.inj m).symm⟩
    · cases m
  | tup xs =>
    obtain ⟨a, vs, rfl, sq, rs⟩ := r.tupInv
    refine .inr (.inl ⟨vs, eK ▸ sq, ?_⟩)
    have e := (Option.some.inj m).symm
    rw [e]
    cases rs <;> rfl
  | rol xs =>
    obtain ⟨a, vs, rfl, sq, rs⟩ := r.rolInv
    refine .inl ⟨vs, eK ▸ sq.sq, ?_⟩
    have e := (Option.some.inj m).symm
    rw [e]
    cases rs <;> rfl
  | loc l =>
    simp only [truS] at m
    rw [r.locInv.1]
    split at m
    · rename_i xs hx
      have e2 : getL h l = some xs := by unfold getL; rw [hx]
      obtain ⟨us, e1, rs⟩ := R.list e2
      refine .inl ⟨us, SqL.of e1, ?_⟩
      have e := (Option.some.inj m).symm
      rw [e]
      cases rs <;> rfl
    · rename_i kvs hx
      have z := R.obj l _ hx
      cases e : H (ρ l) <;> rw [e] at z <;> cases z
    · cases m
  | xc k fs => cases m
end

end WD
end
section
set_option Elab.async false
set_option linter.all false
set_option maxRecDepth 100000
set_option autoImplicit false
set_option maxHeartbeats 4000000
/-! WOps3: built-in functions, methods, stores. -/
namespace WD
open PySem PySem.Spec PyProof.Rows L2
/-- the value at which a built-in function stands -/
def Bif.fn : Bif → Value
  | .len => .builtin "len"
  | .int => .type "int"
  | .str => .type "str"
  | .abs => .builtin "abs"
  | .min2 => .builtin "min"
  | .max2 => .builtin "max"
  | .isT _ => .builtin "isinstance"
  | .bool => .type "bool"
/-- the arguments as they are handed on -/
def Bif.more : Bif → List V
  | .isT t => [.ty t]
  | _ => []
section
variable {X : Cx}
theorem Reps.inv1 {K : PySem.W.Frag} {ρ : Nat → Addr} {n : Nat} {H : Hp} {v : PV} {us : List V} (r : Reps K ρ n H [v] us) : ∃ u, us = [u] ∧ Rep K ρ n H v u := by
  cases r with
  | cons a b =>
    cases b
    exact ⟨_, rfl, a⟩
theorem Reps.inv2 {K : PySem.W.Frag} {ρ : Nat → Addr} {n : Nat} {H : Hp} {v w : PV} {us : List V} (r : Reps K ρ n H [v, w] us) : ∃ u u', us = [u, u'] ∧ Rep K ρ n H v u ∧ Rep K ρ n H w u' := by
  cases r with
  | cons a b =>
    obtain ⟨u', rfl, h⟩ := b.inv1
    exact ⟨_, _, rfl, a, h⟩
theorem typ_rep {G : GE} {ρ : Nat → Addr} {h : PH} {H : Hp} {v : PV} {u : V} {t : String} {b : Bool} (R : HR G.K ρ h H) (r : Rep G.K ρ h.length H v u) (m : typB t v h = some b) : ∃ t', TyX G.K H u (.type t') ∧ PySem.W.kitOne G.K (.type t') (.type t) = some b := by
  cases v with
  | non => rw [r.nonInv]; exact ⟨_, .base .non, kit_ty m⟩
  | bl k => rw [r.blInv]; exact ⟨_, .base (.bl _), kit_ty m⟩
  | int i => rw [r.intInv]; exact ⟨_, .base (.int _), kit_ty m⟩
  | str x => rw [r.strInv.1]; exact ⟨_, .base (.str _), kit_ty m⟩
  | tup xs =>
    obtain ⟨a, vs, rfl, sq, rs⟩ := r.tupInv
    rcases sq with (sq | ⟨o, sq⟩) | ⟨o, its, n, e1, e2, _⟩
    · exact ⟨_, .base (.tup sq), kit_ty m⟩
    · exact ⟨_, .fTuple sq, kit_ty m⟩
    · exact ⟨_, .kTuple e1 e2, kit_ty m⟩
  | rol xs =>
    obtain ⟨a, vs, rfl, sq, rs⟩ := r.rolInv
    rcases sq.sq with (sq | ⟨o, sq⟩) | ⟨o, its, n, e1, e2, _⟩
    · exact ⟨_, .base (.lst sq), kit_ty m⟩
    · exact ⟨_, .base (.frz sq), kit_ty m⟩
    · exact ⟨_, .kList e1 e2, kit_ty m⟩
  | loc l =>
    rw [r.locInv.1]
    simp only [typB] at m
    split at m
    · rename_i xs hx
      have e2 : getL h l = some xs := by unfold getL; rw [hx]
      obtain ⟨us, e1, rs⟩ := R.list e2
      exact ⟨_, .base (.lst e1), kit_ty m⟩
    · rename_i kvs hx
      have z := R.obj l _ hx
      cases e : H (ρ l) <;> rw [e] at z <;> cases z
    · cases m
  | xc k fs => cases m
/-- a built-in function by its arguments -/
def CallOk (X : Cx) (f : Value) (more : List V) (m : List PV → PH → QV → Prop) : Prop :=
  ∃ r : List V → Hp → VK → Prop, CallR X f r ∧ ∀ (G : GE) (ρ : Nat → Addr) (h : PH) (H : Hp) (vs : List PV) (us : List V) (q : QV) (Q : VK), G.K = X.K → HR G.K ρ h H → Reps G.K ρ h.length H vs us → m vs h q → Cov G (RV G) ρ h H q Q → r (us ++ more) H Q
theorem len_rep {G : GE} {ρ : Nat → Addr} {h : PH} {H : Hp} {v : PV} {u : V} {n : Nat} (eK : G.K = X.K) (R : HR G.K ρ h H) (r : Rep G.K ρ h.length H v u) (m : lenP h v = some n) : LenV X.K u H n := by
  have seq : ∀ xs, items h v = some xs → xs.length = n → LenV X.K u H n := fun xs e e2 => by
    obtain ⟨a, ws, rfl, sq, rs⟩ := items_sq R e r
    rcases sq with sq | sq
    · exact .inl ⟨ws, eK ▸ sq, by rw [← e2]; exact rs.length.symm ▸ rfl⟩
    · exact .inr ⟨ws, eK ▸ sq, by rw [← e2]; exact rs.length.symm ▸ rfl⟩
  cases v with
  | str x =>
    rw [r.strInv.1]
    simp only [lenP] at m
    split at m
    · exact ⟨by assumption, (Option.some.inj m).symm ▸ rfl⟩
    · cases m
  | tup xs => exact seq xs rfl (Option.some.inj m)
  | rol xs => exact seq xs rfl (Option.some.inj m)
  | loc l =>
    simp only [lenP] at m
    split at m
    · rename_i xs hx
      exact seq xs (by show getL h l = some xs; unfold getL; rw [hx]) (Option.some.inj m)
    · rename_i kvs hx
      have z := R.obj l _ hx
      cases e : H (ρ l) <;> rw [e] at z <;> cases z
    · cases m
  | _ => cases m
theorem bif_ok (hc : X.calm = true) (b : Bif) : CallOk X b.fn b.more (bifS b) := by
  cases b with
  | len =>
    refine ⟨_, call_len, fun G ρ h H vs us q Q eK R r m c => ?_⟩
    obtain ⟨v, n, rfl, m1, m2⟩ := m
    obtain ⟨u, rfl, r1⟩ := r.inv1
    exact ⟨u, n, rfl, len_rep eK R r1 m1, c.here R (.int _) m2⟩
  | int =>
    refine ⟨_, call_int1, fun G ρ h H vs us q Q eK R r m c => ?_⟩
    obtain ⟨v, n, rfl, m1, m2⟩ := m
    obtain ⟨u, rfl, r1⟩ := r.inv1
    cases v with
    | int i =>
      cases m1
      rw [r1.intInv]
      exact .inl ⟨_, rfl, c.here R (.int _) m2⟩
    | bl k =>
      cases m1
      rw [r1.blInv]
      exact .inr ⟨_, rfl, c.here R (.int _) m2⟩
    | _ => cases m1
  | bool =>
    refine ⟨_, call_bool1, fun G ρ h H vs us q Q eK R r m c => ?_⟩
    obtain ⟨v, n, rfl, m1, m2⟩ := m
    obtain ⟨u, rfl, r1⟩ := r.inv1
    cases v with
    | int i =>
      cases m1
      rw [r1.intInv]
      exact .inl ⟨_, rfl, c.here R (.bl _) m2⟩
    | bl k =>
      cases m1
      rw [r1.blInv]
      exact .inr ⟨_, rfl, c.here R (.bl _) m2⟩
    | _ => cases m1
  | str =>
    refine ⟨_, call_str_int.or SkE.call_str_str, fun G ρ h H vs us q Q eK R r m c => ?_⟩
    obtain ⟨v, x, rfl, m1, m2⟩ := m
    obtain ⟨u, rfl, r1⟩ := r.inv1
    cases v with
    | int i =>
      simp only [strP] at m1
      split at m1
      · cases m1
        rw [r1.intInv]
        exact .inl ⟨_, rfl, by assumption, c.here R (.str _ (strOk_int i)) m2⟩
      · cases m1
    | str z =>
      cases m1
      obtain ⟨e1, s1⟩ := r1.strInv
      rw [e1]
      exact .inr ⟨_, rfl, c.here R (.str _ s1) m2⟩
    | _ => cases m1
  | abs =>
    refine ⟨_, call_abs, fun G ρ h H vs us q Q eK R r m c => ?_⟩
    obtain ⟨i, rfl, m⟩ := m
    obtain ⟨u, rfl, r1⟩ := r.inv1
    rw [r1.intInv]
    exact ⟨_, rfl, c.here R (.int _) m⟩
  | min2 =>
    refine ⟨_, call_min2 hc, fun G ρ h H vs us q Q eK R r m c => ?_⟩
    obtain ⟨i, j, rfl, m⟩ := m
    obtain ⟨u, u', rfl, r1, r2⟩ := r.inv2
    rw [r1.intInv, r2.intInv]
    exact ⟨_, _, rfl, c.here R (.int _) m⟩
  | max2 =>
    refine ⟨_, call_max2 hc, fun G ρ h H vs us q Q eK R r m c => ?_⟩
    obtain ⟨i, j, rfl, m⟩ := m
    obtain ⟨u, u', rfl, r1, r2⟩ := r.inv2
    rw [r1.intInv, r2.intInv]
    exact ⟨_, _, rfl, c.here R (.int _) m⟩
  | isT t =>
    refine ⟨_, call_isi, fun G ρ h H vs us q Q eK R r m c => ?_⟩
    obtain ⟨v, b, rfl, m1, m2⟩ := m
    obtain ⟨u, rfl, r1⟩ := r.inv1
    obtain ⟨t', h1, h2⟩ := typ_rep R r1 m1
    exact ⟨u, .ty t, .type t', .type t, b, rfl, .ty t, eK ▸ h1, eK ▸ h2, c.here R (.bl _) m2⟩
/-! ### functions of a list's items -/
def Lif.fn : Lif → Value
  | .tuple => .type "tuple"
  | .len => .builtin "len"
  | .sum => .builtin "sum"
  | .max => .builtin "max"
  | .min => .builtin "min"
  | .all => .builtin "all"
  | .any => .builtin "any"
/-- what a list's value is: one that stands, or one just made (not tracked) -/
inductive LR (G : GE) (ρ : Nat → Addr) (n : Nat) (H : Hp) : LV → V → Prop
  | v {v : PV} {u : V} : Rep G.K ρ n H v u → LR G ρ n H (.v v) u
  | t {xs : List PV} {us : List V} {p : Addr} : H p = some (.lst us) → (∀ l, l < n → ρ l ≠ p) → Reps G.K ρ n H xs us → LR G ρ n H (.t xs) (.ref p)
theorem lvA_sq {G : GE} {ρ : Nat → Addr} {h : PH} {H : Hp} {v : LV} {u : V} {xs : List PV} (R : HR G.K ρ h H) (e : lvA h v = some xs) (r : LR G ρ h.length H v u) : ∃ a vs, u = .ref a ∧ (SqL G.K H a vs ∨ SqT G.K H a vs) ∧ Reps G.K ρ h.length H xs vs := by
  cases r with
  | v r => exact items_sq R e r
  | t h1 h2 h3 =>
    cases e
    exact ⟨_, _, rfl, .inl (SqL.of h1), h3⟩
theorem lvL_sq {G : GE} {ρ : Nat → Addr} {h : PH} {H : Hp} {v : LV} {u : V} {xs : List PV} (R : HR G.K ρ h H) (e : lvL h v = some xs) (r : LR G ρ h.length H v u) : ∃ a vs, u = .ref a ∧ SqL G.K H a vs ∧ Reps G.K ρ h.length H xs vs := by
  cases r with
  | v r => exact itemsL_sq R e r
  | t h1 h2 h3 =>
    cases e
    exact ⟨_, _, rfl, SqL.of h1, h3⟩
theorem lvM_sq {G : GE} {ρ : Nat → Addr} {h : PH} {H : Hp} {v : LV} {u : V} {xs : List PV} (R : HR G.K ρ h H) (e : lvM h v = some xs) (r : LR G ρ h.length H v u) : ∃ a vs, u = .ref a ∧ H a = some (.lst vs) ∧ Reps G.K ρ h.length H xs vs := by
  cases r with
  | @v v u r =>
    cases v with
    | loc l =>
      obtain ⟨us, h1, h2⟩ := R.list (show getL h l = some xs from e)
      exact ⟨_, us, r.locInv.1, h1, h2⟩
    | _ => cases e
  | t h1 h2 h3 =>
    cases e
    exact ⟨_, _, rfl, h1, h3⟩
theorem LR.ext {G : GE} {ρ ρ' : Nat → Addr} {h h' : PH} {H H' : Hp} {v : LV} {u : V} (R : HR G.K ρ h H) (E : Ext ρ h.length H ρ' h'.length H') (r : LR G ρ h.length H v u) : LR G ρ' h'.length H' v u := by
  cases r with
  | v r => exact .v (r.ext R E)
  | @t xs us p h1 h2 h3 =>
    refine .t (E.keep p _ h1 h2) (fun l hl z => ?_) (Reps.ext R E h3)
    by_cases q : l < h.length
    · rw [E.eq l q] at z
      exact h2 l q z
    · have := E.new l (Nat.le_of_not_lt q) hl
      rw [z, h1] at this
      cases this
theorem ints_rep {K : PySem.W.Frag} {ρ : Nat → Addr} {n : Nat} {H : Hp} : ∀ {xs : List PV} {us : List V} {ns : List Int}, intsOf xs = some ns → Reps K ρ n H xs us → us = ns.map V.int
  | [], us, ns, e, r => by cases e; cases r; rfl
  | .int i :: xs, us, ns, e, r => by
    simp only [intsOf, Option.map_eq_some_iff] at e
    obtain ⟨ms, e1, rfl⟩ := e
    cases r with
    | cons r1 r2 =>
      rw [r1.intInv, ints_rep e1 r2]
      rfl
  | .non :: _, _, _, e, _ | .bl _ :: _, _, _, e, _ | .str _ :: _, _, _, e, _ | .tup _ :: _, _, _, e, _ | .rol _ :: _, _, _, e, _ | .loc _ :: _, _, _, e, _ | .xc _ _ :: _, _, _, e, _ => by cases e
theorem bls_rep {K : PySem.W.Frag} {ρ : Nat → Addr} {n : Nat} {H : Hp} : ∀ {xs : List PV} {us : List V} {ns : List Bool}, blsOf xs = some ns → Reps K ρ n H xs us → us = ns.map V.bl
  | [], us, ns, e, r => by cases e; cases r; rfl
  | .bl i :: xs, us, ns, e, r => by
    simp only [blsOf, Option.map_eq_some_iff] at e
    obtain ⟨ms, e1, rfl⟩ := e
    cases r with
    | cons r1 r2 =>
      rw [r1.blInv, bls_rep e1 r2]
      rfl
  | .non :: _, _, _, e, _ | .int _ :: _, _, _, e, _ | .str _ :: _, _, _, e, _ | .tup _ :: _, _, _, e, _ | .rol _ :: _, _, _, e, _ | .loc _ :: _, _, _, e, _ | .xc _ _ :: _, _, _, e, _ => by cases e
/-- a function of a list's items -/
def LifOk (X : Cx) (f : Value) (b : Lif) : Prop :=
  ∃ r : List V → Hp → VK → Prop, CallR X f r ∧ ∀ (G : GE) (ρ : Nat → Addr) (h : PH) (H : Hp) (v : LV) (u : V) (xs : List PV) (q : QV) (Q : VK), G.K = X.K → HR G.K ρ h H → LR G ρ h.length H v u → lvB b h v = some xs → lifS b xs h q → Cov G (RV G) ρ h H q Q → r [u] H Q
theorem lif_ok (hc : X.calm = true) (b : Lif) : LifOk X b.fn b := by
  cases b with
  | tuple =>
    refine ⟨_, call_tuple_of, fun G ρ h H v u xs q Q eK R r e m c => ?_⟩
    obtain ⟨a, vs, rfl, sq, rs⟩ := lvA_sq R e r
    rcases sq with sq | sq
    · exact ⟨a, vs, rfl, .inl ⟨eK ▸ sq, fun p hp => c.newTup R rs m p hp⟩⟩
    · exact ⟨a, vs, rfl, .inr ⟨eK ▸ sq, c.here R (.tup sq rs) m⟩⟩
  | len =>
    refine ⟨_, call_len, fun G ρ h H v u xs q Q eK R r e m c => ?_⟩
    obtain ⟨a, vs, rfl, sq, rs⟩ := lvA_sq R e r
    have m' : q (.int xs.length) h := m
    rcases sq with sq | sq
    · exact ⟨.ref a, xs.length, rfl, .inl ⟨vs, eK ▸ sq, rs.length.symm ▸ rfl⟩, c.here R (.int _) m'⟩
    · exact ⟨.ref a, xs.length, rfl, .inr ⟨vs, eK ▸ sq, rs.length.symm ▸ rfl⟩, c.here R (.int _) m'⟩
  | sum =>
    refine ⟨_, cr_sum hc, fun G ρ h H v u xs q Q eK R r e m c => ?_⟩
    obtain ⟨a, vs, rfl, sq, rs⟩ := lvL_sq R e r
    obtain ⟨ns, m1, m2⟩ := m
    have z := ints_rep m1 rs
    subst z
    exact ⟨a, ns, rfl, eK ▸ sq, c.here R (.int _) m2⟩
  | max =>
    refine ⟨_, cr_max hc, fun G ρ h H v u xs q Q eK R r e m c => ?_⟩
    obtain ⟨a, vs, rfl, sq, rs⟩ := lvL_sq R e r
    obtain ⟨ns, m1, m2, m3⟩ := m
    have z := ints_rep m1 rs
    subst z
    exact ⟨a, ns, rfl, eK ▸ sq, m2, fun y h1 h2 => c.here R (.int _) (m3 y h1 h2)⟩
  | min =>
    refine ⟨_, cr_min hc, fun G ρ h H v u xs q Q eK R r e m c => ?_⟩
    obtain ⟨a, vs, rfl, sq, rs⟩ := lvL_sq R e r
    obtain ⟨ns, m1, m2, m3⟩ := m
    have z := ints_rep m1 rs
    subst z
    exact ⟨a, ns, rfl, eK ▸ sq, m2, fun y h1 h2 => c.here R (.int _) (m3 y h1 h2)⟩
  | all =>
    refine ⟨_, cr_all hc, fun G ρ h H v u xs q Q eK R r e m c => ?_⟩
    obtain ⟨a, vs, rfl, sq, rs⟩ := lvL_sq R e r
    obtain ⟨ns, m1, m2⟩ := m
    have z := bls_rep m1 rs
    subst z
    exact ⟨a, ns, rfl, eK ▸ sq, c.here R (.bl _) m2⟩
  | any =>
    refine ⟨_, cr_any hc, fun G ρ h H v u xs q Q eK R r e m c => ?_⟩
    obtain ⟨a, vs, rfl, sq, rs⟩ := lvL_sq R e r
    obtain ⟨ns, m1, m2⟩ := m
    have z := bls_rep m1 rs
    subst z
    exact ⟨a, ns, rfl, eK ▸ sq, c.here R (.bl _) m2⟩
/-! ### methods -/
def Mth.id : Mth → String
  | .append => "list.append"
  | .pop => "list.pop"
  | .popAt => "list.pop"
  | .insert => "list.insert"
  | .reverse => "list.reverse"
def Mth.name : Mth → Str
  | .append => "append"
  | .pop => "pop"
  | .popAt => "pop"
  | .insert => "insert"
  | .reverse => "reverse"
/-- a tracked list written, as the layer asks it -/
theorem Cov.wrote {G : GE} {ρ : Nat → Addr} {h : PH} {H : Hp} {q : QV} {Q : VK} {l : Nat} {xs : List PV} {us : List V} {v : PV} {u : V} (c : Cov G (RV G) ρ h H q Q) (R : HR G.K ρ h H) (hl : l < h.length) (rs : Reps G.K ρ h.length H xs us) (r : Rep G.K ρ h.length H v u)
    (k : q v (h.set l (.lst xs))) : Q u (upd H (ρ l) (.lst us)) :=
  c ρ (h.set l (.lst xs)) _ v u (Ext.write' R hl) (R.write hl rs) (r.ext R (Ext.write' R hl)) k
theorem ixP_seq {n k : Nat} {i : Int} (e : ixP n i = some k) : seqIndex? i n = some k ∧ k < n ∧ -(n : Int) ≤ i ∧ i < n := ixN_seq e
theorem mth_ok (m : Mth) : ∃ r : V → List V → Hp → VK → Prop, MtR X m.id r ∧ ∀ (G : GE) (ρ : Nat → Addr) (h : PH) (H : Hp) (v : PV) (u : V) (vs : List PV) (us : List V) (q : QV) (Q : VK), G.K = X.K → HR G.K ρ h H → Rep G.K ρ h.length H v u → Reps G.K ρ h.length H vs us → mthS m v vs h q → Cov G (RV G) ρ h H q Q →
    r u us H Q := by
  cases m with
  | append =>
    refine ⟨rAppend, mt_append, fun G ρ h H v u vs us q Q eK R r rs m c => ?_⟩
    obtain ⟨l, xs, rfl, m1, y, rfl, m2, m3⟩ := m
    obtain ⟨ws, h1, h2⟩ := R.list m1
    obtain ⟨z, rfl, rz⟩ := rs.inv1
    exact ⟨ρ l, ws, z, r.locInv.1, rfl, h1, by rw [← h2.length]; exact m2, c.wrote R (getL_lt m1) (h2.append (.cons rz .nil)) .non m3⟩
  | pop =>
    refine ⟨rPop, mt_pop, fun G ρ h H v u vs us q Q eK R r rs m c => ?_⟩
    obtain ⟨l, xs, rfl, m1, y, rfl, m2, m3⟩ := m
    obtain ⟨ws, h1, h2⟩ := R.list m1
    cases rs
    obtain ⟨z, e1, e2⟩ := h2.get m2
    exact ⟨ρ l, ws, z, r.locInv.1, rfl, h1, by rw [← h2.length]; exact e1, c.wrote R (getL_lt m1) h2.dropLast e2 m3⟩
  | popAt =>
    refine ⟨rPopAt, mt_popAt, fun G ρ h H v u vs us q Q eK R r rs m c => ?_⟩
    obtain ⟨l, xs, rfl, m1, i, k, y, rfl, m0, m2, m3, m4⟩ := m
    obtain ⟨ws, h1, h2⟩ := R.list m1
    obtain ⟨z, rfl, rz⟩ := rs.inv1
    obtain ⟨x, e1, e2⟩ := h2.get m3
    obtain ⟨a1, a2, a3, a4⟩ := ixP_seq m2
    exact ⟨ρ l, ws, i, k, x, r.locInv.1, by rw [rz.intInv], h1, m0.1, m0.2, by rw [← h2.length]; exact a1, e1, c.wrote R (getL_lt m1) (h2.erase k) e2 m4⟩
  | insert =>
    refine ⟨_, mt_insert, fun G ρ h H v u vs us q Q eK R r rs m c => ?_⟩
    obtain ⟨l, xs, rfl, m1, i, y, rfl, m2, m3, m4, m5⟩ := m
    obtain ⟨ws, h1, h2⟩ := R.list m1
    obtain ⟨z, z', rfl, rz, rz'⟩ := rs.inv2
    refine ⟨ρ l, ws, i, z', r.locInv.1, by rw [rz.intInv], h1, by rw [← h2.length]; exact m2, m3, m4, c.wrote R (getL_lt m1) (us := ws.take i.toNat ++ [z'] ++ ws.drop i.toNat) ?_ .non m5⟩
    have e : xs.take i.toNat ++ y :: xs.drop i.toNat = xs.take i.toNat ++ [y] ++ xs.drop i.toNat := by simp
    rw [e]
    exact ((h2.take _).append (.cons rz' .nil)).append (h2.drop _)
  | reverse =>
    refine ⟨rReverse, mt_reverse, fun G ρ h H v u vs us q Q eK R r rs m c => ?_⟩
    obtain ⟨l, xs, rfl, m1, rfl, m2⟩ := m
    obtain ⟨ws, h1, h2⟩ := R.list m1
    cases rs
    exact ⟨ρ l, ws, r.locInv.1, rfl, h1, c.wrote R (getL_lt m1) h2.reverse .non m2⟩
theorem ext_ok : ∃ r : V → List V → Hp → VK → Prop, MtR X "list.extend" r ∧ ∀ (G : GE) (ρ : Nat → Addr) (h : PH) (H : Hp) (l : Nat) (w : LV) (u u' : V) (xs ys : List PV) (q : QV) (Q : VK), G.K = X.K → HR G.K ρ h H → Rep G.K ρ h.length H (.loc l) u → LR G ρ h.length H w u' → getL h l = some xs → lvM h w = some ys → xs.length + ys.length ≤ sizeLine → q .non (h.set l (.lst (xs ++ ys))) → Cov G (RV G) ρ h H q Q →
    r u [u'] H Q := by
  refine ⟨rExtend, mt_extend, fun G ρ h H l w u u' xs ys q Q eK R r r' m1 m2 m3 m4 c => ?_⟩
  obtain ⟨ws, h1, h2⟩ := R.list m1
  obtain ⟨b, zs, rfl, k1, k2⟩ := lvM_sq R m2 r'
  exact ⟨ρ l, b, ws, zs, r.locInv.1, rfl, h1, k1, by rw [← h2.length, ← k2.length]; exact m3, c.wrote R (getL_lt m1) (h2.append k2) .non m4⟩
/-! ### stores -/
theorem setS_ok {G : GE} {ρ : Nat → Addr} {h : PH} {H : Hp} {v i w : PV} {u k z : V} {q : PH → Prop} {Q : Hp → Prop} (R : HR G.K ρ h H) (r : Rep G.K ρ h.length H v u) (ri : Rep G.K ρ h.length H i k) (rw' : Rep G.K ρ h.length H w z) (m : setS v i w h q)
    (c : ∀ h' H', Ext ρ h.length H ρ h'.length H' → HR G.K ρ h' H' → q h' → Q H') : rSetL u k z H Q := by
  obtain ⟨l, xs, j, p, rfl, m1, rfl, m2, m3⟩ := m
  obtain ⟨ws, h1, h2⟩ := R.list m1
  exact ⟨ρ l, ws, j, p, r.locInv.1, ri.intInv, h1, by rw [← h2.length]; exact m2, c _ _ (Ext.write' R (getL_lt m1)) (R.write (getL_lt m1) (Reps.set rw' p h2)) m3⟩
/-- in place -/
theorem aug_ok (o : Operator) : ∃ r : TIp, PIp X o r ∧ ∀ (G : GE) (ρ : Nat → Addr) (h : PH) (H : Hp) (v w : PV) (u u' : V) (q : QV) (Q : VK), G.K = X.K → HR G.K ρ h H → Rep G.K ρ h.length H v u → Rep G.K ρ h.length H w u' → augB o v w h q → Cov G (RV G) ρ h H q Q → r u u' H Q := by
  have no : (∀ v w h q, ¬ augB o v w h q) → ∃ r : TIp, PIp X o r ∧ ∀ (G : GE) (ρ : Nat → Addr) (h : PH) (H : Hp) (v w : PV) (u u' : V) (q : QV) (Q : VK), G.K = X.K → HR G.K ρ h H → Rep G.K ρ h.length H v u → Rep G.K ρ h.length H w u' → augB o v w h q → Cov G (RV G) ρ h H q Q → r u u' H Q := fun z =>
    ⟨fun _ _ _ _ => False, fun _ _ _ _ _ _ _ _ _ _ _ _ q => q.elim, fun G ρ h H v w u u' q Q _ _ _ _ m _ => z _ _ _ _ m⟩
  cases o with
  | Add =>
    refine ⟨fun x y H Q => ipI (fun i j => i + j) x y H Q ∨ (∃ i j, x = .str i ∧ y = .str j ∧ i.length + j.length ≤ sizeLine ∧ Q (.str (i ++ j)) H), fun pins s σ H x y v u Q I r1 r2 q => ?_, fun G ρ h H v w u u' q Q eK R r r' m c => ?_⟩
    · rcases q with q | q
      · exact ip_add pins s σ H x y v u Q I r1 r2 q
      · exact iop_add_str pins s σ H x y v u Q I r1 r2 q
    · cases v <;> cases w <;> try (exact (m : False).elim)
      · rw [r.intInv, r'.intInv]
        exact .inl ⟨_, _, rfl, rfl, c.here R (.int _) m⟩
      · obtain ⟨e1, s1⟩ := r.strInv
        obtain ⟨e2, s2⟩ := r'.strInv
        rw [e1, e2]
        exact .inr ⟨_, _, rfl, rfl, m.1, c.here R (.str _ (strOk_append s1 s2)) m.2⟩
  | Sub =>
    refine ⟨_, ip_sub, fun G ρ h H v w u u' q Q eK R r r' m c => ?_⟩
    cases v <;> cases w <;> try (exact (m : False).elim)
    rw [r.intInv, r'.intInv]
    exact ⟨_, _, rfl, rfl, c.here R (.int _) m⟩
  | _ => exact no fun v w h q m => by cases v <;> cases w <;> exact m
end
end WD
end
section
set_option Elab.async false
set_option linter.all false
set_option maxRecDepth 100000
set_option autoImplicit false
set_option maxHeartbeats 4000000
/-! WLoop: what a loop walks: lists, tuples, texts by one rule; ranges; enumerate. -/
namespace WD
open PySem PySem.Spec PyProof.Rows L2

/-- a list, a tuple or a text, whatever it is -/
def iSeq (K : PySem.W.Frag) (tl : TE) : TI := fun σ H R => tl σ H fun x H1 =>
  (∃ a, x = .ref a ∧ (∃ xs, SqL K H1 a xs) ∧ R (Itl K a) H1) ∨ (∃ a, x = .ref a ∧ (∃ xs, SqT K H1 a xs) ∧ R (Itt K a) H1) ∨ ∃ z, x = .str z ∧ R (Its z) H1
/-- an expression that gives this very value, for the rules' sake -/
theorem pi_seq {X : Cx} {tg e : Expr} {te : TE} (he : PE X e te) : PI X tg e (iSeq X.K te) := by
  refine ⟨fun pins s σ H R I h => ?_⟩
  -- the walk of a value that is known
  have fin : ∀ (u : Value) (s1 : Shared) (x : V) (H1 : Hp), Inv X pins σ H1 s1 → RelV x u →
      ((∃ a, x = .ref a ∧ (∃ xs, SqL X.K H1 a xs) ∧ R (Itl X.K a) H1) ∨ (∃ a, x = .ref a ∧ (∃ xs, SqT X.K H1 a xs) ∧ R (Itt X.K a) H1) ∨ ∃ z, x = .str z ∧ R (Its z) H1) →
      wpAny (model X.prog X.w) X.A (pyIter u) (PIE X pins σ tg R) X.xe s1 := by
    intro u s1 x H1 I1 r1 q1
    rcases q1 with ⟨a, rfl, ⟨xs, hq⟩, q⟩ | ⟨a, rfl, ⟨xs, hq⟩, q⟩ | ⟨z, rfl, q⟩
    · cases r1
      obtain ⟨its, rv, p, hz⟩ := I1.list hq
      refine wpAny_pyIter_list p.isList ?_
      refine ⟨s1.heap.objs.size, [s1.heap.objs.size], _, _, H1, rfl, I1.kept (t' := s1.toks) fun b o e => Heap.get?_push_of_some _ e, turn_list a _, ⟨_, Heap.get?_push_size _ rfl, rfl, rfl⟩, fun b hb => ?_, q⟩
      have e : b = s1.heap.objs.size := by simpa using hb
      subst e
      exact I1.fpOk (Nat.le_refl _) (I1.hok.fresh (Nat.le_refl _))
    · cases r1
      obtain ⟨its, rv, p, hz⟩ := I1.tuple hq
      refine wpAny_pyIter_tuple (show s1.heap.IsTuple a its.toArray from p) ?_
      refine ⟨s1.heap.objs.size, [s1.heap.objs.size], _, _, H1, rfl, I1.kept (t' := s1.toks) fun b o e => Heap.get?_push_of_some _ e, turn_tuple a _, ⟨_, Heap.get?_push_size _ rfl, rfl, rfl⟩, fun b hb => ?_, q⟩
      have e : b = s1.heap.objs.size := by simpa using hb
      subst e
      exact I1.fpOk (Nat.le_refl _) (I1.hok.fresh (Nat.le_refl _))
    · obtain ⟨t, rfl⟩ := r1
      cases ha : z.cps.all (· < 128)
      · exact wpAny_pyIter_wide ha (pi_one (tk := s1.toks) I1 _ (turn_str _ z t "str_iterator" (.inr rfl)) ⟨_, Heap.get?_push_size _ rfl, rfl, rfl⟩ q)
      · exact wpAny_pyIter_ascii ha (pi_one (tk := s1.toks) I1 _ (turn_str _ z t "str_ascii_iterator" (.inl rfl)) ⟨_, Heap.get?_push_size _ rfl, rfl, rfl⟩ q)
  exact thn (he.run pins s σ H _ I h) fun v s1 ⟨x, H1, I1, r1, q1⟩ => fin v s1 x H1 I1 r1 q1
/-! ### enumerate of a tuple -/
section
open PySem.Sem (wp)
set_option maxHeartbeats 4000000 in
theorem meets_enumerate_newT (l : Addr) (items : Array Value) :
    Meets (Builtin.«enumerate.__new__» ⟨[.type "enumerate", .ref l], []⟩) (fun _ R s => s.heap.IsTuple l items ∧
      R (.ok (.ret (.ref (s.heap.push { cls := .type "tuple_iterator", data := .fields #[.ref l, .int 0 0] }).objs.size)))
        { s with heap := (s.heap.push { cls := .type "tuple_iterator", data := .fields #[.ref l, .int 0 0] }).push { cls := .type "enumerate", data := .fields #[.none, .bool false, .ref s.heap.objs.size, rawInt 0, .none, .none] } }) :=
  .of_wp fun prog w A R s ⟨hL, h⟩ => by
    obtain ⟨hp, g, d, tk, os⟩ := s
    have hsub := sub_enumerate
    obtain ⟨ol, hl, hc, n, hd⟩ := id hL
    wp_walk using wpAny_loadPart' hl
    refine wpAny_stack_any fun st => wpAny_pure ?_
    split
    · rename_i c _ _ _ _ _
      cases (c == Value.type "enumerate")
      · wp_walk using wpAny_pyIter_tuple hL
        exact ⟨_, rfl, h⟩
      · wp_walk using wpAny_pyIter_tuple hL
        exact ⟨_, rfl, h⟩
    · wp_walk using wpAny_pyIter_tuple hL
      exact ⟨_, rfl, h⟩
end
section
variable {prog : Program} {w : World} {A : Around} {E : Value → Shared → Prop} {s : Shared}
theorem call_enumerate_tuple {l : Addr} {items : Array Value} {Q : Value → Shared → Prop} (hL : s.heap.IsTuple l items)
    (h : ∀ h', IsEnum h' (s.heap.objs.size + 1) s.heap.objs.size 0 .none → h'.IsTupleIter s.heap.objs.size l 0 → h'.objs.size = s.heap.objs.size + 2 →
      (∀ b o, s.heap.get? b = some o → h'.get? b = some o) → Q (.ref (s.heap.objs.size + 1)) { s with heap := h' }) :
    wpAny (model prog w) A (call (.type "enumerate") [.ref l]) Q E s := by
  refine callType_new F.called_enumerate (by decide) (F.typeCall_enumerate_1 _) (F.newCall_enumerate_1 _) (fun obj => F.args_object_init_2 obj _) F.entry_enumerate_new
    (meets_enumerate_newT l items) ⟨hL, ?_⟩
  have hz : (s.heap.push { cls := .type "tuple_iterator", data := .fields #[.ref l, .int 0 0] }).objs.size = s.heap.objs.size + 1 := Heap.size_push ..
  show _ ∧ _
  rw [hz]
  have he : IsEnum ((s.heap.push { cls := .type "tuple_iterator", data := .fields #[.ref l, .int 0 0] }).push
      { cls := .type "enumerate", data := .fields #[.none, .bool false, .ref s.heap.objs.size, rawInt 0, .none, .none] }) (s.heap.objs.size + 1) s.heap.objs.size 0 .none := by
    have := Heap.get?_push_size (s.heap.push { cls := .type "tuple_iterator", data := .fields #[.ref l, .int 0 0] })
      (o := { cls := .type "enumerate", data := .fields #[.none, .bool false, .ref s.heap.objs.size, rawInt 0, .none, .none] }) rfl
    rw [hz] at this; exact this
  refine ⟨⟨_, he, rfl⟩, h _ he ⟨_, Heap.get?_push_of_some _ (Heap.get?_push_size _ rfl), rfl, rfl⟩ (by rw [Heap.size_push, hz]) fun b o x => Heap.get?_push_of_some _ (Heap.get?_push_of_some _ x)⟩
/-- the items of a tuple, drawn one by one -/
theorem draws_tuple (hh : A.handled = none) (it l : Addr) (items : Array Value) (hne : it ≠ l) :
    Draws prog w A.in1 it [it, l] items.size (fun i x => items[i]? = some x) (fun i h => h.IsTupleIter it l i ∧ h.IsTuple l items) where
  live := fun i h st => let ⟨⟨o, ho, _⟩, _⟩ := st; ⟨o, ho⟩
  frame := fun i h h' st k => by
    obtain ⟨⟨o, ho, hc, hd⟩, ⟨ol, hol, r⟩⟩ := st
    exact ⟨⟨o, k it (by simp) o ho, hc, hd⟩, ⟨ol, k l (by simp) ol hol, r⟩⟩
  item := fun i s Q E hi st hQ => by
    obtain ⟨hit, hl⟩ := st
    refine RZ.nextOf_tuple_item hit hl (x := items[i]) (Array.getElem?_eq_getElem hi) fun h' hit' sb => ?_
    refine hQ items[i] h' s.toks (Array.getElem?_eq_getElem hi) ⟨hit', ?_⟩ sb
    obtain ⟨ol, hol, r⟩ := hl
    exact ⟨ol, (sb.2 l (Ne.symm hne)).trans hol, r⟩
  done := fun s Q E st hE => by
    obtain ⟨hit, hl⟩ := st
    exact RZ.nextOf_tuple_end hh hit hl (Array.getElem?_eq_none (Nat.le_refl _)) hE
end
/-- the tuple at a, each item in a new pair -/
def IteT (K : PySem.W.Frag) (a : Addr) : It :=
  ⟨fun i H => ∃ (xs : List V) (x : V), SqT K H a xs ∧ xs[i]? = some x, fun i H v H' => ∃ T x, v = .ref T ∧ H T = none ∧ H' = upd H T (.tup [.int (i : Nat), x]) ∧ ∀ xs, SqT K H a xs → xs[i]? = some x, fun i H => ∃ xs : List V, SqT K H a xs ∧ xs.length ≤ i⟩
theorem draws_end {prog : Program} {w : World} {A : Around} (hh : A.handled = none) (it l : Addr) (items : Array Value) (hne : it ≠ l) (i : Nat) (hi : items.size ≤ i) :
    Draws prog w A.in1 it [it, l] i (fun _ _ => False) (fun j h => j = i ∧ h.IsTupleIter it l i ∧ h.IsTuple l items) where
  live := fun j h st => let ⟨_, ⟨o, ho, _⟩, _⟩ := st; ⟨o, ho⟩
  frame := fun j h h' st k => by
    obtain ⟨e, ⟨o, ho, hc, hd⟩, ⟨ol, hol, r⟩⟩ := st
    exact ⟨e, ⟨o, k it (by simp) o ho, hc, hd⟩, ⟨ol, k l (by simp) ol hol, r⟩⟩
  item := fun j s Q E hj st hQ => absurd hj (by rw [st.1]; exact Nat.lt_irrefl _)
  done := fun s Q E st hE => by
    obtain ⟨_, hit, hl⟩ := st
    exact RZ.nextOf_tuple_end hh hit hl (Array.getElem?_eq_none hi) hE
theorem turn_enumT {P : Program} {w : World} {K : PySem.W.Frag} {elts : List Expr} {kk : Nat} {tpos : Pos} (a e it : Addr) :
    Turn P w K (.Tuple elts kk tpos) (IteT K a) [e, it] e (fun i h => (∃ old, IsEnum h e it ((i : Nat) : Int) old) ∧ h.IsTupleIter it a i ∧ e ≠ it) where
  mem := by simp
  obj := fun i h st b hb => by
    obtain ⟨⟨old, he⟩, ⟨o, ho, hc, hd⟩, _⟩ := st
    have e' : b = e ∨ b = it := by simpa using hb
    rcases e' with z | z
    · rw [z]; exact ⟨_, he, fun v q => nomatch q⟩
    · rw [z]; exact ⟨o, ho, fun v q => by rw [hd] at q; cases q⟩
  keep := fun i h h' st k => by
    obtain ⟨⟨old, he⟩, ⟨o, ho, hc, hd⟩, hne⟩ := st
    exact ⟨⟨old, k e (by simp) _ he⟩, ⟨o, k it (by simp) o ho, hc, hd⟩, hne⟩
  item := by
    intro X hP hw hK hc i pins s σ H E I hf st hg
    subst hP hw hK
    obtain ⟨⟨old, he⟩, hit, hne⟩ := st
    obtain ⟨xs, x, hq, hx⟩ := hg
    obtain ⟨its, rv, p, hz⟩ := I.tuple hq
    obtain ⟨u, hu, ru⟩ := rv.get hx
    have hel : e < s.heap.objs.size := Heap.lt_size he
    have hil : it < s.heap.objs.size := by obtain ⟨_, q, _⟩ := hit; exact Heap.lt_size q
    have na : it ≠ a ∧ e ≠ a := by
      obtain ⟨o, ho, hcl, _⟩ := p
      obtain ⟨oi, hoi, hci, _⟩ := hit
      refine ⟨fun z => ?_, fun z => ?_⟩
      · subst z
        rw [ho] at hoi
        cases hoi
        rw [hcl] at hci
        simp at hci
      · subst z
        have he' : s.heap.get? e = some _ := he
        rw [ho] at he'
        cases he'
        simp at hcl
    have hlt : i < its.toArray.size := by
      rw [List.size_toArray]
      exact (List.getElem?_eq_some_iff.mp hu).1
    refine wpAny_pyNext_enum_itemD (draws_tuple (I.ok.hd hc) it a its.toArray na.1) he ⟨hit, p⟩ hlt hne (by simp; exact ⟨hne, na.2⟩) fun x' h' tk hx' ho hit' hT hsz hk => ?_
    have ex : x' = u := by
      have := hx'
      simp only [List.getElem?_toArray] at this
      rw [hu] at this
      exact (Option.some.inj this).symm
    subst ex
    refine ⟨_, rfl, wpAny_letOwnedTupleGo_enum (s := { s with heap := h', toks := tk + 1 }) ho fun h'' he' sb => ?_⟩
    have hT2 : h''.get? s.heap.objs.size = some { cls := .type "tuple", data := .seq #[.int i tk, x'] } := (sb.2 _ (Nat.ne_of_gt hel)).trans hT
    have new : ObjOk X.prog X.w (upd H s.heap.objs.size (.tup [.int (i : Nat), x])) h'' s.heap.objs.size (.tup [.int (i : Nat), x]) :=
      ⟨by show 2 ≤ sizeLine; decide, [.int i tk, x'], .cons ⟨_, rfl⟩ (.cons ru .nil), ⟨_, hT2, rfl, _, rfl⟩⟩
    have I1 : Inv X pins σ (upd H s.heap.objs.size (.tup [.int (i : Nat), x])) { s with heap := h'', toks := tk + 1 } :=
      I.turnedNew (ch := [e, it]) (fun b ob hb q => (sb.2 b (fun z => hb (by simp [z]))).trans (hk b ob (fun z => hb (by simp [z])) (fun z => hb (by simp [z])) q)) hf (Nat.le_refl _) new
    refine ⟨.ref s.heap.objs.size, _, I1, rfl, ⟨_, x, rfl, I.hok.fresh (Nat.le_refl _), rfl, fun ys hy => by rw [I.tuple_inj hy hq]; exact hx⟩, ⟨⟨x', ?_⟩, ?_, hne⟩, fun b hb => ?_⟩
    · have e1 : ((i + 1 : Nat) : Int) = (i : Int) + 1 := by omega
      rw [e1]; exact he'
    · obtain ⟨⟨oi, hoi, hci⟩, _⟩ := hit'
      exact ⟨oi, (sb.2 it (Ne.symm hne)).trans hoi, hci⟩
    · have hb' : b < s.heap.objs.size := by
        have e' : b = e ∨ b = it := by simpa using hb
        rcases e' with z | z
        · rw [z]; exact hel
        · rw [z]; exact hil
      rw [upd_ne (Nat.ne_of_lt hb')]
      exact (hf b hb).1
  done := by
    intro X hP hw hK hc i pins s σ H E I hf st hg
    subst hP hw hK
    obtain ⟨⟨old, he⟩, hit, hne⟩ := st
    obtain ⟨xs, hq, hx⟩ := hg
    obtain ⟨its, rv, p, hz⟩ := I.tuple hq
    obtain ⟨f0, f1, f2, f3, f4, f5⟩ := hf it (by simp)
    have hl := rv.length
    have na : it ≠ a := by
      obtain ⟨o, ho, hcl, _⟩ := p
      obtain ⟨oi, hoi, hci, _⟩ := hit
      intro z
      subst z
      rw [ho] at hoi
      cases hoi
      rw [hcl] at hci
      simp at hci
    refine wpAny_pyNext_enum_endD (draws_end (I.ok.hd hc) it a its.toArray na i (by rw [List.size_toArray]; omega)) he ⟨rfl, hit, p⟩ fun h' eb => ⟨rfl, ?_⟩
    exact I.turned (t' := s.toks) (fun b o hb q => eb b o hb q) f0 f1 f3 f4 f5
  self := fun A i s Q E st h => let ⟨⟨_, he⟩, _⟩ := st; wpAny_pyIter_enum he h
def iEnumA (K : PySem.W.Frag) (ta : TA) : TI := fun σ H R => ta σ H fun vs H1 => ∃ a xs, vs = [.ref a] ∧ ((SqL K H1 a xs ∧ R (Ite K a) H1) ∨ (SqT K H1 a xs ∧ R (IteT K a) H1))
theorem pi_enumA {X : Cx} {e : Expr} {ta : TA} {p pos tpos : Pos} {elts : List Expr} {kk : Nat} (hg : Gl X "enumerate") (hm : X.mg "enumerate" = none) (ha : PA X [e] ta) (hs : starEach [e] X.env = [(false, eval e X.env)]) :
    PI X (.Tuple elts kk tpos) (.Call (.Name "enumerate" p) [e] [] pos) (iEnumA X.K ta) := by
  refine ⟨fun pins s σ H R I h => ?_⟩
  refine Call_ (ld_blt I hg hm boot_enumerate (PyProof.Rows.callWith_type1 (thn (ha.run pos pins s σ H _ I h) fun us s1 ⟨vs, H1, I1, r1, q1⟩ => ?_) hs rfl))
  obtain ⟨a, xs, ex, q⟩ := q1
  subst ex
  cases r1 with
  | cons r rr =>
    cases rr
    cases r
    have hle : ∀ {b : Addr}, b ∈ [s1.heap.objs.size + 1, s1.heap.objs.size] → s1.heap.objs.size ≤ b := fun {b} hb => by
      have e' : b = s1.heap.objs.size + 1 ∨ b = s1.heap.objs.size := by simpa using hb
      rcases e' with z | z
      · rw [z]; exact Nat.le_add_right _ _
      · rw [z]; exact Nat.le_refl _
    rcases q with ⟨hq, q⟩ | ⟨hq, q⟩
    · obtain ⟨its, rv, p', hz⟩ := I1.list hq
      refine call_enumerate_list p'.isList fun h' he hit hsz hk => wpAny_pyIter_enum he ?_
      have I2 : Inv X pins σ H1 { s1 with heap := h' } := I1.kept (t' := s1.toks) hk
      exact ⟨s1.heap.objs.size + 1, [s1.heap.objs.size + 1, s1.heap.objs.size], _, _, H1, rfl, I2, turn_enum a (s1.heap.objs.size + 1) s1.heap.objs.size, ⟨⟨.none, he⟩, hit, Nat.succ_ne_self _⟩, fun b hb => I1.fpOk (hle hb) (I1.hok.fresh (hle hb)), q⟩
    · obtain ⟨its, rv, p', hz⟩ := I1.tuple hq
      refine call_enumerate_tuple (show s1.heap.IsTuple a its.toArray from p') fun h' he hit hsz hk => wpAny_pyIter_enum he ?_
      have I2 : Inv X pins σ H1 { s1 with heap := h' } := I1.kept (t' := s1.toks) hk
      exact ⟨s1.heap.objs.size + 1, [s1.heap.objs.size + 1, s1.heap.objs.size], _, _, H1, rfl, I2, turn_enumT a (s1.heap.objs.size + 1) s1.heap.objs.size, ⟨⟨.none, he⟩, hit, Nat.succ_ne_self _⟩, fun b hb => I1.fpOk (hle hb) (I1.hok.fresh (hle hb)), q⟩
end WD
end
section
set_option Elab.async false
set_option linter.all false
set_option maxRecDepth 100000
set_option autoImplicit false
set_option maxHeartbeats 4000000
/-! WJud: the layer's judgements with pure meanings: expressions. -/
namespace WD
open PySem PySem.Spec PyProof.Rows L2

/-- a pure meaning as a reading -/
def up {α β : Type} (G : GE) (W : WX) (R : (Nat → Addr) → Nat → Hp → α → β → Prop) (m : QX → PSt → PH → (α → PH → Prop) → Prop) : L2.St → Hp → (β → Hp → Prop) → Prop :=
  fun σ H Q => ∃ ρ h ς q x, HR G.K ρ h H ∧ SR G.K ρ h.length H ς σ ∧ m x ς h q ∧ Cov G R ρ h H q Q ∧ CovX G ρ h H x σ W
/-- a list just made: it was not there, it is not tracked -/
def LX (G : GE) (H0 : Hp) (ρ : Nat → Addr) (n : Nat) (H : Hp) (xs : List PV) (u : V) : Prop := ∃ p us, u = .ref p ∧ H0 p = none ∧ H p = some (.lst us) ∧ (∀ l, l < n → ρ l ≠ p) ∧ Reps G.K ρ n H xs us
def upL (G : GE) (W : WX) (m : QX → PSt → PH → (List PV → PH → Prop) → Prop) : TE := fun σ H Q => up G W (LX G H) m σ H Q
structure Good (G : GE) (X : Cx) (W : WX) : Prop where
  eK : G.K = X.K
  calm : X.calm = true
  hu : X.A.units + 65 < cLine
  tk : Takes X W
abbrev RE (G : GE) (W : WX) (X : Cx) (e : Expr) (m : QX → PSt → PH → QV → Prop) : Prop := PE X e (up G W (RV G) m)
abbrev RA (G : GE) (W : WX) (X : Cx) (es : List Expr) (m : QX → PSt → PH → (List PV → PH → Prop) → Prop) : Prop := PA X es (up G W (RVs G) m)
abbrev RT (G : GE) (W : WX) (X : Cx) (e : Expr) (m : QX → PSt → PH → (Bool → PH → Prop) → Prop) : Prop := PT X e (up G W (REq Bool) m)
abbrev RL (G : GE) (W : WX) (X : Cx) (e : Expr) (m : QX → PSt → PH → (List PV → PH → Prop) → Prop) : Prop := PE X e (upL G W m)
abbrev RLa (G : GE) (W : WX) (X : Cx) (e : Expr) (m : QX → PSt → PH → (LV → PH → Prop) → Prop) : Prop := PE X e (up G W (LR G) m)
abbrev RO (G : GE) (W : WX) (X : Cx) (e : Option Expr) (m : QX → PSt → PH → (Option Int → PH → Prop) → Prop) : Prop := L2.PO X e (up G W (REq (Option Int)) m)

section
variable {α β α' β' : Type} {G : GE} {W : WX} {X : Cx} {R : (Nat → Addr) → Nat → Hp → α → β → Prop} {R' : (Nat → Addr) → Nat → Hp → α' → β' → Prop} {m : QX → PSt → PH → (α → PH → Prop) → Prop}
  {f : α → QX → PSt → PH → (α' → PH → Prop) → Prop} {σ : L2.St} {H : Hp} {T : β → Hp → Prop} {Q : β' → Hp → Prop}
theorem up_bind (hw : up G W R' (fun x ς h q => m x ς h fun v h1 => f v x ς h1 q) σ H Q)
    (step : ∀ (ρ : Nat → Addr) (h : PH) (H1 : Hp) (ς : PSt) (q : α' → PH → Prop) (x : QX) (v : α) (u : β), HR G.K ρ h H1 → SR G.K ρ h.length H1 ς σ → R ρ h.length H1 v u → f v x ς h q → Cov G R' ρ h H1 q Q → CovX G ρ h H1 x σ W → T u H1) : up G W R m σ H T := by
  obtain ⟨ρ, h, ς, q, x, a1, a2, a3, a4, a5⟩ := hw
  exact ⟨ρ, h, ς, fun v h1 => f v x ς h1 q, x, a1, a2, a3, fun ρ' h' H' v u E R1 r k => step ρ' h' H' ς q x v u R1 (a2.ext a1 E) r k (a4.at R1 E) (a5.at R1 E), a5⟩
/-- the wish about another relation -/
theorem up_mono (hw : up G W R m σ H T) {T' : β' → Hp → Prop} {R' : (Nat → Addr) → Nat → Hp → α → β' → Prop} (hT : ∀ ρ h H1 v u', R' ρ h H1 v u' → ∃ u, R ρ h H1 v u ∧ (T u H1 → T' u' H1)) : up G W R' m σ H T' := by
  obtain ⟨ρ, h, ς, q, x, a1, a2, a3, a4, a5⟩ := hw
  exact ⟨ρ, h, ς, q, x, a1, a2, a3, fun ρ' h' H' v u E R1 r k => by
    obtain ⟨u1, r1, z⟩ := hT _ _ _ _ _ r
    exact z (a4 ρ' h' H' v u1 E R1 r1 k), a5⟩
end
theorem PE.imp {X : Cx} {e : Expr} {t t' : TE} (h : PE X e t) (i : ∀ σ H Q, t' σ H Q → t σ H Q) : PE X e t' := ⟨fun pins s σ H Q I hw => h.run pins s σ H Q I (i σ H Q hw)⟩
theorem PT.imp {X : Cx} {e : Expr} {t t' : TT} (h : PT X e t) (i : ∀ σ H Q, t' σ H Q → t σ H Q) : PT X e t' := ⟨fun pins s σ H Q I hw => h.run pins s σ H Q I (i σ H Q hw)⟩
theorem PW.imp {X : Cx} {e : Expr} {t t' : TT} (h : PW X e t) (i : ∀ σ H Q, t' σ H Q → t σ H Q) : PW X e t' := ⟨fun wh pins s σ H Q I hw => h.run wh pins s σ H Q I (i σ H Q hw)⟩
theorem PA.imp {X : Cx} {es : List Expr} {t t' : TA} (h : PA X es t) (i : ∀ σ H Q, t' σ H Q → t σ H Q) : PA X es t' := ⟨fun pos pins s σ H Q I hw => h.run pos pins s σ H Q I (i σ H Q hw)⟩
theorem PO.imp {X : Cx} {e : Option Expr} {t t' : TO} (h : L2.PO X e t) (i : ∀ σ H Q, t' σ H Q → t σ H Q) : L2.PO X e t' := ⟨fun pins s σ H Q I hw => h.run pins s σ H Q I (i σ H Q hw)⟩
theorem PS.imp {X : Cx} {st : Stmt} {t t' : TS} (h : PS X st t) (i : ∀ D σ H, t' D σ H → t D σ H) : PS X st t' := ⟨fun pins s σ H D I hw => h.run pins s σ H D I (i D σ H hw)⟩
theorem PSs.imp {X : Cx} {st : List Stmt} {t t' : TS} (h : PSs X st t) (i : ∀ D σ H, t' D σ H → t D σ H) : PSs X st t' := ⟨fun pins s σ H D I hw => h.run pins s σ H D I (i D σ H hw)⟩
section
variable {G : GE} {W : WX} {X : Cx} {a b c e : Expr} {es : List Expr} {pos p : Pos} {ma mb mc : QX → PSt → PH → QV → Prop} {mes : QX → PSt → PH → (List PV → PH → Prop) → Prop} {ta tb tc : QX → PSt → PH → (Bool → PH → Prop) → Prop}
/-! ### names and constants -/
theorem re_var {i : Nat} {x : Str} (hN : X.N[i]? = some x) (hv : Vis X.env.scope x) (hd : (x == ("__debug__" : Str)) = false) (hcd : (x == ("__classdict__" : Str)) = false) : RE G W X (.Name x pos) (fun _ ς h q => ∃ v, ς[i]? = some (some v) ∧ q v h) :=
  PE.imp (pe_var hN hv hd hcd) fun σ H Q hw => by
    obtain ⟨ρ, h, ς, q, y, a1, a2, ⟨v, e1, k⟩, a4, a5⟩ := hw
    obtain ⟨u, e2, r⟩ := a2.get i v e1
    exact ⟨u, e2, a4.here a1 r k⟩
theorem re_c {v : PV} {u : V} (hp : PE X e (tC u)) (r : ∀ (ρ : Nat → Addr) (n : Nat) (H : Hp), Rep G.K ρ n H v u) : RE G W X e (fun _ _ h q => q v h) :=
  PE.imp hp fun σ H Q hw => by
    obtain ⟨ρ, h, ς, q, y, a1, a2, k, a4, a5⟩ := hw
    exact a4.here a1 (r _ _ _) k
/-! ### operations -/
theorem re_bin (g : Good G X W) (o : Operator) (ha : RE G W X a ma) (hb : RE G W X b mb) : RE G W X (.BinOp a o b pos) (fun x ς h q => ma x ς h fun v h1 => mb x ς h1 fun w h2 => binS o v w h2 q) := by
  obtain ⟨r, hr, hs⟩ := bin_ok (X := X) o
  refine PE.imp (pe_op hr ha hb) fun σ H Q hw => ?_
  refine up_bind (m := ma) (f := fun (v : PV) x ς h q => mb x ς h fun w h2 => binS o v w h2 q) hw fun ρ h H1 ς q x v u R S r1 k c cx => ?_
  exact ⟨ρ, h, ς, _, x, R, S, k, fun ρ' h' H' w u' E R' r2 k2 => hs G ρ' h' H' v w u u' q Q g.eK R' (r1.ext R E) r2 k2 (c.at R' E), cx⟩
theorem re_neg (ha : RE G W X a ma) : RE G W X (.UnaryOp .USub a pos) (fun x ς h q => ma x ς h fun v h1 => ∃ i, v = PV.int i ∧ q (PV.int (-i)) h1) := by
  refine PE.imp (pe_un un_neg ha) fun σ H Q hw => ?_
  refine up_bind (m := ma) (f := fun (v : PV) x ς h q => ∃ i, v = PV.int i ∧ q (PV.int (-i)) h) hw fun ρ h H1 ς q x v u R S r1 k c cx => ?_
  obtain ⟨i, rfl, k⟩ := k
  exact ⟨i, r1.intInv, c.here R (.int _) k⟩
theorem re_cmp (g : Good G X W) (o : CmpOp) (ha : RE G W X a ma) (hb : RE G W X b mb) (hm : behindInMarks o b = false) : RE G W X (.Compare a [o] [b] pos) (fun x ς h q => ma x ς h fun v h1 => mb x ς h1 fun w h2 => cmpS o v w h2 fun r => q (PV.bl r) h2) := by
  obtain ⟨r, hr, hs⟩ := cmp_ok (X := X) g.hu o
  refine PE.imp (pe_cmpR hr ha hb hm) fun σ H Q hw => ?_
  refine up_bind (m := ma) (f := fun (v : PV) x ς h q => mb x ς h fun w h2 => cmpS o v w h2 fun r => q (PV.bl r) h2) hw fun ρ h H1 ς q x v u R S r1 k c cx => ?_
  exact ⟨ρ, h, ς, _, x, R, S, k, fun ρ' h' H' w u' E R' r2 k2 => hs G ρ' h' H' v w u u' _ Q g.eK R' (r1.ext R E) r2 k2 fun d hd => (c.at R' E).here R' (.bl d) hd, cx⟩
theorem rt_cmp (g : Good G X W) (o : CmpOp) (ha : RE G W X a ma) (hb : RE G W X b mb) (hm : behindInMarks o b = false) : RT G W X (.Compare a [o] [b] pos) (fun x ς h q => ma x ς h fun v h1 => mb x ς h1 fun w h2 => cmpS o v w h2 fun r => q r h2) := by
  obtain ⟨r, hr, hs⟩ := cmp_ok (X := X) g.hu o
  refine PT.imp (pt_cmpR hr ha hb hm) fun σ H Q hw => ?_
  refine up_bind (m := ma) (f := fun (v : PV) x ς h q => mb x ς h fun w h2 => cmpS o v w h2 fun r => q r h2) hw fun ρ h H1 ς q x v u R S r1 k c cx => ?_
  exact ⟨ρ, h, ς, _, x, R, S, k, fun ρ' h' H' w u' E R' r2 k2 => hs G ρ' h' H' v w u u' _ _ g.eK R' (r1.ext R E) r2 k2 fun d hd => ⟨d, rfl, c ρ' h' H' d d E R' rfl hd⟩, cx⟩
theorem re_chn (g : Good G X W) (o o' : CmpOp) (ha : RE G W X a ma) (hb : RE G W X b mb) (hc : RE G W X c mc) (hm : behindInMarks o' c = false) :
    RE G W X (.Compare a [o, o'] [b, c] pos) (fun x ς h q => ma x ς h fun u h1 => mb x ς h1 fun v h2 => cmpS o u v h2 fun r => if r = true then mc x ς h2 fun w h3 => cmpS o' v w h3 fun r' => q (PV.bl r') h3 else q (PV.bl false) h2) := by
  obtain ⟨r, hr, hs⟩ := cmp_ok (X := X) g.hu o
  obtain ⟨r', hr', hs'⟩ := cmp_ok (X := X) g.hu o'
  refine PE.imp (pe_chain hr hr' ha hb hc hm) fun σ H Q hw => ?_
  refine up_bind (m := ma) (f := fun (u : PV) x ς h q => mb x ς h fun v h2 => cmpS o u v h2 fun r => if r = true then mc x ς h2 fun w h3 => cmpS o' v w h3 fun r' => q (PV.bl r') h3 else q (PV.bl false) h2) hw fun ρ h H1 ς q x v u R S r1 k cc cx => ?_
  refine ⟨ρ, h, ς, _, x, R, S, k, fun ρ' h' H' w u' E R' r2 k2 => hs G ρ' h' H' v w u u' _ _ g.eK R' (r1.ext R E) r2 k2 fun d hd => ⟨d, rfl, ?_⟩, cx⟩
  cases d with
  | true =>
    rw [if_pos rfl] at hd ⊢
    exact ⟨ρ', h', ς, _, x, R', S.ext R E, hd, fun ρ2 h2 H2 y u3 E2 R2 r3 k3 => hs' G ρ2 h2 H2 w y u' u3 _ Q g.eK R2 (r2.ext R' E2) r3 k3 fun d hd => ((cc.at R' E).at R2 E2).here R2 (.bl d) hd, cx.at R' E⟩
  | false =>
    rw [if_neg Bool.false_ne_true] at hd ⊢
    exact (cc.at R' E).here R' (.bl false) hd
theorem rt_chn (g : Good G X W) (o o' : CmpOp) (ha : RE G W X a ma) (hb : RE G W X b mb) (hc : RE G W X c mc) (hm : behindInMarks o' c = false) :
    RT G W X (.Compare a [o, o'] [b, c] pos) (fun x ς h q => ma x ς h fun u h1 => mb x ς h1 fun v h2 => cmpS o u v h2 fun r => if r = true then mc x ς h2 fun w h3 => cmpS o' v w h3 fun r' => q r' h3 else q false h2) := by
  obtain ⟨r, hr, hs⟩ := cmp_ok (X := X) g.hu o
  obtain ⟨r', hr', hs'⟩ := cmp_ok (X := X) g.hu o'
  refine PT.imp (pt_chain hr hr' ha hb hc hm) fun σ H Q hw => ?_
  refine up_bind (m := ma) (f := fun (u : PV) x ς h q => mb x ς h fun v h2 => cmpS o u v h2 fun r => if r = true then mc x ς h2 fun w h3 => cmpS o' v w h3 fun r' => q r' h3 else q false h2) hw fun ρ h H1 ς q x v u R S r1 k cc cx => ?_
  refine ⟨ρ, h, ς, _, x, R, S, k, fun ρ' h' H' w u' E R' r2 k2 => hs G ρ' h' H' v w u u' _ _ g.eK R' (r1.ext R E) r2 k2 fun d hd => ⟨d, rfl, ?_⟩, cx⟩
  cases d with
  | true =>
    rw [if_pos rfl] at hd ⊢
    exact ⟨ρ', h', ς, _, x, R', S.ext R E, hd, fun ρ2 h2 H2 y u3 E2 R2 r3 k3 => hs' G ρ2 h2 H2 w y u' u3 _ _ g.eK R2 (r2.ext R' E2) r3 k3 fun d hd => ⟨d, rfl, cc ρ2 h2 H2 d d (E.trans R' E2) R2 rfl hd⟩, cx.at R' E⟩
  | false =>
    rw [if_neg Bool.false_ne_true] at hd ⊢
    exact ⟨false, rfl, cc ρ' h' H' false false E R' rfl hd⟩
theorem re_and {rest : List Expr} (ha : RE G W X a ma) (hb : RE G W X (.BoolOp .And (b :: rest) pos) mb) : RE G W X (.BoolOp .And (a :: b :: rest) pos) (fun x ς h q => ma x ς h fun v h1 => ∃ r, v = PV.bl r ∧ if r = true then mb x ς h1 q else q (PV.bl false) h1) := by
  refine PE.imp (pe_and ha hb) fun σ H Q hw => ?_
  refine up_bind (m := ma) (f := fun (v : PV) x ς h q => ∃ r, v = PV.bl r ∧ if r = true then mb x ς h q else q (PV.bl false) h) hw fun ρ h H1 ς q x v u R S r1 k c cx => ?_
  obtain ⟨d, rfl, k⟩ := k
  refine ⟨d, r1.blInv, ?_⟩
  cases d with
  | true => rw [if_pos rfl] at k ⊢; exact ⟨ρ, h, ς, q, x, R, S, k, c, cx⟩
  | false => rw [if_neg Bool.false_ne_true] at k ⊢; exact c.here R (.bl _) k
theorem re_or {rest : List Expr} (ha : RE G W X a ma) (hb : RE G W X (.BoolOp .Or (b :: rest) pos) mb) : RE G W X (.BoolOp .Or (a :: b :: rest) pos) (fun x ς h q => ma x ς h fun v h1 => ∃ r, v = PV.bl r ∧ if r = true then q (PV.bl true) h1 else mb x ς h1 q) := by
  refine PE.imp (pe_or ha hb) fun σ H Q hw => ?_
  refine up_bind (m := ma) (f := fun (v : PV) x ς h q => ∃ r, v = PV.bl r ∧ if r = true then q (PV.bl true) h else mb x ς h q) hw fun ρ h H1 ς q x v u R S r1 k c cx => ?_
  obtain ⟨d, rfl, k⟩ := k
  refine ⟨d, r1.blInv, ?_⟩
  cases d with
  | false => rw [if_neg Bool.false_ne_true] at k ⊢; exact ⟨ρ, h, ς, q, x, R, S, k, c, cx⟩
  | true => rw [if_pos rfl] at k ⊢; exact c.here R (.bl _) k
theorem re_not (ha : RE G W X a ma) : RE G W X (.UnaryOp .Not a pos) (fun x ς h q => ma x ς h fun v h1 => ∃ r, v = PV.bl r ∧ q (PV.bl (!r)) h1) := by
  refine PE.imp (pe_not ha) fun σ H Q hw => ?_
  refine up_bind (m := ma) (f := fun (v : PV) x ς h q => ∃ r, v = PV.bl r ∧ q (PV.bl (!r)) h) hw fun ρ h H1 ς q x v u R S r1 k c cx => ?_
  obtain ⟨d, rfl, k⟩ := k
  exact ⟨d, r1.blInv, c.here R (.bl _) k⟩
theorem rt_not (ha : RT G W X a ta) : RT G W X (.UnaryOp .Not a pos) (fun x ς h q => ta x ς h fun r h1 => q (!r) h1) := by
  refine PT.imp (pt_not ha) fun σ H Q hw => ?_
  refine up_bind (m := ta) (f := fun (r : Bool) x ς h q => q (!r) h) hw fun ρ h H1 ς q x v u R S r1 k c cx => ?_
  cases r1
  exact c ρ h H1 _ _ Ext.refl R rfl k
abbrev RW (G : GE) (W : WX) (X : Cx) (e : Expr) (m : QX → PSt → PH → (Bool → PH → Prop) → Prop) : Prop := PW X e (up G W (REq Bool) m)
theorem rw_and {rest : List Expr} (ha : RT G W X a ta) (hb : RW G W X (.BoolOp .And (b :: rest) pos) tb) : RW G W X (.BoolOp .And (a :: b :: rest) pos) (fun x ς h q => ta x ς h fun r h1 => if r = true then tb x ς h1 q else q false h1) := by
  refine PW.imp (pw_and ha hb) fun σ H Q hw => ?_
  refine up_bind (m := ta) (f := fun (r : Bool) x ς h q => if r = true then tb x ς h q else q false h) hw fun ρ h H1 ς q x v u R S r1 k c cx => ?_
  cases r1
  cases v with
  | true => rw [if_pos rfl] at k ⊢; exact ⟨ρ, h, ς, q, x, R, S, k, c, cx⟩
  | false => rw [if_neg Bool.false_ne_true] at k ⊢; exact c ρ h H1 _ _ Ext.refl R rfl k
theorem rw_or {rest : List Expr} (ha : RT G W X a ta) (hb : RW G W X (.BoolOp .Or (b :: rest) pos) tb) : RW G W X (.BoolOp .Or (a :: b :: rest) pos) (fun x ς h q => ta x ς h fun r h1 => if r = true then q true h1 else tb x ς h1 q) := by
  refine PW.imp (pw_or ha hb) fun σ H Q hw => ?_
  refine up_bind (m := ta) (f := fun (r : Bool) x ς h q => if r = true then q true h else tb x ς h q) hw fun ρ h H1 ς q x v u R S r1 k c cx => ?_
  cases r1
  cases v with
  | false => rw [if_neg Bool.false_ne_true] at k ⊢; exact ⟨ρ, h, ς, q, x, R, S, k, c, cx⟩
  | true => rw [if_pos rfl] at k ⊢; exact c ρ h H1 _ _ Ext.refl R rfl k
theorem rt_truth (g : Good G X W) (ha : RE G W X a ma) (he : ∀ whole, isTrue a X.env whole = (do let v ← whole; standAt a.pos; holding [v] (truthy v))) : RT G W X a (fun x ς h q => ma x ς h fun v h1 => ∃ r, truS h1 v = some r ∧ q r h1) := by
  refine PT.imp (pt_truth ha he) fun σ H Q hw => ?_
  refine up_bind (m := ma) (f := fun (v : PV) x ς h q => ∃ r, truS h v = some r ∧ q r h) hw fun ρ h H1 ς q x v u R S r1 k c cx => ?_
  obtain ⟨d, e1, k⟩ := k
  exact ⟨d, tru_of g.eK R r1 e1, c ρ h H1 _ _ Ext.refl R rfl k⟩
theorem re_ifx (hc : RT G W X c tc) (ha : RE G W X a ma) (hb : RE G W X b mb) : RE G W X (.IfExp c a b pos) (fun x ς h q => tc x ς h fun r h1 => if r = true then ma x ς h1 q else mb x ς h1 q) := by
  refine PE.imp (pe_ifExp hc ha hb) fun σ H Q hw => ?_
  refine up_bind (m := tc) (f := fun (r : Bool) x ς h q => if r = true then ma x ς h q else mb x ς h q) hw fun ρ h H1 ς q x v u R S r1 k c cx => ?_
  cases r1
  cases v with
  | true => rw [if_pos rfl] at k ⊢; exact ⟨ρ, h, ς, q, x, R, S, k, c, cx⟩
  | false => rw [if_neg Bool.false_ne_true] at k ⊢; exact ⟨ρ, h, ς, q, x, R, S, k, c, cx⟩
/-! ### arguments -/
theorem ra_nil : RA G W X [] (fun _ _ h q => q [] h) := by
  refine PA.imp pa_nil fun σ H Q hw => ?_
  obtain ⟨ρ, h, ς, q, y, a1, a2, k, a4, a5⟩ := hw
  exact a4 ρ h H _ _ Ext.refl a1 .nil k
theorem ra_cons (ha : RE G W X a ma) (hr : RA G W X es mes) (hs : starEach (a :: es) X.env = (false, eval a X.env) :: starEach es X.env) : RA G W X (a :: es) (fun x ς h q => ma x ς h fun v h1 => mes x ς h1 fun vs h2 => q (v :: vs) h2) := by
  refine PA.imp (pa_cons ha hr hs) fun σ H Q hw => ?_
  refine up_bind (m := ma) (f := fun (v : PV) x ς h q => mes x ς h fun vs h2 => q (v :: vs) h2) hw fun ρ h H1 ς q x v u R S r1 k c cx => ?_
  exact ⟨ρ, h, ς, _, x, R, S, k, fun ρ' h' H' ws us E R' rs k2 => c ρ' h' H' _ _ E R' (.cons (r1.ext R E) rs) k2, cx⟩
theorem re_tup {k0 : Nat} (hs : RA G W X es mes) : RE G W X (.Tuple es k0 pos) (fun x ς h q => mes x ς h fun vs h1 => vs.length ≤ sizeLine ∧ q (PV.tup vs) h1) := by
  refine PE.imp (pe_tup hs) fun σ H Q hw => ?_
  refine up_bind (m := mes) (f := fun (vs : List PV) x ς h q => vs.length ≤ sizeLine ∧ q (PV.tup vs) h) hw fun ρ h H1 ς q x vs us R S rs k c cx => ?_
  exact ⟨by rw [← rs.length]; exact k.1, fun p hp => c.newTup R rs k.2 p hp⟩
theorem re_ix (g : Good G X W) (ha : RE G W X a ma) (hb : RE G W X b mb) (hs : PlainIx b) : RE G W X (.Subscript a b pos) (fun x ς h q => ma x ς h fun v h1 => mb x ς h1 fun w h2 => ixS v w h2 q) := by
  refine PE.imp (pe_ix ix_seq ha hb hs) fun σ H Q hw => ?_
  refine up_bind (m := ma) (f := fun (v : PV) x ς h q => mb x ς h fun w h2 => ixS v w h2 q) hw fun ρ h H1 ς q x v u R S r1 k c cx => ?_
  exact ⟨ρ, h, ς, _, x, R, S, k, fun ρ' h' H' w u' E R' r2 k2 => ixS_ok g.eK R' (r1.ext R E) r2 k2 fun y z ry ky => (c.at R' E).here R' ry ky, cx⟩
/-! ### a slice's parts -/
theorem ro_none : RO G W X none (fun _ _ h q => q none h) := by
  refine PO.imp po_none fun σ H Q hw => ?_
  obtain ⟨ρ, h, ς, q, y, a1, a2, k, a4, a5⟩ := hw
  exact a4 ρ h H _ _ Ext.refl a1 rfl k
theorem ro_some (ha : RE G W X a ma) : RO G W X (some a) (fun x ς h q => ma x ς h fun v h1 => ∃ i, v = PV.int i ∧ q (some i) h1) := by
  refine PO.imp (po_some ha) fun σ H Q hw => ?_
  refine up_bind (m := ma) (f := fun (v : PV) x ς h q => ∃ i, v = PV.int i ∧ q (some i) h) hw fun ρ h H1 ς q x v u R S r1 k c cx => ?_
  obtain ⟨i, rfl, k⟩ := k
  exact ⟨i, r1.intInv, c ρ h H1 _ _ Ext.refl R rfl k⟩
end
end WD
end
section
set_option Elab.async false
set_option linter.all false
set_option maxRecDepth 100000
set_option autoImplicit false
set_option maxHeartbeats 4000000
/-! WJud2: slices, calls, lists just made, methods. -/
namespace WD
open PySem PySem.Spec PyProof.Rows L2
/-- a def's promise by its pure meaning -/
def spOf (G : GE) (Φ : Phi) (f : Nat) : Sp := fun vs H Q E => ∃ ρ h args q x, HR G.K ρ h H ∧ Reps G.K ρ h.length H args vs ∧ Φ f args h q x ∧ Cov G (RV G) ρ h H q Q ∧
  ∀ ρ' h' H' e c d, Ext ρ h.length H ρ' h'.length H' → HR G.K ρ' h' H' → XR G ρ' h'.length H' e c d → x e h' → E c d H'
/-- a def of the module that may be called by its name -/
structure FnAt (G : GE) (Φ : Phi) (X : Cx) (x : Str) (id : Nat) : Prop where
  ex : ∃ (f : Addr) (fd : FuncData) (ps : List Str) (k : Nat), X.mg x = some (.ref f) ∧ FnOk X.prog X.w X.K X.mg X.base (L2.CX X.prog X.w) k f fd ps (spOf G Φ id) ∧ Room k X.A ∧ PySem.W.keepIn X.K (.ref f) = true ∧ Binds X.K fd ps []
section
variable {G : GE} {Φ : Phi} {W : WX} {X : Cx} {a b c e : Expr} {es : List Expr} {pos p : Pos} {ma mb mc : QX → PSt → PH → QV → Prop} {mes ml : QX → PSt → PH → (List PV → PH → Prop) → Prop} {mu mw : QX → PSt → PH → (LV → PH → Prop) → Prop}
  {lo hi : Option Expr} {mlo mhi : QX → PSt → PH → (Option Int → PH → Prop) → Prop}
theorem re_sl {p2 : Pos} (g : Good G X W) (ha : RE G W X a ma) (hl : RO G W X lo mlo) (hh : RO G W X hi mhi) : RE G W X (.Subscript a (.Slice lo hi none p2) pos) (fun x ς h q => ma x ς h fun v h1 => mlo x ς h1 fun l h2 => mhi x ς h2 fun u h3 => slS v l u h3 q) := by
  refine PE.imp (pe_slice (sl_tupA.or (sl_str.or sl_list)) ha hl hh) fun σ H Q hw => ?_
  refine up_bind (m := ma) (f := fun (v : PV) x ς h q => mlo x ς h fun l h2 => mhi x ς h2 fun u h3 => slS v l u h3 q) hw fun ρ h H1 ς q x v u R S r1 k c cx => ?_
  refine ⟨ρ, h, ς, _, x, R, S, k, fun ρ2 h2 H2 l l' E2 R2 r2 k2 => ?_, cx⟩
  cases r2
  refine ⟨ρ2, h2, ς, _, x, R2, S.ext R E2, k2, fun ρ3 h3 H3 y y' E3 R3 r3 k3 => ?_, cx.at R2 E2⟩
  cases r3
  exact slS_ok g.eK R3 ((r1.ext R E2).ext R2 E3) k3 ((c.at R2 E2).at R3 E3)
/-! ### calls of defs -/
theorem re_call {x : Str} {id : Nat} (g : Good G X W) (F : FnAt G Φ X x id) (hg : Gl X x) (hs : RA G W X (e :: es) mes)
    (hdb : (x == ("__debug__" : Str)) = false) (he : starEach (e :: es) X.env = (false, eval e X.env) :: starEach es X.env) (hpl : ∀ pos, (backTo pos (starEach es X.env)).any (·.1) = false) :
    RE G W X (.Call (.Name x p) (e :: es) [] pos) (fun y ς h q => mes y ς h fun vs h1 => Φ id vs h1 q y) := by
  obtain ⟨f, fd, ps, k, h1, h2, h3, h4, h5⟩ := F.ex
  refine PE.imp (pe_callS h2 h3 hg h1 h4 h5 (fun σ => passAt g.tk σ) hs hdb he (hpl _)) fun σ H Q hw => ?_
  refine up_bind (m := mes) (f := fun (vs : List PV) y ς h q => Φ id vs h q y) hw fun ρ h H1 ς q y vs us R S rs k c cx => ?_
  exact ⟨ρ, h, vs, q, y, R, rs, k, c, fun ρ' h' H' e' k' d' E R' xr z => cx ρ' h' H' e' k' d' E R' xr z⟩
theorem re_call0 {x : Str} {id : Nat} (g : Good G X W) (F : FnAt G Φ X x id) (hg : Gl X x) (hdb : (x == ("__debug__" : Str)) = false) :
    RE G W X (.Call (.Name x p) [] [] pos) (fun y ς h q => Φ id [] h q y) := by
  obtain ⟨f, fd, ps, k, h1, h2, h3, h4, h5⟩ := F.ex
  refine ⟨fun pins s σ H Q I hw => ?_⟩
  refine wpAny_Call_Name_kw (ld_glob I hg h1 ?_ hdb)
  refine PySem.W.callWith_K0 I.kIn h4 (run_fnS (us := []) (vs := []) (E := WE W) h2 h3 h5 (passAt g.tk σ) I .nil ?_)
  obtain ⟨ρ, h, ς, q, y, R, S, k, c, cx⟩ := hw
  exact ⟨ρ, h, [], q, y, R, .nil, k, c, fun ρ' h' H' e' k' d' E R' xr z => cx ρ' h' H' e' k' d' E R' xr z⟩
/-! ### calls of built-in functions -/
/-- a call of a known value by a name -/
theorem pe_callF {f : Value} {r : List V → Hp → VK → Prop} {t : TA} {x : Str} (hc : CallR X f r) (hf : (∃ id, f = .builtin id) ∨ ∃ T, f = .type T) (hg : Gl X x) (hm : X.mg x = none) (hv : bootBuiltins x = some f) (ha : PA X (e :: es) t) (hn : x ≠ "__name__") (hdb : (x == ("__debug__" : Str)) = false)
    (he : starEach (e :: es) X.env = (false, eval e X.env) :: starEach es X.env) (hpl : (backTo pos (starEach es X.env)).any (·.1) = false) : PE X (.Call (.Name x p) (e :: es) [] pos) (tCB r t) := by
  rcases hf with ⟨id, rfl⟩ | ⟨T, rfl⟩
  · exact pe_callB hc hg hm hv ha hn hdb he hpl
  · exact pe_callTy hc hg hm hv ha hn hdb he hpl
theorem Bif.kind (b : Bif) : (∃ id, b.fn = .builtin id) ∨ ∃ T, b.fn = .type T := by
  cases b <;> first | exact .inl ⟨_, rfl⟩ | exact .inr ⟨_, rfl⟩
theorem Lif.kind (b : Lif) : (∃ id, b.fn = .builtin id) ∨ ∃ T, b.fn = .type T := by
  cases b <;> first | exact .inl ⟨_, rfl⟩ | exact .inr ⟨_, rfl⟩
theorem re_bif {x : Str} (g : Good G X W) (bf : Bif) (hmore : bf.more = []) (hg : Gl X x) (hm : X.mg x = none) (hv : bootBuiltins x = some bf.fn) (hs : RA G W X (e :: es) mes) (hn : x ≠ "__name__") (hdb : (x == ("__debug__" : Str)) = false)
    (he : starEach (e :: es) X.env = (false, eval e X.env) :: starEach es X.env) (hpl : ∀ pos, (backTo pos (starEach es X.env)).any (·.1) = false) :
    RE G W X (.Call (.Name x p) (e :: es) [] pos) (fun y ς h q => mes y ς h fun vs h1 => bifS bf vs h1 q) := by
  obtain ⟨r, hr, hok⟩ := bif_ok g.calm bf
  refine PE.imp (pe_callF hr bf.kind hg hm hv hs hn hdb he (hpl _)) fun σ H Q hw => ?_
  refine up_bind (m := mes) (f := fun (vs : List PV) y ς h q => bifS bf vs h q) hw fun ρ h H1 ς q y vs us R S rs k c cx => ?_
  have := hok G ρ h H1 vs us q Q g.eK R rs k c
  rwa [hmore, List.append_nil] at this
theorem re_isT {x t : Str} {T : String} {pt : Pos} (g : Good G X W) (hx : x = "isinstance") (hg : Gl X x) (hm : X.mg x = none) (hgt : Gl X t) (hmt : X.mg t = none) (hvt : bootBuiltins t = some (.type T)) (hnt : t ≠ "__name__") (hdt : (t == ("__debug__" : Str)) = false) (ha : RE G W X a ma)
    (he : starEach [a, .Name t pt] X.env = (false, eval a X.env) :: starEach [.Name t pt] X.env) :
    RE G W X (.Call (.Name x p) [a, .Name t pt] [] pos) (fun y ς h q => ma y ς h fun v h1 => bifS (.isT T) [v] h1 q) := by
  subst hx
  obtain ⟨r, hr, hok⟩ := bif_ok g.calm (.isT T)
  have hT : PE X (.Name t pt) (tC (.ty T)) := pe_bltn hgt hmt hvt rfl hnt hdt
  refine PE.imp (pe_callF (f := .builtin "isinstance") hr (.inl ⟨_, rfl⟩) hg hm (by decide +kernel) (pa_cons ha (pa_cons hT pa_nil (by rfl)) he) (by decide) (by decide) he (by rfl)) fun σ H Q hw => ?_
  refine up_bind (m := ma) (f := fun (v : PV) y ς h q => bifS (.isT T) [v] h q) hw fun ρ h H1 ς q y v u R S r1 k c cx => ?_
  exact hok G ρ h H1 [v] [u] q Q g.eK R (.cons r1 .nil) k c
/-! ### lists to be read -/
theorem rla_e (ha : RE G W X a ma) : RLa G W X a (fun x ς h q => ma x ς h fun v h1 => q (.v v) h1) := by
  refine PE.imp ha fun σ H Q hw => ?_
  refine up_bind (m := ma) (f := fun (v : PV) x ς h q => q (LV.v v) h) hw fun ρ h H1 ς q x v u R S r1 k c cx => ?_
  exact c ρ h H1 _ _ Ext.refl R (.v r1) k
theorem rla_l (hl : RL G W X a ml) : RLa G W X a (fun x ς h q => ml x ς h fun xs h1 => q (.t xs) h1) := by
  refine PE.imp hl fun σ H Q hw => ?_
  refine up_bind (m := ml) (f := fun (xs : List PV) x ς h q => q (LV.t xs) h) hw fun ρ h H1 ς q x v u R S r1 k c cx => ?_
  obtain ⟨p, us, rfl, _, h2, h3, h4⟩ := r1
  exact c ρ h H1 _ _ Ext.refl R (.t h2 h3 h4) k
/-- a function of a list's items -/
theorem re_lif {x : Str} (g : Good G X W) (bf : Lif) (hg : Gl X x) (hm : X.mg x = none) (hv : bootBuiltins x = some bf.fn) (hl : RLa G W X a mu) (hn : x ≠ "__name__") (hdb : (x == ("__debug__" : Str)) = false)
    (he : starEach [a] X.env = (false, eval a X.env) :: starEach [] X.env) :
    RE G W X (.Call (.Name x p) [a] [] pos) (fun y ς h q => mu y ς h fun u h1 => ∃ xs, lvB bf h1 u = some xs ∧ lifS bf xs h1 q) := by
  obtain ⟨r, hr, hok⟩ := lif_ok g.calm bf
  refine PE.imp (pe_callF hr bf.kind hg hm hv (pa_cons hl pa_nil he) hn hdb he (by rfl)) fun σ H Q hw => ?_
  refine up_bind (m := mu) (f := fun (u : LV) y ς h q => ∃ xs, lvB bf h u = some xs ∧ lifS bf xs h q) hw fun ρ h H1 ς q y v u R S r1 k c cx => ?_
  obtain ⟨xs, k1, k2⟩ := k
  exact hok G ρ h H1 v u xs q Q g.eK R r1 k1 k2 c
/-! ### new lists -/
theorem re_new (hl : RL G W X a ml) : RE G W X a (fun x ς h q => ml x ς h fun xs h1 => q (.loc h1.length) (h1 ++ [.lst xs])) := by
  refine PE.imp hl fun σ H Q hw => ?_
  obtain ⟨ρ, h, ς, q, x, R, S, k, c, cx⟩ := hw
  refine ⟨ρ, h, ς, _, x, R, S, k, fun ρ' h' H' xs u E R' r k' => ?_, cx⟩
  obtain ⟨p, us, rfl, h1, h2, h3, h4⟩ := r
  refine c (ρadd ρ' h'.length p) (h' ++ [.lst xs]) H' (.loc h'.length) (.ref p) ?_ (R'.track h2 h3 h4) ?_ k'
  · have := Ext.track E h1
    rwa [show (h' ++ [PO.lst xs]).length = h'.length + 1 by simp]
  · have e : V.ref p = V.ref (ρadd ρ' h'.length p h'.length) := by rw [ρadd_self]
    rw [e]
    exact .loc h'.length (by simp)
/-- what a rule that makes a list asks -/
theorem newL {ρ ρ0 : Nat → Addr} {h h0 : PH} {H H0 : Hp} {xs : List PV} {us : List V} {q : List PV → PH → Prop} {Q : VK} (R0 : HR G.K ρ0 h0 H0) (E : Ext ρ0 h0.length H0 ρ h.length H) (c : Cov G (LX G H0) ρ h H q Q) (R : HR G.K ρ h H) (rs : Reps G.K ρ h.length H xs us) (k : q xs h) (p : Addr) (hp : H p = none) : Q (.ref p) (upd H p (.lst us)) := by
  have nl : ∀ l, l < h.length → ρ l ≠ p := fun l hl z => by
    obtain ⟨o, e⟩ := R.there hl
    rw [z, hp] at e
    cases e
  refine c ρ h _ xs (.ref p) (Ext.fresh hp) (R.fresh hp) ⟨p, us, rfl, ?_, upd_same, nl, Reps.ext R (Ext.fresh hp) rs⟩ k
  cases e : H0 p with
  | none => rfl
  | some o =>
    by_cases z : ∃ l, l < h0.length ∧ ρ0 l = p
    · obtain ⟨l, hl, z⟩ := z
      exact absurd ((E.eq l hl).trans z) (nl l (Nat.lt_of_lt_of_le hl E.le))
    · have := E.keep p o e fun l hl z' => z ⟨l, hl, z'⟩
      rw [hp] at this
      cases this
theorem rl_disp (hs : RA G W X es mes) : RL G W X (.List es pos) (fun x ς h q => mes x ς h fun vs h1 => vs.length ≤ sizeLine ∧ q vs h1) := by
  refine PE.imp (pe_lst hs) fun σ H Q hw => ?_
  obtain ⟨ρ, h, ς, q, x, R, S, k, c, cx⟩ := hw
  refine ⟨ρ, h, ς, _, x, R, S, k, fun ρ' h' H' vs us E R' rs k' => ⟨by rw [← rs.length]; exact k'.1, fun p hp => ?_⟩, cx⟩
  exact newL R E (c.at R' E) R' rs k'.2 p hp
theorem rl_cat (ha : RLa G W X a mu) (hb : RLa G W X b mw) : RL G W X (.BinOp a .Add b pos) (fun x ς h q => mu x ς h fun u h1 => mw x ς h1 fun w h2 => ∃ xs ys, lvM h2 u = some xs ∧ lvM h2 w = some ys ∧ xs.length + ys.length ≤ sizeLine ∧ q (xs ++ ys) h2) := by
  refine PE.imp (pe_op op_cat ha hb) fun σ H Q hw => ?_
  obtain ⟨ρ, h, ς, q, x, R, S, k, c, cx⟩ := hw
  refine ⟨ρ, h, ς, _, x, R, S, k, fun ρ1 h1 H1 u u' E1 R1 r1 k1 => ?_, cx⟩
  refine ⟨ρ1, h1, ς, _, x, R1, S.ext R E1, k1, fun ρ2 h2 H2 w w' E2 R2 r2 k2 => ?_, cx.at R1 E1⟩
  obtain ⟨xs, ys, m1, m2, m3, m4⟩ := k2
  obtain ⟨p1, vs, rfl, a1, a2⟩ := lvM_sq R2 m1 (r1.ext R1 E2)
  obtain ⟨p2, ws, rfl, b1, b2⟩ := lvM_sq R2 m2 r2
  exact ⟨p1, p2, vs, ws, rfl, rfl, a1, b1, by rw [← a2.length, ← b2.length]; exact m3, fun p hp => newL R (E1.trans R1 E2) (c.at R2 (E1.trans R1 E2)) R2 (a2.append b2) m4 p hp⟩
theorem rl_rep (ha : RLa G W X a mu) (hb : RE G W X b mb) : RL G W X (.BinOp a .Mult b pos) (fun x ς h q => mu x ς h fun u h1 => mb x ς h1 fun w h2 => ∃ xs i, lvM h2 u = some xs ∧ w = .int i ∧ -(2 ^ 63) ≤ i ∧ i < 2 ^ 63 ∧ xs.length * i.toNat ≤ sizeLine ∧ q (List.replicate i.toNat xs).flatten h2) := by
  refine PE.imp (pe_op op_rep ha hb) fun σ H Q hw => ?_
  obtain ⟨ρ, h, ς, q, x, R, S, k, c, cx⟩ := hw
  refine ⟨ρ, h, ς, _, x, R, S, k, fun ρ1 h1 H1 u u' E1 R1 r1 k1 => ?_, cx⟩
  refine ⟨ρ1, h1, ς, _, x, R1, S.ext R E1, k1, fun ρ2 h2 H2 w w' E2 R2 r2 k2 => ?_, cx.at R1 E1⟩
  obtain ⟨xs, i, m1, rfl, m2, m3, m4, m5⟩ := k2
  obtain ⟨p1, vs, rfl, a1, a2⟩ := lvM_sq R2 m1 (r1.ext R1 E2)
  exact ⟨p1, i, vs, rfl, r2.intInv, a1, m2, m3, by rw [← a2.length]; exact m4, fun p hp => newL R (E1.trans R1 E2) (c.at R2 (E1.trans R1 E2)) R2 (a2.repl _) m5 p hp⟩
theorem rl_cut {p2 : Pos} (g : Good G X W) (ha : RLa G W X a mu) (hl : RO G W X lo mlo) (hh : RO G W X hi mhi) : RL G W X (.Subscript a (.Slice lo hi none p2) pos) (fun x ς h q => mu x ς h fun u h1 => mlo x ς h1 fun l h2 => mhi x ς h2 fun w h3 => ∃ xs, lvL h3 u = some xs ∧ q (cutP xs l w) h3) := by
  refine PE.imp (pe_slice sl_list ha hl hh) fun σ H Q hw => ?_
  obtain ⟨ρ, h, ς, q, x, R, S, k, c, cx⟩ := hw
  refine ⟨ρ, h, ς, _, x, R, S, k, fun ρ1 h1 H1 u u' E1 R1 r1 k1 => ?_, cx⟩
  refine ⟨ρ1, h1, ς, _, x, R1, S.ext R E1, k1, fun ρ2 h2 H2 l l' E2 R2 r2 k2 => ?_, cx.at R1 E1⟩
  cases r2
  refine ⟨ρ2, h2, ς, _, x, R2, (S.ext R E1).ext R1 E2, k2, fun ρ3 h3 H3 w w' E3 R3 r3 k3 => ?_, (cx.at R1 E1).at R2 E2⟩
  cases r3
  obtain ⟨xs, m1, m2⟩ := k3
  obtain ⟨p1, vs, rfl, a1, a2⟩ := lvL_sq R3 m1 ((r1.ext R1 E2).ext R2 E3)
  have E := (E1.trans R1 E2).trans R2 E3
  exact ⟨p1, vs, rfl, g.eK ▸ a1, fun p hp => newL R E (c.at R3 E) R3 (a2.cut _ _) m2 p hp⟩
theorem rl_list {x : Str} (g : Good G X W) (hx : x = "list") (hg : Gl X x) (hm : X.mg x = none) (ha : RLa G W X a mu) (he : starEach [a] X.env = (false, eval a X.env) :: starEach [] X.env) :
    RL G W X (.Call (.Name x p) [a] [] pos) (fun y ς h q => mu y ς h fun u h1 => ∃ xs, lvA h1 u = some xs ∧ q xs h1) := by
  subst hx
  refine PE.imp (pe_callF (f := .type "list") call_list_of (.inr ⟨_, rfl⟩) hg hm (by decide +kernel) (pa_cons ha pa_nil he) (by decide) (by decide) he (by rfl)) fun σ H Q hw => ?_
  obtain ⟨ρ, h, ς, q, y, R, S, k, c, cx⟩ := hw
  refine ⟨ρ, h, ς, _, y, R, S, k, fun ρ1 h1 H1 u u' E1 R1 r1 k1 => ?_, cx⟩
  obtain ⟨xs, m1, m2⟩ := k1
  obtain ⟨a1, vs, rfl, sq, rs⟩ := lvA_sq R1 m1 r1
  exact ⟨a1, vs, rfl, g.eK ▸ sq, fun p hp => newL R E1 (c.at R1 E1) R1 rs m2 p hp⟩
end
end WD
end
section
set_option Elab.async false
set_option linter.all false
set_option maxRecDepth 100000
set_option autoImplicit false
set_option maxHeartbeats 4000000
/-! WJud3: methods; what a loop walks; comprehensions. -/
namespace WD
open PySem PySem.Spec PyProof.Rows L2
section
variable {G : GE} {Φ : Phi} {W : WX} {X : Cx} {a b c e : Expr} {es : List Expr} {pos p apos cpos : Pos} {ma mb mc : QX → PSt → PH → QV → Prop} {mes ml : QX → PSt → PH → (List PV → PH → Prop) → Prop} {mu mw : QX → PSt → PH → (LV → PH → Prop) → Prop}
/-- the facts of a method of list -/
structure MthF (id : String) (name : Str) : Prop where
  slot : Slot "list" name id
  ty : typeOf (.builtin id) = pure (.type "method_descriptor")
theorem mth_facts (m : Mth) : MthF m.id m.name := by
  cases m with
  | append => exact ⟨PySem.F.slot_list_append, PySem.F.type_list_append⟩
  | pop => exact ⟨PySem.F.slot_list_pop, PySem.F.type_list_pop⟩
  | popAt => exact ⟨PySem.F.slot_list_pop, PySem.F.type_list_pop⟩
  | insert => exact ⟨PySem.F.slot_list_insert, PySem.F.type_list_insert⟩
  | reverse => exact ⟨PySem.F.slot_list_reverse, PySem.F.type_list_reverse⟩
theorem tyV_lst {ρ : Nat → Addr} {h : PH} {H : Hp} {v : PV} {u : V} (g : Good G X W) (R : HR G.K ρ h H) (r : Rep G.K ρ h.length H v u) (k : isLst h v) : tyV X.K "list" u H := by
  obtain ⟨l, xs, rfl, e⟩ := k
  obtain ⟨us, h1, h2⟩ := R.list e
  rw [r.locInv.1]
  exact .inl ⟨rfl, us, SqL.of h1⟩
theorem re_mth (g : Good G X W) (m : Mth) (ho : RE G W X a ma) (hs : RA G W X (e :: es) mes) (hbase : attributeBase a m.name X.env (eval a X.env) = eval a X.env)
    (hfew : ((backTo cpos (starEach (e :: es) X.env)).all (fun x => !x.1) && (backToKw cpos (keywordEach [] X.env)).all (fun x => x.1.isSome) && decide ((e :: es).length + ([] : List Keyword).length + (if ([] : List Keyword).isEmpty then 0 else 1) < 30)) = true)
    (hline : (apos.endLine == cpos.line) = true) (he : starEach (e :: es) X.env = (false, eval e X.env) :: starEach es X.env) (hpl : ∀ pos, (backTo pos (starEach es X.env)).any (·.1) = false) :
    RE G W X (.Call (.Attribute a m.name apos) (e :: es) [] cpos) (fun x ς h q => ma x ς h fun v h1 => isLst h1 v ∧ mes x ς h1 fun vs h2 => mthS m v vs h2 q) := by
  obtain ⟨r, hr, hok⟩ := mth_ok (X := X) m
  refine PE.imp (pe_bm PySem.F.plainAttrs_list (mth_facts m).slot (mth_facts m).ty hr ho hs hbase hfew hline he (hpl _)) fun σ H Q hw => ?_
  refine up_bind (m := ma) (f := fun (v : PV) x ς h q => isLst h v ∧ mes x ς h fun vs h2 => mthS m v vs h2 q) hw fun ρ h H1 ς q x v u R S r1 k c cx => ?_
  refine ⟨tyV_lst g R r1 k.1, ρ, h, ς, _, x, R, S, k.2, fun ρ' h' H' vs us E R' rs k2 => ?_, cx⟩
  exact hok G ρ' h' H' v u vs us q Q g.eK R' (r1.ext R E) rs k2 (c.at R' E)
theorem re_mth0 (g : Good G X W) (m : Mth) (ho : RE G W X a ma) (hbase : attributeBase a m.name X.env (eval a X.env) = eval a X.env) (hline : (apos.endLine == cpos.line) = true) :
    RE G W X (.Call (.Attribute a m.name apos) [] [] cpos) (fun x ς h q => ma x ς h fun v h1 => isLst h1 v ∧ mthS m v [] h1 q) := by
  obtain ⟨r, hr, hok⟩ := mth_ok (X := X) m
  refine PE.imp (pe_bm0 PySem.F.plainAttrs_list (mth_facts m).slot (mth_facts m).ty hr ho hbase hline) fun σ H Q hw => ?_
  refine up_bind (m := ma) (f := fun (v : PV) x ς h q => isLst h v ∧ mthS m v [] h q) hw fun ρ h H1 ς q x v u R S r1 k c cx => ?_
  exact ⟨tyV_lst g R r1 k.1, hok G ρ h H1 v u [] [] q Q g.eK R r1 .nil k.2 c⟩
theorem re_ext (g : Good G X W) (ho : RE G W X a ma) (hl : RLa G W X b mu) (hbase : attributeBase a "extend" X.env (eval a X.env) = eval a X.env)
    (hfew : ((backTo cpos (starEach [b] X.env)).all (fun x => !x.1) && (backToKw cpos (keywordEach [] X.env)).all (fun x => x.1.isSome) && decide ([b].length + ([] : List Keyword).length + (if ([] : List Keyword).isEmpty then 0 else 1) < 30)) = true)
    (hline : (apos.endLine == cpos.line) = true) (he : starEach [b] X.env = (false, eval b X.env) :: starEach [] X.env) :
    RE G W X (.Call (.Attribute a "extend" apos) [b] [] cpos) (fun x ς h q => ma x ς h fun v h1 => isLst h1 v ∧ mu x ς h1 fun u h2 => ∃ l xs ys, v = .loc l ∧ getL h2 l = some xs ∧ lvM h2 u = some ys ∧ xs.length + ys.length ≤ sizeLine ∧ q .non (h2.set l (.lst (xs ++ ys)))) := by
  obtain ⟨r, hr, hok⟩ := ext_ok (X := X)
  refine PE.imp (pe_bm PySem.F.plainAttrs_list PySem.F.slot_list_extend PySem.F.type_list_extend hr ho (pa_cons hl pa_nil he) hbase hfew hline he (by rfl)) fun σ H Q hw => ?_
  refine up_bind (m := ma) (f := fun (v : PV) x ς h q => isLst h v ∧ mu x ς h fun u h2 => ∃ l xs ys, v = PV.loc l ∧ getL h2 l = some xs ∧ lvM h2 u = some ys ∧ xs.length + ys.length ≤ sizeLine ∧ q PV.non (h2.set l (PO.lst (xs ++ ys)))) hw fun ρ h H1 ς q x v u R S r1 k c cx => ?_
  refine ⟨tyV_lst g R r1 k.1, ρ, h, ς, _, x, R, S, k.2, fun ρ' h' H' w w' E R' rs k2 => ?_, cx⟩
  obtain ⟨l, xs, ys, rfl, m1, m2, m3, m4⟩ := k2
  exact hok G ρ' h' H' l w u w' xs ys q Q g.eK R' (r1.ext R E) rs m1 m2 m3 m4 (c.at R' E)
/-! ### what a loop walks -/
/-- an iterator walks these items while gd holds -/
def ItOk (G : GE) (ρ0 : Nat → Addr) (n0 : Nat) (H0 : Hp) (J : It) (xs : List PV) (gd : PH → Prop) : Prop :=
  ∀ ρ h H i, Ext ρ0 n0 H0 ρ h.length H → HR G.K ρ h H → gd h →
    (∀ x, xs[i]? = some x → J.go i H ∧ ∀ u H', J.yld i H u H' → Ext ρ h.length H ρ h.length H' ∧ HR G.K ρ h H' ∧ Rep G.K ρ h.length H' x u) ∧ (xs.length ≤ i → J.stop i H)
abbrev MI := QX → PSt → PH → (List PV → (PH → Prop) → PH → Prop) → Prop
def upI (G : GE) (W : WX) (m : MI) : TI := fun σ H T => ∃ ρ h ς q x, HR G.K ρ h H ∧ SR G.K ρ h.length H ς σ ∧ m x ς h q ∧
  (∀ ρ' h' H' J xs gd, Ext ρ h.length H ρ' h'.length H' → HR G.K ρ' h' H' → ItOk G ρ' h'.length H' J xs gd → q xs gd h' → T J H') ∧ CovX G ρ h H x σ W
abbrev RI (G : GE) (W : WX) (X : Cx) (tg e : Expr) (m : MI) : Prop := PI X tg e (upI G W m)
theorem PI.imp {X : Cx} {tg e : Expr} {t t' : TI} (h : PI X tg e t) (i : ∀ σ H Q, t' σ H Q → t σ H Q) : PI X tg e t' := ⟨fun pins s σ H R I hw => h.run pins s σ H R I (i σ H R hw)⟩
/-- the walk of a sequence that stands -/
theorem ItOk.list {ρ : Nat → Addr} {n : Nat} {H : Hp} {v : PV} {xs : List PV} {aa : Addr} (g : G.K = X.K) (hv : ∀ (ρ' : Nat → Addr) (h' : PH) (H' : Hp), Ext ρ n H ρ' h'.length H' → HR G.K ρ' h' H' → items h' v = some xs → ∃ vs, SqL X.K H' aa vs ∧ Reps G.K ρ' h'.length H' xs vs) : ItOk G ρ n H (Itl X.K aa) xs (standsP v xs) := by
  intro ρ' h' H' i E R gd
  obtain ⟨vs, sq, rs⟩ := hv ρ' h' H' E R gd
  refine ⟨fun x hx => ?_, fun hi => ⟨vs, sq, by rw [← rs.length]; exact hi⟩⟩
  obtain ⟨u, e1, r1⟩ := rs.get hx
  refine ⟨⟨vs, u, sq, e1⟩, fun u' H2 y => ?_⟩
  obtain ⟨rfl, y⟩ := y
  have := y vs sq
  rw [e1] at this
  cases this
  exact ⟨Ext.refl, R, r1⟩
theorem ItOk.tup {ρ : Nat → Addr} {n : Nat} {H : Hp} {v : PV} {xs : List PV} {aa : Addr} (g : G.K = X.K) (hv : ∀ (ρ' : Nat → Addr) (h' : PH) (H' : Hp), Ext ρ n H ρ' h'.length H' → HR G.K ρ' h' H' → items h' v = some xs → ∃ vs, SqT X.K H' aa vs ∧ Reps G.K ρ' h'.length H' xs vs) : ItOk G ρ n H (Itt X.K aa) xs (standsP v xs) := by
  intro ρ' h' H' i E R gd
  obtain ⟨vs, sq, rs⟩ := hv ρ' h' H' E R gd
  refine ⟨fun x hx => ?_, fun hi => ⟨vs, sq, by rw [← rs.length]; exact hi⟩⟩
  obtain ⟨u, e1, r1⟩ := rs.get hx
  refine ⟨⟨vs, u, sq, e1⟩, fun u' H2 y => ?_⟩
  obtain ⟨rfl, y⟩ := y
  have := y vs sq
  rw [e1] at this
  cases this
  exact ⟨Ext.refl, R, r1⟩
theorem enumL_get : ∀ {xs : List PV} {k : Int} {i : Nat} {y : PV}, (enumL k xs)[i]? = some y → ∃ x, xs[i]? = some x ∧ y = .tup [.int (k + (i : Nat)), x]
  | [], k, i, y, e => by simp [enumL] at e
  | x :: r, k, 0, y, e => by
    simp [enumL] at e
    exact ⟨x, by simp, by rw [← e]; simp⟩
  | x :: r, k, i + 1, y, e => by
    simp only [enumL, List.getElem?_cons_succ] at e
    obtain ⟨z, h1, h2⟩ := enumL_get e
    refine ⟨z, by simpa using h1, ?_⟩
    rw [h2]
    have : k + 1 + (i : Int) = k + ((i + 1 : Nat) : Int) := by omega
    rw [this]
theorem enumL_length : ∀ (xs : List PV) (k : Int), (enumL k xs).length = xs.length
  | [], _ => rfl
  | _ :: r, k => by simp [enumL, enumL_length r]
/-- a new pair is laid for the turn -/
theorem pair_ext {ρ : Nat → Addr} {h : PH} {H : Hp} {T : Addr} {x : PV} {u : V} {i : Nat} (R : HR G.K ρ h H) (hT : H T = none) (r : Rep G.K ρ h.length H x u) :
    Ext ρ h.length H ρ h.length (upd H T (.tup [.int (i : Nat), u])) ∧ HR G.K ρ h (upd H T (.tup [.int (i : Nat), u])) ∧ Rep G.K ρ h.length (upd H T (.tup [.int (i : Nat), u])) (.tup [.int (0 + (i : Nat)), x]) (.ref T) := by
  have E : Ext ρ h.length H ρ h.length (upd H T (.tup [.int (i : Nat), u])) := Ext.fresh hT
  refine ⟨E, R.fresh hT, .tup (SqT.of upd_same) (.cons ?_ (.cons (r.ext R E) .nil))⟩
  rw [Int.zero_add]
  exact .int _
theorem ItOk.enumL {ρ : Nat → Addr} {n : Nat} {H : Hp} {v : PV} {xs : List PV} {aa : Addr} (g : G.K = X.K) (hv : ∀ (ρ' : Nat → Addr) (h' : PH) (H' : Hp), Ext ρ n H ρ' h'.length H' → HR G.K ρ' h' H' → items h' v = some xs → ∃ vs, SqL X.K H' aa vs ∧ Reps G.K ρ' h'.length H' xs vs) : ItOk G ρ n H (Ite X.K aa) (enumL 0 xs) (standsP v xs) := by
  intro ρ' h' H' i E R gd
  obtain ⟨vs, sq, rs⟩ := hv ρ' h' H' E R gd
  refine ⟨fun y hy => ?_, fun hi => ⟨vs, sq, by rw [← rs.length, ← enumL_length xs 0]; exact hi⟩⟩
  obtain ⟨x, hx, rfl⟩ := enumL_get hy
  obtain ⟨u, e1, r1⟩ := rs.get hx
  refine ⟨⟨vs, u, sq, e1⟩, fun u' H2 y => ?_⟩
  obtain ⟨T, z, rfl, hT, rfl, y⟩ := y
  have := y vs sq
  rw [e1] at this
  cases this
  exact pair_ext R hT r1
theorem ItOk.enumT {ρ : Nat → Addr} {n : Nat} {H : Hp} {v : PV} {xs : List PV} {aa : Addr} (g : G.K = X.K) (hv : ∀ (ρ' : Nat → Addr) (h' : PH) (H' : Hp), Ext ρ n H ρ' h'.length H' → HR G.K ρ' h' H' → items h' v = some xs → ∃ vs, SqT X.K H' aa vs ∧ Reps G.K ρ' h'.length H' xs vs) : ItOk G ρ n H (IteT X.K aa) (WD.enumL 0 xs) (standsP v xs) := by
  intro ρ' h' H' i E R gd
  obtain ⟨vs, sq, rs⟩ := hv ρ' h' H' E R gd
  refine ⟨fun y hy => ?_, fun hi => ⟨vs, sq, by rw [← rs.length, ← enumL_length xs 0]; exact hi⟩⟩
  obtain ⟨x, hx, rfl⟩ := enumL_get hy
  obtain ⟨u, e1, r1⟩ := rs.get hx
  refine ⟨⟨vs, u, sq, e1⟩, fun u' H2 y => ?_⟩
  obtain ⟨T, z, rfl, hT, rfl, y⟩ := y
  have := y vs sq
  rw [e1] at this
  cases this
  exact pair_ext R hT r1
/-- what stands for a value at later heaps -/
theorem items_later {ρ : Nat → Addr} {h : PH} {H : Hp} {v : PV} {u : V} {xs : List PV} (eK : G.K = X.K) (R : HR G.K ρ h H) (r : Rep G.K ρ h.length H v u) (e : items h v = some xs) :
    ∃ aa, u = .ref aa ∧ (((∃ vs, SqL X.K H aa vs) ∧ ∀ (ρ' : Nat → Addr) (h' : PH) (H' : Hp), Ext ρ h.length H ρ' h'.length H' → HR G.K ρ' h' H' → items h' v = some xs → ∃ vs, SqL X.K H' aa vs ∧ Reps G.K ρ' h'.length H' xs vs) ∨
      ((∃ vs, SqT X.K H aa vs) ∧ ∀ (ρ' : Nat → Addr) (h' : PH) (H' : Hp), Ext ρ h.length H ρ' h'.length H' → HR G.K ρ' h' H' → items h' v = some xs → ∃ vs, SqT X.K H' aa vs ∧ Reps G.K ρ' h'.length H' xs vs)) := by
  cases v with
  | tup ys =>
    have e1 : ys = xs := Option.some.inj e
    subst e1
    obtain ⟨a, vs, rfl, h2, h3⟩ := r.tupInv
    exact ⟨a, rfl, .inr ⟨⟨vs, eK ▸ h2⟩, fun ρ' h' H' E R' _ => ⟨vs, eK ▸ WD.SqT.ext R E h2, Reps.ext R E h3⟩⟩⟩
  | rol ys =>
    have e1 : ys = xs := Option.some.inj e
    subst e1
    obtain ⟨a, vs, rfl, h2, h3⟩ := r.rolInv
    exact ⟨a, rfl, .inl ⟨⟨vs, eK ▸ h2.sq⟩, fun ρ' h' H' E R' _ => ⟨vs, eK ▸ (SqF.ext R E h2).sq, Reps.ext R E h3⟩⟩⟩
  | loc l =>
    obtain ⟨rfl, hl⟩ := r.locInv
    obtain ⟨us, h1, h2⟩ := R.list (show getL h l = some xs from e)
    refine ⟨ρ l, rfl, .inl ⟨⟨us, SqL.of h1⟩, fun ρ' h' H' E R' e' => ?_⟩⟩
    obtain ⟨us', k1, k2⟩ := R'.list (show getL h' l = some xs from e')
    rw [E.eq l hl] at k1
    exact ⟨us', SqL.of k1, k2⟩
  | _ => cases e
/-- a list just made stands at later heaps -/
theorem temp_later {ρ : Nat → Addr} {h : PH} {H : Hp} {p : Addr} {us : List V} {xs : List PV} (R : HR G.K ρ h H) (h2 : H p = some (.lst us)) (h3 : ∀ l, l < h.length → ρ l ≠ p) (h4 : Reps G.K ρ h.length H xs us) :
    ∀ (ρ' : Nat → Addr) (h' : PH) (H' : Hp), Ext ρ h.length H ρ' h'.length H' → ∃ vs, SqL X.K H' p vs ∧ Reps G.K ρ' h'.length H' xs vs :=
  fun ρ' h' H' E => ⟨us, SqL.of (E.keep p _ h2 h3), Reps.ext R E h4⟩
theorem ItOk.any {ρ : Nat → Addr} {n : Nat} {H : Hp} {J : It} {xs ys : List PV} (o : ItOk G ρ n H J xs (standsP (.tup ys) ys)) : ItOk G ρ n H J xs (fun _ => True) :=
  fun ρ' h' H' i E R _ => o ρ' h' H' i E R rfl
theorem ri_e {tg : Expr} (g : Good G X W) (ha : RE G W X a ma) :
    RI G W X tg a (fun x ς h q => ma x ς h fun v h1 => (∃ xs, items h1 v = some xs ∧ q xs (standsP v xs) h1) ∨ ∃ z, v = .str z ∧ q (z.cps.toList.map fun c => .str ⟨#[c]⟩) (fun _ => True) h1) := by
  refine PI.imp (pi_seq ha) fun σ H T hw => ?_
  obtain ⟨ρ, h, ς, q, x, R, S, k, c, cx⟩ := hw
  refine ⟨ρ, h, ς, _, x, R, S, k, fun ρ1 h1 H1 v u E1 R1 r1 k1 => ?_, cx⟩
  rcases k1 with ⟨xs, k1, k2⟩ | ⟨z, rfl, k2⟩
  · obtain ⟨aa, rfl, hv⟩ := items_later g.eK R1 r1 k1
    rcases hv with ⟨h0, hv⟩ | ⟨h0, hv⟩
    · exact .inl ⟨aa, rfl, h0, c ρ1 h1 H1 _ xs _ E1 R1 (ItOk.list g.eK hv) k2⟩
    · exact .inr (.inl ⟨aa, rfl, h0, c ρ1 h1 H1 _ xs _ E1 R1 (ItOk.tup g.eK hv) k2⟩)
  · obtain ⟨e1, s1⟩ := r1.strInv
    refine .inr (.inr ⟨z, e1, c ρ1 h1 H1 _ _ _ E1 R1 (fun ρ' h' H' i E R' _ => ⟨fun y hy => ?_, fun hi => ?_⟩) k2⟩)
    · rw [List.getElem?_map] at hy
      obtain ⟨d, hd, rfl⟩ := Option.map_eq_some_iff.mp hy
      have hd' : z.cps[i]? = some d := by simpa using hd
      refine ⟨(Array.getElem?_eq_some_iff.mp hd').1, fun u H2 y => ?_⟩
      obtain ⟨rfl, d', e', rfl⟩ := y
      rw [hd'] at e'
      cases e'
      exact ⟨Ext.refl, R', .str _ (strOk_sign s1 hd)⟩
    · show z.cps.size ≤ i
      simpa using hi
theorem ri_l {tg : Expr} (g : Good G X W) (ha : RL G W X a ml) : RI G W X tg a (fun x ς h q => ml x ς h fun xs h1 => q xs (fun _ => True) h1) := by
  refine PI.imp (pi_list ha) fun σ H T hw => ?_
  obtain ⟨ρ, h, ς, q, x, R, S, k, c, cx⟩ := hw
  refine ⟨ρ, h, ς, _, x, R, S, k, fun ρ1 h1 H1 xs u E1 R1 r1 k1 => ?_, cx⟩
  obtain ⟨p, us, rfl, _, h2, h3, h4⟩ := r1
  refine ⟨p, rfl, ⟨us, SqL.of h2⟩, c ρ1 h1 H1 _ xs _ E1 R1 (ItOk.any (ys := xs) (ItOk.list (X := X) g.eK fun ρ' h' H' E _ _ => temp_later (X := X) R1 h2 h3 h4 ρ' h' H' E)) k1⟩
theorem rangeL_get : ∀ {n : Nat} {lo : Int} {i : Nat} {y : PV}, (rangeL lo n)[i]? = some y → i < n ∧ y = .int (lo + (i : Nat))
  | 0, lo, i, y, e => by simp [rangeL] at e
  | n + 1, lo, 0, y, e => by
    simp [rangeL] at e
    exact ⟨by omega, by rw [← e]; simp⟩
  | n + 1, lo, i + 1, y, e => by
    simp only [rangeL, List.getElem?_cons_succ] at e
    obtain ⟨h1, h2⟩ := rangeL_get e
    refine ⟨by omega, ?_⟩
    rw [h2]
    have : lo + 1 + (i : Int) = lo + ((i + 1 : Nat) : Int) := by omega
    rw [this]
theorem rangeL_length : ∀ (n : Nat) (lo : Int), (rangeL lo n).length = n
  | 0, _ => rfl
  | n + 1, lo => by simp [rangeL, rangeL_length n]
theorem rangeC_get : ∀ {n : Nat} {lo k : Int} {i : Nat} {y : PV}, (rangeC lo k n)[i]? = some y → i < n ∧ y = .int (lo + (i : Nat) * k)
  | 0, lo, k, i, y, e => by simp [rangeC] at e
  | n + 1, lo, k, 0, y, e => by
    simp [rangeC] at e
    exact ⟨by omega, by rw [← e]; simp⟩
  | n + 1, lo, k, i + 1, y, e => by
    simp only [rangeC, List.getElem?_cons_succ] at e
    obtain ⟨h1, h2⟩ := rangeC_get e
    refine ⟨by omega, ?_⟩
    rw [h2]
    have : lo + k + (i : Int) * k = lo + ((i + 1 : Nat) : Int) * k := by
      rw [Int.natCast_add, Int.add_mul]
      simp
      omega
    rw [this]
theorem rangeC_length : ∀ (n : Nat) (lo k : Int), (rangeC lo k n).length = n
  | 0, _, _ => rfl
  | n + 1, lo, k => by simp [rangeC, rangeC_length n]
theorem ItOk.range {ρ : Nat → Addr} {n : Nat} {H : Hp} {lo : Int} {m : Nat} : ItOk G ρ n H (Itr lo m) (rangeL lo m) (fun _ => True) := fun ρ' h' H' i E R _ => by
  refine ⟨fun x hx => ?_, fun hi => by rw [rangeL_length] at hi; exact hi⟩
  obtain ⟨h1, rfl⟩ := rangeL_get hx
  refine ⟨h1, fun u H2 y => ?_⟩
  obtain ⟨rfl, rfl⟩ := y
  exact ⟨Ext.refl, R, .int _⟩
theorem ItOk.rangeC {ρ : Nat → Addr} {n : Nat} {H : Hp} {lo k : Int} {m : Nat} : ItOk G ρ n H (Itc lo k m) (WD.rangeC lo k m) (fun _ => True) := fun ρ' h' H' i E R _ => by
  refine ⟨fun x hx => ?_, fun hi => by rw [rangeC_length] at hi; exact hi⟩
  obtain ⟨h1, rfl⟩ := rangeC_get hx
  refine ⟨h1, fun u H2 y => ?_⟩
  obtain ⟨rfl, rfl⟩ := y
  exact ⟨Ext.refl, R, .int _⟩
theorem ri_range1 {tg : Expr} {x : Str} (hx : x = "range") (hg : Gl X x) (hm : X.mg x = none) (ha : RE G W X a ma) (hs : starEach [a] X.env = [(false, eval a X.env)]) :
    RI G W X tg (.Call (.Name x p) [a] [] pos) (fun y ς h q => ma y ς h fun v h1 => ∃ j : Int, v = .int j ∧ -(2 ^ 62) ≤ j ∧ j < 2 ^ 62 ∧ q (rangeL 0 j.toNat) (fun _ => True) h1) := by
  subst hx
  refine PI.imp (pi_range1 hg hm (pa_cons ha pa_nil (by rw [hs]; rfl)) hs) fun σ H T hw => ?_
  obtain ⟨ρ, h, ς, q, x, R, S, k, c, cx⟩ := hw
  refine ⟨ρ, h, ς, _, x, R, S, k, fun ρ1 h1 H1 v u E1 R1 r1 k1 => ?_, cx⟩
  obtain ⟨j, rfl, k1, k2, k3⟩ := k1
  exact ⟨j, by rw [r1.intInv], k1, k2, c ρ1 h1 H1 _ _ _ E1 R1 .range k3⟩
theorem ri_range2 {tg : Expr} {x : Str} (hx : x = "range") (hg : Gl X x) (hm : X.mg x = none) (ha : RE G W X a ma) (hb : RE G W X b mb) (hs : starEach [a, b] X.env = [(false, eval a X.env), (false, eval b X.env)]) (hs2 : starEach [b] X.env = [(false, eval b X.env)]) :
    RI G W X tg (.Call (.Name x p) [a, b] [] pos) (fun y ς h q => ma y ς h fun v h1 => mb y ς h1 fun w h2 => ∃ i j : Int, v = .int i ∧ w = .int j ∧ (-(2 ^ 62) ≤ i ∧ i < 2 ^ 62 ∧ -(2 ^ 62) ≤ j ∧ j < 2 ^ 62) ∧ q (rangeL i (j - i).toNat) (fun _ => True) h2) := by
  subst hx
  refine PI.imp (pi_range2 hg hm (pa_cons ha (pa_cons hb pa_nil (by rw [hs2]; rfl)) (by rw [hs, hs2])) hs hs2) fun σ H T hw => ?_
  obtain ⟨ρ, h, ς, q, x, R, S, k, c, cx⟩ := hw
  refine ⟨ρ, h, ς, _, x, R, S, k, fun ρ1 h1 H1 v u E1 R1 r1 k1 => ?_, cx⟩
  refine ⟨ρ1, h1, ς, _, x, R1, S.ext R E1, k1, fun ρ2 h2 H2 w u' E2 R2 r2 k2 => ?_, cx.at R1 E1⟩
  obtain ⟨i, j, rfl, rfl, k1, k3⟩ := k2
  exact ⟨i, j, by rw [r1.intInv, r2.intInv], k1, c ρ2 h2 H2 _ _ _ (E1.trans R1 E2) R2 .range k3⟩
theorem ri_range3 {tg : Expr} {x : Str} (hx : x = "range") (hg : Gl X x) (hm : X.mg x = none) (ha : RE G W X a ma) (hb : RE G W X b mb) (hc : RE G W X c mc) (hs : starEach [a, b, c] X.env = [(false, eval a X.env), (false, eval b X.env), (false, eval c X.env)]) (hs2 : starEach [b, c] X.env = [(false, eval b X.env), (false, eval c X.env)]) (hs3 : starEach [c] X.env = [(false, eval c X.env)]) :
    RI G W X tg (.Call (.Name x p) [a, b, c] [] pos) (fun y ς h q => ma y ς h fun v h1 => mb y ς h1 fun w h2 => mc y ς h2 fun u h3 => ∃ (i j k : Int) (n : Nat), v = .int i ∧ w = .int j ∧ u = .int k ∧ RgC i j k n ∧ q (rangeC i k n) (fun _ => True) h3) := by
  subst hx
  refine PI.imp (pi_range3 hg hm (pa_cons ha (pa_cons hb (pa_cons hc pa_nil (by rw [hs3]; rfl)) (by rw [hs2, hs3])) (by rw [hs, hs2])) (by rw [hs, hs2]) (by rw [hs2]; rfl)) fun σ H T hw => ?_
  obtain ⟨ρ, h, ς, q, x, R, S, k, cv, cx⟩ := hw
  refine ⟨ρ, h, ς, _, x, R, S, k, fun ρ1 h1 H1 v u E1 R1 r1 k1 => ?_, cx⟩
  refine ⟨ρ1, h1, ς, _, x, R1, S.ext R E1, k1, fun ρ2 h2 H2 w u' E2 R2 r2 k2 => ?_, cx.at R1 E1⟩
  refine ⟨ρ2, h2, ς, _, x, R2, (S.ext R E1).ext R1 E2, k2, fun ρ3 h3 H3 w3 u3 E3 R3 r3 k3 => ?_, (cx.at R1 E1).at R2 E2⟩
  obtain ⟨i, j, k, n, rfl, rfl, rfl, k1, k3⟩ := k3
  exact ⟨i, j, k, n, by rw [r1.intInv, r2.intInv, r3.intInv], k1, cv ρ3 h3 H3 _ _ _ ((E1.trans R1 E2).trans R2 E3) R3 .rangeC k3⟩
theorem ri_enum_e {x : Str} {elts : List Expr} {kk : Nat} {tpos : Pos} (g : Good G X W) (hx : x = "enumerate") (hg : Gl X x) (hm : X.mg x = none) (ha : RE G W X a ma) (hs : starEach [a] X.env = [(false, eval a X.env)]) :
    RI G W X (.Tuple elts kk tpos) (.Call (.Name x p) [a] [] pos) (fun y ς h q => ma y ς h fun v h1 => ∃ xs, items h1 v = some xs ∧ q (enumL 0 xs) (standsP v xs) h1) := by
  subst hx
  refine PI.imp (pi_enumA hg hm (pa_cons ha pa_nil (by rw [hs]; rfl)) hs) fun σ H T hw => ?_
  obtain ⟨ρ, h, ς, q, x, R, S, k, c, cx⟩ := hw
  refine ⟨ρ, h, ς, _, x, R, S, k, fun ρ1 h1 H1 v u E1 R1 r1 k1 => ?_, cx⟩
  obtain ⟨xs, k1, k2⟩ := k1
  obtain ⟨aa, rfl, hv⟩ := items_later g.eK R1 r1 k1
  rcases hv with ⟨⟨vs, h0⟩, hv⟩ | ⟨⟨vs, h0⟩, hv⟩
  · exact ⟨aa, vs, rfl, .inl ⟨h0, c ρ1 h1 H1 _ _ _ E1 R1 (ItOk.enumL g.eK hv) k2⟩⟩
  · exact ⟨aa, vs, rfl, .inr ⟨h0, c ρ1 h1 H1 _ _ _ E1 R1 (ItOk.enumT g.eK hv) k2⟩⟩
theorem ri_enum_l {x : Str} {elts : List Expr} {kk : Nat} {tpos : Pos} (g : Good G X W) (hx : x = "enumerate") (hg : Gl X x) (hm : X.mg x = none) (ha : RL G W X a ml) (hs : starEach [a] X.env = [(false, eval a X.env)]) :
    RI G W X (.Tuple elts kk tpos) (.Call (.Name x p) [a] [] pos) (fun y ς h q => ml y ς h fun xs h1 => q (enumL 0 xs) (fun _ => True) h1) := by
  subst hx
  refine PI.imp (pi_enumA hg hm (pa_cons ha pa_nil (by rw [hs]; rfl)) hs) fun σ H T hw => ?_
  obtain ⟨ρ, h, ς, q, x, R, S, k, c, cx⟩ := hw
  refine ⟨ρ, h, ς, _, x, R, S, k, fun ρ1 h1 H1 xs u E1 R1 r1 k1 => ?_, cx⟩
  obtain ⟨p, us, rfl, _, h2, h3, h4⟩ := r1
  exact ⟨p, us, rfl, .inl ⟨SqL.of h2, c ρ1 h1 H1 _ _ _ E1 R1 (ItOk.any (ys := xs) (ItOk.enumL (X := X) g.eK fun ρ' h' H' E _ _ => temp_later (X := X) R1 h2 h3 h4 ρ' h' H' E)) k1⟩⟩
end
end WD
end
section
set_option Elab.async false
set_option linter.all false
set_option maxRecDepth 100000
set_option autoImplicit false
set_option maxHeartbeats 4000000
/-! WJud4: targets, comprehensions, statements, loops. -/
namespace WD
open PySem PySem.Spec PyProof.Rows L2
/-! ### targets -/
theorem wipe_set {σ : L2.St} {i : Nat} {v : V} : ∀ {vs : List Nat}, i ∈ vs → wipe (σ.set i (some v)) vs = wipe σ vs := by
  intro vs
  have key : ∀ (j : Nat) (ws : List Nat), (wipe (σ.set i (some v)) ws)[j]? = if j = i ∧ i ∉ ws then (σ.set i (some v))[j]? else (wipe σ ws)[j]? := by
    intro j ws
    induction ws with
    | nil =>
      unfold wipe
      by_cases q : j = i
      · subst q; simp
      · rw [if_neg (fun z => q z.1), List.getElem?_set_ne (Ne.symm q)]
    | cons w ws ih =>
      unfold wipe
      by_cases q : w = j
      · subst q
        have l1 : (wipe (σ.set i (some v)) ws).length = (wipe σ ws).length := by rw [wipe_length, wipe_length, List.length_set]
        by_cases z : w = i
        · subst z
          rw [if_neg (by simp)]
          by_cases hl : w < (wipe σ ws).length
          · rw [List.getElem?_set_self (by rw [l1]; exact hl), List.getElem?_set_self hl]
          · rw [List.getElem?_eq_none (by rw [List.length_set, l1]; omega), List.getElem?_eq_none (by rw [List.length_set]; omega)]
        · rw [if_neg (fun y => z y.1)]
          by_cases hl : w < (wipe σ ws).length
          · rw [List.getElem?_set_self (by rw [l1]; exact hl), List.getElem?_set_self hl]
          · rw [List.getElem?_eq_none (by rw [List.length_set, l1]; omega), List.getElem?_eq_none (by rw [List.length_set]; omega)]
      · rw [List.getElem?_set_ne q, List.getElem?_set_ne q, ih]
        by_cases z : j = i
        · subst z
          by_cases y : j ∈ ws
          · rw [if_neg (by simp [y]), if_neg (by simp [y])]
          · rw [if_pos ⟨rfl, y⟩, if_pos ⟨rfl, by simp [y]; exact fun e => q e.symm⟩]
        · rw [if_neg (fun y => z y.1), if_neg (fun y => z y.1)]
  intro hi
  apply List.ext_getElem?
  intro j
  rw [key j vs, if_neg (fun z => z.2 hi)]
/-- a target of slots among ws -/
def upG (G : GE) (ws : List Nat) (m : PV → PSt → (PSt → Prop) → Prop) : TG := fun u σ H T => ∃ ρ h v ς, ∃ q : PSt → Prop, HR G.K ρ h H ∧ SR G.K ρ h.length H ς σ ∧ Rep G.K ρ h.length H v u ∧ m v ς q ∧ ∀ ς' σ', SR G.K ρ h.length H ς' σ' → wipe σ' ws = wipe σ ws → q ς' → T σ' H
def upGs (G : GE) (ws : List Nat) (m : List PV → PSt → (PSt → Prop) → Prop) : TGs := fun us σ H T => ∃ ρ h vs ς, ∃ q : PSt → Prop, HR G.K ρ h H ∧ SR G.K ρ h.length H ς σ ∧ Reps G.K ρ h.length H vs us ∧ m vs ς q ∧ ∀ ς' σ', SR G.K ρ h.length H ς' σ' → wipe σ' ws = wipe σ ws → q ς' → T σ' H
theorem PG.imp {X : Cx} {e : Expr} {t t' : TG} (h : PG X e t) (i : ∀ v σ H Q, t' v σ H Q → t v σ H Q) : PG X e t' := ⟨fun pins s σ H v u Q I r hw => h.run pins s σ H v u Q I r (i v σ H Q hw)⟩
theorem PGs.imp {X : Cx} {e : List Expr} {t t' : TGs} (h : PGs X e t) (i : ∀ v σ H Q, t' v σ H Q → t v σ H Q) : PGs X e t' := ⟨fun pins s σ H v u Q I r hw => h.run pins s σ H v u Q I r (i v σ H Q hw)⟩
section
variable {G : GE} {Φ : Phi} {W : WX} {X : Cx} {pos p : Pos} {e : Expr} {es : List Expr} {ws : List Nat}
theorem rg_name {i : Nat} {x : Str} (hN : X.N.Nodup) (hi : X.N[i]? = some x) (hx : Loc X.env.scope x) (hf : X.fn x = true ∨ X.env.scope.names.lookup x = some .local) (hw : i ∈ ws) : PG X (.Name x pos) (upG G ws fun v ς q => q (ς.set i (some v))) :=
  PG.imp (pg_name hN hi hx hf) fun u σ H T hw' => by
    obtain ⟨ρ, h, v, ς, q, R, S, r, k, c⟩ := hw'
    exact c _ _ (S.set i r) (wipe_set hw) k
theorem rgs_nil : PGs X [] (upGs G ws fun vs ς q => vs = [] ∧ q ς) :=
  PGs.imp pgs_nil fun us σ H T hw => by
    obtain ⟨ρ, h, v, ς, q, R, S, r, ⟨rfl, k⟩, c⟩ := hw
    cases r
    exact ⟨rfl, c _ _ S rfl k⟩
theorem rgs_cons {m : PV → PSt → (PSt → Prop) → Prop} {ms : List PV → PSt → (PSt → Prop) → Prop} (h1 : PG X e (upG G ws m)) (h2 : PGs X es (upGs G ws ms)) (hs : (assignEach (e :: es) X.env).map (·.2) = assign e X.env :: (assignEach es X.env).map (·.2)) :
    PGs X (e :: es) (upGs G ws fun vs ς q => ∃ v r, vs = v :: r ∧ m v ς fun ς' => ms r ς' q) :=
  PGs.imp (pgs_cons h1 h2 hs) fun us σ H T hw => by
    obtain ⟨ρ, h, vs, ς, q, R, S, r, ⟨v, vr, rfl, k⟩, c⟩ := hw
    cases r with
    | cons r1 r2 => exact ⟨_, _, rfl, ρ, h, v, ς, _, R, S, r1, k, fun ς' σ' S' e' k' => ⟨ρ, h, vr, ς', q, R, S', r2, k', fun ς2 σ2 S2 e2 k2 => c ς2 σ2 S2 (e2.trans e') k2⟩⟩
theorem rg_tup {k : Nat} {ms : List PV → PSt → (PSt → Prop) → Prop} (g : Good G X W) (h : PGs X es (upGs G ws ms)) (hn : (assignEach es X.env).length = es.length) (hst : (assignEach es X.env).findIdx? (·.1) = none) (hlen : ∀ vs ς q, ms vs ς q → vs.length = es.length) :
    PG X (.Tuple es k pos) (upG G ws fun v ς q => ∃ xs, v = .tup xs ∧ ms xs ς q) :=
  PG.imp (pg_tup g.calm h hn hst) fun u σ H T hw => by
    obtain ⟨ρ, h, v, ς, q, R, S, r, ⟨xs, rfl, k⟩, c⟩ := hw
    obtain ⟨a, vs, rfl, sq, rs⟩ := r.tupInv
    exact ⟨a, vs, rfl, g.eK ▸ sq, by rw [← rs.length]; exact hlen _ _ _ k, ρ, h, xs, ς, q, R, S, rs, k, c⟩
/-! ### comprehensions -/
/-- the block's judgements, whatever the block -/
structure BlkR (G : GE) (X : Cx) (scope : Scope) (ws : List Nat) (tg elt : Expr) (ifs : List Expr) (mt : PV → PSt → (PSt → Prop) → Prop) (mc : QX → PSt → PH → (Bool → PH → Prop) → Prop) (me : QX → PSt → PH → QV → Prop) : Prop where
  tg : ∀ (s : Shared) (H : Hp) (C : Addr) (cl : List (Str × Addr)) (fp : List Addr), PG (X.blk s H scope (compEnvC scope cl C X.env) fp) tg (upG G ws mt)
  ifs : ∀ (s : Shared) (H : Hp) (C : Addr) (cl : List (Str × Addr)) (fp : List Addr), PTs (X.blk s H scope (compEnvC scope cl C X.env) fp) ifs (up G (fun _ _ _ _ => False) (REq Bool) mc)
  elt : ∀ (s : Shared) (H : Hp) (C : Addr) (cl : List (Str × Addr)) (fp : List Addr), PE (X.blk s H scope (compEnvC scope cl C X.env) fp) elt (up G (fun _ _ _ _ => False) (RV G) me)
end
mutual
theorem Rep.poke {K : PySem.W.Frag} {ρ : Nat → Addr} {n : Nat} {H : Hp} {D : Addr} {us us' : List V} (hD : H D = some (.lst us)) : ∀ {v : PV} {u : V}, Rep K ρ n H v u → Rep K ρ n (upd H D (.lst us')) v u
  | _, _, .non => .non
  | _, _, .bl b => .bl b
  | _, _, .int i => .int i
  | _, _, .str x e => .str x e
  | _, _, .tup s r => .tup (by
      rcases s with (s | ⟨o, s⟩) | s
      · exact .inl (.inl (by rw [upd_ne (ne_of s hD (by intro z; cases z))]; exact s))
      · exact .inl (.inr ⟨o, by rw [upd_ne (ne_of s hD (by intro z; cases z))]; exact s⟩)
      · exact .inr s) (Reps.poke hD r)
  | _, _, .rol s r => .rol (by
      rcases s with ⟨o, s⟩ | s
      · exact .inl ⟨o, by rw [upd_ne (ne_of s hD (by intro z; cases z))]; exact s⟩
      · exact .inr s) (Reps.poke hD r)
  | _, _, .loc l hl => .loc l hl
theorem Reps.poke {K : PySem.W.Frag} {ρ : Nat → Addr} {n : Nat} {H : Hp} {D : Addr} {us us' : List V} (hD : H D = some (.lst us)) : ∀ {xs : List PV} {ws : List V}, Reps K ρ n H xs ws → Reps K ρ n (upd H D (.lst us')) xs ws
  | _, _, .nil => .nil
  | _, _, .cons r t => .cons (Rep.poke hD r) (Reps.poke hD t)
end
theorem HR.poke {K : PySem.W.Frag} {ρ : Nat → Addr} {h : PH} {H : Hp} {D : Addr} {us us' : List V} (R : HR K ρ h H) (hD : H D = some (.lst us)) (nl : ∀ l, l < h.length → ρ l ≠ D) : HR K ρ h (upd H D (.lst us')) := by
  refine ⟨fun l o e => ?_, R.inj⟩
  have hl : l < h.length := (List.getElem?_eq_some_iff.mp e).1
  have q := R.obj l o e
  obtain ⟨o2, e2⟩ := R.there hl
  rw [upd_ne (nl l hl)]
  rw [e2] at q ⊢
  cases q with
  | lst r => exact .lst (r.poke hD)
theorem SR.poke {K : PySem.W.Frag} {ρ : Nat → Addr} {n : Nat} {H : Hp} {D : Addr} {us us' : List V} {ς : PSt} {σ : L2.St} (S : SR K ρ n H ς σ) (hD : H D = some (.lst us)) : SR K ρ n (upd H D (.lst us')) ς σ :=
  ⟨S.len, fun i v e => let ⟨u, a, b⟩ := S.get i v e; ⟨u, a, b.poke hD⟩⟩
/-- from an earlier heap, in which D was not -/
theorem Ext.poke {ρ ρ' : Nat → Addr} {n n' : Nat} {H0 H : Hp} {D : Addr} {o' : HO} (hD : H0 D = none) (E0 : Ext ρ n H0 ρ' n' H) : Ext ρ n H0 ρ' n' (upd H D o') :=
  ⟨E0.le, E0.eq, fun a u e hn => by rw [upd_ne (ne_of_none e hD)]; exact E0.keep a u e hn, fun l h1 h2 => E0.new l h1 h2⟩
/-- what was not there stays untracked -/
theorem Ext.nl {ρ ρ' : Nat → Addr} {n n' : Nat} {H H' : Hp} {D : Addr} {o : HO} (hD : H D = some o) (nl : ∀ l, l < n → ρ l ≠ D) (E : Ext ρ n H ρ' n' H') : ∀ l, l < n' → ρ' l ≠ D := fun l hl z => by
  by_cases q : l < n
  · rw [E.eq l q] at z
    exact nl l q z
  · have := E.new l (Nat.le_of_not_lt q) hl
    rw [z, hD] at this
    cases this
theorem was_none {ρ0 ρ : Nat → Addr} {h0 h : PH} {H0 H : Hp} {p : Addr} {G : GE} (R0 : HR G.K ρ0 h0 H0) (E : Ext ρ0 h0.length H0 ρ h.length H) (R : HR G.K ρ h H) (hp : H p = none) : H0 p = none := by
  cases e : H0 p with
  | none => rfl
  | some o =>
    by_cases z : ∃ l, l < h0.length ∧ ρ0 l = p
    · obtain ⟨l, hl, z⟩ := z
      obtain ⟨o', e'⟩ := R.there (Nat.lt_of_lt_of_le hl E.le)
      rw [E.eq l hl, z, hp] at e'
      cases e'
    · have := E.keep p o e fun l hl z' => z ⟨l, hl, z'⟩
      rw [hp] at this
      cases this
section
variable {G : GE} {Φ : Phi} {W : WX} {X : Cx} {pos p : Pos} {e : Expr} {es : List Expr} {ws : List Nat}
/-- a comprehension's loop -/
theorem comp_core {own : List (Str × Nat)} {t : Tg} {mc : QX → PSt → PH → (Bool → PH → Prop) → Prop} {me : QX → PSt → PH → QV → Prop}
    {ρ0 : Nat → Addr} {h0 : PH} {H0 : Hp} {ς : PSt} {σ : L2.St} {J : It} {xs : List PV} {gd : PH → Prop} {q : List PV → PH → Prop} {Q : V → Hp → Prop} {D : Addr}
    (R0 : HR G.K ρ0 h0 H0) (S0 : SR G.K ρ0 h0.length H0 ς σ) (hJ : ItOk G ρ0 h0.length H0 J xs gd) (hD : H0 D = none)
    (k : compW gd t (wipeP ς (own.map (·.2))) (mc fun _ _ => False) (me fun _ _ => False) q xs [] h0)
    (fin : ∀ ρ h H vs us, Ext ρ0 h0.length H0 ρ h.length H → HR G.K ρ h H → H D = some (.lst us) → (∀ l, l < h.length → ρ l ≠ D) → Reps G.K ρ h.length H vs us → q vs h → Q (.ref D) H) :
    ∃ Wv : Nat → Nat → Hp → Prop, (∃ m, Wv 0 m (upd H0 D (.lst []))) ∧ ∀ i m H, Wv i m H →
      (J.stop i H ∧ Q (.ref D) H) ∨ (J.go i H ∧ ∃ Nx : Hp → Prop, (∀ H', Nx H' → ∃ m', m' < m ∧ Wv (i + 1) m' H') ∧ ∀ x H', J.yld i H x H' → upG G (own.map (·.2)) (setT t) x (wipe σ (own.map (·.2))) H' fun σ2 H2 => wipe σ2 (own.map (·.2)) = wipe σ (own.map (·.2)) ∧
        up G (fun _ _ _ _ => False) (REq Bool) mc σ2 H2 fun b H3 => if b = true then up G (fun _ _ _ _ => False) (RV G) me σ2 H3 fun y H4 => ∃ acc, H4 D = some (.lst acc) ∧ acc.length < sizeLine ∧ Nx (upd H4 D (.lst (acc ++ [y]))) else Nx H3) := by
  have nl0 : ∀ l, l < h0.length → ρ0 l ≠ D := fun l hl z => by
    obtain ⟨o, e⟩ := R0.there hl
    rw [z, hD] at e
    cases e
  have ww : ∀ (vs : List Nat), wipe (wipe σ vs) vs = wipe σ vs := by
    intro vs
    have key : ∀ (ws us : List Nat), (∀ w ∈ ws, w ∈ us) → ∀ τ : L2.St, wipe (wipe τ us) ws = wipe τ us := by
      intro ws
      induction ws with
      | nil => intro us _ τ; rfl
      | cons w ws ih =>
        intro us hs τ
        show (wipe (wipe τ us) ws).set w none = wipe τ us
        rw [ih us (fun x hx => hs x (List.mem_cons_of_mem _ hx)) τ]
        -- the slot is forgotten already
        have hw : ∀ (us : List Nat) (τ : L2.St), w ∈ us → (wipe τ us).set w none = wipe τ us := by
          intro us
          induction us with
          | nil => intro τ h; cases h
          | cons v us ih2 =>
            intro τ h
            unfold wipe
            by_cases q : v = w
            · subst q
              rw [List.set_set]
            · rw [List.set_comm _ _ q, ih2 τ (by
                rcases List.mem_cons.mp h with z | z
                · exact absurd z.symm q
                · exact z)]
        exact hw us τ (hs w List.mem_cons_self)
    exact key vs vs (fun _ h => h) σ
  -- what holds at turn i
  refine ⟨fun i m H => m = xs.length - i ∧ i ≤ xs.length ∧ ∃ ρ h vs us, Ext ρ0 h0.length H0 ρ h.length H ∧ HR G.K ρ h H ∧ H D = some (.lst us) ∧ (∀ l, l < h.length → ρ l ≠ D) ∧ Reps G.K ρ h.length H vs us ∧ SR G.K ρ h.length H (wipeP ς (own.map (·.2))) (wipe σ (own.map (·.2))) ∧
      compW gd t (wipeP ς (own.map (·.2))) (mc fun _ _ => False) (me fun _ _ => False) q (xs.drop i) vs h, ⟨xs.length, by simp, Nat.zero_le _, ρ0, h0, [], [], Ext.fresh hD, R0.fresh hD, upd_same, nl0, .nil, (S0.ext R0 (Ext.fresh hD)).wipe _, by simpa using k⟩, ?_⟩
  rintro i m H ⟨rfl, hi, ρ, h, vs, us, E, R, eD, nl, rs, S, k⟩
  by_cases hlt : i < xs.length
  · have hd : xs.drop i = xs[i] :: xs.drop (i + 1) := List.drop_eq_getElem_cons hlt
    rw [hd] at k
    obtain ⟨gh, k⟩ := k
    obtain ⟨hgo, hy⟩ := (hJ ρ h H i E R gh).1 xs[i] (List.getElem?_eq_getElem hlt)
    refine .inr ⟨hgo, fun H' => i + 1 ≤ xs.length ∧ ∃ ρ h vs us, Ext ρ0 h0.length H0 ρ h.length H' ∧ HR G.K ρ h H' ∧ H' D = some (.lst us) ∧ (∀ l, l < h.length → ρ l ≠ D) ∧ Reps G.K ρ h.length H' vs us ∧ SR G.K ρ h.length H' (wipeP ς (own.map (·.2))) (wipe σ (own.map (·.2))) ∧
      compW gd t (wipeP ς (own.map (·.2))) (mc fun _ _ => False) (me fun _ _ => False) q (xs.drop (i + 1)) vs h, fun H' ⟨z1, z2⟩ => ⟨xs.length - (i + 1), by omega, rfl, z1, z2⟩, fun u H' y => ?_⟩
    obtain ⟨E1, R1, r1⟩ := hy u H' y
    have S1 := S.ext R E1
    have rs1 := Reps.ext R E1 rs
    have eD1 : H' D = some (.lst us) := E1.keep D _ eD nl
    refine ⟨ρ, h, xs[i], wipeP ς (own.map (·.2)), _, R1, S1, r1, k, fun ς2 σ2 S2 e2 k2 => ⟨e2.trans (ww _), ?_⟩⟩
    refine ⟨ρ, h, ς2, _, fun _ _ => False, R1, S2, k2, fun ρ3 h3 H3 b b' E3 R3 eb k3 => ?_, CovX.none⟩
    have eb' : b = b' := eb
    subst eb'
    have nl3 := Ext.nl eD1 nl E3
    have eD3 : H3 D = some (.lst us) := E3.keep D _ eD1 nl
    cases b with
    | true =>
      simp only [if_true] at k3 ⊢
      refine ⟨ρ3, h3, ς2, _, fun _ _ => False, R3, S2.ext R1 E3, k3, fun ρ4 h4 H4 yv yu E4 R4 r4 k4 => ?_, CovX.none⟩
      have nl4 := Ext.nl eD3 nl3 E4
      have eD4 : H4 D = some (.lst us) := E4.keep D _ eD3 nl3
      have rs4 := Reps.ext R3 E4 (Reps.ext R1 E3 rs1)
      have S4 := (S1.ext R1 E3).ext R3 E4
      have E14 : Ext ρ0 h0.length H0 ρ4 h4.length H4 := ((E.trans R E1).trans R1 E3).trans R3 E4
      refine ⟨us, eD4, by rw [← rs4.length]; exact k4.1, hlt, ρ4, h4, vs ++ [yv], us ++ [yu], E14.poke hD, R4.poke eD4 nl4, upd_same, nl4, (rs4.poke eD4).append (.cons (r4.poke eD4) .nil), S4.poke eD4, k4.2⟩
    | false =>
      simp only [Bool.false_eq_true, if_false] at k3 ⊢
      exact ⟨hlt, ρ3, h3, vs, us, (E.trans R E1).trans R1 E3, R3, eD3, nl3, Reps.ext R1 E3 rs1, S1.ext R1 E3, k3⟩
  · have e : i = xs.length := by omega
    subst e
    rw [List.drop_length] at k
    obtain ⟨gh, k⟩ := k
    exact .inl ⟨(hJ ρ h H xs.length E R gh).2 (Nat.le_refl _), fin ρ h H vs us E R eD nl rs k⟩
theorem rl_comp {elt tg iter : Expr} {ifs : List Expr} {scope : Scope} {own : List (Str × Nat)} {t : Tg} {mi : MI} {mc : QX → PSt → PH → (Bool → PH → Prop) → Prop} {me : QX → PSt → PH → QV → Prop} (g : Good G X W) (hN : X.N.Nodup) (hi : RI G W X tg iter mi) (ok : BlkOk X.N X.env.scope scope own)
    (B : BlkR G X scope (own.map (·.2)) tg elt ifs (setT t) mc me) (hs : ∀ x, foldedSetIterable iter X.env x = pure x) :
    RL G W X (.ListComp elt [⟨tg, iter, ifs, 0⟩] scope pos) (fun x ς h q => mi x ς h fun xs gd h1 => compW gd t (wipeP ς (own.map (·.2))) (mc fun _ _ => False) (me fun _ _ => False) q xs [] h1) := by
  refine PE.imp (pe_lc (own := own) g.calm hN hi ok B.tg B.ifs B.elt hs) fun σ H Q hw => ?_
  obtain ⟨ρ, h, ς, q, x, R, S, k, c, cx⟩ := hw
  refine ⟨ρ, h, ς, _, x, R, S, k, fun ρ1 h1 H1 J xs gd E1 R1 hJ k1 D hD => ?_, cx⟩
  exact comp_core R1 (S.ext R E1) hJ hD k1 fun ρ2 h2 H2 vs us E2 R2 eD nl rs k2 => c ρ2 h2 H2 vs (.ref D) (E1.trans R1 E2) R2 ⟨D, us, rfl, was_none R (E1) R1 hD, eD, nl, rs⟩ k2
/-- x = [..], the list tracked -/
theorem rs_setLc_core {own : List (Str × Nat)} {t : Tg} {mi : MI} {mc : QX → PSt → PH → (Bool → PH → Prop) → Prop} {me : QX → PSt → PH → QV → Prop} {σ : L2.St} {H : Hp} {Q : VK}
    (hw : up G W (RV G) (fun x ς h q => mi x ς h fun xs gd h1 => compW gd t (wipeP ς (own.map (·.2))) (mc fun _ _ => False) (me fun _ _ => False) (fun vs h2 => q (.loc h2.length) (h2 ++ [.lst vs])) xs [] h1) σ H Q) :
    tLc (upI G W mi) (upG G (own.map (·.2)) (setT t)) (up G (fun _ _ _ _ => False) (REq Bool) mc) (up G (fun _ _ _ _ => False) (RV G) me) (own.map (·.2)) σ H Q := by
  obtain ⟨ρ, h, ς, q, x, R, S, k, c, cx⟩ := hw
  refine ⟨ρ, h, ς, _, x, R, S, k, fun ρ1 h1 H1 J xs gd E1 R1 hJ k1 D hD => ?_, cx⟩
  refine comp_core R1 (S.ext R E1) hJ hD k1 fun ρ2 h2 H2 vs us E2 R2 eD nl rs k2 => ?_
  have hE := E1.trans R1 E2
  refine c (ρadd ρ2 h2.length D) (h2 ++ [.lst vs]) H2 (.loc h2.length) (.ref D) ?_ (R2.track eD nl rs) ?_ k2
  · have := Ext.track hE (was_none R E1 R1 hD)
    rwa [show (h2 ++ [PO.lst vs]).length = h2.length + 1 by simp]
  · have e : V.ref D = V.ref (ρadd ρ2 h2.length D h2.length) := by rw [ρadd_self]
    rw [e]
    exact .loc h2.length (by simp)
end
end WD
end
section
set_option Elab.async false
set_option linter.all false
set_option maxRecDepth 100000
set_option autoImplicit false
set_option maxHeartbeats 4000000
/-! WJud5: statements, loops. -/
namespace WD
open PySem PySem.Spec PyProof.Rows L2
abbrev MS := KS → PSt → PH → Prop
/-- what follows a statement is answered -/
structure CovS (G : GE) (ρ : Nat → Addr) (h : PH) (H : Hp) (κ : KS) (D : Ends) (W : WX) : Prop where
  nx : ∀ ρ' h' H' ς' σ', Ext ρ h.length H ρ' h'.length H' → HR G.K ρ' h' H' → SR G.K ρ' h'.length H' ς' σ' → κ.nx ς' h' → D.nx σ' H'
  rt : Cov G (RV G) ρ h H κ.rt D.rt
  bk : ∀ ρ' h' H' ς' σ', Ext ρ h.length H ρ' h'.length H' → HR G.K ρ' h' H' → SR G.K ρ' h'.length H' ς' σ' → κ.bk ς' h' → D.bk σ' H'
  ct : ∀ ρ' h' H' ς' σ', Ext ρ h.length H ρ' h'.length H' → HR G.K ρ' h' H' → SR G.K ρ' h'.length H' ς' σ' → κ.ct ς' h' → D.ct σ' H'
  ex : ∀ ρ' h' H' ς' σ' e c d, Ext ρ h.length H ρ' h'.length H' → HR G.K ρ' h' H' → SR G.K ρ' h'.length H' ς' σ' → XR G ρ' h'.length H' e c d → κ.ex e ς' h' → W c d σ' H'
section
variable {G : GE} {ρ ρ1 : Nat → Addr} {h h1 : PH} {H H1 : Hp} {κ : KS} {D : Ends} {W : WX} {ς : PSt} {σ : L2.St}
theorem CovS.at (c : CovS G ρ h H κ D W) (R1 : HR G.K ρ1 h1 H1) (E : Ext ρ h.length H ρ1 h1.length H1) : CovS G ρ1 h1 H1 κ D W :=
  ⟨fun ρ' h' H' ς' σ' E' => c.nx ρ' h' H' ς' σ' (E.trans R1 E'), c.rt.at R1 E, fun ρ' h' H' ς' σ' E' => c.bk ρ' h' H' ς' σ' (E.trans R1 E'), fun ρ' h' H' ς' σ' E' => c.ct ρ' h' H' ς' σ' (E.trans R1 E'), fun ρ' h' H' ς' σ' e k d E' => c.ex ρ' h' H' ς' σ' e k d (E.trans R1 E')⟩
/-- an expression's exceptions are the statement's -/
theorem CovS.cx (c : CovS G ρ h H κ D W) (R : HR G.K ρ h H) (S : SR G.K ρ h.length H ς σ) : CovX G ρ h H (fun e h => κ.ex e ς h) σ W :=
  fun ρ' h' H' e k d E R' x z => c.ex ρ' h' H' ς σ e k d E R' (S.ext R E) x z
end
def upS (G : GE) (W : WX) (m : MS) : TS := fun D σ H => ∃ ρ h ς κ, HR G.K ρ h H ∧ SR G.K ρ h.length H ς σ ∧ m κ ς h ∧ CovS G ρ h H κ D W
abbrev RS (G : GE) (W : WX) (X : Cx) (s : Stmt) (m : MS) : Prop := PS X s (upS G W m)
abbrev RSs (G : GE) (W : WX) (X : Cx) (s : List Stmt) (m : MS) : Prop := PSs X s (upS G W m)
section
variable {G : GE} {Φ : Phi} {W : WX} {X : Cx} {a b c e : Expr} {es : List Expr} {pos p : Pos} {ma mb mc : QX → PSt → PH → QV → Prop} {tc : QX → PSt → PH → (Bool → PH → Prop) → Prop} {m m' : MS} {st : Stmt} {sts : List Stmt}
/-- from a statement to its expression -/
theorem upS_e {me : QX → PSt → PH → QV → Prop} {k : KS → PSt → PV → PH → Prop} {σ : L2.St} {H : Hp} {D : Ends} {T : VK}
    (hw : upS G W (fun κ ς h => me (fun e h => κ.ex e ς h) ς h fun v h1 => k κ ς v h1) D σ H)
    (step : ∀ (ρ : Nat → Addr) (h : PH) (H1 : Hp) (ς : PSt) (κ : KS) (v : PV) (u : V), HR G.K ρ h H1 → SR G.K ρ h.length H1 ς σ → Rep G.K ρ h.length H1 v u → k κ ς v h → CovS G ρ h H1 κ D W → T u H1) : up G W (RV G) me σ H T := by
  obtain ⟨ρ, h, ς, κ, R, S, z, c⟩ := hw
  exact ⟨ρ, h, ς, _, _, R, S, z, fun ρ' h' H' v u E R' r k => step ρ' h' H' ς κ v u R' (S.ext R E) r k (c.at R' E), c.cx R S⟩
theorem rss_nil : RSs G W X [] (fun κ ς h => κ.nx ς h) := PSs.imp pss_nil fun D σ H hw => by
  obtain ⟨ρ, h, ς, κ, R, S, z, c⟩ := hw
  exact c.nx ρ h H ς σ Ext.refl R S z
theorem rss_cons (h1 : RS G W X st m) (h2 : RSs G W X sts m') : RSs G W X (st :: sts) (fun κ ς h => m { κ with nx := m' κ } ς h) := PSs.imp (pss_cons h1 h2) fun D σ H hw => by
  obtain ⟨ρ, h, ς, κ, R, S, z, c⟩ := hw
  exact ⟨ρ, h, ς, _, R, S, z, ⟨fun ρ' h' H' ς' σ' E R' S' k => ⟨ρ', h', ς', κ, R', S', k, c.at R' E⟩, c.rt, c.bk, c.ct, c.ex⟩⟩
theorem rs_pass : RS G W X (.Pass pos) (fun κ ς h => κ.nx ς h) := PS.imp ps_pass fun D σ H hw => by
  obtain ⟨ρ, h, ς, κ, R, S, z, c⟩ := hw
  exact c.nx ρ h H ς σ Ext.refl R S z
theorem rs_doc {x : Str} {j : Nat} {p1 p2 : Pos} : RS G W X (.Expr (.Constant (.str x) j p1) p2) (fun κ ς h => κ.nx ς h) := PS.imp ps_doc fun D σ H hw => by
  obtain ⟨ρ, h, ς, κ, R, S, z, c⟩ := hw
  exact c.nx ρ h H ς σ Ext.refl R S z
theorem rs_break : RS G W X (.Break pos) (fun κ ς h => κ.bk ς h) := PS.imp ps_break fun D σ H hw => by
  obtain ⟨ρ, h, ς, κ, R, S, z, c⟩ := hw
  exact c.bk ρ h H ς σ Ext.refl R S z
theorem rs_cont : RS G W X (.Continue pos) (fun κ ς h => κ.ct ς h) := PS.imp ps_continue fun D σ H hw => by
  obtain ⟨ρ, h, ς, κ, R, S, z, c⟩ := hw
  exact c.ct ρ h H ς σ Ext.refl R S z
theorem rs_expr (ha : RE G W X a ma) (hs : swapsWith a none pos.line X.env = pure false) : RS G W X (.Expr a pos) (fun κ ς h => ma (fun e h => κ.ex e ς h) ς h fun _ h1 => κ.nx ς h1) := PS.imp (ps_expr ha hs) fun D σ H hw => by
  refine upS_e (k := fun κ ς _ h => κ.nx ς h) hw fun ρ h H1 ς κ v u R S r z c => ?_
  exact c.nx ρ h H1 ς σ Ext.refl R S z
theorem rs_ret (ha : RE G W X a ma) : RS G W X (.Return (some a) pos) (fun κ ς h => ma (fun e h => κ.ex e ς h) ς h κ.rt) := PS.imp (ps_ret ha) fun D σ H hw => by
  refine upS_e (k := fun κ ς v h => κ.rt v h) hw fun ρ h H1 ς κ v u R S r z c => ?_
  exact c.rt.here R r z
theorem rs_retN : RS G W X (.Return none pos) (fun κ _ h => κ.rt .non h) := PS.imp ps_retN fun D σ H hw => by
  obtain ⟨ρ, h, ς, κ, R, S, z, c⟩ := hw
  exact c.rt.here R .non z
theorem rs_if (hc : RT G W X c tc) (h1 : RSs G W X sts m) {sts' : List Stmt} (h2 : RSs G W X sts' m') : RS G W X (.If c sts sts' pos) (fun κ ς h => tc (fun e h => κ.ex e ς h) ς h fun r h1 => if r = true then m κ ς h1 else m' κ ς h1) := PS.imp (ps_if hc h1 h2) fun D σ H hw => by
  obtain ⟨ρ, h, ς, κ, R, S, z, cv⟩ := hw
  refine ⟨ρ, h, ς, _, _, R, S, z, fun ρ' h' H' r r' E R' er k => ?_, cv.cx R S⟩
  have er' : r = r' := er
  subst er'
  cases r with
  | true =>
    simp only [if_true] at k ⊢
    exact ⟨ρ', h', ς, κ, R', S.ext R E, k, cv.at R' E⟩
  | false =>
    simp only [Bool.false_eq_true, if_false] at k ⊢
    exact ⟨ρ', h', ς, κ, R', S.ext R E, k, cv.at R' E⟩
/-! ### assignments -/
theorem rs_asg {tg : Expr} {t : Tg} {ws : List Nat} (ha : RE G W X a ma) (hg : PG X tg (upG G ws (setT t))) (hs : swapsWithSole [tg] a pos.line X.env = pure false) (hw : swappedStores [tg] a X.env = pure none) (h1 : (assignEach [tg] X.env).map (·.2) = [assign tg X.env]) :
    RS G W X (.Assign [tg] a pos) (fun κ ς h => ma (fun e h => κ.ex e ς h) ς h fun v h1 => setT t v ς fun ς' => κ.nx ς' h1) := PS.imp (ps_asg ha hg hs hw h1) fun D σ H hw => by
  refine upS_e (k := fun κ ς v h => setT t v ς fun ς' => κ.nx ς' h) hw fun ρ h H1 ς κ v u R S r z c => ?_
  exact ⟨ρ, h, v, ς, _, R, S, r, z, fun ς' σ' S' _ k => c.nx ρ h H1 ς' σ' Ext.refl R S' k⟩
theorem rs_set {i : Nat} {x : Str} {p' : Pos} (ha : RE G W X a ma) (hN : X.N.Nodup) (hi : X.N[i]? = some x) (hx : Loc X.env.scope x) (hf : X.fn x = true ∨ X.env.scope.names.lookup x = some .local) (hs : swapsWith a (some (.Name x p')) pos.line X.env = pure false) :
    RS G W X (.Assign [.Name x p'] a pos) (fun κ ς h => ma (fun e h => κ.ex e ς h) ς h fun v h1 => κ.nx (ς.set i (some v)) h1) := PS.imp (ps_set hN hi hx ha hs hf) fun D σ H hw => by
  refine upS_e (k := fun κ ς v h => κ.nx (ς.set i (some v)) h) hw fun ρ h H1 ς κ v u R S r z c => ?_
  exact c.nx ρ h H1 _ _ Ext.refl R (S.set i r) z
theorem rs_setLc {i : Nat} {y : Str} {py : Pos} {elt tg iter : Expr} {ifs : List Expr} {scope : Scope} {own : List (Str × Nat)} {t : Tg} {spos : Pos} {mi : MI} {mcc : QX → PSt → PH → (Bool → PH → Prop) → Prop} {me : QX → PSt → PH → QV → Prop} (g : Good G X W) (hN : X.N.Nodup) (hy : X.N[i]? = some y) (hyl : X.env.scope.names.lookup y = some .local)
    (hsw : swapsWith (.ListComp elt [⟨tg, iter, ifs, 0⟩] scope pos) (some (.Name y py)) spos.line X.env = pure true) (hi : RI G W X tg iter mi) (ok : BlkOk X.N X.env.scope scope own) (B : BlkR G X scope (own.map (·.2)) tg elt ifs (setT t) mcc me) (hs : ∀ x, foldedSetIterable iter X.env x = pure x) :
    RS G W X (.Assign [.Name y py] (.ListComp elt [⟨tg, iter, ifs, 0⟩] scope pos) spos) (fun κ ς h => mi (fun e h => κ.ex e ς h) ς h fun xs gd h1 => compW gd t (wipeP ς (own.map (·.2))) (mcc fun _ _ => False) (me fun _ _ => False) (fun vs h2 => κ.nx (ς.set i (some (.loc h2.length))) (h2 ++ [.lst vs])) xs [] h1) :=
  PS.imp (ps_setLc (own := own) g.calm hN hy hyl hsw hi ok B.tg B.ifs B.elt hs) fun D σ H hw => by
    refine rs_setLc_core ?_
    refine upS_e (me := fun x ς h q => mi x ς h fun xs gd h1 => compW gd t (wipeP ς (own.map (·.2))) (mcc fun _ _ => False) (me fun _ _ => False) (fun vs h2 => q (.loc h2.length) (h2 ++ [.lst vs])) xs [] h1) (k := fun κ ς v h => κ.nx (ς.set i (some v)) h) hw fun ρ h H1 ς κ v u R S r z c => ?_
    exact c.nx ρ h H1 _ _ Ext.refl R (S.set i r) z
theorem rs_par {i j : Nat} {x y : Str} {px py pt : Pos} {kt k2 : Nat} {pt2 : Pos} (g : Good G X W) (ha : RE G W X a ma) (hb : RE G W X b mb) (hN : X.N.Nodup) (hi : X.N[i]? = some x) (hj : X.N[j]? = some y) (hij : i ≠ j)
    (hx : X.env.scope.names.lookup x = some .local) (hy : X.env.scope.names.lookup y = some .local) (he : starEach [a, b] X.env = (false, eval a X.env) :: starEach [b] X.env) (he2 : starEach [b] X.env = (false, eval b X.env) :: starEach [] X.env)
    (hw : swappedStores [.Tuple [.Name x px, .Name y py] kt pt] (.Tuple [a, b] k2 pt2) X.env = pure (some [x, y])) (hs : swapsWithSole [.Tuple [.Name x px, .Name y py] kt pt] (.Tuple [a, b] k2 pt2) pos.line X.env = pure false) :
    RS G W X (.Assign [.Tuple [.Name x px, .Name y py] kt pt] (.Tuple [a, b] k2 pt2) pos) (fun κ ς h => ma (fun e h => κ.ex e ς h) ς h fun v h1 => mb (fun e h => κ.ex e ς h) ς h1 fun w h2 => κ.nx ((ς.set i (some v)).set j (some w)) h2) :=
  PS.imp (ps_par g.calm hN hi hj hij hx hy (pa_cons ha (pa_cons hb pa_nil he2) he) hw hs) fun D σ H hw => by
    obtain ⟨ρ, h, ς, κ, R, S, z, cv⟩ := hw
    refine ⟨ρ, h, ς, _, _, R, S, z, fun ρ1 h1 H1 v u E1 R1 r1 k1 => ?_, cv.cx R S⟩
    refine ⟨ρ1, h1, ς, _, _, R1, S.ext R E1, k1, fun ρ2 h2 H2 w u2 E2 R2 r2 k2 => ?_, (cv.at R1 E1).cx R1 (S.ext R E1)⟩
    exact ⟨u, u2, rfl, cv.nx ρ2 h2 H2 _ _ (E1.trans R1 E2) R2 ((((S.ext R E1).ext R1 E2).set i (r1.ext R1 E2)).set j r2) k2⟩
theorem rs_sub {o i : Expr} {p' : Pos} {mo mi : QX → PSt → PH → QV → Prop} (g : Good G X W) (ha : RE G W X a ma) (ho : RE G W X o mo) (hi : RE G W X i mi) (hs : swapsWithSole [.Subscript o i p'] a pos.line X.env = pure false) (hw : swappedStores [.Subscript o i p'] a X.env = pure none) (h1 : (assignEach [.Subscript o i p'] X.env).map (·.2) = [assign (.Subscript o i p') X.env])
    (hax : ∀ v, assign (.Subscript o i p') X.env v = (do
      let ov ← holding [v] (eval o X.env)
      let iv ← holding [v, ov] (eval i X.env)
      standAt p'
      holding [v, ov, iv] (setItem ov iv v)
      release [v, ov, iv] [])) :
    RS G W X (.Assign [.Subscript o i p'] a pos) (fun κ ς h => ma (fun e h => κ.ex e ς h) ς h fun w h1 => mo (fun e h => κ.ex e ς h) ς h1 fun v h2 => mi (fun e h => κ.ex e ς h) ς h2 fun k h3 => setS v k w h3 fun h4 => κ.nx ς h4) :=
  PS.imp (ps_asg ha (pg_sub ho hi set_list hax) hs hw h1) fun D σ H hw => by
    obtain ⟨ρ, h, ς, κ, R, S, z, cv⟩ := hw
    refine ⟨ρ, h, ς, _, _, R, S, z, fun ρ1 h1 H1 w uw E1 R1 r1 k1 => ?_, cv.cx R S⟩
    have S1 := S.ext R E1
    refine ⟨ρ1, h1, ς, _, _, R1, S1, k1, fun ρ2 h2 H2 v u2 E2 R2 r2 k2 => ?_, (cv.at R1 E1).cx R1 S1⟩
    have S2 := S1.ext R1 E2
    refine ⟨ρ2, h2, ς, _, _, R2, S2, k2, fun ρ3 h3 H3 k u3 E3 R3 r3 k3 => ?_, ((cv.at R1 E1).at R2 E2).cx R2 S2⟩
    have E13 := (E1.trans R1 E2).trans R2 E3
    exact setS_ok R3 (r2.ext R2 E3) r3 ((r1.ext R1 E2).ext R2 E3) k3 fun h4 H4 E4 R4 k4 => cv.nx ρ3 h4 H4 ς σ (E13.trans R3 E4) R4 ((S2.ext R2 E3).ext R3 E4) k4
theorem rs_aug {i : Nat} {x : Str} {op : Operator} {p' : Pos} (g : Good G X W) (ha : RE G W X a ma) (hN : X.N.Nodup) (hi : X.N[i]? = some x) (hx : Loc X.env.scope x) (hf : X.fn x = true ∨ X.env.scope.names.lookup x = some .local) :
    RS G W X (.AugAssign (.Name x p') op a pos) (fun κ ς h => ∃ v, ς[i]? = some (some v) ∧ ma (fun e h => κ.ex e ς h) ς h fun w h1 => augB op v w h1 fun u h2 => κ.nx (ς.set i (some u)) h2) := by
  obtain ⟨r, hr, hok⟩ := aug_ok (X := X) op
  refine PS.imp (ps_aug hN hi hx ha hr hf) fun D σ H hw => ?_
  obtain ⟨ρ, h, ς, κ, R, S, ⟨v, e1, z⟩, cv⟩ := hw
  obtain ⟨u, e2, r0⟩ := S.get i v e1
  refine ⟨u, e2, ρ, h, ς, _, _, R, S, z, fun ρ1 h1 H1 w uw E1 R1 r1 k1 => ?_, cv.cx R S⟩
  refine hok G ρ1 h1 H1 v w u uw _ _ g.eK R1 (r0.ext R E1) r1 k1 fun ρ2 h2 H2 y uy E2 R2 r2 k2 => ?_
  exact cv.nx ρ2 h2 H2 _ _ (E1.trans R1 E2) R2 (((S.ext R E1).ext R1 E2).set i r2) k2
theorem rs_augS {o i : Expr} {op : Operator} {p' : Pos} {mo mi : QX → PSt → PH → QV → Prop} (g : Good G X W) (ha : RE G W X a ma) (ho : RE G W X o mo) (hi : RE G W X i mi)
    (hax : ∀ ov iv new, augStore i ov iv new = (do holding [new, ov, iv] (setItem ov iv new); release [new, ov, iv] []; pure .next)) :
    RS G W X (.AugAssign (.Subscript o i p') op a pos) (fun κ ς h => mo (fun e h => κ.ex e ς h) ς h fun v h1 => mi (fun e h => κ.ex e ς h) ς h1 fun k h2 => augG v k h2 fun u h3 => ma (fun e h => κ.ex e ς h) ς h3 fun w h4 => augB op u w h4 fun z h5 => setS v k z h5 fun h6 => κ.nx ς h6) := by
  obtain ⟨r, hr, hok⟩ := aug_ok (X := X) op
  refine PS.imp (ps_augS ho hi get_list ha hr set_list hax) fun D σ H hw => ?_
  obtain ⟨ρ, h, ς, κ, R, S, z, cv⟩ := hw
  refine ⟨ρ, h, ς, _, _, R, S, z, fun ρ1 h1 H1 v u1 E1 R1 r1 k1 => ?_, cv.cx R S⟩
  have S1 := S.ext R E1
  refine ⟨ρ1, h1, ς, _, _, R1, S1, k1, fun ρ2 h2 H2 k u2 E2 R2 r2 k2 => ?_, (cv.at R1 E1).cx R1 S1⟩
  have S2 := S1.ext R1 E2
  refine augG_ok g.eK R2 (r1.ext R1 E2) r2 k2 fun x z rx kx => ?_
  refine ⟨ρ2, h2, ς, _, _, R2, S2, kx, fun ρ4 h4 H4 w u4 E4 R4 r4 k4 => ?_, ((cv.at R1 E1).at R2 E2).cx R2 S2⟩
  refine hok G ρ4 h4 H4 x w z u4 _ _ g.eK R4 (rx.ext R2 E4) r4 k4 fun ρ5 h5 H5 y uy E5 R5 r5 k5 => ?_
  have E15 := ((E1.trans R1 E2).trans R2 E4).trans R4 E5
  exact setS_ok R5 (((r1.ext R1 E2).ext R2 E4).ext R4 E5) ((r2.ext R2 E4).ext R4 E5) r5 k5 fun h6 H6 E6 R6 k6 => cv.nx ρ5 h6 H6 ς σ (E15.trans R5 E6) R6 (((S2.ext R2 E4).ext R4 E5).ext R5 E6) k6
/-! ### loops -/
theorem rs_for {tg iter : Expr} {t : Tg} {ws : List Nat} {mi : MI} (g : Good G X W) (hp : PassesOwn (model X.prog X.w) X.A X.env X.xe) (hi : RI G W X tg iter mi) (hg : PG X tg (upG G ws (setT t))) (hb : RSs G W X sts m) (hs : ∀ x, foldedSetIterable iter X.env x = pure x) :
    RS G W X (.For tg iter sts [] pos) (fun κ ς h => mi (fun e h => κ.ex e ς h) ς h fun xs gd h1 => forW gd t m κ xs ς h1) := PS.imp (ps_for hp g.calm hi hg hb hs) fun D σ H hw => by
  obtain ⟨ρ, h, ς, κ, R, S, z, cv⟩ := hw
  refine ⟨ρ, h, ς, _, _, R, S, z, fun ρ1 h1 H1 J xs gd E1 R1 hJ k1 => ?_, cv.cx R S⟩
  have cv1 := cv.at R1 E1
  refine ⟨fun i n σ H => n = xs.length - i ∧ i ≤ xs.length ∧ ∃ ρ h ς, Ext ρ1 h1.length H1 ρ h.length H ∧ HR G.K ρ h H ∧ SR G.K ρ h.length H ς σ ∧ forW gd t m κ (xs.drop i) ς h, ⟨xs.length, by simp, Nat.zero_le _, ρ1, h1, ς, Ext.refl, R1, S.ext R E1, by simpa using k1⟩, ?_⟩
  rintro i n σ2 H2 ⟨rfl, hi, ρ2, h2, ς2, E2, R2, S2, k2⟩
  by_cases hlt : i < xs.length
  · have hd : xs.drop i = xs[i] :: xs.drop (i + 1) := List.drop_eq_getElem_cons hlt
    rw [hd] at k2
    obtain ⟨gh, k2⟩ := k2
    obtain ⟨hgo, hy⟩ := (hJ ρ2 h2 H2 i E2 R2 gh).1 xs[i] (List.getElem?_eq_getElem hlt)
    refine .inr ⟨hgo, fun σ' H' => i + 1 ≤ xs.length ∧ ∃ ρ h ς, Ext ρ1 h1.length H1 ρ h.length H' ∧ HR G.K ρ h H' ∧ SR G.K ρ h.length H' ς σ' ∧ forW gd t m κ (xs.drop (i + 1)) ς h, fun σ' H' ⟨z1, z2⟩ => ⟨xs.length - (i + 1), by omega, rfl, z1, z2⟩, fun u H' y => ?_⟩
    obtain ⟨E3, R3, r3⟩ := hy u H' y
    have E13 := E2.trans R2 E3
    refine ⟨ρ2, h2, xs[i], ς2, _, R3, S2.ext R2 E3, r3, k2, fun ς4 σ4 S4 _ k4 => ?_⟩
    refine ⟨ρ2, h2, ς4, _, R3, S4, k4, ?_⟩
    have cv3 := cv1.at R3 E13
    exact ⟨fun ρ' h' H' ς' σ' E' R' S' k => ⟨hlt, ρ', h', ς', E13.trans R3 E', R', S', k⟩, cv3.rt, fun ρ' h' H' ς' σ' E' R' S' k => cv3.nx ρ' h' H' ς' σ' E' R' S' k, fun ρ' h' H' ς' σ' E' R' S' k => ⟨hlt, ρ', h', ς', E13.trans R3 E', R', S', k⟩, cv3.ex⟩
  · have e : i = xs.length := by omega
    subst e
    rw [List.drop_length] at k2
    obtain ⟨gh, k2⟩ := k2
    exact .inl ⟨(hJ ρ2 h2 H2 xs.length E2 R2 gh).2 (Nat.le_refl _), cv1.nx ρ2 h2 H2 ς2 σ2 E2 R2 S2 k2⟩
theorem rs_while (g : Good G X W) (hp : PassesOwn (model X.prog X.w) X.A X.env X.xe) (hc : RT G W X c tc) (hb : RSs G W X sts m) :
    RS G W X (.While c sts [] pos) (fun κ ς h => ∃ n, whileW (fun ς h => tc (fun e h => κ.ex e ς h) ς h) m κ n ς h) := PS.imp (ps_while hp hc hb) fun D σ H hw => by
  obtain ⟨ρ, h, ς, κ, R, S, ⟨n0, z⟩, cv⟩ := hw
  refine ⟨fun n σ H2 => ∃ ρ2 h2 ς, Ext ρ h.length H ρ2 h2.length H2 ∧ HR G.K ρ2 h2 H2 ∧ SR G.K ρ2 h2.length H2 ς σ ∧ whileW (fun ς h => tc (fun e h => κ.ex e ς h) ς h) m κ n ς h2, ⟨n0, ρ, h, ς, Ext.refl, R, S, z⟩, ?_⟩
  rintro n σ2 H2 ⟨ρ2, h2, ς2, E2, R2, S2, k2⟩
  cases n with
  | zero => exact k2.elim
  | succ n =>
    have cv2 := cv.at R2 E2
    refine ⟨ρ2, h2, ς2, _, _, R2, S2, k2, fun ρ3 h3 H3 b b' E3 R3 eb k3 => ?_, cv2.cx R2 S2⟩
    have eb' : b = b' := eb
    subst eb'
    have S3 := S2.ext R2 E3
    have cv3 := cv2.at R3 E3
    have E13 := E2.trans R2 E3
    cases b with
    | true =>
      simp only [if_true] at k3 ⊢
      refine ⟨fun σ' H' => ∃ ρ2 h2 ς, Ext ρ h.length H ρ2 h2.length H' ∧ HR G.K ρ2 h2 H' ∧ SR G.K ρ2 h2.length H' ς σ' ∧ whileW (fun ς h => tc (fun e h => κ.ex e ς h) ς h) m κ n ς h2, fun σ' H' z => ⟨n, Nat.lt_succ_self _, z⟩, ?_⟩
      exact ⟨ρ3, h3, ς2, _, R3, S3, k3, ⟨fun ρ' h' H' ς' σ' E' R' S' k => ⟨ρ', h', ς', E13.trans R3 E', R', S', k⟩, cv3.rt, fun ρ' h' H' ς' σ' E' R' S' k => cv3.nx ρ' h' H' ς' σ' E' R' S' k, fun ρ' h' H' ς' σ' E' R' S' k => ⟨ρ', h', ς', E13.trans R3 E', R', S', k⟩, cv3.ex⟩⟩
    | false =>
      simp only [Bool.false_eq_true, if_false] at k3 ⊢
      exact cv3.nx ρ3 h3 H3 ς2 σ2 Ext.refl R3 S3 k3
end
end WD
end
section
set_option Elab.async false
set_option linter.all false
set_option maxRecDepth 100000
set_option autoImplicit false
set_option maxHeartbeats 4000000
/-! WTr: from the syntax to the small language. -/
namespace WD
open PySem PySem.Spec PyProof.Rows L2
structure TEnv where
  N : List Str
  sc : Scope
  /-- the names of the block, if it is a comprehension's -/
  blk : Option (List (Str × NameKind))
  /-- the defs of the module -/
  gl : List (Str × Nat)
  /-- names that the module does not bind -/
  fr : List Str
def TEnv.vis (T : TEnv) (x : Str) : Bool := match T.sc.names.lookup x with
  | some .local => true
  | some .cell => true
  | some .free => true
  | _ => false
def TEnv.loc (T : TEnv) (x : Str) : Bool := match T.sc.names.lookup x with
  | some .local => true
  | some .cell => true
  | _ => false
def TEnv.stor (T : TEnv) (x : Str) : Bool := match T.blk with
  | none => true
  | some ns => match ns.lookup x with
    | some .local => true
    | some .cell => true
    | _ => false
def TEnv.glob (T : TEnv) (x : Str) : Bool := match T.sc.names.lookup x with
  | some .globalImplicit => !(x == ("__debug__" : Str))
  | _ => false
/-- a name that means the built-in -/
def TEnv.blt (T : TEnv) (x : Str) : Bool := T.glob x && T.fr.contains x
def ixName : List Str → Str → Option Nat
  | [], _ => none
  | y :: r, x => if y = x then some 0 else (ixName r x).map (· + 1)
theorem ixName_get : ∀ {N : List Str} {x : Str} {i : Nat}, ixName N x = some i → N[i]? = some x
  | [], _, _, e => by cases e
  | y :: r, x, i, e => by
    unfold ixName at e
    split at e
    · rename_i h
      cases e
      simp [h]
    · obtain ⟨j, h1, h2⟩ := Option.map_eq_some_iff.mp e
      have h2' : j + 1 = i := h2
      subst h2'
      simpa using ixName_get h1
def badName (x : Str) : Bool := (x == ("__debug__" : Str)) || (x == ("__classdict__" : Str))
def strOkL (x : Str) : Bool := x.cps.toList.all fun c => decide (c < 0x110000)
theorem strOk_ofL {x : Str} (h : strOkL x = true) : PyData.strOk x = true := by
  rw [strOk_iff]
  intro c hc
  have := List.all_eq_true.mp h c hc
  exact of_decide_eq_true this
abbrev Tr := Ex ⊕ Lx
def asE : Tr → Ex
  | .inl e => e
  | .inr l => .new l
def asLa : Tr → La
  | .inl e => .e e
  | .inr l => .l l
def isSl : Expr → Bool
  | .Slice .. => true
  | _ => false
def isStar : Expr → Bool
  | .Starred .. => true
  | _ => false
def trEs (f : Expr → Option Tr) : List Expr → Option Exs
  | [] => some .nil
  | e :: r => if isStar e then none else do
    let a ← f e
    let b ← trEs f r
    some (.cons (asE a) b)
def trAnd (f : Expr → Option Tr) : List Expr → Option Ex
  | [] => none
  | [a] => (f a).map asE
  | a :: r => do
    let x ← f a
    let y ← trAnd f r
    some (.and (asE x) y)
def trOr (f : Expr → Option Tr) : List Expr → Option Ex
  | [] => none
  | [a] => (f a).map asE
  | a :: r => do
    let x ← f a
    let y ← trOr f r
    some (.or (asE x) y)
def trO (f : Expr → Option Tr) : Option Expr → Option OEx
  | none => some .no
  | some e => (f e).map fun r => .some (asE r)
/-- a target of slots -/
def trTs (f : Expr → Option Tg) : List Expr → Option (List Tg)
  | [] => some []
  | e :: r => if isStar e then none else do
    let a ← f e
    let b ← trTs f r
    some (a :: b)
def trTg (T : TEnv) : Nat → Expr → Option Tg
  | 0, _ => none
  | n + 1, e => match e with
    | .Name x _ => if T.loc x && T.stor x then (ixName T.N x).map .slot else none
    | .Tuple es _ _ => (trTs (trTg T n) es).map .tup
    | _ => none
mutual
def slotsT : Tg → List Nat
  | .slot i => [i]
  | .tup ts => slotsTs ts
def slotsTs : List Tg → List Nat
  | [] => []
  | t :: ts => slotsT t ++ slotsTs ts
end
/-- built-in functions by name and number of arguments -/
def bifTab : List (Str × Nat × Bif) := [("len", 1, .len), ("int", 1, .int), ("str", 1, .str), ("abs", 1, .abs), ("bool", 1, .bool), ("min", 2, .min2), ("max", 2, .max2)]
def lifTab : List (Str × Lif) := [("tuple", .tuple), ("len", .len), ("sum", .sum), ("max", .max), ("min", .min), ("all", .all), ("any", .any)]
def tyTab : List (Str × String) := [("int", "int"), ("bool", "bool"), ("str", "str"), ("tuple", "tuple"), ("list", "list"), ("dict", "dict")]
def bifAt (x : Str) (k : Nat) : Option Bif := (bifTab.find? fun p => decide (p.1 = x) && decide (p.2.1 = k)).map (·.2.2)
def lifAt (x : Str) : Option Lif := (lifTab.find? fun p => decide (p.1 = x)).map (·.2)
def tyAt (x : Str) : Option String := (tyTab.find? fun p => decide (p.1 = x)).map (·.2)
/-- what a loop walks -/
def trI (T : TEnv) (f : Expr → Option Tr) (tg : Expr) (e : Expr) : Option Wk := match e with
  | .Call (.Name x _) [a] [] _ =>
    if T.blt x && decide (x = "range") then if isStar a then none else (f a).map fun r => .range1 (asE r)
    else if T.blt x && decide (x = "enumerate") then (match tg with
      | .Tuple _ _ _ => if isStar a then none else (f a).map fun r => .enum (asLa r)
      | _ => none)
    else (f e).map fun r => .la (asLa r)
  | .Call (.Name x _) [a, b] [] _ =>
    if T.blt x && decide (x = "range") then if isStar a || isStar b then none else do
      let r ← f a
      let s ← f b
      some (.range2 (asE r) (asE s))
    else (f e).map fun r => .la (asLa r)
  | .Call (.Name x _) [a, b, c] [] _ =>
    if T.blt x && decide (x = "range") then if isStar a || isStar b || isStar c then none else do
      let r ← f a
      let s ← f b
      let t ← f c
      some (.range3 (asE r) (asE s) (asE t))
    else (f e).map fun r => .la (asLa r)
  | .Set .. => none
  | _ => (f e).map fun r => .la (asLa r)
/-- the block of a comprehension -/
def TEnv.block (T : TEnv) (scope : Scope) : TEnv := { T with sc := relS scope T.sc, blk := some scope.names }
def ownOf (T : TEnv) (scope : Scope) : List (Str × Nat) := scope.names.filterMap fun y => match y.2 with
  | .local => (ixName T.N y.1).map fun i => (y.1, i)
  | .cell => (ixName T.N y.1).map fun i => (y.1, i)
  | _ => none
def mthAt (m : Str) (k : Nat) : Option Mth :=
  if m = "append" then (if k = 1 then some .append else none)
  else if m = "pop" then (if k = 0 then some .pop else if k = 1 then some .popAt else none)
  else if m = "insert" then (if k = 2 then some .insert else none)
  else if m = "reverse" then (if k = 0 then some .reverse else none)
  else none
/-- what is no call of super() -/
def noSuper : Expr → Bool
  | .Call (.Name _ _) [] [] _ => false
  | _ => true
/-- what is neither a test nor a compare -/
def plainX : Expr → Bool
  | .BoolOp .. => false
  | .UnaryOp .Not _ _ => false
  | .Compare .. => false
  | _ => true
def isTest : Ex → Bool
  | .and _ _ => true
  | .or _ _ => true
  | .not _ => true
  | .cmp _ _ _ => true
  | .chn _ _ _ _ _ => true
  | _ => false
def trB (f : TEnv → Expr → Option Tr) (T : TEnv) (e : Expr) : Option Tr := match e with
    | .Name x _ => if T.vis x && !badName x then (ixName T.N x).map fun i => .inl (.var i) else none
    | .Constant (.int i) _ _ => some (.inl (.int i))
    | .Constant (.bool b) _ _ => some (.inl (.bl b))
    | .Constant .none _ _ => some (.inl .non)
    | .Constant (.str x) _ _ => if strOkL x then some (.inl (.str x)) else none
    | .Tuple es _ _ => (trEs (f T) es).map fun r => .inl (.tup r)
    | .List es _ => (trEs (f T) es).map fun r => .inr (.disp r)
    | .BinOp a o b _ => do
      let x ← f T a
      let y ← f T b
      match o, x, y with
      | .Add, .inr _, _ => some (.inr (.cat (asLa x) (asLa y)))
      | .Add, _, .inr _ => some (.inr (.cat (asLa x) (asLa y)))
      | .Mult, .inr _, _ => some (.inr (.rep (asLa x) (asE y)))
      | _, _, _ => some (.inl (.bin o (asE x) (asE y)))
    | .UnaryOp .USub a _ => (f T a).map fun r => .inl (.neg (asE r))
    | .UnaryOp .Not a _ => (f T a).map fun r => .inl (.not (asE r))
    | .Compare a [o] [b] _ => if behindInMarks o b then none else do
      let x ← f T a
      let y ← f T b
      some (.inl (.cmp o (asE x) (asE y)))
    | .Compare a [o, o'] [b, c] _ => if behindInMarks o' c then none else do
      let x ← f T a
      let y ← f T b
      let z ← f T c
      some (.inl (.chn o o' (asE x) (asE y) (asE z)))
    | .BoolOp .And es _ => (trAnd (f T) es).map .inl
    | .BoolOp .Or es _ => (trOr (f T) es).map .inl
    | .IfExp c a b _ => do
      let z ← f T c
      let x ← f T a
      let y ← f T b
      some (.inl (.ifx (asE z) (asE x) (asE y)))
    | .Subscript a i _ => (match i with
      | .Slice lo hi none _ => do
        let x ← f T a
        let l ← trO (f T) lo
        let u ← trO (f T) hi
        match x with
        | .inl x => some (.inl (.sl x l u))
        | .inr x => some (.inr (.cut (.l x) l u))
      | .Slice _ _ (some _) _ => none
      | _ => do
        let x ← f T a
        let y ← f T i
        some (.inl (.ix (asE x) (asE y))))
    | .Call (.Name x _) args [] _ => (match (if T.glob x then T.gl.lookup x else none) with
      | some id => (trEs (f T) args).map fun r => .inl (.call id r)
      | none => if T.blt x then (match args with
        | [a] => if isStar a then none else do
          let r ← f T a
          if decide (x = "list") then some (.inr (.list (asLa r)))
          else match r, bifAt x 1, lifAt x with
            | .inl e, some b, _ => some (.inl (.bif b (.cons e .nil)))
            | _, _, some b => some (.inl (.lif b (asLa r)))
            | _, _, _ => none
        | [a, b] => if isStar a || isStar b then none else
          (match decide (x = "isinstance"), b with
          | true, .Name t _ => if T.blt t then do
              let r ← f T a
              let ty ← tyAt t
              some (.inl (.bif (.isT ty) (.cons (asE r) .nil)))
            else none
          | _, _ => do
            let g ← bifAt x 2
            let r ← f T a
            let s ← f T b
            some (.inl (.bif g (.cons (asE r) (.cons (asE s) .nil)))))
        | _ => none) else none)
    | .Call (.Attribute o m apos) args [] cpos => if !noSuper o || !(apos.endLine == cpos.line) then none else do
      let r ← f T o
      match args with
      | [] => do
        let g ← mthAt m 0
        some (.inl (.mth g (asE r) .nil))
      | [a] => if isStar a then none else
        if decide (m = "extend") then do
          let s ← f T a
          some (.inl (.ext (asE r) (asLa s)))
        else do
          let g ← mthAt m 1
          let s ← f T a
          some (.inl (.mth g (asE r) (.cons (asE s) .nil)))
      | [a, b] => if isStar a || isStar b then none else do
        let g ← mthAt m 2
        let s ← f T a
        let t ← f T b
        some (.inl (.mth g (asE r) (.cons (asE s) (.cons (asE t) .nil))))
      | _ => none
    | .ListComp elt [⟨tg, iter, ifs, 0⟩] scope _ =>
      if blkC T.N T.sc scope (ownOf T scope) then do
        let it ← trI T (f T) tg iter
        let t ← trTg (T.block scope) 4 tg
        if (slotsT t).all fun i => (ownOf T scope).any fun p => p.2 == i then do
          let x ← f (T.block scope) elt
          match ifs with
          | [] => some (.inr (.comp ((ownOf T scope).map (·.2)) (asE x) t it .no))
          | [c] => do
            let y ← f (T.block scope) c
            some (.inr (.comp ((ownOf T scope).map (·.2)) (asE x) t it (.some (asE y))))
          | _ => none
        else none
      else none
    | _ => none
def trX : Nat → TEnv → Expr → Option Tr
  | 0, _, _ => none
  | n + 1, T, e => match trB (trX n) T e with
    | some r => if plainX e && isTest (asE r) then none else some r
    | none => none
/-! ### statements -/
/-- the stores of a written pair, as the machine decides them -/
def swP (look : Str → Option NameKind) (targets : List Expr) (value : Expr) : Option (Option (List Str)) :=
  match targets, value with
  | [.Tuple ts _ _], .Tuple vs _ _ =>
    if !(ts.length == 2 || ts.length == 3) || vs.length != ts.length then some none
    else if vs.any fun | .Starred .. => true | _ => false then some none
    else
      let line := (ts.head?.map (·.pos.line)).getD 0
      let names := ts.filterMap fun
        | .Name id pos => if look id == some .local && pos.line == line then some id else none
        | _ => none
      if names.length != ts.length || names.eraseDups.length != names.length then some none
      else if vs.all (foldedForSure 8) then some none
      else if vs.all (constantsAlone 8) then none
      else some (some names)
  | [.List _ _], .Tuple _ _ _ => none
  | _, _ => some none
def isComp : Expr → Bool
  | .ListComp .. => true
  | .SetComp .. => true
  | .DictComp .. => true
  | _ => false
def trSs (f : Stmt → Option Sm) : List Stmt → Option Sms
  | [] => some .nil
  | s :: r => do
    let a ← f s
    let b ← trSs f r
    some (.cons a b)
/-- a comprehension's own names hold this one -/
def compOwn (t : Str) : Expr → Bool
  | .ListComp _ _ s _ => s.names.any fun (n, k) => n == t && (k == .local || k == .cell)
  | _ => true
def trS : Nat → TEnv → Stmt → Option Sm
  | 0, _, _ => none
  | n + 1, T, s => match s with
    | .Expr e _ => (match e with
      | .Constant (.str _) _ _ => some (.ct .pass)
      | _ => if isComp e then none else (trX 60 T e).map fun r => .expr (asE r))
    | .Assign [t] e _ => (match t with
      | .Name x _ => if T.loc x && T.stor x then do
          let i ← ixName T.N x
          let r ← trX 60 T e
          if isComp e && compOwn x e then none else some (.set (.slot i) (asE r))
        else none
      | .Tuple ts _ _ => (match swP (fun x => T.sc.names.lookup x) [t] e with
        | some none => if isComp e then none else do
          let tg ← trTg T 4 t
          let r ← trX 60 T e
          some (.set tg (asE r))
        | some (some names) => (match ts, e with
          | [.Name x _, .Name y _], .Tuple [a, b] _ _ => if isStar a || isStar b then none else do
            let i ← ixName T.N x
            let j ← ixName T.N y
            let r ← trX 60 T a
            let s ← trX 60 T b
            if decide (i = j) || !(decide (names = [x, y]) && decide (T.sc.names.lookup x = some .local) && decide (T.sc.names.lookup y = some .local)) then none else some (.par i j (asE r) (asE s))
          | _, _ => none)
        | none => none)
      | .Subscript o i _ => if isSl i || isComp e then none else do
        let x ← trX 60 T o
        let y ← trX 60 T i
        let r ← trX 60 T e
        some (.sub (asE x) (asE y) (asE r))
      | _ => none)
    | .AugAssign t op e _ => (match t with
      | .Name x _ => if T.loc x && T.stor x then do
          let i ← ixName T.N x
          let r ← trX 60 T e
          some (.aug i op (asE r))
        else none
      | .Subscript o i _ => if isSl i then none else do
        let x ← trX 60 T o
        let y ← trX 60 T i
        let r ← trX 60 T e
        some (.augS (asE x) (asE y) op (asE r))
      | _ => none)
    | .Return (some e) _ => (trX 60 T e).map fun r => .ret (asE r)
    | .Return none _ => some .retN
    | .If c a b _ => do
      let x ← trX 60 T c
      let y ← trSs (trS n T) a
      let z ← trSs (trS n T) b
      some (.ifs (asE x) y z)
    | .For t it b [] _ => do
      let w ← trI T (trX 60 T) t it
      let tg ← trTg T 4 t
      let y ← trSs (trS n T) b
      some (.fors tg w y)
    | .While c b [] _ => do
      let x ← trX 60 T c
      let y ← trSs (trS n T) b
      some (.whil (asE x) y)
    | .Pass _ => some (.ct .pass)
    | .Break _ => some (.ct .brk)
    | .Continue _ => some (.ct .cnt)
    | _ => none
end WD
end
section
set_option Elab.async false
set_option linter.all false
set_option maxRecDepth 100000
set_option autoImplicit false
set_option maxHeartbeats 4000000
/-! WSound: the translation means what the layer says: expressions. -/
namespace WD
open PySem PySem.Spec PyProof.Rows L2
structure Ctx (G : GE) (Φ : Phi) (T : TEnv) (X : Cx) (W : WX) : Prop where
  good : Good G X W
  hN : X.N = T.N
  nd : X.N.Nodup
  sc : X.env.scope = T.sc
  st : ∀ x, T.stor x = true → T.loc x = true → X.fn x = true ∨ X.env.scope.names.lookup x = some .local
  fns : ∀ x id, T.gl.lookup x = some id → FnAt G Φ X x id
  free : ∀ x, x ∈ T.fr → X.mg x = none
section
variable {G : GE} {Φ : Phi} {T : TEnv} {X : Cx} {W : WX}
theorem Ctx.vis (c : Ctx G Φ T X W) {x : Str} (h : T.vis x = true) : Vis X.env.scope x := by
  unfold TEnv.vis at h
  unfold Vis
  rw [c.sc]
  split at h
  · exact .inl (by assumption)
  · exact .inr (.inl (by assumption))
  · exact .inr (.inr (by assumption))
  · cases h
theorem Ctx.loc (c : Ctx G Φ T X W) {x : Str} (h : T.loc x = true) : L2.Loc X.env.scope x := by
  unfold TEnv.loc at h
  unfold L2.Loc
  rw [c.sc]
  split at h
  · exact .inl (by assumption)
  · exact .inr (by assumption)
  · cases h
theorem Ctx.glob (c : Ctx G Φ T X W) {x : Str} (h : T.glob x = true) : Gl X x ∧ (x == ("__debug__" : Str)) = false := by
  unfold TEnv.glob at h
  unfold Gl
  show X.env.scope.names.lookup x = _ ∧ _
  rw [c.sc]
  split at h
  · exact ⟨by assumption, by simpa using h⟩
  · cases h
theorem Ctx.blt (c : Ctx G Φ T X W) {x : Str} (h : T.blt x = true) : Gl X x ∧ X.mg x = none ∧ (x == ("__debug__" : Str)) = false := by
  unfold TEnv.blt at h
  rw [Bool.and_eq_true] at h
  obtain ⟨h1, h2⟩ := h
  exact ⟨(c.glob h1).1, c.free x (by simpa using h2), (c.glob h1).2⟩
theorem Ctx.ix (c : Ctx G Φ T X W) {x : Str} {i : Nat} (h : ixName T.N x = some i) : X.N[i]? = some x := by
  rw [c.hN]; exact ixName_get h
/-- the block of a comprehension -/
theorem Ctx.block (c : Ctx G Φ T X W) (scope : Scope) (s : Shared) (H : Hp) (C : Addr) (cl : List (Str × Addr)) (fp : List Addr) : Ctx G Φ (T.block scope) (X.blk s H scope (compEnvC scope cl C X.env) fp) (fun _ _ _ _ => False) where
  good := ⟨c.good.eK, c.good.calm, c.good.hu, takes0⟩
  hN := c.hN
  nd := c.nd
  sc := by
    show relS scope X.env.scope = relS scope T.sc
    rw [c.sc]
  st := fun x h1 h2 => by
    have h1' : (match scope.names.lookup x with | some NameKind.local => true | some NameKind.cell => true | _ => false) = true := h1
    split at h1'
    · rename_i e
      refine .inr ?_
      show (relS scope X.env.scope).names.lookup x = some .local
      exact lookup_relS_keep (by decide) e
    · rename_i e
      refine .inl ?_
      show (scope.names.lookup x == some .cell) = true
      rw [e]
      rfl
    · cases h1'
  fns := fun x id e => ⟨(c.fns x id e).ex⟩
  free := fun x hx => c.free x hx
/-! ### the syntax' own conditions -/
theorem star_cons {e : Expr} {es : List Expr} {env : Env} (h : isStar e = false) : starEach (e :: es) env = (false, eval e env) :: starEach es env := by
  cases e <;> first | rfl | (cases h)
def noStars : List Expr → Bool
  | [] => true
  | e :: r => !isStar e && noStars r
theorem plain_args {env : Env} {pos : Pos} : ∀ {es : List Expr}, noStars es = true → (backTo pos (starEach es env)).any (·.1) = false
  | [], _ => rfl
  | e :: r, h => by
    simp only [noStars, Bool.and_eq_true, Bool.not_eq_true'] at h
    rw [star_cons h.1]
    show (false || (backTo pos (starEach r env)).any (·.1)) = false
    rw [plain_args h.2]
    rfl
theorem plain_all {env : Env} {pos : Pos} : ∀ {es : List Expr}, noStars es = true → (backTo pos (starEach es env)).all (fun x => !x.1) = true
  | [], _ => rfl
  | e :: r, h => by
    simp only [noStars, Bool.and_eq_true, Bool.not_eq_true'] at h
    rw [star_cons h.1]
    show (!false && (backTo pos (starEach r env)).all (fun x => !x.1)) = true
    rw [plain_all h.2]
    rfl
theorem trEs_stars {f : Expr → Option Tr} : ∀ {es : List Expr} {r : Exs}, trEs f es = some r → noStars es = true
  | [], _, _ => rfl
  | e :: es, r, h => by
    unfold trEs at h
    split at h
    · cases h
    · rename_i hs
      simp only [Option.bind_eq_bind, Option.bind_eq_some_iff] at h
      obtain ⟨a, h1, b, h2, h3⟩ := h
      simp only [noStars, Bool.and_eq_true, Bool.not_eq_true']
      exact ⟨by simpa using hs, trEs_stars h2⟩
theorem plainIx {i : Expr} (h : ∀ lo hi st p, i ≠ .Slice lo hi st p) : PlainIx i := by
  intro o v
  cases i <;> first | rfl | exact absurd rfl (h _ _ _ _)
theorem super_no {o : Expr} {m : Str} {env : Env} (h : noSuper o = true) : attributeBase o m env (eval o env) = eval o env := by
  unfold attributeBase
  split
  · cases h
  · rfl
theorem fold_no {e : Expr} {env : Env} (h : ∀ a b c, e ≠ .Set a b c) : ∀ x, foldedSetIterable e env x = pure x := by
  intro x
  unfold foldedSetIterable
  split
  · exact absurd rfl (h _ _ _)
  · rfl
theorem swap_no {e : Expr} {t : Option Expr} {l : Nat} {env : Env} (h : isComp e = false) : swapsWith e t l env = pure false := by
  unfold swapsWith
  cases e <;> first | rfl | cases h
/-! ### what a translation means -/
def Judg (G : GE) (Φ : Phi) (W : WX) (X : Cx) (e : Expr) : Tr → Prop
  | .inl m => RE G W X e (wE Φ m)
  | .inr l => RL G W X e (wL Φ l)
theorem Judg.e {e : Expr} {r : Tr} (h : Judg G Φ W X e r) : RE G W X e (wE Φ (asE r)) := by
  cases r with
  | inl m => exact h
  | inr l => exact re_new h
theorem Judg.la {e : Expr} {r : Tr} (h : Judg G Φ W X e r) : RLa G W X e (wLa Φ (asLa r)) := by
  cases r with
  | inl m => exact rla_e h
  | inr l => exact rla_l h
/-- what the induction gives -/
def IH (n : Nat) : Prop := ∀ (T : TEnv) (e : Expr) (r : Tr), trX n T e = some r → ∀ (G : GE) (Φ : Phi) (X : Cx) (W : WX), Ctx G Φ T X W → Judg G Φ W X e r
def IHT (n : Nat) : Prop := ∀ (T : TEnv) (e : Expr) (r : Tr), trX n T e = some r → ∀ (G : GE) (Φ : Phi) (X : Cx) (W : WX), Ctx G Φ T X W → RT G W X e (wT Φ (asE r))
theorem es_ok {n : Nat} (ih : IH n) (c : Ctx G Φ T X W) : ∀ {es : List Expr} {r : Exs}, trEs (trX n T) es = some r → RA G W X es (wEs Φ r)
  | [], r, h => by
    cases h
    exact ra_nil
  | e :: es, r, h => by
    unfold trEs at h
    split at h
    · cases h
    · rename_i hs
      simp only [Option.bind_eq_bind, Option.bind_eq_some_iff] at h
      obtain ⟨a, h1, b, h2, h3⟩ := h
      cases h3
      exact ra_cons (ih T e a h1 G Φ X W c).e (es_ok ih c h2) (star_cons (by simpa using hs))
theorem o_ok {n : Nat} (ih : IH n) (c : Ctx G Φ T X W) {e : Option Expr} {r : OEx} (h : trO (trX n T) e = some r) : RO G W X e (wO Φ r) := by
  cases e with
  | none =>
    cases h
    exact ro_none
  | some e =>
    obtain ⟨a, h1, h2⟩ := Option.map_eq_some_iff.mp h
    cases h2
    exact ro_some (ih T e a h1 G Φ X W c).e
theorem and_ok {n : Nat} (ih : IH n) (c : Ctx G Φ T X W) {pos : Pos} : ∀ {es : List Expr} {m : Ex}, trAnd (trX n T) es = some m → RE G W X (.BoolOp .And es pos) (wE Φ m)
  | [], _, h => by cases h
  | [a], m, h => by
    obtain ⟨r, h1, h2⟩ := Option.map_eq_some_iff.mp (show (trX n T a).map asE = some m from h)
    cases h2
    exact pe_one (ih T a r h1 G Φ X W c).e
  | a :: b :: es, m, h => by
    simp only [trAnd, Option.bind_eq_bind, Option.bind_eq_some_iff] at h
    obtain ⟨x, h1, y, h2, h3⟩ := h
    cases h3
    exact re_and (ih T a x h1 G Φ X W c).e (and_ok ih c h2)
theorem or_ok {n : Nat} (ih : IH n) (c : Ctx G Φ T X W) {pos : Pos} : ∀ {es : List Expr} {m : Ex}, trOr (trX n T) es = some m → RE G W X (.BoolOp .Or es pos) (wE Φ m)
  | [], _, h => by cases h
  | [a], m, h => by
    obtain ⟨r, h1, h2⟩ := Option.map_eq_some_iff.mp (show (trX n T a).map asE = some m from h)
    cases h2
    exact pe_one (ih T a r h1 G Φ X W c).e
  | a :: b :: es, m, h => by
    simp only [trOr, Option.bind_eq_bind, Option.bind_eq_some_iff] at h
    obtain ⟨x, h1, y, h2, h3⟩ := h
    cases h3
    exact re_or (ih T a x h1 G Φ X W c).e (or_ok ih c h2)
theorem andT_ok {n : Nat} (ih : IHT n) (c : Ctx G Φ T X W) {pos : Pos} : ∀ {es : List Expr} {m : Ex}, trAnd (trX n T) es = some m → RW G W X (.BoolOp .And es pos) (wT Φ m)
  | [], _, h => by cases h
  | [a], m, h => by
    obtain ⟨r, h1, h2⟩ := Option.map_eq_some_iff.mp (show (trX n T a).map asE = some m from h)
    cases h2
    exact pw_and1 (ih T a r h1 G Φ X W c)
  | a :: b :: es, m, h => by
    simp only [trAnd, Option.bind_eq_bind, Option.bind_eq_some_iff] at h
    obtain ⟨x, h1, y, h2, h3⟩ := h
    cases h3
    exact rw_and (ih T a x h1 G Φ X W c) (andT_ok ih c h2)
theorem orT_ok {n : Nat} (ih : IHT n) (c : Ctx G Φ T X W) {pos : Pos} : ∀ {es : List Expr} {m : Ex}, trOr (trX n T) es = some m → RW G W X (.BoolOp .Or es pos) (wT Φ m)
  | [], _, h => by cases h
  | [a], m, h => by
    obtain ⟨r, h1, h2⟩ := Option.map_eq_some_iff.mp (show (trX n T a).map asE = some m from h)
    cases h2
    exact pw_or1 (ih T a r h1 G Φ X W c)
  | a :: b :: es, m, h => by
    simp only [trOr, Option.bind_eq_bind, Option.bind_eq_some_iff] at h
    obtain ⟨x, h1, y, h2, h3⟩ := h
    cases h3
    exact rw_or (ih T a x h1 G Φ X W c) (orT_ok ih c h2)
/-! ### targets -/
mutual
theorem setT_some : ∀ {t : Tg} {v : PV} {ς : PSt} {q : PSt → Prop}, setT t v ς q → ∃ ς', q ς'
  | .slot i, v, ς, q, h => ⟨_, h⟩
  | .tup ts, v, ς, q, h => by
    obtain ⟨xs, rfl, z⟩ := (show ∃ xs, v = .tup xs ∧ setTs ts xs ς q from h)
    exact (setTs_some z).2
theorem setTs_some : ∀ {ts : List Tg} {vs : List PV} {ς : PSt} {q : PSt → Prop}, setTs ts vs ς q → vs.length = ts.length ∧ ∃ ς', q ς'
  | [], vs, ς, q, h => by
    have h' : vs = [] ∧ q ς := h
    rw [h'.1]
    exact ⟨rfl, ς, h'.2⟩
  | t :: ts, vs, ς, q, h => by
    obtain ⟨v, r, rfl, z⟩ := (show ∃ v r, vs = v :: r ∧ setT t v ς fun ς' => setTs ts r ς' q from h)
    obtain ⟨ς', z⟩ := setT_some z
    obtain ⟨h1, h2⟩ := setTs_some z
    exact ⟨by simp [h1], h2⟩
end
theorem star_asg {e : Expr} {es : List Expr} {env : Env} (h : isStar e = false) : assignEach (e :: es) env = (false, assign e env) :: assignEach es env := by
  cases e <;> first | rfl | (cases h)
theorem asg_len {env : Env} : ∀ {es : List Expr}, noStars es = true → (assignEach es env).length = es.length
  | [], _ => rfl
  | e :: r, h => by
    simp only [noStars, Bool.and_eq_true, Bool.not_eq_true'] at h
    rw [star_asg h.1, List.length_cons, asg_len h.2, List.length_cons]
theorem asg_idx {env : Env} : ∀ {es : List Expr}, noStars es = true → (assignEach es env).findIdx? (·.1) = none
  | [], _ => rfl
  | e :: r, h => by
    simp only [noStars, Bool.and_eq_true, Bool.not_eq_true'] at h
    rw [star_asg h.1, List.findIdx?_cons]
    simp [asg_idx h.2]
theorem trTs_stars {f : Expr → Option Tg} : ∀ {es : List Expr} {r : List Tg}, trTs f es = some r → noStars es = true ∧ r.length = es.length
  | [], _, h => by cases h; exact ⟨rfl, rfl⟩
  | e :: es, r, h => by
    unfold trTs at h
    split at h
    · cases h
    · rename_i hs
      simp only [Option.bind_eq_bind, Option.bind_eq_some_iff] at h
      obtain ⟨a, h1, b, h2, h3⟩ := h
      cases h3
      obtain ⟨z1, z2⟩ := trTs_stars h2
      simp only [noStars, Bool.and_eq_true, Bool.not_eq_true', List.length_cons]
      exact ⟨⟨by simpa using hs, z1⟩, by rw [z2]⟩
theorem tgs_ok {n : Nat} {ws : List Nat} (ih : ∀ {e : Expr} {t : Tg}, trTg T n e = some t → (∀ i, i ∈ slotsT t → i ∈ ws) → PG X e (upG G ws (setT t))) : ∀ {es : List Expr} {ts : List Tg}, trTs (trTg T n) es = some ts → (∀ i, i ∈ slotsTs ts → i ∈ ws) → PGs X es (upGs G ws (setTs ts))
  | [], ts, h, hw => by
    cases h
    exact rgs_nil
  | e :: es, ts, h, hw => by
    unfold trTs at h
    split at h
    · cases h
    · rename_i hs
      simp only [Option.bind_eq_bind, Option.bind_eq_some_iff] at h
      obtain ⟨a, h1, b, h2, h3⟩ := h
      cases h3
      have w1 : ∀ i, i ∈ slotsT a → i ∈ ws := fun i hi => hw i (by simp [slotsTs, hi])
      have w2 : ∀ i, i ∈ slotsTs b → i ∈ ws := fun i hi => hw i (by simp [slotsTs, hi])
      exact rgs_cons (ih h1 w1) (tgs_ok ih h2 w2) (by rw [star_asg (by simpa using hs)]; rfl)
theorem tg_ok (c : Ctx G Φ T X W) {ws : List Nat} : ∀ {n : Nat} {e : Expr} {t : Tg}, trTg T n e = some t → (∀ i, i ∈ slotsT t → i ∈ ws) → PG X e (upG G ws (setT t))
  | 0, _, _, h, _ => by cases h
  | n + 1, e, t, h, hw => by
    unfold trTg at h
    split at h
    · split at h
      · rename_i x p hx
        obtain ⟨i, h1, h2⟩ := Option.map_eq_some_iff.mp h
        subst h2
        rw [Bool.and_eq_true] at hx
        exact rg_name c.nd (c.ix h1) (c.loc hx.1) (c.st _ hx.2 hx.1) (hw i (by simp [slotsT]))
      · cases h
    · obtain ⟨ts, h1, h2⟩ := Option.map_eq_some_iff.mp h
      subst h2
      obtain ⟨z1, z2⟩ := trTs_stars h1
      refine rg_tup c.good (tgs_ok (fun h hw => tg_ok c h hw) h1 fun i hi => hw i (by simpa [slotsT] using hi)) (asg_len z1) (asg_idx z1) fun vs ς q z => ?_
      rw [(setTs_some z).1, z2]
    · cases h
/-! ### what a loop walks -/
theorem i_ok {n : Nat} (ih : IH n) (c : Ctx G Φ T X W) {tg e : Expr} {w : Wk} (h : trI T (trX n T) tg e = some w) : RI G W X tg e (wI Φ w) := by
  have gen : ∀ {w}, ((trX n T e).map fun r => Wk.la (asLa r)) = some w → RI G W X tg e (wI Φ w) := by
    intro w h
    obtain ⟨r, h1, h2⟩ := Option.map_eq_some_iff.mp h
    subst h2
    have j := ih T e r h1 G Φ X W c
    cases r with
    | inl m => exact ri_e c.good j
    | inr l => exact ri_l c.good j
  unfold trI at h
  split at h
  · split at h
    · rename_i hx
      rw [Bool.and_eq_true] at hx
      obtain ⟨g1, g2, _⟩ := c.blt hx.1
      split at h
      · cases h
      · rename_i hs
        obtain ⟨r, h1, h2⟩ := Option.map_eq_some_iff.mp h
        subst h2
        exact ri_range1 (of_decide_eq_true hx.2) g1 g2 (ih T _ r h1 G Φ X W c).e (star_cons (by simpa using hs))
    · split at h
      · rename_i hx
        rw [Bool.and_eq_true] at hx
        obtain ⟨g1, g2, _⟩ := c.blt hx.1
        split at h
        · split at h
          · cases h
          · rename_i hs
            obtain ⟨r, h1, h2⟩ := Option.map_eq_some_iff.mp h
            subst h2
            have j := ih T _ r h1 G Φ X W c
            cases r with
            | inl m => exact ri_enum_e c.good (of_decide_eq_true hx.2) g1 g2 j (star_cons (by simpa using hs))
            | inr l => exact ri_enum_l c.good (of_decide_eq_true hx.2) g1 g2 j (star_cons (by simpa using hs))
        · cases h
      · exact gen h
  · split at h
    · rename_i hx
      rw [Bool.and_eq_true] at hx
      obtain ⟨g1, g2, _⟩ := c.blt hx.1
      split at h
      · cases h
      · rename_i hs
        simp only [Option.bind_eq_bind, Option.bind_eq_some_iff] at h
        obtain ⟨a, h1, b, h2, h3⟩ := h
        cases h3
        simp only [Bool.or_eq_true, not_or, Bool.not_eq_true] at hs
        exact ri_range2 (of_decide_eq_true hx.2) g1 g2 (ih T _ a h1 G Φ X W c).e (ih T _ b h2 G Φ X W c).e (by rw [star_cons hs.1, star_cons hs.2]; rfl) (star_cons hs.2)
    · exact gen h
  · split at h
    · rename_i hx
      rw [Bool.and_eq_true] at hx
      obtain ⟨g1, g2, _⟩ := c.blt hx.1
      split at h
      · cases h
      · rename_i hs
        simp only [Option.bind_eq_bind, Option.bind_eq_some_iff] at h
        obtain ⟨a, h1, b, h2, d, h3, h4⟩ := h
        cases h4
        simp only [Bool.or_eq_true, not_or, Bool.not_eq_true] at hs
        exact ri_range3 (of_decide_eq_true hx.2) g1 g2 (ih T _ a h1 G Φ X W c).e (ih T _ b h2 G Φ X W c).e (ih T _ d h3 G Φ X W c).e (by rw [star_cons hs.1.1, star_cons hs.1.2, star_cons hs.2]; rfl) (by rw [star_cons hs.1.2, star_cons hs.2]; rfl) (star_cons hs.2)
    · exact gen h
  · cases h
  · exact gen h
theorem fold_trI {n : Nat} {tg e : Expr} {w : Wk} (h : trI T (trX n T) tg e = some w) : ∀ x, foldedSetIterable e X.env x = pure x := by
  apply fold_no
  intro a b d hh
  subst hh
  cases h
end
end WD
end
section
set_option Elab.async false
set_option linter.all false
set_option maxRecDepth 100000
set_option autoImplicit false
set_option maxHeartbeats 8000000
/-! WSound2: the translation means what the layer says: all expressions. -/
namespace WD
open PySem PySem.Spec PyProof.Rows L2
section
variable {G : GE} {Φ : Phi} {T : TEnv} {X : Cx} {W : WX}
theorem bifAt_ok {x : Str} {k : Nat} {b : Bif} (h : bifAt x k = some b) : b.more = [] ∧ bootBuiltins x = some b.fn ∧ x ≠ "__name__" ∧ (x == ("__debug__" : Str)) = false := by
  unfold bifAt at h
  obtain ⟨p, h1, h2⟩ := Option.map_eq_some_iff.mp h
  subst h2
  have m := List.mem_of_find?_eq_some h1
  have e := List.find?_some h1
  simp only [Bool.and_eq_true, decide_eq_true_eq] at e
  rw [← e.1]
  unfold bifTab at m
  simp only [List.mem_cons, List.not_mem_nil, or_false] at m
  rcases m with rfl | rfl | rfl | rfl | rfl | rfl | rfl <;> exact ⟨rfl, by decide +kernel, by decide +kernel, by decide +kernel⟩
theorem lifAt_ok {x : Str} {b : Lif} (h : lifAt x = some b) : bootBuiltins x = some b.fn ∧ x ≠ "__name__" ∧ (x == ("__debug__" : Str)) = false := by
  unfold lifAt at h
  obtain ⟨p, h1, h2⟩ := Option.map_eq_some_iff.mp h
  subst h2
  have m := List.mem_of_find?_eq_some h1
  have e := List.find?_some h1
  simp only [decide_eq_true_eq] at e
  rw [← e]
  unfold lifTab at m
  simp only [List.mem_cons, List.not_mem_nil, or_false] at m
  rcases m with rfl | rfl | rfl | rfl | rfl | rfl | rfl <;> exact ⟨by decide +kernel, by decide +kernel, by decide +kernel⟩
theorem tyAt_ok {x : Str} {t : String} (h : tyAt x = some t) : bootBuiltins x = some (.type t) ∧ x ≠ "__name__" ∧ (x == ("__debug__" : Str)) = false := by
  unfold tyAt at h
  obtain ⟨p, h1, h2⟩ := Option.map_eq_some_iff.mp h
  subst h2
  have m := List.mem_of_find?_eq_some h1
  have e := List.find?_some h1
  simp only [decide_eq_true_eq] at e
  rw [← e]
  unfold tyTab at m
  simp only [List.mem_cons, List.not_mem_nil, or_false] at m
  rcases m with rfl | rfl | rfl | rfl | rfl | rfl <;> exact ⟨by decide +kernel, by decide +kernel, by decide +kernel⟩
theorem mthAt_ok {m : Str} {k : Nat} {f : Mth} (h : mthAt m k = some f) : m = f.name := by
  unfold mthAt at h
  repeat' split at h
  all_goals first | (cases h; assumption) | cases h
theorem own_mem {N : List Str} {scope : Scope} : True := trivial
theorem call_ok {n : Nat} (ih : IH n) (c : Ctx G Φ T X W) {x : Str} {id : Nat} {args : List Expr} {r : Exs} {p pos : Pos} (hg : T.glob x = true) (hl : T.gl.lookup x = some id) (h : trEs (trX n T) args = some r) :
    RE G W X (.Call (.Name x p) args [] pos) (wE Φ (.call id r)) := by
  obtain ⟨g1, g2⟩ := c.glob hg
  have F := c.fns x id hl
  have ns := trEs_stars h
  have hs := es_ok ih c h
  cases args with
  | nil =>
    cases h
    exact re_call0 c.good F g1 g2
  | cons a as =>
    simp only [noStars, Bool.and_eq_true, Bool.not_eq_true'] at ns
    exact re_call c.good F g1 hs g2 (star_cons ns.1) (fun _ => plain_args ns.2)
theorem bi1_ok {n : Nat} (ih : IH n) (c : Ctx G Φ T X W) {x : Str} {a : Expr} {r : Tr} {p pos : Pos} (hg : T.blt x = true)
    (h : (if isStar a then none else do
          let r ← trX n T a
          if decide (x = "list") then some (Sum.inr (.list (asLa r)))
          else match r, bifAt x 1, lifAt x with
            | .inl e, some b, _ => some (.inl (.bif b (.cons e .nil)))
            | _, _, some b => some (.inl (.lif b (asLa r)))
            | _, _, _ => none) = some r) : Judg G Φ W X (.Call (.Name x p) [a] [] pos) r := by
  obtain ⟨g1, g2, g3⟩ := c.blt hg
  split at h
  · cases h
  · rename_i hs
    have hs' : starEach [a] X.env = (false, eval a X.env) :: starEach [] X.env := star_cons (by simpa using hs)
    simp only [Option.bind_eq_bind, Option.bind_eq_some_iff] at h
    obtain ⟨ra, h1, h2⟩ := h
    have j := ih T a ra h1 G Φ X W c
    split at h2
    · rename_i hx
      cases h2
      exact rl_list c.good (of_decide_eq_true hx) g1 g2 j.la hs'
    · split at h2
      · have hb := ‹bifAt x 1 = some _›
        cases h2
        obtain ⟨z1, z2, z3, z4⟩ := bifAt_ok hb
        exact re_bif c.good _ z1 g1 g2 z2 (ra_cons j ra_nil hs') z3 z4 hs' (fun _ => rfl)
      · have hl := ‹lifAt x = some _›
        cases h2
        obtain ⟨z2, z3, z4⟩ := lifAt_ok hl
        exact re_lif c.good _ g1 g2 z2 j.la z3 z4 hs'
      · cases h2
theorem few {args : List Expr} {env : Env} {cpos : Pos} (h : noStars args = true) (hl : args.length < 30) : ((backTo cpos (starEach args env)).all (fun x => !x.1) && (backToKw cpos (keywordEach [] env)).all (fun x => x.1.isSome) && decide (args.length + ([] : List Keyword).length + (if ([] : List Keyword).isEmpty then 0 else 1) < 30)) = true := by
  rw [plain_all h]
  show (true && true && decide (args.length + 0 + 0 < 30)) = true
  simpa using hl
theorem mth1_ok {n : Nat} (ih : IH n) (c : Ctx G Φ T X W) {o : Expr} {m : Str} {args : List Expr} {ro : Tr} {r : Exs} {f : Mth} {apos cpos : Pos} (ho : trX n T o = some ro) (hns : noSuper o = true) (hline : (apos.endLine == cpos.line) = true) (hm : mthAt m args.length = some f) (h : trEs (trX n T) args = some r) (hl : args.length < 30) :
    RE G W X (.Call (.Attribute o m apos) args [] cpos) (wE Φ (.mth f (asE ro) r)) := by
  have e := mthAt_ok hm
  subst e
  have ns := trEs_stars h
  have hs := es_ok ih c h
  have jo := (ih T o ro ho G Φ X W c).e
  cases args with
  | nil =>
    cases h
    exact re_mth0 c.good f jo (super_no hns) hline
  | cons a as =>
    have ns' := ns
    simp only [noStars, Bool.and_eq_true, Bool.not_eq_true'] at ns
    exact re_mth c.good f jo hs (super_no hns) (few ns' hl) hline (star_cons ns.1) (fun _ => plain_args ns.2)
theorem comp_ok {n : Nat} (ih : IH n) (iht : IHT n) (c : Ctx G Φ T X W) {elt tg iter : Expr} {ifs : List Expr} {scope : Scope} {it : Wk} {t : Tg} {x : Tr} {cd : OEx}
    (hb : blkC T.N T.sc scope (ownOf T scope) = true) (h1 : trI T (trX n T) tg iter = some it) (h2 : trTg (T.block scope) 4 tg = some t) (h3 : ((slotsT t).all fun i => (ownOf T scope).any fun p => p.2 == i) = true) (h4 : trX n (T.block scope) elt = some x)
    (h5 : (ifs = [] ∧ cd = .no) ∨ ∃ cnd y, ifs = [cnd] ∧ trX n (T.block scope) cnd = some y ∧ cd = .some (asE y)) :
    (∃ own : List (Str × Nat), own = ownOf T scope ∧ BlkOk X.N X.env.scope scope own ∧ BlkR G X scope (own.map (·.2)) tg elt ifs (setT t) (wC Φ cd) (wE Φ (asE x))) := by
  refine ⟨_, rfl, by rw [c.hN, c.sc]; exact blkOk_by hb, ⟨?_, ?_, ?_⟩⟩
  · intro s H C cl fp
    refine tg_ok (c.block scope s H C cl fp) h2 fun i hi => ?_
    obtain ⟨p, q1, q2⟩ := List.any_eq_true.mp (List.all_eq_true.mp h3 i hi)
    exact List.mem_map.mpr ⟨p, q1, by simpa using q2⟩
  · intro s H C cl fp
    rcases h5 with ⟨rfl, rfl⟩ | ⟨cnd, y, rfl, hy, rfl⟩
    · refine ⟨fun pins s σ H Q I hw => pts_nil.run pins s σ H Q I ?_⟩
      obtain ⟨ρ, h, ς, q, x, R, S, k, cv, cx⟩ := hw
      exact cv ρ h H true true Ext.refl R rfl k
    · exact pts_one (iht (T.block scope) cnd y hy G Φ _ _ (c.block scope s H C cl fp))
  · intro s H C cl fp
    exact (ih (T.block scope) elt x h4 G Φ _ _ (c.block scope s H C cl fp)).e
theorem tr_inv {n : Nat} {e : Expr} {r : Tr} (h : trX (n + 1) T e = some r) : trB (trX n) T e = some r ∧ (plainX e = true → isTest (asE r) = false) := by
  unfold trX at h
  split at h
  · rename_i r' h1
    split at h
    · cases h
    · rename_i h2
      cases h
      refine ⟨h1, fun hp => ?_⟩
      rw [hp, Bool.true_and] at h2
      simpa using h2
  · cases h
theorem x_ok {n : Nat} (ih : IH n) (iht : IHT n) : IH (n + 1) := by
  intro T e r h G Φ X W c
  replace h := (tr_inv h).1
  unfold trB at h
  split at h
  · -- name
    split at h
    · rename_i hx
      obtain ⟨i, h1, h2⟩ := Option.map_eq_some_iff.mp h
      subst h2
      simp only [Bool.and_eq_true, badName, Bool.not_eq_true', Bool.or_eq_false_iff] at hx
      exact re_var (c.ix h1) (c.vis hx.1) hx.2.1 hx.2.2
    · cases h
  · cases h; exact re_c pe_int (fun _ _ _ => .int _)
  · cases h; exact re_c pe_bl (fun _ _ _ => .bl _)
  · cases h; exact re_c pe_non (fun _ _ _ => .non)
  · split at h
    · rename_i hx
      cases h
      exact re_c pe_str (fun _ _ _ => .str _ (strOk_ofL hx))
    · cases h
  · obtain ⟨es, h1, h2⟩ := Option.map_eq_some_iff.mp h
    subst h2
    exact re_tup (es_ok ih c h1)
  · obtain ⟨es, h1, h2⟩ := Option.map_eq_some_iff.mp h
    subst h2
    exact rl_disp (es_ok ih c h1)
  · -- binary operations
    simp only [Option.bind_eq_bind, Option.bind_eq_some_iff] at h
    obtain ⟨x, h1, y, h2, h3⟩ := h
    have jx := ih T _ x h1 G Φ X W c
    have jy := ih T _ y h2 G Φ X W c
    split at h3
    · cases h3; exact rl_cat jx.la jy.la
    · cases h3; exact rl_cat jx.la jy.la
    · cases h3; exact rl_rep jx.la jy.e
    · cases h3; exact re_bin c.good _ jx.e jy.e
  · obtain ⟨x, h1, h2⟩ := Option.map_eq_some_iff.mp h
    subst h2
    exact re_neg (ih T _ x h1 G Φ X W c).e
  · obtain ⟨x, h1, h2⟩ := Option.map_eq_some_iff.mp h
    subst h2
    exact re_not (ih T _ x h1 G Φ X W c).e
  · split at h
    · cases h
    · rename_i hm
      simp only [Option.bind_eq_bind, Option.bind_eq_some_iff] at h
      obtain ⟨x, h1, y, h2, h3⟩ := h
      cases h3
      exact re_cmp c.good _ (ih T _ x h1 G Φ X W c).e (ih T _ y h2 G Φ X W c).e (by simpa using hm)
  · split at h
    · cases h
    · rename_i hm
      simp only [Option.bind_eq_bind, Option.bind_eq_some_iff] at h
      obtain ⟨x, h1, y, h2, z, h3, h4⟩ := h
      cases h4
      exact re_chn c.good _ _ (ih T _ x h1 G Φ X W c).e (ih T _ y h2 G Φ X W c).e (ih T _ z h3 G Φ X W c).e (by simpa using hm)
  · obtain ⟨m, h1, h2⟩ := Option.map_eq_some_iff.mp h
    subst h2
    exact and_ok ih c h1
  · obtain ⟨m, h1, h2⟩ := Option.map_eq_some_iff.mp h
    subst h2
    exact or_ok ih c h1
  · simp only [Option.bind_eq_bind, Option.bind_eq_some_iff] at h
    obtain ⟨z, h1, x, h2, y, h3, h4⟩ := h
    cases h4
    exact re_ifx (iht T _ z h1 G Φ X W c) (ih T _ x h2 G Φ X W c).e (ih T _ y h3 G Φ X W c).e
  · -- subscripts
    split at h
    · simp only [Option.bind_eq_bind, Option.bind_eq_some_iff] at h
      obtain ⟨x, h1, l, h2, u, h3, h4⟩ := h
      have jx := ih T _ x h1 G Φ X W c
      cases x with
      | inl m =>
        cases h4
        exact re_sl c.good jx (o_ok ih c h2) (o_ok ih c h3)
      | inr m =>
        cases h4
        exact rl_cut c.good (rla_l jx) (o_ok ih c h2) (o_ok ih c h3)
    · cases h
    · rename_i k1 k2
      simp only [Option.bind_eq_bind, Option.bind_eq_some_iff] at h
      obtain ⟨x, h1, y, h2, h3⟩ := h
      cases h3
      refine re_ix c.good (ih T _ x h1 G Φ X W c).e (ih T _ y h2 G Φ X W c).e (plainIx fun lo hi st p z => ?_)
      cases st with
      | none => exact k1 _ _ _ z
      | some st => exact k2 _ _ _ _ z
  · -- calls by name
    split at h
    · rename_i hx
      obtain ⟨es, h1, h2⟩ := Option.map_eq_some_iff.mp h
      subst h2
      split at hx
      · rename_i hg
        exact call_ok ih c hg hx h1
      · cases hx
    · split at h
      · rename_i hb
        split at h
        · exact bi1_ok ih c hb h
        · split at h
          · cases h
          · rename_i hs
            simp only [Bool.or_eq_true, not_or, Bool.not_eq_true] at hs
            obtain ⟨g1, g2, g3⟩ := c.blt hb
            split at h
            · split at h
              · rename_i hx _ hbt
                simp only [Option.bind_eq_bind, Option.bind_eq_some_iff] at h
                obtain ⟨ra, h1, ty, h2, h3⟩ := h
                cases h3
                obtain ⟨k1, k2, k3⟩ := c.blt hbt
                obtain ⟨z1, z2, z3⟩ := tyAt_ok h2
                exact re_isT c.good (of_decide_eq_true (by assumption)) g1 g2 k1 k2 z1 z2 z3 (ih T _ ra h1 G Φ X W c).e (star_cons hs.1)
              · cases h
            · simp only [Option.bind_eq_bind, Option.bind_eq_some_iff] at h
              obtain ⟨f, h0, ra, h1, rb, h2, h3⟩ := h
              cases h3
              obtain ⟨z1, z2, z3, z4⟩ := bifAt_ok h0
              exact re_bif c.good _ z1 g1 g2 z2 (ra_cons (ih T _ ra h1 G Φ X W c).e (ra_cons (ih T _ rb h2 G Φ X W c).e ra_nil (star_cons hs.2)) (star_cons hs.1)) z3 z4 (star_cons hs.1) (fun _ => by rw [star_cons hs.2]; rfl)
        · cases h
      · cases h
  · -- methods
    split at h
    · cases h
    · rename_i hq
      simp only [Bool.or_eq_true, not_or, Bool.not_eq_true, Bool.not_eq_false'] at hq
      obtain ⟨q1, q2⟩ := hq
      simp only [Option.bind_eq_bind, Option.bind_eq_some_iff] at h
      obtain ⟨ro, h0, h⟩ := h
      split at h
      · simp only [Option.bind_eq_some_iff] at h
        obtain ⟨f, h1, h2⟩ := h
        cases h2
        exact mth1_ok ih c h0 (by simpa using q1) (by simpa using q2) h1 (r := .nil) rfl (by decide)
      · split at h
        · cases h
        · rename_i hs
          split at h
          · rename_i hx
            simp only [Option.bind_eq_some_iff] at h
            obtain ⟨s, h1, h2⟩ := h
            cases h2
            have hx' := of_decide_eq_true hx
            subst hx'
            have ns : ∀ y, isStar y = false → noStars [y] = true := fun y hy => by simp [noStars, hy]
            exact re_ext c.good (ih T _ ro h0 G Φ X W c).e (ih T _ s h1 G Φ X W c).la (super_no (by simpa using q1)) (few (ns _ (by simpa using hs)) (by simp)) (by simpa using q2) (star_cons (by simpa using hs))
          · simp only [Option.bind_eq_some_iff] at h
            obtain ⟨f, h1, s, h2, h3⟩ := h
            cases h3
            refine mth1_ok ih c h0 (by simpa using q1) (by simpa using q2) h1 (r := .cons (asE s) .nil) ?_ (by simp)
            unfold trEs
            rw [if_neg hs, h2]
            rfl
      · split at h
        · cases h
        · rename_i hs
          simp only [Option.bind_eq_some_iff] at h
          obtain ⟨f, h1, s, h2, t, h3, h4⟩ := h
          cases h4
          simp only [Bool.or_eq_true, not_or] at hs
          refine mth1_ok ih c h0 (by simpa using q1) (by simpa using q2) h1 (r := .cons (asE s) (.cons (asE t) .nil)) ?_ (by simp)
          unfold trEs
          rw [if_neg hs.1, h2]
          unfold trEs
          rw [if_neg hs.2, h3]
          rfl
      · cases h
  · -- comprehensions
    split at h
    · rename_i hb
      simp only [Option.bind_eq_bind, Option.bind_eq_some_iff] at h
      obtain ⟨it, h1, t, h2, h⟩ := h
      split at h
      · rename_i h3
        simp only [Option.bind_eq_bind, Option.bind_eq_some_iff] at h
        obtain ⟨x, h4, h⟩ := h
        split at h
        · cases h
          obtain ⟨own, rfl, ok, B⟩ := comp_ok (G := G) (Φ := Φ) (ifs := []) (cd := .no) ih iht c hb h1 h2 h3 h4 (.inl ⟨rfl, rfl⟩)
          exact rl_comp c.good c.nd (i_ok ih c h1) ok B (fold_trI h1)
        · simp only [Option.bind_eq_some_iff] at h
          obtain ⟨y, h5, h6⟩ := h
          cases h6
          obtain ⟨own, rfl, ok, B⟩ := comp_ok (G := G) (Φ := Φ) (cd := .some (asE y)) ih iht c hb h1 h2 h3 h4 (.inr ⟨_, y, rfl, h5, rfl⟩)
          exact rl_comp c.good c.nd (i_ok ih c h1) ok B (fold_trI h1)
        · cases h
      · cases h
    · cases h
  · cases h
/-! ### tests -/
def plainB : Ex → Bool
  | .var _ => true
  | .bl _ => true
  | .ix _ _ => true
  | .call _ _ => true
  | .bif _ _ => true
  | .lif _ _ => true
  | _ => false
theorem wT_e {m : Ex} {x : QX} {ς : PSt} {h : PH} {q : Bool → PH → Prop} (hm : plainB m = true) (k : wT Φ m x ς h q) : wE Φ m x ς h (fun v h1 => ∃ r, truS h1 v = some r ∧ q r h1) := by
  cases m with
  | bl b => exact ⟨b, rfl, k⟩
  | var i => exact k
  | ix a b => exact k
  | call f es => exact k
  | «bif» f es => exact k
  | lif f l => exact k
  | _ => cases hm
theorem rt_plain {e : Expr} {m : Ex} (c : Ctx G Φ T X W) (hm : plainB m = true) (j : RE G W X e (wE Φ m)) (he : ∀ whole, isTrue e X.env whole = (do let v ← whole; standAt e.pos; holding [v] (truthy v))) : RT G W X e (wT Φ m) :=
  PT.imp (rt_truth c.good j he) fun σ H Q hw => by
    obtain ⟨ρ, h, ς, q, x, R, S, k, cv, cx⟩ := hw
    exact ⟨ρ, h, ς, q, x, R, S, wT_e hm k, cv, cx⟩
theorem rt_no {e : Expr} {m : Ex} (hm : ∀ x ς h q, ¬ wT Φ m x ς h q) : RT G W X e (wT Φ m) :=
  ⟨fun pins s σ H Q I hw => by
    obtain ⟨ρ, h, ς, q, x, R, S, k, cv, cx⟩ := hw
    exact (hm _ _ _ _ k).elim⟩
theorem noT {m : Ex} (h1 : plainB m = false) (h2 : isTest m = false) : ∀ x ς h q, ¬ wT Φ m x ς h q := by
  intro x ς h q k
  cases m <;> first | exact k | (simp only [plainB] at h1; cases h1; done) | (simp only [isTest] at h2; cases h2; done)
theorem ifx_tr {n : Nat} {a b d : Expr} {p : Pos} {r : Tr} (h : trX (n + 1) T (.IfExp a b d p) = some r) : ∃ x y z, asE r = .ifx x y z := by
  replace h := (tr_inv h).1
  unfold trB at h
  simp only [Option.bind_eq_bind, Option.bind_eq_some_iff] at h
  obtain ⟨z, h1, x, h2, y, h3, h4⟩ := h
  cases h4
  exact ⟨_, _, _, rfl⟩
theorem cmpT_ok {n : Nat} (ih : IH n) (c : Ctx G Φ T X W) {a : Expr} {os : List CmpOp} {bs : List Expr} {pos : Pos} {r : Tr} (h : trB (trX n) T (.Compare a os bs pos) = some r) : RT G W X (.Compare a os bs pos) (wT Φ (asE r)) := by
  match os, bs, h with
  | [o], [b], h =>
    change (if behindInMarks o b then none else do
      let x ← trX n T a
      let y ← trX n T b
      some (Sum.inl (.cmp o (asE x) (asE y)))) = some r at h
    split at h
    · cases h
    · rename_i hm
      simp only [Option.bind_eq_bind, Option.bind_eq_some_iff] at h
      obtain ⟨x, h1, y, h2, h3⟩ := h
      cases h3
      exact rt_cmp c.good _ (ih T _ x h1 G Φ X W c).e (ih T _ y h2 G Φ X W c).e (by simpa using hm)
  | [o, o'], [b, d], h =>
    change (if behindInMarks o' d then none else do
      let x ← trX n T a
      let y ← trX n T b
      let z ← trX n T d
      some (Sum.inl (.chn o o' (asE x) (asE y) (asE z)))) = some r at h
    split at h
    · cases h
    · rename_i hm
      simp only [Option.bind_eq_bind, Option.bind_eq_some_iff] at h
      obtain ⟨x, h1, y, h2, z, h3, h4⟩ := h
      cases h4
      exact rt_chn c.good _ _ (ih T _ x h1 G Φ X W c).e (ih T _ y h2 G Φ X W c).e (ih T _ z h3 G Φ X W c).e (by simpa using hm)
  | [], _, h => cases h
  | [_], [], h => cases h
  | [_], _ :: _ :: _, h => cases h
  | [_, _], [], h => cases h
  | [_, _], [_], h => cases h
  | [_, _], _ :: _ :: _ :: _, h => cases h
  | _ :: _ :: _ :: _, _, h => cases h
theorem x_okT {n : Nat} (ih : IH n) (iht : IHT n) : IHT (n + 1) := by
  intro T e r h G Φ X W c
  have j := (x_ok ih iht T e r h G Φ X W c).e
  have gen : plainX e = true → (∀ whole, isTrue e X.env whole = (do let v ← whole; standAt e.pos; holding [v] (truthy v))) → RT G W X e (wT Φ (asE r)) := by
    intro hp he
    have ht := (tr_inv h).2 hp
    cases hb : plainB (asE r) with
    | true => exact rt_plain c hb j he
    | false => exact rt_no (noT hb ht)
  cases e with
  | BoolOp op es pos =>
    replace h := (tr_inv h).1
    unfold trB at h
    cases op with
    | And =>
      obtain ⟨m, h1, h2⟩ := Option.map_eq_some_iff.mp h
      subst h2
      exact (andT_ok iht c h1).pt
    | Or =>
      obtain ⟨m, h1, h2⟩ := Option.map_eq_some_iff.mp h
      subst h2
      exact (orT_ok iht c h1).pt
  | UnaryOp op a pos =>
    cases op with
    | Not =>
      replace h := (tr_inv h).1
      unfold trB at h
      obtain ⟨x, h1, h2⟩ := Option.map_eq_some_iff.mp h
      subst h2
      exact rt_not (iht T _ x h1 G Φ X W c)
    | _ => exact gen rfl fun _ => rfl
  | IfExp a b d p =>
    obtain ⟨x, y, z, e⟩ := ifx_tr h
    rw [e]
    exact rt_no fun x ς h q k => k
  | Compare a os bs pos =>
    replace h := (tr_inv h).1
    exact cmpT_ok ih c h
  | _ => exact gen rfl fun _ => rfl
theorem tr_sound : ∀ n, IH n ∧ IHT n
  | 0 => ⟨(by intro T e r h; cases h), (by intro T e r h; cases h)⟩
  | n + 1 => ⟨x_ok (tr_sound n).1 (tr_sound n).2, x_okT (tr_sound n).1 (tr_sound n).2⟩
end
end WD
end
section
set_option Elab.async false
set_option linter.all false
set_option maxRecDepth 100000
set_option autoImplicit false
set_option maxHeartbeats 8000000
/-! WSound3: the translation means what the layer says: statements. -/
namespace WD
open PySem PySem.Spec PyProof.Rows L2
structure SCtx (G : GE) (Φ : Phi) (T : TEnv) (X : Cx) (W : WX) : Prop where
  c : Ctx G Φ T X W
  kind : X.env.scope.kind = .function
  pass : PassesOwn (model X.prog X.w) X.A X.env X.xe
section
variable {G : GE} {Φ : Phi} {T : TEnv} {X : Cx} {W : WX}
theorem SCtx.bk (c : SCtx G Φ T X W) : X.env.blockKind = .function := by
  unfold Env.blockKind
  rw [c.kind]
  rfl
theorem swP_ok (c : SCtx G Φ T X W) {ts : List Expr} {e : Expr} {r : Option (List Str)} (h : swP (fun x => T.sc.names.lookup x) ts e = some r) : swappedStores ts e X.env = pure r := by
  have hk : ∀ x, X.env.kindOf x = T.sc.names.lookup x := fun x => by rw [← c.c.sc]; rfl
  unfold swP at h
  split at h
  · rename_i ts k p vs k2 p2
    unfold swappedStores
    simp only [hk, c.bk]
    split at h
    · rename_i z
      cases h
      have z' : (!(ts.length == 2 || ts.length == 3) || vs.length != ts.length || ScopeKind.function != ScopeKind.function) = true := by rw [z]; rfl
      rw [if_pos z']
    · rename_i z
      have z' : ¬ (!(ts.length == 2 || ts.length == 3) || vs.length != ts.length || ScopeKind.function != ScopeKind.function) = true := by
        intro w
        apply z
        rw [Bool.or_eq_true] at w
        rcases w with w | w
        · exact w
        · cases w
      rw [if_neg z']
      split at h
      · rename_i z
        cases h
        exact if_pos z
      · rename_i z
        refine (if_neg z).trans ?_
        dsimp only at h
        split at h
        · rename_i z
          cases h
          exact if_pos z
        · rename_i z
          refine (if_neg z).trans ?_
          split at h
          · rename_i z
            cases h
            exact if_pos z
          · rename_i z
            refine (if_neg z).trans ?_
            split at h
            · cases h
            · rename_i z
              refine (if_neg z).trans ?_
              cases h
              rfl
  · cases h
  · rename_i k1 k2
    cases h
    unfold swappedStores
    split
    · rename_i q
      split at q
      · exact (k1 _ _ _ _ _ _ rfl rfl).elim
      · exact (k2 _ _ _ _ _ rfl rfl).elim
      · cases q
    · rfl
theorem comp_inv {n : Nat} {elt : Expr} {gs : List Comprehension} {scope : Scope} {pos : Pos} {r : Tr} (c : Ctx G Φ T X W) (h : trX (n + 1) T (.ListComp elt gs scope pos) = some r) :
    ∃ tg iter ifs t it cd x, gs = [⟨tg, iter, ifs, 0⟩] ∧ r = .inr (.comp ((ownOf T scope).map (·.2)) x t it cd) ∧ RI G W X tg iter (wI Φ it) ∧ BlkOk X.N X.env.scope scope (ownOf T scope) ∧ BlkR G X scope ((ownOf T scope).map (·.2)) tg elt ifs (setT t) (wC Φ cd) (wE Φ x) ∧ ∀ y, foldedSetIterable iter X.env y = pure y := by
  replace h := (tr_inv h).1
  have ih := (tr_sound n).1
  have iht := (tr_sound n).2
  rcases gs with _ | ⟨⟨tg, iter, ifs, (_ | _) | _⟩, _ | ⟨g2, gs⟩⟩
  · cases h
  · change (if blkC T.N T.sc scope (ownOf T scope) then do
        let it ← trI T (trX n T) tg iter
        let t ← trTg (T.block scope) 4 tg
        if (slotsT t).all fun i => (ownOf T scope).any fun p => p.2 == i then do
          let x ← trX n (T.block scope) elt
          match ifs with
          | [] => some (Sum.inr (.comp ((ownOf T scope).map (·.2)) (asE x) t it .no))
          | [c] => do
            let y ← trX n (T.block scope) c
            some (.inr (.comp ((ownOf T scope).map (·.2)) (asE x) t it (.some (asE y))))
          | _ => none
        else none
      else none) = some r at h
    split at h
    · rename_i hb
      simp only [Option.bind_eq_bind, Option.bind_eq_some_iff] at h
      obtain ⟨it, h1, t, h2, h⟩ := h
      split at h
      · rename_i h3
        simp only [Option.bind_eq_bind, Option.bind_eq_some_iff] at h
        obtain ⟨x, h4, h⟩ := h
        split at h
        · cases h
          obtain ⟨own, rfl, ok, B⟩ := comp_ok (G := G) (Φ := Φ) (ifs := []) (cd := .no) ih iht c hb h1 h2 h3 h4 (.inl ⟨rfl, rfl⟩)
          exact ⟨_, _, _, _, _, _, _, rfl, rfl, i_ok ih c h1, ok, B, fold_trI h1⟩
        · simp only [Option.bind_eq_some_iff] at h
          obtain ⟨y, h5, h6⟩ := h
          cases h6
          obtain ⟨own, rfl, ok, B⟩ := comp_ok (G := G) (Φ := Φ) (cd := .some (asE y)) ih iht c hb h1 h2 h3 h4 (.inr ⟨_, y, rfl, h5, rfl⟩)
          exact ⟨_, _, _, _, _, _, _, rfl, rfl, i_ok ih c h1, ok, B, fold_trI h1⟩
        · cases h
      · cases h
    · cases h
  all_goals cases h
theorem swap_name {elt : Expr} {gs : List Comprehension} {scope : Scope} {pos py : Pos} {y : Str} {l : Nat} {env : Env} : ∃ b : Bool, swapsWith (.ListComp elt gs scope pos) (some (.Name y py)) l env = pure b ∧ (b = true → env.kindOf y = some .local) := by
  refine ⟨_, rfl, fun h => ?_⟩
  simp only [Bool.and_eq_true, beq_iff_eq] at h
  exact h.1.1.2
theorem swap_sole {e t : Expr} {l : Nat} {env : Env} (h : isComp e = false) : swapsWithSole [t] e l env = pure false := by
  unfold swapsWithSole
  exact swap_no h
/-- what the induction gives -/
def IHS (n : Nat) : Prop := ∀ (T : TEnv) (s : Stmt) (r : Sm), trS n T s = some r → ∀ (G : GE) (Φ : Phi) (X : Cx) (W : WX), SCtx G Φ T X W → RS G W X s (wS Φ r)
theorem ss_ok {n : Nat} (ih : IHS n) (c : SCtx G Φ T X W) : ∀ {ss : List Stmt} {r : Sms}, trSs (trS n T) ss = some r → RSs G W X ss (wSs Φ r)
  | [], r, h => by
    cases h
    exact rss_nil
  | s :: ss, r, h => by
    unfold trSs at h
    simp only [Option.bind_eq_bind, Option.bind_eq_some_iff] at h
    obtain ⟨a, h1, b, h2, h3⟩ := h
    cases h3
    show RSs G W X (s :: ss) (fun κ ς h => wS Φ a { κ with nx := wSs Φ b κ } ς h)
    exact rss_cons (ih T s a h1 G Φ X W c) (ss_ok ih c h2)
theorem xe (c : SCtx G Φ T X W) {e : Expr} {r : Tr} (h : trX 60 T e = some r) : RE G W X e (wE Φ (asE r)) := ((tr_sound 60).1 T e r h G Φ X W c.c).e
theorem xt (c : SCtx G Φ T X W) {e : Expr} {r : Tr} (h : trX 60 T e = some r) : RT G W X e (wT Φ (asE r)) := (tr_sound 60).2 T e r h G Φ X W c.c
theorem set_ok (c : SCtx G Φ T X W) {x : Str} {e : Expr} {i : Nat} {r : Tr} {p pos : Pos} (hl : T.loc x = true) (hs : T.stor x = true) (hi : ixName T.N x = some i) (h : trX 60 T e = some r) : RS G W X (.Assign [.Name x p] e pos) (wS Φ (.set (.slot i) (asE r))) := by
  have plain : swapsWith e (some (.Name x p)) pos.line X.env = pure false → RS G W X (.Assign [.Name x p] e pos) (wS Φ (.set (.slot i) (asE r))) := fun hw =>
    rs_set (xe c h) c.c.nd (c.c.ix hi) (c.c.loc hl) (c.c.st _ hs hl) hw
  by_cases hc : isComp e = true
  · cases e with
    | ListComp elt gs scope ps =>
      obtain ⟨b, hb, hk⟩ := swap_name (elt := elt) (gs := gs) (scope := scope) (pos := ps) (py := p) (y := x) (l := pos.line) (env := X.env)
      cases b with
      | false => exact plain hb
      | true =>
        obtain ⟨tg, iter, ifs, t, it, cd, z, rfl, rfl, k1, k2, k3, k4⟩ := comp_inv c.c h
        exact rs_setLc c.c.good c.c.nd (c.c.ix hi) (hk rfl) hb k1 k2 k3 k4
    | SetComp _ _ _ _ => exact absurd (tr_inv h).1 (by intro z; cases z)
    | DictComp _ _ _ _ _ => exact absurd (tr_inv h).1 (by intro z; cases z)
    | _ => cases hc
  · exact plain (swap_no (by simpa using hc))
theorem notSl {i : Expr} (h : isSl i = false) : ∀ a b d p, i ≠ .Slice a b d p := by
  intro a b d p z
  subst z
  cases h
theorem par_ok (c : SCtx G Φ T X W) {x y : Str} {a b : Expr} {i j : Nat} {r s : Tr} {px py pt pt2 pos : Pos} {kt k2 : Nat} {names : List Str} (hw : swP (fun x => T.sc.names.lookup x) [.Tuple [.Name x px, .Name y py] kt pt] (.Tuple [a, b] k2 pt2) = some (some names))
    (hs : (isStar a || isStar b) = false) (hi : ixName T.N x = some i) (hj : ixName T.N y = some j) (ha : trX 60 T a = some r) (hb : trX 60 T b = some s) (hij : i ≠ j) (hn : names = [x, y]) (k1 : T.sc.names.lookup x = some .local) (k2' : T.sc.names.lookup y = some .local) : RS G W X (.Assign [.Tuple [.Name x px, .Name y py] kt pt] (.Tuple [a, b] k2 pt2) pos) (wS Φ (.par i j (asE r) (asE s))) := by
  have h0 := swP_ok c hw
  rw [Bool.or_eq_false_iff] at hs
  subst hn
  exact rs_par c.c.good (xe c ha) (xe c hb) c.c.nd (c.c.ix hi) (c.c.ix hj) hij (by rw [c.c.sc]; exact k1) (by rw [c.c.sc]; exact k2') (star_cons hs.1) (star_cons hs.2) h0 (swap_sole rfl)
theorem s_ok {n : Nat} (ih : IHS n) : IHS (n + 1) := by
  intro T s r h G Φ X W c
  unfold trS at h
  split at h
  · -- expression statements
    split at h
    · cases h; exact rs_doc
    · split at h
      · cases h
      · rename_i hc
        obtain ⟨x, h1, h2⟩ := Option.map_eq_some_iff.mp h
        subst h2
        exact rs_expr (xe c h1) (swap_no (by simpa using hc))
  · -- assignments
    split at h
    · split at h
      · rename_i hl
        rw [Bool.and_eq_true] at hl
        simp only [Option.bind_eq_bind, Option.bind_eq_some_iff] at h
        obtain ⟨i, h1, x, h2, h3⟩ := h
        split at h3
        · cases h3
        · cases h3
          exact set_ok c hl.1 hl.2 h1 h2
      · cases h
    · split at h
      · rename_i hw
        split at h
        · cases h
        · rename_i hc
          simp only [Option.bind_eq_bind, Option.bind_eq_some_iff] at h
          obtain ⟨t, h1, x, h2, h3⟩ := h
          cases h3
          exact rs_asg (ws := slotsT t) (xe c h2) (tg_ok c.c h1 fun i hi => hi) (swap_sole (by simpa using hc)) (swP_ok c hw) rfl
      · rename_i hw
        split at h
        · split at h
          · cases h
          · rename_i hs
            simp only [Option.bind_eq_bind, Option.bind_eq_some_iff] at h
            obtain ⟨i, h1, j, h2, x, h3, y, h4, h5⟩ := h
            split at h5
            · cases h5
            · rename_i hij
              cases h5
              simp only [Bool.or_eq_true, not_or, Bool.not_eq_true, decide_eq_false_iff_not, Bool.not_eq_false', Bool.and_eq_true, decide_eq_true_eq] at hij
              exact par_ok c hw (by simpa using hs) h1 h2 h3 h4 hij.1 hij.2.1.1 hij.2.1.2 hij.2.2
        · cases h
      · cases h
    · split at h
      · cases h
      · rename_i hq
        simp only [Option.bind_eq_bind, Option.bind_eq_some_iff] at h
        obtain ⟨x, h1, y, h2, z, h3, h4⟩ := h
        cases h4
        simp only [Bool.or_eq_true, not_or, Bool.not_eq_true] at hq
        refine rs_sub c.c.good (xe c h3) (xe c h1) (xe c h2) (swap_sole hq.2) ?_ rfl ?_
        · unfold swappedStores
          rfl
        · intro v
          have hn := notSl hq.1
          unfold assign
          split <;> first | rfl | (exact absurd rfl (hn _ _ _ _))
    · cases h
  · -- augmented
    split at h
    · split at h
      · rename_i hl
        rw [Bool.and_eq_true] at hl
        simp only [Option.bind_eq_bind, Option.bind_eq_some_iff] at h
        obtain ⟨i, h1, x, h2, h3⟩ := h
        cases h3
        exact rs_aug c.c.good (xe c h2) c.c.nd (c.c.ix h1) (c.c.loc hl.1) (c.c.st _ hl.2 hl.1)
      · cases h
    · split at h
      · cases h
      · rename_i hq
        simp only [Option.bind_eq_bind, Option.bind_eq_some_iff] at h
        obtain ⟨x, h1, y, h2, z, h3, h4⟩ := h
        cases h4
        refine rs_augS c.c.good (xe c h3) (xe c h1) (xe c h2) fun ov iv new => ?_
        have hn := notSl (by simpa using hq)
        unfold augStore
        split <;> first | rfl | (exact absurd rfl (hn _ _ _ _))
    · cases h
  · obtain ⟨x, h1, h2⟩ := Option.map_eq_some_iff.mp h
    subst h2
    exact rs_ret (xe c h1)
  · cases h
    exact rs_retN
  · simp only [Option.bind_eq_bind, Option.bind_eq_some_iff] at h
    obtain ⟨x, h1, y, h2, z, h3, h4⟩ := h
    cases h4
    exact rs_if (xt c h1) (ss_ok ih c h2) (ss_ok ih c h3)
  · simp only [Option.bind_eq_bind, Option.bind_eq_some_iff] at h
    obtain ⟨w, h1, t, h2, y, h3, h4⟩ := h
    cases h4
    exact rs_for (ws := slotsT t) c.c.good c.pass (i_ok (tr_sound 60).1 c.c h1) (tg_ok c.c h2 fun i hi => hi) (ss_ok ih c h3) (fold_trI h1)
  · simp only [Option.bind_eq_bind, Option.bind_eq_some_iff] at h
    obtain ⟨x, h1, y, h2, h3⟩ := h
    cases h3
    exact rs_while c.c.good c.pass (xt c h1) (ss_ok ih c h2)
  · cases h
    exact rs_pass
  · cases h
    exact rs_break
  · cases h
    exact rs_cont
  · cases h
theorem trS_sound : ∀ n, IHS n
  | 0 => by intro T s r h; cases h
  | n + 1 => s_ok (trS_sound n)
end
end WD
end
section
set_option Elab.async false
set_option linter.all false
set_option maxRecDepth 100000
set_option autoImplicit false
set_option maxHeartbeats 8000000
/-! WAll: all defs of a row keep what their translation means; the head. -/
namespace WD
open PySem PySem.Spec PyProof.Rows L2
structure DE where
  name : Str
  st : Stmt
  N : List Str
  ps : List Str
  fn : Fn
def tabOf (ds : List (Nat × DE)) : Tab := fun id => (ds.lookup id).map (·.fn)
def glOf (ds : List (Nat × DE)) : List (Str × Nat) := ds.map fun p => (p.2.name, p.1)
abbrev FnP (K : PySem.W.Frag) (d : DE) (f : Addr) (fd : FuncData) : Prop := FunD K d.name d.name (defArgs d.st) (defBody d.st) (defScope d.st) [] [] f fd
structure DOk (ds : List (Nat × DE)) (fr : List Str) (id : Nat) (d : DE) : Prop where
  sc : FnScope d.N d.ps (defScope d.st)
  tr : trSs (trS 40 ⟨d.N, defScope d.st, none, glOf ds, fr⟩) (defBody d.st) = some d.fn.body
  pn : d.fn.ps = d.ps.length
  nn : d.fn.ns = d.N.length
  bind : ∀ (kV doc pm : Value) (an : Option Addr) (cdv ct : Value) (us : List Value), us.length = d.ps.length → bindArgs (PySem.W.fnOf d.name d.name (defArgs d.st) (defBody d.st) (defScope d.st) .none kV doc pm an cdv ct) ⟨us, []⟩ = pure (d.ps.zip us)
  tab : tabOf ds id = some d.fn
theorem spOf0 {G : GE} {T : Tab} {f : Nat} {vs : List V} {H : Hp} {Q : VK} {E : XK} (h : spOf G (den T 0) f vs H Q E) : False := by
  obtain ⟨ρ, h, args, q, x, R, r, z, _⟩ := h
  exact den_zero z
theorem lookup_gl {x : Str} {id : Nat} : ∀ {ds : List (Nat × DE)}, (glOf ds).lookup x = some id → ∃ d, (id, d) ∈ ds ∧ d.name = x
  | [], h => by cases h
  | p :: ds, h => by
    unfold glOf at h
    rw [List.map_cons, List.lookup_cons] at h
    split at h
    · rename_i e
      cases h
      exact ⟨p.2, by simp, (eq_of_beq e).symm⟩
    · obtain ⟨d, h1, h2⟩ := lookup_gl h
      exact ⟨d, List.mem_cons_of_mem _ h1, h2⟩
section
variable {ds : List (Nat × DE)} {fr : List Str} {P : Program} {w : World} {K : PySem.W.Frag} {mg : Str → Option Value} {base : Heap} {cls : Nat → Option (Addr × List Str)}
theorem reps_map {K : PySem.W.Frag} {ρ : Nat → Addr} {n : Nat} {H : Hp} : ∀ {xs : List PV} {us : List V}, Reps K ρ n H xs us → ∀ (i : Nat) (v : PV), (xs.map some)[i]? = some (some v) → ∃ u, (us.map some)[i]? = some (some u) ∧ Rep K ρ n H v u
  | _, _, .nil, i, v, e => by simp at e
  | _, _, .cons r t, 0, v, e => by
    simp at e
    subst e
    exact ⟨_, by simp, r⟩
  | _, _, .cons r t, i + 1, v, e => by
    simp only [List.map_cons, List.getElem?_cons_succ] at e ⊢
    exact reps_map t i v e
theorem fn_all (ok : ∀ p ∈ ds, DOk ds fr p.1 p.2) (facts : ∀ p ∈ ds, ∃ f fd, FnP K p.2 f fd ∧ mg p.2.name = some (.ref f)) (frk : ∀ x ∈ fr, mg x = none) :
    ∀ (n : Nat) (p : Nat × DE), p ∈ ds → ∀ f fd, FnP K p.2 f fd → FnOk P w K mg base (L2.CX P w) n f fd p.2.ps (spOf ⟨K, cls⟩ (den (tabOf ds) n) p.1)
  | 0, p, hp, f, fd, F => ⟨fun vs H Q E h => (spOf0 h).elim, fun A outer s H args us vs Q E hr e0 hb r h => (spOf0 h).elim⟩
  | n + 1, p, hp, f, fd, F => by
    have k := ok p hp
    have len : ∀ vs H Q E, spOf ⟨K, cls⟩ (den (tabOf ds) (n + 1)) p.1 vs H Q E → vs.length = p.2.ps.length := by
      intro vs H Q E h
      obtain ⟨ρ, h, args, q, x, R, r, z, _⟩ := h
      rw [den_succ] at z
      obtain ⟨F', e, l, _⟩ := z
      rw [k.tab] at e
      cases e
      rw [← r.length, l, k.pn]
    refine F.ok k.sc len fun cdv A outer s H vs Q E hr h => ⟨upS ⟨K, cls⟩ (fun c d _ H => E c d H) (wSs (den (tabOf ds) n) p.2.fn.body), ?_, ?_⟩
    · refine ss_ok (trS_sound 40) ⟨⟨⟨rfl, rfl, ?_, takes_of rfl rfl rfl rfl⟩, rfl, k.sc.nd, rfl, fun _ _ _ => .inl rfl, ?_, frk⟩, k.sc.kind, passes_of rfl⟩ k.tr
      · have := hr.un
        show (A.deeper (envOfC p.2.name (defScope p.2.st) s.heap.objs.size f cdv)).units + 65 < cLine
        omega
      · intro x id e
        obtain ⟨d, h1, h2⟩ := lookup_gl e
        obtain ⟨f', fd', F', g⟩ := facts (id, d) h1
        exact ⟨f', fd', d.ps, n, by rw [← h2]; exact g, fn_all ok facts frk n (id, d) h1 f' fd' F', hr, F'.kp, FunD.bindsN F' ((ok (id, d) h1).bind)⟩
    · have l := len _ _ _ _ h
      obtain ⟨ρ, h, args, q, x, R, r, z, cv, cx⟩ := h
      rw [den_succ] at z
      obtain ⟨F', e, l', z⟩ := z
      rw [k.tab] at e
      cases e
      refine ⟨ρ, h, _, _, R, ⟨?_, ?_⟩, z, ⟨?_, cv, fun _ _ _ _ _ _ _ _ z => z.elim, fun _ _ _ _ _ _ _ _ z => z.elim, ?_⟩⟩
      · unfold L2.start
        simp only [List.length_append, List.length_map, List.length_replicate]
        rw [r.length, k.nn, k.pn, l]
      · intro i v e
        unfold L2.start
        by_cases hi : i < args.length
        · rw [List.getElem?_append_left (by simpa using hi)] at e
          rw [List.getElem?_append_left (by rw [List.length_map, ← r.length]; exact hi)]
          exact reps_map r i v e
        · rw [List.getElem?_append_right (by simp; omega)] at e
          rw [List.getElem?_replicate] at e
          split at e <;> cases e
      · intro ρ' h' H' ς' σ' E' R' S' z'
        exact cv ρ' h' H' .non .non E' R' .non z'
      · intro ρ' h' H' ς' σ' e c d E' R' S' X' z'
        exact cx ρ' h' H' e c d E' R' X' z'
/-! ### the head -/
def dOf (d : DE) : He.DefD := ⟨(d.name, none), d.name, d.name, defArgs d.st, defBody d.st, defScope d.st, [], []⟩
def fnsOf (ds : List (Nat × DE)) : List He.DefD := ds.map fun p => dOf p.2
def fasOf (ds : List (Nat × DE)) (fr : List Str) : List He.Fa := (ds.map fun p => He.Fa.glo p.2.name) ++ fr.map He.Fa.free
/-- the law by its pure meaning -/
def PureLaw (ds : List (Nat × DE)) (n id : Nat) : Prop := ∀ ns : List Int, ns.length ≤ 63 → (∀ k ∈ ns, Builtin.Int.intBits k ≤ 1048576) → den (tabOf ds) n id [.rol (ns.map .int)] [] (fun v _ => v = .bl true) (fun _ _ => False)
theorem ints_map {K : PySem.W.Frag} {ρ : Nat → Addr} {n : Nat} {H : Hp} : ∀ ns : List Int, Reps K ρ n H (ns.map .int) (ns.map V.int)
  | [] => .nil
  | i :: r => .cons (.int i) (ints_map r)
theorem head_facts {h : Heap} {f : Addr} {n id : Nat} {d : DE} (ok : ∀ p ∈ ds, DOk ds fr p.1 p.2) (hd : (id, d) ∈ ds) (hps : d.ps = [("script" : Str)]) (pure_ : PureLaw ds n id)
    (X : K.In h) (G : h.Ns mainGlobals mg) (hfa : mg d.name = some (.ref f)) (c : He.SaysD (fasOf ds fr) (fnsOf ds) K) :
    ∃ (fd : FuncData) (sp : Sp), (∀ (s : Shared) (v : Value), BindsTo s fd ⟨[v], []⟩ [(("script" : Str), v)]) ∧
      (∀ (H : Hp) (a : Addr) (ns : List Int), ns.length ≤ 63 → (∀ k ∈ ns, Builtin.Int.intBits k ≤ 1048576) → L2.Only H → SqL K H a (ns.map V.int) → sp [.ref a] H (fun v _ => v = .bl true) fun _ _ _ => False) ∧
      ∀ base : Heap, K.In base → base.Ns mainGlobals mg → FnOk P w K mg base (L2.CX P w) n f fd [("script" : Str)] sp := by
  have facts : ∀ p ∈ ds, ∃ f fd, FnP K p.2 f fd ∧ mg p.2.name = some (.ref f) := by
    intro p hp
    obtain ⟨fd, F⟩ := He.SaysD.defs c (d := dOf p.2) (List.mem_map.mpr ⟨p, hp, rfl⟩)
    have g := He.glo_ok X G (He.SaysD.facts c (f := .glo p.2.name) (List.mem_append.mpr (.inl (List.mem_map.mpr ⟨p, hp, rfl⟩))))
    exact ⟨_, fd, F, g⟩
  have frk : ∀ x ∈ fr, mg x = none := fun x hx => He.free_ok X G (He.SaysD.facts c (f := .free x) (List.mem_append.mpr (.inr (List.mem_map.mpr ⟨x, hx, rfl⟩))))
  obtain ⟨f', fd, F, g⟩ := facts (id, d) hd
  have e : f' = f := by
    have := g.symm.trans hfa
    cases this
    rfl
  subst e
  refine ⟨fd, spOf ⟨K, fun _ => none⟩ (den (tabOf ds) n) id, fun s v => ?_, fun H a ns hl hk hO hS => ?_, fun base _ _ => ?_⟩
  · have b := FunD.bindsA F ((ok (id, d) hd).bind) s [v] (by rw [hps]; rfl)
    rw [hps] at b
    exact b
  · refine ⟨fun _ => 0, [], [.rol (ns.map .int)], _, _, ⟨fun l o e => by simp at e, fun l l' h1 => by simp at h1⟩, .cons (.rol ?_ (ints_map ns)) .nil, pure_ ns hl hk, ?_, fun _ _ _ _ _ _ _ _ _ z => z.elim⟩
    · rcases hS with (s | ⟨o, s⟩) | s
      · exfalso
        rcases hO a with q | ⟨o, xs, q⟩
        · rw [q] at s; cases s
        · rw [q] at s; cases s
      · exact .inl ⟨o, s⟩
      · exact .inr (.inr s)
    · intro ρ' h' H' v u E R r z
      have z' : v = .bl true := z
      subst z'
      cases r
      rfl
  · have := fn_all (P := P) (w := w) (base := base) (cls := fun _ => none) ok facts frk n (id, d) hd f' fd F
    rw [hps] at this
    exact this
end
/-- the law's end: what may leave a call is told by the world -/
theorem walk_ofW {l : PySem.W.OpenLaw} {n k : Nat} {q : Program} {loose : List Str} {XP : (Str → Option Value) → Heap → Prop} {YP : World → Heap → Prop} {d : DefRec} {x : Str}
    (hn : l.most = some n) (hn2 : n ≤ sizeLine) (hdf : d.params.defaults = []) (hr : Room k callerA)
    (F : ∀ (w : World) (mg : Str → Option Value) (fa : Addr) (h : Heap), YP w h → h.Ns mainGlobals mg → mg d.name = some (.ref fa) →
      ∃ (K : PySem.W.Frag) (fd : FuncData) (sp : Sp), K.In h ∧ (∀ (s : Shared) (u : Value), BindsTo s fd ⟨[u], []⟩ [(x, u)]) ∧
        (∀ (H : Hp) (a : Addr) (ns : List Int), ns.length ≤ n → (∀ k ∈ ns, Builtin.Int.intBits k ≤ 1048576) → L2.Only H → SqL K H a (ns.map V.int) → sp [.ref a] H (fun v _ => v = .bl true) fun _ _ _ => False) ∧
        ∀ base : Heap, K.In base → base.Ns mainGlobals mg → FnOk l.prog w K mg base (L2.CX l.prog w) k fa fd [x] sp) :
    PySem.W.WalkO q loose XP YP l.row.toRowW d [] (fun f vs => PySem.call f vs) := by
  refine Att.attach_callB hn hdf fun w s₀ s₁ mg mb fa o pm cd doc a vs ns G Y ho hd hcd hmg hobj hints hlen hbits hg => ?_
  obtain ⟨K, fd, sp, KX, hb, hsp, hF⟩ := F w mg fa _ Y G.T.g hmg
  exact law_call KX G.T.g G.T.b G.T.builtins G.T.nolimit hg hobj hints (Nat.le_trans hlen hn2) hr hF hb (fun H hO hS => hsp H a ns hlen hbits hO hS) fun H e s' ⟨_, _, _, _, _, _, _, _, _, _, _, _, z⟩ => z
end WD
end
section
set_option Elab.async false
set_option linter.all false
set_option maxRecDepth 100000
set_option autoImplicit false
set_option maxHeartbeats 8000000
/-! WPure: plain lemmas for the laws' plain meaning. -/
namespace WD
open PySem PySem.Spec PyProof.Rows L2
theorem getL_set {h : PH} {l : Nat} {xs ys : List PV} (e : getL h l = some ys) : getL (h.set l (.lst xs)) l = some xs := by
  have := getL_lt e
  unfold getL
  rw [List.getElem?_set_self this]
theorem getL_set_ne {h : PH} {l k : Nat} {o : PO} (e : l ≠ k) : getL (h.set l o) k = getL h k := by
  unfold getL
  rw [List.getElem?_set_ne e]
theorem getL_new {h : PH} {xs : List PV} : getL (h ++ [.lst xs]) h.length = some xs := by
  unfold getL
  simp
theorem getL_app {h : PH} {l : Nat} {o : PO} {xs : List PV} (e : getL h l = some xs) : getL (h ++ [o]) l = some xs := by
  have := getL_lt e
  unfold getL at e ⊢
  rw [List.getElem?_append_left this]
  exact e
/-- what stood still stands, but for the locations of W -/
def Fr (S : List Nat) (h h' : PH) : Prop := h.length ≤ h'.length ∧ ∀ l, l < h.length → l ∉ S → h'[l]? = h[l]?
theorem Fr.refl {S : List Nat} {h : PH} : Fr S h h := ⟨Nat.le_refl _, fun _ _ _ => rfl⟩
theorem Fr.trans {S : List Nat} {h h1 h2 : PH} (a : Fr S h h1) (b : Fr S h1 h2) : Fr S h h2 :=
  ⟨Nat.le_trans a.1 b.1, fun l hl hn => (b.2 l (Nat.lt_of_lt_of_le hl a.1) hn).trans (a.2 l hl hn)⟩
theorem Fr.mono {S S' : List Nat} {h h1 : PH} (a : Fr S h h1) (m : ∀ l, l ∈ S → l ∈ S') : Fr S' h h1 := ⟨a.1, fun l hl hn => a.2 l hl fun z => hn (m l z)⟩
theorem Fr.app {S : List Nat} {h : PH} {o : PO} : Fr S h (h ++ [o]) := ⟨by simp, fun l hl _ => List.getElem?_append_left hl⟩
theorem Fr.set {S : List Nat} {h : PH} {l : Nat} {o : PO} (m : l ∈ S) : Fr S h (h.set l o) := ⟨by simp, fun k _ hn => List.getElem?_set_ne fun z => hn (by rw [← z]; exact m)⟩
/-- a place that was not there may be written -/
theorem Fr.setNew {S : List Nat} {h h1 : PH} {l : Nat} {o : PO} (a : Fr S h h1) (m : h.length ≤ l) : Fr S h (h1.set l o) := ⟨by simpa using a.1, fun k hk hn => by rw [List.getElem?_set_ne (by omega)]; exact a.2 k hk hn⟩
theorem Fr.get {S : List Nat} {h h1 : PH} {l : Nat} {xs : List PV} (a : Fr S h h1) (e : getL h l = some xs) (hn : l ∉ S) : getL h1 l = some xs := by
  have := getL_lt e
  unfold getL at e ⊢
  rw [a.2 l this hn]
  exact e
theorem Fr.drop {S S' : List Nat} {h h1 h2 : PH} (a : Fr S h h1) (b : Fr S' h1 h2) (m : ∀ l, l ∈ S' → l ∈ S ∨ h.length ≤ l) : Fr S h h2 :=
  ⟨Nat.le_trans a.1 b.1, fun l hl hn => (b.2 l (Nat.lt_of_lt_of_le hl a.1) fun z => (m l z).elim hn fun y => absurd hl (by omega)).trans (a.2 l hl hn)⟩
/-- a def is called -/
theorem den_call {T : Tab} {n f : Nat} {vs : List PV} {h : PH} {q : QV} {x : QX} {F : Fn} (e : T f = some F) (l : vs.length = F.ps)
    (k : wSs (den T n) F.body { nx := fun _ h' => q .non h', rt := q, ex := fun e _ h' => x e h' } (vs.map some ++ List.replicate (F.ns - F.ps) none) h) : den T (n + 1) f vs h q x := by
  rw [den_succ]
  exact ⟨F, e, l, k⟩
theorem mulX {i j : Int} (h1 : -(2 ^ 64) < i ∧ i < 2 ^ 64) (h2 : -(2 ^ 64) < j ∧ j < 2 ^ 64) : CMulX i j := by
  have a := intBits_le_64 h1.1 h1.2
  have b := intBits_le_64 h2.1 h2.2
  unfold CMulX
  omega
theorem ite_t {b : Bool} {p q : Prop} (h : b = true) (k : p) : if b = true then p else q := by rw [if_pos h]; exact k
theorem ite_f {b : Bool} {p q : Prop} (h : b = false) (k : q) : if b = true then p else q := by rw [if_neg (by rw [h]; exact Bool.false_ne_true)]; exact k
theorem ite_b {b : Bool} {p q : Prop} (k1 : b = true → p) (k2 : b = false → q) : if b = true then p else q := by
  cases h : b with
  | true => exact ite_t rfl (k1 h)
  | false => exact ite_f rfl (k2 h)
end WD
end
section
set_option Elab.async false
set_option maxRecDepth 100000
set_option maxHeartbeats 40000000
set_option linter.all false
namespace WD
open PySem PySem.Spec PyProof.Rows L2
/-- operands_of(script, value) 138: slots 0=script 1=value 2=word 3=operands -/
def ir_p_operands_of : Fn := ⟨2, 4,
  (.cons (.set (.tup [(.slot 2), (.slot 3)]) (.ix (.ix (.var 0) (.int 0)) (.var 1)))
  (.cons (.ret (.ifx (.cmp .Eq (.var 2) (.str "in")) (.tup .nil) (.var 3)))
  .nil))⟩
/-- needed_for(script, values) 139: slots 0=script 1=values 2=needed 3=value 4=operand -/
def ir_p_needed_for : Fn := ⟨2, 5,
  (.cons (.set (.slot 2) (.new (.rep (.l (.disp (.cons (.bl false) .nil))) (.bif .len (.cons (.ix (.var 0) (.int 0)) .nil)))))
  (.cons (.fors (.slot 3) (.la (.e (.var 1)))
    (.cons (.sub (.var 2) (.var 3) (.bl true))
    .nil))
  (.cons (.fors (.slot 3) (.range3 (.bin .Sub (.bif .len (.cons (.ix (.var 0) (.int 0)) .nil)) (.int 1)) (.neg (.int 1)) (.neg (.int 1)))
    (.cons (.ifs (.ix (.var 2) (.var 3))
      (.cons (.fors (.slot 4) (.la (.e (.call 138 (.cons (.var 0) (.cons (.var 3) .nil)))))
        (.cons (.sub (.var 2) (.var 4) (.bl true))
        .nil))
      .nil)
      .nil)
    .nil))
  (.cons (.ret (.lif .tuple (.l (.comp [3] (.var 3) (.slot 3) (.range1 (.bif .len (.cons (.ix (.var 0) (.int 0)) .nil))) (.some (.ix (.var 2) (.var 3)))))))
  .nil))))⟩
/-- needed_values(script) 140: slots 0=script -/
def ir_p_needed_values : Fn := ⟨1, 1,
  (.cons (.ret (.call 139 (.cons (.var 0) (.cons (.ix (.var 0) (.int 2)) .nil))))
  .nil)⟩
/-- distinct(things) 147: slots 0=things 1=found 2=thing -/
def ir_p_distinct : Fn := ⟨1, 3,
  (.cons (.set (.slot 1) (.new (.disp .nil)))
  (.cons (.fors (.slot 2) (.la (.e (.var 0)))
    (.cons (.ifs (.cmp .NotIn (.var 2) (.var 1))
      (.cons (.expr (.mth .append (.var 1) (.cons (.var 2) .nil)))
      .nil)
      .nil)
    .nil))
  (.cons (.ret (.var 1))
  .nil)))⟩
/-- needed_users(script) 83: slots 0=script 1=counts 2=value 3=operand -/
def ir_p_needed_users : Fn := ⟨1, 4,
  (.cons (.set (.slot 1) (.new (.rep (.l (.disp (.cons (.int 0) .nil))) (.bif .len (.cons (.ix (.var 0) (.int 0)) .nil)))))
  (.cons (.fors (.slot 2) (.la (.e (.call 140 (.cons (.var 0) .nil))))
    (.cons (.fors (.slot 3) (.la (.e (.call 147 (.cons (.call 138 (.cons (.var 0) (.cons (.var 2) .nil))) .nil))))
      (.cons (.augS (.var 1) (.var 3) .Add (.int 1))
      .nil))
    .nil))
  (.cons (.ret (.var 1))
  .nil)))⟩
/-- shared_values(script) 84: slots 0=script 1=counts 2=found 3=value -/
def ir_p_shared_values : Fn := ⟨1, 4,
  (.cons (.set (.slot 1) (.call 83 (.cons (.var 0) .nil)))
  (.cons (.set (.slot 2) (.new (.disp .nil)))
  (.cons (.fors (.slot 3) (.la (.e (.call 140 (.cons (.var 0) .nil))))
    (.cons (.ifs (.or (.cmp .Gt (.ix (.var 1) (.var 3)) (.int 1)) (.and (.cmp .Eq (.ix (.var 1) (.var 3)) (.int 1)) (.cmp .In (.var 3) (.ix (.var 0) (.int 2)))))
      (.cons (.expr (.mth .append (.var 2) (.cons (.var 3) .nil)))
      .nil)
      .nil)
    .nil))
  (.cons (.ret (.lif .tuple (.e (.var 2))))
  .nil))))⟩
/-- is_forest(script) 85: slots 0=script -/
def ir_p_is_forest : Fn := ⟨1, 1,
  (.cons (.ret (.cmp .Eq (.call 84 (.cons (.var 0) .nil)) (.tup .nil)))
  .nil)⟩
/-- _law_seed(script) 1000: slots 0=script 1=soil 2=k 3=cell -/
def ir_f_law_seed : Fn := ⟨1, 4,
  (.cons (.set (.slot 1) (.int 33391))
  (.cons (.fors (.tup [(.slot 2), (.slot 3)]) (.enum (.e (.var 0)))
    (.cons (.set (.slot 1) (.bin .Mod (.bin .Add (.bin .Add (.bin .Add (.bin .Mult (.var 1) (.int 9600629759793949)) (.bin .Mod (.bif .int (.cons (.var 3) .nil)) (.int 4611686018427387817))) (.bin .Mult (.int 13) (.var 2))) (.int 1)) (.int 4611686018427387817)))
    .nil))
  (.cons (.ret (.new (.disp (.cons (.var 1) (.cons (.int 0) .nil)))))
  .nil)))⟩
/-- _law_sow(seed, many) 1001: slots 0=seed 1=many -/
def ir_f_law_sow : Fn := ⟨2, 2,
  (.cons (.augS (.var 0) (.int 1) .Add (.int 1))
  (.cons (.sub (.var 0) (.int 0) (.bin .Mod (.bin .Add (.bin .Add (.bin .Mult (.bif .int (.cons (.ix (.var 0) (.int 0)) .nil)) (.int 3202034522624059733)) (.bin .Mult (.ix (.var 0) (.int 1)) (.int 25173))) (.int 8253729091)) (.int 4611686018427387817)))
  (.cons (.ret (.bin .Mod (.bin .FloorDiv (.bif .int (.cons (.ix (.var 0) (.int 0)) .nil)) (.int 2097169)) (.var 1)))
  .nil)))⟩
/-- _law_leaf(k) 1002: slots 0=k -/
def ir_f_law_leaf : Fn := ⟨1, 1,
  (.cons (.ret (.tup (.cons (.str "in") (.cons (.ix (.tup (.cons (.bin .Add (.str "r") (.bif .str (.cons (.var 0) .nil))) (.cons (.bin .Add (.str "out") (.bif .str (.cons (.var 0) .nil))) (.cons (.bin .Add (.bin .Add (.bin .Mult (.bin .Mult (.str "s") (.bif .min2 (.cons (.int 8) (.cons (.bin .Add (.var 0) (.int 1)) .nil)))) (.bif .int (.cons (.cmp .Lt (.var 0) (.int 8)) .nil))) (.str "i")) (.bin .Mult (.bif .str (.cons (.var 0) .nil)) (.bif .int (.cons (.cmp .Gt (.var 0) (.int 7)) .nil)))) .nil)))) (.bin .Mod (.var 0) (.int 3))) .nil))))
  .nil)⟩
/-- _law_word(seed, many) 1003: slots 0=seed 1=many -/
def ir_f_law_word : Fn := ⟨2, 2,
  (.cons (.ifs (.cmp .Eq (.var 1) (.int 1))
    (.cons (.ret (.ix (.tup (.cons (.str "n") (.cons (.str "work1") (.cons (.str "ab") .nil)))) (.call 1001 (.cons (.var 0) (.cons (.int 3) .nil)))))
    .nil)
    .nil)
  (.cons (.ifs (.cmp .Eq (.var 1) (.int 2))
    (.cons (.ret (.ix (.tup (.cons (.str "add") (.cons (.str "nn") (.cons (.str "mul") (.cons (.str "sub") (.cons (.str "funfunfu") .nil)))))) (.call 1001 (.cons (.var 0) (.cons (.int 5) .nil)))))
    .nil)
    .nil)
  (.cons (.ret (.ix (.tup (.cons (.str "nnn") (.cons (.str "repeat0") .nil))) (.call 1001 (.cons (.var 0) (.cons (.int 2) .nil)))))
  .nil)))⟩
/-- _law_wood(seed, many, bare) 1004: slots 0=seed 1=many 2=bare 3=values 4=roots 5=parts 6=k 7=size 8=arity 9=picks 10=slot 11=at -/
def ir_f_law_wood : Fn := ⟨3, 12,
  (.cons (.set (.slot 3) (.new (.disp (.cons (.call 1002 (.cons (.int 0) .nil)) .nil))))
  (.cons (.set (.slot 4) (.new (.disp (.cons (.int 0) .nil))))
  (.cons (.set (.slot 5) (.new (.disp (.cons (.int 1) .nil))))
  (.cons (.fors (.slot 6) (.range2 (.int 1) (.var 1))
    (.cons (.set (.slot 7) (.int 1))
    (.cons (.set (.slot 8) (.bif .min2 (.cons (.bif .len (.cons (.var 4) .nil)) (.cons (.bin .Add (.int 1) (.call 1001 (.cons (.var 0) (.cons (.int 3) .nil)))) .nil))))
    (.cons (.ifs (.cmp .Lt (.call 1001 (.cons (.var 0) (.cons (.int 10) .nil))) (.var 2))
      (.cons (.expr (.mth .append (.var 3) (.cons (.call 1002 (.cons (.var 6) .nil)) .nil)))
      .nil)
      (.cons (.set (.slot 9) (.new (.disp .nil)))
      (.cons (.fors (.slot 10) (.range1 (.var 8))
        (.cons (.expr (.mth .append (.var 9) (.cons (.mth .popAt (.var 4) (.cons (.call 1001 (.cons (.var 0) (.cons (.bif .len (.cons (.var 4) .nil)) .nil))) .nil)) .nil)))
        .nil))
      (.cons (.set (.slot 7) (.bin .Add (.int 1) (.lif .sum (.l (.comp [11] (.ix (.var 5) (.var 11)) (.slot 11) (.la (.e (.var 9))) .no)))))
      (.cons (.ifs (.and (.cmp .Lt (.bif .len (.cons (.var 9) .nil)) (.int 3)) (.and (.cmp .Lt (.var 7) (.int 30)) (.cmp .Eq (.call 1001 (.cons (.var 0) (.cons (.int 3) .nil))) (.int 0))))
        (.cons (.set (.slot 7) (.bin .Add (.var 7) (.ix (.var 5) (.ix (.var 9) (.int 0)))))
        (.cons (.expr (.mth .append (.var 9) (.cons (.ix (.var 9) (.int 0)) .nil)))
        .nil))
        .nil)
      (.cons (.expr (.mth .append (.var 3) (.cons (.tup (.cons (.call 1003 (.cons (.var 0) (.cons (.bif .len (.cons (.var 9) .nil)) .nil))) (.cons (.lif .tuple (.e (.var 9))) .nil))) .nil)))
      .nil))))))
    (.cons (.expr (.mth .append (.var 4) (.cons (.var 6) .nil)))
    (.cons (.expr (.mth .append (.var 5) (.cons (.var 7) .nil)))
    .nil))))))
  (.cons (.ret (.tup (.cons (.var 3) (.cons (.var 4) .nil))))
  .nil)))))⟩
/-- _law_weeds(seed, values, many) 1005: slots 0=seed 1=values 2=many 3=rows 4=k 5=arity 6=picks 7=word 8=value 9=slot -/
def ir_f_law_weeds : Fn := ⟨3, 10,
  (.cons (.set (.slot 3) (.new (.comp [8] (.var 8) (.slot 8) (.la (.e (.var 1))) .no)))
  (.cons (.fors (.slot 4) (.range1 (.var 2))
    (.cons (.set (.slot 5) (.bin .Add (.int 1) (.call 1001 (.cons (.var 0) (.cons (.int 3) .nil)))))
    (.cons (.set (.slot 6) (.lif .tuple (.l (.comp [9] (.call 1001 (.cons (.var 0) (.cons (.bif .len (.cons (.var 1) .nil)) .nil))) (.slot 9) (.range1 (.var 5)) .no))))
    (.cons (.set (.slot 7) (.call 1003 (.cons (.var 0) (.cons (.var 5) .nil))))
    (.cons (.ifs (.cmp .Eq (.lif .len (.l (.comp [8] (.int 1) (.slot 8) (.la (.e (.var 3))) (.some (.and (.cmp .Eq (.ix (.var 8) (.int 0)) (.var 7)) (.cmp .Eq (.ix (.var 8) (.int 1)) (.var 6))))))) (.int 0))
      (.cons (.expr (.mth .append (.var 3) (.cons (.tup (.cons (.var 7) (.cons (.var 6) .nil))) .nil)))
      .nil)
      .nil)
    .nil)))))
  (.cons (.ret (.var 3))
  .nil)))⟩
/-- _law_three(seed, values, outs) 1006: slots 0=seed 1=values 2=outs 3=weights 4=value -/
def ir_f_law_three : Fn := ⟨3, 5,
  (.cons (.set (.slot 3) (.new (.comp [4] (.int 1) (.slot 4) (.la (.e (.var 1))) .no)))
  (.cons (.ifs (.cmp .Eq (.call 1001 (.cons (.var 0) (.cons (.int 2) .nil))) (.int 0))
    (.cons (.set (.slot 3) (.new (.comp [4] (.bin .Add (.int 1) (.call 1001 (.cons (.var 0) (.cons (.int 99) .nil)))) (.slot 4) (.la (.e (.var 1))) .no)))
    .nil)
    .nil)
  (.cons (.ret (.tup (.cons (.lif .tuple (.e (.var 1))) (.cons (.lif .tuple (.e (.var 3))) (.cons (.lif .tuple (.e (.var 2))) .nil)))))
  .nil)))⟩
/-- _law_taken(script) 1007: slots 0=script 1=values 2=marks 3=out 4=counts 5=back 6=number 7=value 8=word 9=operands 10=slot -/
def ir_f_law_taken : Fn := ⟨1, 11,
  (.cons (.set (.slot 1) (.ix (.var 0) (.int 0)))
  (.cons (.set (.slot 2) (.new (.comp [7] (.bl false) (.slot 7) (.la (.e (.var 1))) .no)))
  (.cons (.fors (.slot 3) (.la (.e (.ix (.var 0) (.int 2))))
    (.cons (.sub (.var 2) (.var 3) (.bl true))
    .nil))
  (.cons (.set (.slot 4) (.new (.comp [7] (.int 0) (.slot 7) (.la (.e (.var 1))) .no)))
  (.cons (.fors (.slot 5) (.range1 (.bif .len (.cons (.var 1) .nil)))
    (.cons (.set (.slot 6) (.bin .Sub (.bin .Sub (.bif .len (.cons (.var 1) .nil)) (.int 1)) (.var 5)))
    (.cons (.set (.tup [(.slot 8), (.slot 9)]) (.ix (.var 1) (.var 6)))
    (.cons (.ifs (.and (.ix (.var 2) (.var 6)) (.cmp .NotEq (.var 8) (.str "in")))
      (.cons (.fors (.slot 10) (.range1 (.bif .len (.cons (.var 9) .nil)))
        (.cons (.sub (.var 2) (.ix (.var 9) (.var 10)) (.bl true))
        (.cons (.ifs (.cmp .NotIn (.ix (.var 9) (.var 10)) (.sl (.var 9) .no (.some (.var 10))))
          (.cons (.augS (.var 4) (.ix (.var 9) (.var 10)) .Add (.int 1))
          .nil)
          .nil)
        .nil)))
      .nil)
      .nil)
    .nil))))
  (.cons (.ret (.tup (.cons (.var 2) (.cons (.var 4) .nil))))
  .nil))))))⟩
/-- _law_shared(script) 1008: slots 0=script 1=rows 2=number 3=marks 4=counts -/
def ir_f_law_shared : Fn := ⟨1, 5,
  (.cons (.set (.tup [(.slot 3), (.slot 4)]) (.call 1007 (.cons (.var 0) .nil)))
  (.cons (.set (.slot 1) (.new (.disp .nil)))
  (.cons (.fors (.slot 2) (.range1 (.bif .len (.cons (.var 3) .nil)))
    (.cons (.ifs (.and (.ix (.var 3) (.var 2)) (.cmp .Gt (.bin .Add (.ix (.var 4) (.var 2)) (.bif .int (.cons (.and (.cmp .In (.var 2) (.ix (.var 0) (.int 2))) (.cmp .Gt (.ix (.var 4) (.var 2)) (.int 0))) .nil))) (.int 1)))
      (.cons (.expr (.mth .append (.var 1) (.cons (.var 2) .nil)))
      .nil)
      .nil)
    .nil))
  (.cons (.ret (.var 1))
  .nil))))⟩
/-- _law_asked(script, tally) 1009: slots 0=script 1=tally 2=due 3=told 4=k 5=forest -/
def ir_f_law_asked : Fn := ⟨2, 6,
  (.cons (.set (.slot 2) (.call 1008 (.cons (.var 0) .nil)))
  (.cons (.set (.slot 3) (.call 84 (.cons (.var 0) .nil)))
  (.cons (.ifs (.or (.not (.bif (.isT "tuple") (.cons (.var 3) .nil))) (.cmp .NotEq (.bif .len (.cons (.var 3) .nil)) (.bif .len (.cons (.var 2) .nil))))
    (.cons (.ret (.bl false))
    .nil)
    .nil)
  (.cons (.fors (.slot 4) (.range1 (.bif .len (.cons (.var 2) .nil)))
    (.cons (.ifs (.or (.not (.bif (.isT "int") (.cons (.ix (.var 3) (.var 4)) .nil))) (.or (.bif (.isT "bool") (.cons (.ix (.var 3) (.var 4)) .nil)) (.cmp .NotEq (.ix (.var 3) (.var 4)) (.ix (.var 2) (.var 4)))))
      (.cons (.ret (.bl false))
      .nil)
      .nil)
    .nil))
  (.cons (.augS (.var 1) (.bif .int (.cons (.cmp .Eq (.bif .len (.cons (.var 2) .nil)) (.int 0)) .nil)) .Add (.int 1))
  (.cons (.set (.slot 5) (.call 85 (.cons (.var 0) .nil)))
  (.cons (.ret (.and (.bif (.isT "bool") (.cons (.var 5) .nil)) (.cmp .Eq (.var 5) (.cmp .Eq (.bif .len (.cons (.var 2) .nil)) (.int 0)))))
  .nil)))))))⟩
/-- _law_bent(seed, values, outs) 1010: slots 0=seed 1=values 2=outs 3=inner 4=needed 5=rows 6=marks 7=counts 8=one 9=place 10=other 11=k -/
def ir_f_law_bent : Fn := ⟨3, 12,
  (.cons (.set (.tup [(.slot 6), (.slot 7)]) (.call 1007 (.cons (.tup (.cons (.lif .tuple (.e (.var 1))) (.cons (.tup .nil) (.cons (.lif .tuple (.e (.var 2))) .nil)))) .nil)))
  (.cons (.set (.slot 3) (.new (.comp [11] (.var 11) (.slot 11) (.range1 (.bif .len (.cons (.var 1) .nil))) (.some (.and (.ix (.var 6) (.var 11)) (.cmp .Gt (.ix (.var 7) (.var 11)) (.int 0)))))))
  (.cons (.set (.slot 4) (.new (.comp [11] (.var 11) (.slot 11) (.range1 (.bif .len (.cons (.var 1) .nil))) (.some (.ix (.var 6) (.var 11))))))
  (.cons (.set (.slot 5) (.new (.disp .nil)))
  (.cons (.ifs (.cmp .Gt (.bif .len (.cons (.var 3) .nil)) (.int 0))
    (.cons (.set (.slot 8) (.ix (.var 3) (.bin .Sub (.bif .len (.cons (.var 3) .nil)) (.int 1))))
    (.cons (.ifs (.cmp .Eq (.call 1001 (.cons (.var 0) (.cons (.int 2) .nil))) (.int 0))
      (.cons (.set (.slot 8) (.ix (.var 3) (.call 1001 (.cons (.var 0) (.cons (.bif .len (.cons (.var 3) .nil)) .nil)))))
      .nil)
      .nil)
    (.cons (.set (.slot 9) (.call 1001 (.cons (.var 0) (.cons (.bin .Add (.bif .len (.cons (.var 2) .nil)) (.int 1)) .nil))))
    (.cons (.expr (.mth .append (.var 5) (.cons (.tup (.cons (.var 1) (.cons (.new (.cat (.l (.cat (.e (.sl (.var 2) .no (.some (.var 9)))) (.l (.disp (.cons (.var 8) .nil))))) (.e (.sl (.var 2) (.some (.var 9)) .no)))) .nil))) .nil)))
    .nil))))
    .nil)
  (.cons (.ifs (.and (.cmp .Gt (.bif .len (.cons (.var 4) .nil)) (.int 0)) (.cmp .Lt (.bif .len (.cons (.var 1) .nil)) (.int 100)))
    (.cons (.set (.slot 8) (.ix (.var 4) (.call 1001 (.cons (.var 0) (.cons (.bif .len (.cons (.var 4) .nil)) .nil)))))
    (.cons (.set (.slot 10) (.ix (.var 4) (.call 1001 (.cons (.var 0) (.cons (.bif .len (.cons (.var 4) .nil)) .nil)))))
    (.cons (.expr (.mth .append (.var 5) (.cons (.tup (.cons (.new (.cat (.e (.var 1)) (.l (.disp (.cons (.tup (.cons (.str "twice") (.cons (.tup (.cons (.var 8) (.cons (.var 10) .nil))) .nil))) .nil))))) (.cons (.new (.cat (.e (.var 2)) (.l (.disp (.cons (.bif .len (.cons (.var 1) .nil)) .nil))))) .nil))) .nil)))
    (.cons (.expr (.mth .append (.var 5) (.cons (.tup (.cons (.new (.cat (.e (.var 1)) (.l (.disp (.cons (.tup (.cons (.str "twice") (.cons (.tup (.cons (.var 8) (.cons (.var 10) .nil))) .nil))) .nil))))) (.cons (.var 2) .nil))) .nil)))
    .nil))))
    .nil)
  (.cons (.ret (.var 5))
  .nil)))))))⟩
/-- _law_grown(seed, many, bare, most, weeds) 1011: slots 0=seed 1=many 2=bare 3=most 4=weeds 5=ends 6=rows 7=values 8=roots 9=root 10=k -/
def ir_f_law_grown : Fn := ⟨5, 11,
  (.cons (.set (.tup [(.slot 7), (.slot 8)]) (.call 1004 (.cons (.var 0) (.cons (.var 1) (.cons (.var 2) .nil)))))
  (.cons (.set (.slot 5) (.new (.cut (.l (.comp [9] (.var 9) (.slot 9) (.la (.e (.var 8))) (.some (.cmp .Gt (.call 1001 (.cons (.var 0) (.cons (.int 8) .nil))) (.int 0))))) .no (.some (.var 3)))))
  (.cons (.ifs (.and (.cmp .Gt (.bif .len (.cons (.var 5) .nil)) (.int 0)) (.and (.cmp .Lt (.bif .len (.cons (.var 5) .nil)) (.var 3)) (.cmp .Eq (.call 1001 (.cons (.var 0) (.cons (.int 3) .nil))) (.int 0))))
    (.cons (.expr (.mth .append (.var 5) (.cons (.ix (.var 5) (.call 1001 (.cons (.var 0) (.cons (.bif .len (.cons (.var 5) .nil)) .nil)))) .nil)))
    .nil)
    .nil)
  (.cons (.ifs (.cmp .Eq (.call 1001 (.cons (.var 0) (.cons (.int 2) .nil))) (.int 0))
    (.cons (.set (.slot 5) (.new (.comp [10] (.ix (.var 5) (.bin .Sub (.bin .Sub (.bif .len (.cons (.var 5) .nil)) (.int 1)) (.var 10))) (.slot 10) (.range1 (.bif .len (.cons (.var 5) .nil))) .no)))
    .nil)
    .nil)
  (.cons (.set (.slot 6) (.call 1005 (.cons (.var 0) (.cons (.var 7) (.cons (.var 4) .nil)))))
  (.cons (.ret (.tup (.cons (.var 6) (.cons (.var 5) .nil))))
  .nil))))))⟩
/-- _law_mesh(seed, many) 1012: slots 0=seed 1=many 2=values 3=parts 4=k 5=picks 6=word 7=total 8=known 9=slot 10=at 11=value -/
def ir_f_law_mesh : Fn := ⟨2, 12,
  (.cons (.set (.slot 2) (.new (.disp (.cons (.call 1002 (.cons (.int 0) .nil)) (.cons (.call 1002 (.cons (.int 1) .nil)) .nil)))))
  (.cons (.set (.slot 3) (.new (.disp (.cons (.int 1) (.cons (.int 1) .nil)))))
  (.cons (.fors (.slot 4) (.range2 (.int 2) (.var 1))
    (.cons (.set (.slot 5) (.new (.comp [9] (.call 1001 (.cons (.var 0) (.cons (.var 4) .nil))) (.slot 9) (.range1 (.bin .Add (.int 1) (.call 1001 (.cons (.var 0) (.cons (.int 3) .nil))))) .no)))
    (.cons (.set (.slot 6) (.call 1003 (.cons (.var 0) (.cons (.bif .len (.cons (.var 5) .nil)) .nil))))
    (.cons (.set (.slot 7) (.bin .Add (.int 1) (.lif .sum (.l (.comp [10] (.ix (.var 3) (.var 10)) (.slot 10) (.la (.e (.var 5))) .no)))))
    (.cons (.set (.slot 8) (.cmp .Gt (.lif .len (.l (.comp [11] (.int 1) (.slot 11) (.la (.e (.var 2))) (.some (.and (.cmp .Eq (.ix (.var 11) (.int 0)) (.var 6)) (.cmp .Eq (.ix (.var 11) (.int 1)) (.lif .tuple (.e (.var 5))))))))) (.int 0)))
    (.cons (.ifs (.or (.var 8) (.or (.cmp .Gt (.var 7) (.int 200)) (.cmp .Eq (.call 1001 (.cons (.var 0) (.cons (.int 4) .nil))) (.int 0))))
      (.cons (.expr (.mth .append (.var 2) (.cons (.call 1002 (.cons (.var 4) .nil)) .nil)))
      (.cons (.expr (.mth .append (.var 3) (.cons (.int 1) .nil)))
      .nil))
      (.cons (.expr (.mth .append (.var 2) (.cons (.tup (.cons (.var 6) (.cons (.lif .tuple (.e (.var 5))) .nil))) .nil)))
      (.cons (.expr (.mth .append (.var 3) (.cons (.var 7) .nil)))
      .nil)))
    .nil))))))
  (.cons (.ret (.var 2))
  .nil))))⟩
/-- _law_hand(seed) 1013: slots 0=seed 1=base 2=outs -/
def ir_f_law_hand : Fn := ⟨1, 3,
  (.cons (.set (.slot 1) (.new (.disp (.cons (.tup (.cons (.str "in") (.cons (.str "r") .nil))) (.cons (.tup (.cons (.str "in") (.cons (.str "q") .nil))) (.cons (.tup (.cons (.str "n") (.cons (.tup (.cons (.int 0) .nil)) .nil))) (.cons (.tup (.cons (.str "nn") (.cons (.tup (.cons (.int 2) (.cons (.int 2) .nil))) .nil))) (.cons (.tup (.cons (.str "n") (.cons (.tup (.cons (.int 2) .nil)) .nil))) (.cons (.tup (.cons (.str "nn") (.cons (.tup (.cons (.int 1) (.cons (.int 3) .nil))) .nil))) (.cons (.tup (.cons (.str "n") (.cons (.tup (.cons (.int 5) .nil)) .nil))) (.cons (.tup (.cons (.str "mul") (.cons (.tup (.cons (.int 6) (.cons (.int 4) .nil))) .nil))) .nil)))))))))))
  (.cons (.set (.slot 2) (.tup (.cons (.new (.disp (.cons (.int 5) .nil))) (.cons (.new (.disp (.cons (.int 3) .nil))) (.cons (.new (.disp (.cons (.int 3) (.cons (.int 3) .nil)))) (.cons (.new (.disp (.cons (.int 5) (.cons (.int 4) .nil)))) (.cons (.new (.disp (.cons (.int 5) (.cons (.int 3) .nil)))) (.cons (.new (.disp (.cons (.int 7) .nil))) (.cons (.new (.disp (.cons (.int 4) .nil))) (.cons (.new (.disp (.cons (.int 1) (.cons (.int 5) .nil)))) (.cons (.new (.disp (.cons (.int 6) (.cons (.int 5) .nil)))) (.cons (.new (.disp (.cons (.int 0) .nil))) (.cons (.new (.disp .nil)) (.cons (.new (.disp (.cons (.int 1) (.cons (.int 1) (.cons (.int 3) .nil))))) .nil))))))))))))))
  (.cons (.ret (.tup (.cons (.var 1) (.cons (.ix (.var 2) (.call 1001 (.cons (.var 0) (.cons (.bif .len (.cons (.var 2) .nil)) .nil)))) .nil))))
  .nil)))⟩
/-- law(script) 1014: slots 0=script 1=seed 2=tally 3=first 4=scripts 5=k 6=base 7=outs 8=values 9=ends 10=slot -/
def ir_p_law : Fn := ⟨1, 11,
  (.cons (.set (.slot 1) (.call 1000 (.cons (.var 0) .nil)))
  (.cons (.set (.slot 2) (.new (.disp (.cons (.int 0) (.cons (.int 0) .nil)))))
  (.cons (.set (.tup [(.slot 6), (.slot 7)]) (.call 1013 (.cons (.var 1) .nil)))
  (.cons (.set (.slot 3) (.call 1006 (.cons (.var 1) (.cons (.var 6) (.cons (.new (.disp (.cons (.int 5) .nil))) .nil)))))
  (.cons (.ifs (.or (.not (.call 1009 (.cons (.var 3) (.cons (.var 2) .nil)))) (.not (.call 1009 (.cons (.call 1006 (.cons (.var 1) (.cons (.var 6) (.cons (.var 7) .nil)))) (.cons (.var 2) .nil)))))
    (.cons (.ret (.bl false))
    .nil)
    .nil)
  (.cons (.ifs (.or (.not (.call 1009 (.cons (.call 1006 (.cons (.var 1) (.cons (.var 6) (.cons (.new (.disp (.cons (.int 7) .nil))) .nil)))) (.cons (.var 2) .nil)))) (.not (.call 1009 (.cons (.tup (.cons (.tup .nil) (.cons (.tup .nil) (.cons (.tup .nil) .nil)))) (.cons (.var 2) .nil)))))
    (.cons (.ret (.bl false))
    .nil)
    .nil)
  (.cons (.set (.slot 4) (.new (.disp .nil)))
  (.cons (.fors (.slot 5) (.range1 (.int 3))
    (.cons (.set (.tup [(.slot 8), (.slot 9)]) (.call 1011 (.cons (.var 1) (.cons (.bin .Add (.int 1) (.call 1001 (.cons (.var 1) (.cons (.int 10) .nil)))) (.cons (.bin .Add (.int 2) (.bin .Mult (.int 2) (.var 5))) (.cons (.int 6) (.cons (.var 5) .nil)))))))
    (.cons (.expr (.mth .append (.var 4) (.cons (.tup (.cons (.var 8) (.cons (.var 9) .nil))) .nil)))
    (.cons (.expr (.ext (.var 4) (.e (.call 1010 (.cons (.var 1) (.cons (.var 8) (.cons (.var 9) .nil)))))))
    .nil))))
  (.cons (.fors (.slot 5) (.range1 (.int 2))
    (.cons (.set (.slot 8) (.call 1012 (.cons (.var 1) (.cons (.bin .Add (.int 2) (.call 1001 (.cons (.var 1) (.cons (.int 9) .nil)))) .nil))))
    (.cons (.set (.slot 9) (.new (.comp [10] (.call 1001 (.cons (.var 1) (.cons (.bif .len (.cons (.var 8) .nil)) .nil))) (.slot 10) (.range1 (.call 1001 (.cons (.var 1) (.cons (.int 4) .nil)))) .no)))
    (.cons (.expr (.mth .append (.var 4) (.cons (.tup (.cons (.var 8) (.cons (.var 9) .nil))) .nil)))
    .nil))))
  (.cons (.ifs (.cmp .Eq (.call 1001 (.cons (.var 1) (.cons (.int 7) .nil))) (.int 1))
    (.cons (.set (.tup [(.slot 8), (.slot 9)]) (.call 1011 (.cons (.var 1) (.cons (.bin .Add (.int 90) (.call 1001 (.cons (.var 1) (.cons (.int 6) .nil)))) (.cons (.int 5) (.cons (.int 39) (.cons (.int 4) .nil)))))))
    (.cons (.expr (.mth .append (.var 4) (.cons (.tup (.cons (.var 8) (.cons (.var 9) .nil))) .nil)))
    (.cons (.expr (.ext (.var 4) (.e (.call 1010 (.cons (.var 1) (.cons (.var 8) (.cons (.var 9) .nil)))))))
    .nil)))
    .nil)
  (.cons (.fors (.tup [(.slot 8), (.slot 9)]) (.la (.e (.var 4)))
    (.cons (.ifs (.not (.call 1009 (.cons (.call 1006 (.cons (.var 1) (.cons (.var 8) (.cons (.var 9) .nil)))) (.cons (.var 2) .nil))))
      (.cons (.ret (.bl false))
      .nil)
      .nil)
    .nil))
  (.cons (.ifs (.or (.not (.call 1009 (.cons (.tup (.cons (.ix (.var 3) (.int 0)) (.cons (.ix (.var 3) (.int 1)) (.cons (.tup (.cons (.int 5) (.cons (.int 4) .nil))) .nil)))) (.cons (.var 2) .nil)))) (.not (.call 1009 (.cons (.var 3) (.cons (.var 2) .nil)))))
    (.cons (.ret (.bl false))
    .nil)
    .nil)
  (.cons (.ret (.and (.cmp .Gt (.ix (.var 2) (.int 0)) (.int 0)) (.cmp .Gt (.ix (.var 2) (.int 1)) (.int 0))))
  .nil)))))))))))))⟩
abbrev fr : List PySem.Str := ["len", "int", "str", "abs", "bool", "min", "max", "tuple", "list", "sum", "all", "any", "range", "enumerate", "isinstance", "zip", "reversed", "sorted", "dict", "set", "type", "print", "ValueError"]
def top (i : Nat) : PySem.Stmt := PySem.Challenge.pw_whateverdrops_k12_forests.main.body.getD i (.Pass ⟨0, 0, 0, 0⟩)
def de_p_operands_of : DE := ⟨"operands_of", top 1, ["script", "value", "word", "operands"], ["script", "value"], ir_p_operands_of⟩
def de_p_needed_for : DE := ⟨"needed_for", top 2, ["script", "values", "needed", "value", "operand"], ["script", "values"], ir_p_needed_for⟩
def de_p_needed_values : DE := ⟨"needed_values", top 3, ["script"], ["script"], ir_p_needed_values⟩
def de_p_distinct : DE := ⟨"distinct", top 5, ["things", "found", "thing"], ["things"], ir_p_distinct⟩
def de_p_needed_users : DE := ⟨"needed_users", top 7, ["script", "counts", "value", "operand"], ["script"], ir_p_needed_users⟩
def de_p_shared_values : DE := ⟨"shared_values", top 8, ["script", "counts", "found", "value"], ["script"], ir_p_shared_values⟩
def de_p_is_forest : DE := ⟨"is_forest", top 9, ["script"], ["script"], ir_p_is_forest⟩
def de_f_law_seed : DE := ⟨"_law_seed", top 11, ["script", "soil", "k", "cell"], ["script"], ir_f_law_seed⟩
def de_f_law_sow : DE := ⟨"_law_sow", top 12, ["seed", "many"], ["seed", "many"], ir_f_law_sow⟩
def de_f_law_leaf : DE := ⟨"_law_leaf", top 13, ["k"], ["k"], ir_f_law_leaf⟩
def de_f_law_word : DE := ⟨"_law_word", top 14, ["seed", "many"], ["seed", "many"], ir_f_law_word⟩
def de_f_law_wood : DE := ⟨"_law_wood", top 15, ["seed", "many", "bare", "values", "roots", "parts", "k", "size", "arity", "picks", "slot", "at"], ["seed", "many", "bare"], ir_f_law_wood⟩
def de_f_law_weeds : DE := ⟨"_law_weeds", top 16, ["seed", "values", "many", "rows", "k", "arity", "picks", "word", "value", "slot"], ["seed", "values", "many"], ir_f_law_weeds⟩
def de_f_law_three : DE := ⟨"_law_three", top 17, ["seed", "values", "outs", "weights", "value"], ["seed", "values", "outs"], ir_f_law_three⟩
def de_f_law_taken : DE := ⟨"_law_taken", top 18, ["script", "values", "marks", "out", "counts", "back", "number", "value", "word", "operands", "slot"], ["script"], ir_f_law_taken⟩
def de_f_law_shared : DE := ⟨"_law_shared", top 19, ["script", "rows", "number", "marks", "counts"], ["script"], ir_f_law_shared⟩
def de_f_law_asked : DE := ⟨"_law_asked", top 20, ["script", "tally", "due", "told", "k", "forest"], ["script", "tally"], ir_f_law_asked⟩
def de_f_law_bent : DE := ⟨"_law_bent", top 21, ["seed", "values", "outs", "inner", "needed", "rows", "marks", "counts", "one", "place", "other", "k"], ["seed", "values", "outs"], ir_f_law_bent⟩
def de_f_law_grown : DE := ⟨"_law_grown", top 22, ["seed", "many", "bare", "most", "weeds", "ends", "rows", "values", "roots", "root", "k"], ["seed", "many", "bare", "most", "weeds"], ir_f_law_grown⟩
def de_f_law_mesh : DE := ⟨"_law_mesh", top 23, ["seed", "many", "values", "parts", "k", "picks", "word", "total", "known", "slot", "at", "value"], ["seed", "many"], ir_f_law_mesh⟩
def de_f_law_hand : DE := ⟨"_law_hand", top 24, ["seed", "base", "outs"], ["seed"], ir_f_law_hand⟩
def de_p_law : DE := ⟨"law", top 25, ["script", "seed", "tally", "first", "scripts", "k", "base", "outs", "values", "ends", "slot"], ["script"], ir_p_law⟩
def ds : List (Nat × DE) := [(138, de_p_operands_of), (139, de_p_needed_for), (140, de_p_needed_values), (147, de_p_distinct), (83, de_p_needed_users), (84, de_p_shared_values), (85, de_p_is_forest), (1000, de_f_law_seed), (1001, de_f_law_sow), (1002, de_f_law_leaf), (1003, de_f_law_word), (1004, de_f_law_wood), (1005, de_f_law_weeds), (1006, de_f_law_three), (1007, de_f_law_taken), (1008, de_f_law_shared), (1009, de_f_law_asked), (1010, de_f_law_bent), (1011, de_f_law_grown), (1012, de_f_law_mesh), (1013, de_f_law_hand), (1014, de_p_law)]
end WD
end
section
set_option Elab.async false
set_option linter.all false
set_option maxRecDepth 100000
set_option autoImplicit false
set_option maxHeartbeats 8000000
namespace WD
open PySem PySem.Spec PyProof.Rows L2
abbrev TT12 : Tab := tabOf ds
theorem sow_ok {n l : Nat} {s c many : Int} {h : PH} {q : QV} {x : QX} (hl : getL h l = some [.int s, .int c]) (hs : 0 ≤ s ∧ s < 2 ^ 62) (hc : 0 ≤ c ∧ c < 2 ^ 62) (hm : 0 < many) (hm2 : many < 2 ^ 62)
    (k : ∀ r s' h', 0 ≤ r → r < many → 0 ≤ s' → s' < 2 ^ 62 → getL h' l = some [.int s', .int (c + 1)] → Fr [l] h h' → q (.int r) h') : den TT12 (n + 1) 1001 [.loc l, .int many] h q x := by
  refine den_call (F := ir_f_law_sow) (by rfl) rfl ?_
  refine ⟨_, rfl, _, _, _, _, _, rfl, rfl, hl, rfl, rfl, _, _, _, _, rfl, hl, rfl, rfl, ?_⟩
  have h1 := getL_set (xs := [.int s, .int (c + 1)]) hl
  refine ⟨_, rfl, _, _, _, _, rfl, h1, rfl, rfl, _, _, rfl, rfl, mulX (by omega) (by omega), _, rfl, _, _, _, _, rfl, h1, rfl, rfl, mulX (by omega) (by omega), by omega, _, rfl, _, _, _, _, rfl, h1, rfl, rfl, ?_⟩
  have h2 := getL_set (xs := [.int ((s * 3202034522624059733 + (c + 1) * 25173 + 8253729091) % 4611686018427387817), .int (c + 1)]) h1
  refine ⟨_, rfl, _, _, _, _, rfl, h2, rfl, rfl, _, _, rfl, rfl, ⟨by decide, by decide +kernel⟩, _, rfl, hm, ?_⟩
  exact k _ _ _ (Int.emod_nonneg _ (by omega)) (Int.emod_lt_of_pos _ hm) (by omega) (by omega) h2 ((Fr.set (List.mem_singleton.mpr rfl)).trans (Fr.set (List.mem_singleton.mpr rfl)))
end WD
end
section
set_option Elab.async false
set_option linter.all false
set_option maxRecDepth 100000
set_option autoImplicit false
set_option maxHeartbeats 8000000
namespace WD
open PySem PySem.Spec PyProof.Rows L2
inductive Vl where
  | inp (s : Str)
  | wk (w : Str) (o : List Nat)
abbrev ni (i : Nat) : PV := .int (i : Int)
def Vl.ops : Vl → List Nat
  | .inp _ => []
  | .wk _ o => o
def Vl.enc : Vl → PV
  | .inp s => .tup [.str "in", .str s]
  | .wk w o => .tup [.str w, .tup (o.map ni)]
/-- well-formed values -/
def Vl.ok (i : Nat) : Vl → Prop
  | .inp _ => True
  | .wk w o => w ≠ ("in" : Str) ∧ ∀ x, x ∈ o → x < i
def WF (vs : List Vl) : Prop := ∀ (i : Nat) (v : Vl), vs[i]? = some v → v.ok i
def scr (vs : List Vl) (W : PV) (outs : List Nat) : PV := .tup [.tup (vs.map Vl.enc), W, .tup (outs.map ni)]
theorem ixP_nat {i n : Nat} (h : i < n) : ixP n (i : Int) = some i := by
  unfold ixP
  rw [if_pos (by omega), if_pos (by omega)]
  simp
theorem enc_get {vs : List Vl} {i : Nat} {v : Vl} (h : vs[i]? = some v) : (vs.map Vl.enc)[i]? = some v.enc := by simp [h]
theorem operands_ok {n i : Nat} {vs : List Vl} {v : Vl} {W : PV} {outs : List Nat} {h : PH} {q : QV} {x : QX} (hw : WF vs) (hv : vs[i]? = some v) (k : q (.tup (v.ops.map ni)) h) : den TT12 (n + 1) 138 [scr vs W outs, ni i] h q x := by
  have hi : i < (vs.map Vl.enc).length := by rw [List.length_map]; exact (List.getElem?_eq_some_iff.mp hv).1
  have hok := hw i v hv
  refine den_call (F := ir_p_operands_of) (by rfl) rfl ?_
  refine ⟨_, rfl, _, _, _, _, rfl, rfl, rfl, rfl, _, rfl, _, _, _, _, rfl, rfl, ixP_nat hi, enc_get hv, ?_⟩
  cases v with
  | inp s =>
    refine ⟨_, rfl, _, _, rfl, _, _, rfl, rfl, _, rfl, .inl ⟨rfl, ?_⟩⟩
    exact ite_t (by decide +kernel) ⟨Nat.zero_le _, k⟩
  | wk w o =>
    refine ⟨_, rfl, _, _, rfl, _, _, rfl, rfl, _, rfl, .inl ⟨rfl, ?_⟩⟩
    exact ite_f (decide_eq_false fun z => hok.1 (by cases z; rfl)) ⟨_, rfl, k⟩
/-! ### marks -/
def mark (m : List Bool) (xs : List Nat) : List Bool := xs.foldl (fun m o => m.set o true) m
theorem mark_len {xs : List Nat} : ∀ {m : List Bool}, (mark m xs).length = m.length := by
  induction xs with
  | nil => intro m; rfl
  | cons a r ih => intro m; show (mark (m.set a true) r).length = _; rw [ih]; simp
theorem map_set {α β : Type} (f : α → β) : ∀ (xs : List α) (i : Nat) (a : α), (xs.set i a).map f = (xs.map f).set i (f a)
  | [], _, _ => rfl
  | _ :: _, 0, _ => rfl
  | x :: r, i + 1, a => by simp [map_set f r i a]
/-- a loop that marks -/
theorem mark_loop {Φ : Phi} {κ : KS} {g : PH → Prop} {a b l : Nat} {ς0 : PSt} (hab : a ≠ b) (ha : ς0[a]? = some (some (.loc l))) (hb : b < ς0.length) : ∀ (xs : List Nat) (m : List Bool) (u : Option PV) (h : PH), getL h l = some (m.map .bl) → (∀ x, x ∈ xs → x < m.length) → (∀ h', (∀ k, k ≠ l → getL h' k = getL h k) → g h') → g h →
    (∀ (u : Option PV), κ.nx (ς0.set b u) (h.set l (.lst ((mark m xs).map .bl)))) →
    forW g (.slot b) (wSs Φ (.cons (.sub (.var a) (.var b) (.bl true)) .nil)) κ (xs.map ni) (ς0.set b u) h
  | [], m, u, h, hl, hx, hg, g0, k => by
    refine ⟨g0, ?_⟩
    have e : h.set l (.lst (m.map .bl)) = h := by
      have := getL_some hl
      apply List.ext_getElem?
      intro j
      by_cases z : l = j
      · subst z
        rw [List.getElem?_set_self (getL_lt hl), this]
      · rw [List.getElem?_set_ne z]
    have := k u
    rwa [show mark m [] = m from rfl, e] at this
  | y :: r, m, u, h, hl, hx, hg, g0, k => by
    have hy := hx y (by simp)
    refine ⟨g0, ?_⟩
    have s1 : ((ς0.set b u).set b (some (ni y)))[a]? = some (some (.loc l)) := by rw [List.getElem?_set_ne hab.symm, List.getElem?_set_ne hab.symm]; exact ha
    have s2 : ((ς0.set b u).set b (some (ni y)))[b]? = some (some (ni y)) := by rw [List.getElem?_set_self (by simpa using hb)]
    refine ⟨_, s1, _, s2, l, _, _, _, rfl, hl, rfl, ixP_nat (by simpa using hy), ?_⟩
    have e1 : (m.map PV.bl).set y (.bl true) = (m.set y true).map PV.bl := (map_set _ _ _ _).symm
    rw [e1, List.set_set]
    have hl2 : getL (h.set l (.lst ((m.set y true).map .bl))) l = some ((m.set y true).map .bl) := getL_set hl
    refine mark_loop hab ha hb r (m.set y true) (some (ni y)) _ hl2 (fun x z => by simpa using hx x (by simp [z])) (fun h' z => hg h' fun k hk => (z k hk).trans (getL_set_ne (Ne.symm hk))) (hg _ fun k hk => getL_set_ne (Ne.symm hk)) fun u' => ?_
    have := k u'
    rw [List.set_set]
    exact this
end WD
end
section
set_option Elab.async false
set_option linter.all false
set_option maxRecDepth 100000
set_option autoImplicit false
set_option pp.maxSteps 400
set_option maxHeartbeats 8000000
namespace WD
open PySem PySem.Spec PyProof.Rows L2
theorem sz {n : Nat} (h : n ≤ 100000) : n ≤ sizeLine := Nat.le_trans h (by decide)
theorem rep_one (n : Nat) (v : PV) : (List.replicate n [v]).flatten = List.replicate n v := by
  induction n with
  | zero => rfl
  | succ n ih => rw [List.replicate_succ, List.flatten_cons, ih]; rfl
theorem rangeL_map : ∀ (n : Nat) (k : Nat), rangeL (k : Int) n = (List.range' k n).map ni
  | 0, _ => rfl
  | n + 1, k => by
    rw [List.range'_succ]
    show PV.int (k : Int) :: rangeL ((k : Int) + 1) n = _
    have : (k : Int) + 1 = ((k + 1 : Nat) : Int) := by omega
    rw [this, rangeL_map n (k + 1)]
    rfl
theorem rangeL0 (n : Nat) : rangeL 0 n = (List.range n).map ni := by
  rw [List.range_eq_range']
  exact rangeL_map n 0
theorem rangeC_down (k : Nat) : rangeC (((k + 1 : Nat) : Int) - 1) (-1) (k + 1) = ni k :: rangeC ((k : Int) - 1) (-1) k := by
  show PV.int (((k + 1 : Nat) : Int) - 1) :: rangeC ((((k + 1 : Nat) : Int) - 1) + -1) (-1) k = _
  have e1 : ((k + 1 : Nat) : Int) - 1 = (k : Int) := by omega
  rw [e1]
  rfl
/-- the marks, downwards -/
def step (vs : List Vl) (m : List Bool) (i : Nat) : List Bool := if m[i]? = some true then mark m ((vs[i]?.map Vl.ops).getD []) else m
def down (vs : List Vl) : Nat → List Bool → List Bool
  | 0, m => m
  | k + 1, m => down vs k (step vs m k)
theorem step_len {vs : List Vl} {m : List Bool} {i : Nat} : (step vs m i).length = m.length := by
  unfold step
  split
  · exact mark_len
  · rfl
theorem down_len {vs : List Vl} : ∀ {k : Nat} {m : List Bool}, (down vs k m).length = m.length
  | 0, _ => rfl
  | k + 1, m => by
    show (down vs k (step vs m k)).length = _
    rw [down_len, step_len]
def marks (vs : List Vl) (xs : List Nat) : List Bool := down vs vs.length (mark (List.replicate vs.length false) xs)
theorem marks_len {vs : List Vl} {xs : List Nat} : (marks vs xs).length = vs.length := by
  unfold marks
  rw [down_len, mark_len, List.length_replicate]
def isIn (m : List Bool) (i : Nat) : Bool := (m[i]?).getD false
def need (vs : List Vl) (xs : List Nat) : List Nat := (List.range vs.length).filter (isIn (marks vs xs))
theorem isIn_get {m : List Bool} {i : Nat} (h : i < m.length) : (m.map PV.bl)[i]? = some (.bl (isIn m i)) := by
  unfold isIn
  simp [h]
theorem filt_loop {Φ : Phi} {X : QX} {a b l : Nat} {ς : PSt} {h : PH} {m : List Bool} {q : List PV → PH → Prop} (hab : a ≠ b) (ha : ς[a]? = some (some (.loc l))) (hb : b < ς.length) (hl : getL h l = some (m.map .bl)) : ∀ (xs acc : List Nat), (∀ x, x ∈ xs → x < m.length) → acc.length + xs.length ≤ 10000 →
    q ((acc ++ xs.filter (isIn m)).map ni) h → compW (fun _ => True) (.slot b) ς (wC Φ (.some (.ix (.var a) (.var b))) X) (wE Φ (.var b) X) q (xs.map ni) (acc.map ni) h
  | [], acc, hx, hs, k => by
    refine ⟨trivial, ?_⟩
    simpa using k
  | y :: r, acc, hx, hs, k => by
    have hy := hx y (by simp)
    refine ⟨trivial, ?_⟩
    have s1 : (ς.set b (some (ni y)))[a]? = some (some (.loc l)) := by rw [List.getElem?_set_ne hab.symm]; exact ha
    have s2 : (ς.set b (some (ni y)))[b]? = some (some (ni y)) := by rw [List.getElem?_set_self hb]
    refine ⟨_, s1, _, s2, _, _, _, _, rfl, hl, ixP_nat (by simpa using hy), isIn_get hy, _, rfl, ite_b (fun e => ?_) (fun e => ?_)⟩
    · refine ⟨_, s2, sz (by simp at hs ⊢; omega), ?_⟩
      have := filt_loop (Φ := Φ) (X := X) hab ha hb hl (q := q) r (acc ++ [y]) (fun x z => hx x (by simp [z])) (by simp at hs ⊢; omega) (by simpa [e] using k)
      simpa using this
    · exact filt_loop hab ha hb hl r acc (fun x z => hx x (by simp [z])) (by simp at hs ⊢; omega) (by simpa [e] using k)
/-- the downward loop -/
theorem down_loop {n l : Nat} {vs : List Vl} {W tv : PV} {outs : List Nat} {κ : KS} (hw : WF vs) : ∀ (k : Nat) (m : List Bool) (u3 u4 : Option PV) (h : PH), k ≤ vs.length → m.length = vs.length → getL h l = some (m.map .bl) →
    (∀ (u3 u4 : Option PV) (h' : PH), Fr [l] h h' → getL h' l = some ((down vs k m).map .bl) → κ.nx [some (scr vs W outs), some tv, some (.loc l), u3, u4] h') →
    forW (fun _ => True) (.slot 3) (wSs (den TT12 (n + 1)) (.cons (.ifs (.ix (.var 2) (.var 3))
      (.cons (.fors (.slot 4) (.la (.e (.call 138 (.cons (.var 0) (.cons (.var 3) .nil)))))
        (.cons (.sub (.var 2) (.var 4) (.bl true))
        .nil))
      .nil)
      .nil)
    .nil)) κ (rangeC ((k : Int) - 1) (-1) k) [some (scr vs W outs), some tv, some (.loc l), u3, u4] h
  | 0, m, u3, u4, h, hk, hm, hl, z => ⟨trivial, z u3 u4 h Fr.refl hl⟩
  | k + 1, m, u3, u4, h, hk, hm, hl, z => by
    rw [rangeC_down]
    refine ⟨trivial, ?_⟩
    have hv : ∃ v, vs[k]? = some v := ⟨_, List.getElem?_eq_getElem (by omega)⟩
    obtain ⟨v, hv⟩ := hv
    refine ⟨_, rfl, _, rfl, _, _, _, _, rfl, hl, ixP_nat (by simp; omega), isIn_get (by omega), _, rfl, ite_b (fun e => ?_) (fun e => ?_)⟩
    · refine ⟨_, rfl, _, rfl, ?_⟩
      refine operands_ok hw hv ?_
      refine Or.inl ⟨_, rfl, ?_⟩
      have e2 : step vs m k = mark m v.ops := by
        unfold step
        unfold isIn at e
        have : m[k]? = some true := by
          rw [List.getElem?_eq_getElem (by omega)] at e ⊢
          simpa using e
        rw [if_pos this, hv]
        rfl
      refine mark_loop (a := 2) (b := 4) (l := l) (ς0 := [some (scr vs W outs), some tv, some (.loc l), some (ni k), u4]) (by decide) rfl (by simp) v.ops m u4 h hl (fun x hx => ?_) (fun _ _ => rfl) rfl fun u => ?_
      · have := hw k v hv
        cases v with
        | inp s => cases hx
        | wk w o => have := this.2 x hx; omega
      · refine down_loop hw k (step vs m k) (some (ni k)) u _ (by omega) (by rw [step_len, hm]) (by rw [e2]; exact getL_set hl) fun u3 u4 h' f g => z u3 u4 h' ?_ g
        exact Fr.trans (Fr.set (by simp)) f
    · have e2 : step vs m k = m := by
        unfold step
        unfold isIn at e
        rw [if_neg]
        intro z
        rw [z] at e
        cases e
      refine down_loop hw k m (some (ni k)) u4 h (by omega) hm hl fun u3 u4 h' f g => z u3 u4 h' f ?_
      show getL h' l = some ((down vs k (step vs m k)).map .bl)
      rw [e2]
      exact g
theorem needed_for_ok {n : Nat} {vs : List Vl} {W : PV} {outs xs : List Nat} {h : PH} {q : QV} {x : QX} (hw : WF vs) (hn : vs.length ≤ 1000) (hx : ∀ y, y ∈ xs → y < vs.length)
    (k : ∀ h', Fr [] h h' → q (.tup ((need vs xs).map ni)) h') : den TT12 (n + 2) 139 [scr vs W outs, .tup (xs.map ni)] h q x := by
  refine den_call (F := ir_p_needed_for) (by rfl) rfl ?_
  have hlen : (vs.map Vl.enc).length = vs.length := by simp
  refine ⟨Nat.le_of_ble_eq_true rfl, _, rfl, _, _, _, _, rfl, rfl, rfl, rfl, _, _, rfl, rfl, _, _, rfl, rfl, by omega, by omega, sz (by simp; omega), ?_⟩
  have e0 : (List.replicate (((vs.map Vl.enc).length : Int)).toNat [PV.bl false]).flatten = (List.replicate vs.length false).map PV.bl := by
    rw [rep_one, hlen]
    simp
  rw [e0]
  refine ⟨_, rfl, .inl ⟨_, rfl, ?_⟩⟩
  have h0 : getL (h ++ [.lst ((List.replicate vs.length false).map PV.bl)]) h.length = some ((List.replicate vs.length false).map PV.bl) := getL_new
  refine mark_loop (a := 2) (b := 3) (l := h.length) (ς0 := [some (scr vs W outs), some (.tup (xs.map ni)), some (.loc h.length), none, none]) (by decide) rfl (by simp) xs _ none _ h0 (fun y hy => by simpa using hx y hy) (fun _ _ => rfl) rfl fun u => ?_
  refine ⟨_, rfl, _, _, _, _, rfl, rfl, rfl, rfl, _, _, rfl, rfl, _, rfl, _, rfl, _, _, _, vs.length, rfl, rfl, rfl, ?_, ?_⟩
  · have r := RgC.neg (i := ((vs.map Vl.enc).length : Int) - 1) (j := -1) (by omega) (by omega) (by omega) (by omega)
    have e : (((vs.map Vl.enc).length : Int) - 1 - -1).toNat = vs.length := by omega
    rw [e] at r
    exact r
  have e1 : rangeC (((vs.map Vl.enc).length : Int) - 1) (-1) vs.length = rangeC ((vs.length : Int) - 1) (-1) vs.length := by rw [hlen]
  refine e1 ▸ ?_
  refine down_loop (l := h.length) hw vs.length (mark (List.replicate vs.length false) xs) u none _ (Nat.le_refl _) (by rw [mark_len, List.length_replicate]) (getL_set h0) fun u3 u4 h' f g => ?_
  refine ⟨_, rfl, _, _, _, _, rfl, rfl, rfl, rfl, _, _, rfl, rfl, _, rfl, by omega, by omega, ?_⟩
  have e2 : rangeL 0 (((vs.map Vl.enc).length : Int)).toNat = (List.range vs.length).map ni := by rw [hlen]; exact rangeL0 _
  refine e2 ▸ ?_
  refine filt_loop (a := 2) (b := 3) (l := h.length) (m := marks vs xs) (by decide) rfl (by show (3 : Nat) < 5; decide) g (List.range vs.length) [] (fun y hy => by rw [marks_len]; exact List.mem_range.mp hy) (by rw [List.length_range]; show 0 + vs.length ≤ _; omega) ?_
  refine ⟨_, rfl, ?_⟩
  refine k h' ?_
  refine ⟨Nat.le_trans (by simp) f.1, fun l hl _ => ?_⟩
  rw [f.2 l (by rw [List.length_set, List.length_append]; omega) (fun z => by rw [List.mem_singleton] at z; omega), List.getElem?_set_ne (by omega), List.getElem?_append_left hl]
end WD
end
section
set_option Elab.async false
set_option linter.all false
set_option maxRecDepth 100000
set_option autoImplicit false
set_option maxHeartbeats 8000000
set_option pp.maxSteps 600
namespace WD
open PySem PySem.Spec PyProof.Rows L2
theorem toD_ns {h : PH} {n : Nat} : ∀ xs : List Nat, (xs.map ni).mapM (toD h (n + 1)) = some (xs.map fun (i : Nat) => PyData.int (i : Int))
  | [] => rfl
  | i :: r => by
    rw [List.map_cons, List.mapM_cons, toD_ns r]
    rfl
theorem any_ns {y : Nat} : ∀ xs : List Nat, ((xs.map fun (i : Nat) => PyData.int (i : Int)).any fun z => PyData.eqv z (.int (y : Int))) = xs.contains y
  | [] => rfl
  | i :: r => by
    rw [List.map_cons, List.any_cons, any_ns r, List.contains_cons]
    congr 1
    show ((i : Int) == (y : Int)) = (y == i)
    by_cases z : i = y
    · subst z; simp
    · have : (i : Int) ≠ (y : Int) := by omega
      have z' : y ≠ i := fun w => z w.symm
      rw [beq_eq_false_iff_ne.mpr this, beq_eq_false_iff_ne.mpr z']
theorem notin_loc {h : PH} {l y : Nat} {xs : List Nat} {q : Bool → Prop} (hi : getL h l = some (xs.map ni)) (k : q (!xs.contains y)) : cmpS .NotIn (ni y) (.loc l) h q :=
  ⟨_, _, _, rfl, hi, toD_ns xs, by rw [any_ns]; exact k⟩
theorem in_tup {h : PH} {y : Nat} {xs : List Nat} {q : Bool → Prop} (k : q (xs.contains y)) : cmpS .In (ni y) (.tup (xs.map ni)) h q :=
  ⟨_, _, _, rfl, rfl, toD_ns xs, by rw [any_ns]; exact k⟩
theorem notin_tup {h : PH} {y : Nat} {xs : List Nat} {q : Bool → Prop} (k : q (!xs.contains y)) : cmpS .NotIn (ni y) (.tup (xs.map ni)) h q :=
  ⟨_, _, _, rfl, rfl, toD_ns xs, by rw [any_ns]; exact k⟩
theorem needed_values_ok {n : Nat} {vs : List Vl} {W : PV} {outs : List Nat} {h : PH} {q : QV} {x : QX} (hw : WF vs) (hn : vs.length ≤ 1000) (hx : ∀ y, y ∈ outs → y < vs.length)
    (k : ∀ h', Fr [] h h' → q (.tup ((need vs outs).map ni)) h') : den TT12 (n + 3) 140 [scr vs W outs] h q x := by
  refine den_call (F := ir_p_needed_values) (by rfl) rfl ?_
  refine ⟨_, rfl, _, rfl, _, _, _, _, rfl, rfl, rfl, rfl, ?_⟩
  exact needed_for_ok hw hn hx k
/-! ### distinct -/
def dd1 (acc : List Nat) (x : Nat) : List Nat := if x ∈ acc then acc else acc ++ [x]
def dd (xs : List Nat) : List Nat := xs.foldl dd1 []
theorem dd_app {xs : List Nat} {x : Nat} : dd (xs ++ [x]) = dd1 (dd xs) x := by simp [dd, List.foldl_append]
theorem dd1_mem {acc : List Nat} {x y : Nat} : y ∈ dd1 acc x ↔ y ∈ acc ∨ y = x := by
  unfold dd1
  split
  · rename_i h
    exact ⟨.inl, fun z => z.elim id fun w => w ▸ h⟩
  · simp
theorem ddf_mem {y : Nat} : ∀ {xs acc : List Nat}, y ∈ xs.foldl dd1 acc ↔ y ∈ acc ∨ y ∈ xs
  | [], acc => by simp
  | x :: r, acc => by
    rw [List.foldl_cons, ddf_mem, dd1_mem, List.mem_cons, or_assoc]
theorem dd_mem {xs : List Nat} {y : Nat} : y ∈ dd xs ↔ y ∈ xs := by
  unfold dd
  rw [ddf_mem]
  simp
theorem dd1_len {acc : List Nat} {x : Nat} : (dd1 acc x).length ≤ acc.length + 1 := by
  unfold dd1
  split <;> simp
theorem distinct_loop {Φ : Phi} {l : Nat} {tv : PV} {κ : KS} {g : PH → Prop} (hg : ∀ h, g h) : ∀ (xs acc : List Nat) (u : Option PV) (h : PH), getL h l = some (acc.map ni) → acc.length + xs.length ≤ 1000 →
    (∀ (u : Option PV) (h' : PH), Fr [l] h h' → getL h' l = some ((xs.foldl dd1 acc).map ni) → κ.nx [some tv, some (.loc l), u] h') →
    forW g (.slot 2) (wSs Φ (.cons (.ifs (.cmp .NotIn (.var 2) (.var 1))
      (.cons (.expr (.mth .append (.var 1) (.cons (.var 2) .nil)))
      .nil)
      .nil)
    .nil)) κ (xs.map ni) [some tv, some (.loc l), u] h
  | [], acc, u, h, hl, hs, k => ⟨hg _, k u h Fr.refl hl⟩
  | y :: r, acc, u, h, hl, hs, k => by
    refine ⟨hg _, _, rfl, _, rfl, ?_⟩
    refine notin_loc hl ?_
    refine ite_b (fun e => ?_) (fun e => ?_)
    · have ny : y ∉ acc := by simpa using e
      refine ⟨_, rfl, ⟨_, _, rfl, hl⟩, _, rfl, _, _, rfl, hl, _, rfl, sz (by simp at hs ⊢; omega), ?_⟩
      have e1 : acc.map ni ++ [ni y] = (dd1 acc y).map ni := by unfold dd1; rw [if_neg ny]; simp
      rw [e1]
      refine distinct_loop hg r (dd1 acc y) _ _ (getL_set hl) (by have := @dd1_len acc y; simp at hs; omega) fun u h' f g' => k u h' (Fr.trans (Fr.set (by simp)) f) g'
    · have ny : y ∈ acc := by simpa using e
      have e1 : dd1 acc y = acc := by unfold dd1; rw [if_pos ny]
      refine distinct_loop hg r acc _ _ hl (by simp at hs; omega) fun u h' f g' => k u h' f ?_
      show getL h' l = some ((r.foldl dd1 (dd1 acc y)).map ni)
      rw [e1]
      exact g'
theorem distinct_ok {n : Nat} {xs : List Nat} {h : PH} {q : QV} {x : QX} (hs : xs.length ≤ 1000) (k : ∀ l h', Fr [] h h' → h.length ≤ l → getL h' l = some ((dd xs).map ni) → q (.loc l) h') : den TT12 (n + 1) 147 [.tup (xs.map ni)] h q x := by
  refine den_call (F := ir_p_distinct) (by rfl) rfl ?_
  refine ⟨Nat.zero_le _, _, rfl, .inl ⟨_, rfl, ?_⟩⟩
  refine distinct_loop (fun _ => rfl) xs [] none (h ++ [.lst []]) getL_new (by simpa using hs) fun u h' f g => ?_
  exact ⟨_, rfl, k _ _ ((Fr.app (S := [])).drop f fun l hl => .inr (by simp at hl; omega)) (Nat.le_refl _) g⟩
/-! ### counts -/
def bump (c : List Nat) (xs : List Nat) : List Nat := xs.foldl (fun c o => c.set o ((c[o]?).getD 0 + 1)) c
theorem bump_len {xs : List Nat} : ∀ {c : List Nat}, (bump c xs).length = c.length := by
  induction xs with
  | nil => intro c; rfl
  | cons a r ih => intro c; show (bump (c.set a _) r).length = _; rw [ih]; simp
theorem count_loop {Φ : Phi} {κ : KS} {g : PH → Prop} {a b l : Nat} {ς0 : PSt} (hab : a ≠ b) (ha : ς0[a]? = some (some (.loc l))) (hb : b < ς0.length) : ∀ (xs c : List Nat) (u : Option PV) (h : PH), getL h l = some (c.map ni) → (∀ x, x ∈ xs → x < c.length) → (∀ h', (∀ k, k ≠ l → getL h' k = getL h k) → g h') → g h →
    (∀ (u : Option PV) (h' : PH), Fr [l] h h' → getL h' l = some ((bump c xs).map ni) → κ.nx (ς0.set b u) h') →
    forW g (.slot b) (wSs Φ (.cons (.augS (.var a) (.var b) .Add (.int 1)) .nil)) κ (xs.map ni) (ς0.set b u) h
  | [], c, u, h, hl, hx, hg, g0, k => ⟨g0, k u h Fr.refl hl⟩
  | y :: r, c, u, h, hl, hx, hg, g0, k => by
    have hy := hx y (by simp)
    refine ⟨g0, ?_⟩
    have s1 : ((ς0.set b u).set b (some (ni y)))[a]? = some (some (.loc l)) := by rw [List.getElem?_set_ne hab.symm, List.getElem?_set_ne hab.symm]; exact ha
    have s2 : ((ς0.set b u).set b (some (ni y)))[b]? = some (some (ni y)) := by rw [List.getElem?_set_self (by simpa using hb)]
    have e0 : (c.map ni)[y]? = some (ni ((c[y]?).getD 0)) := by simp [hy]
    refine ⟨_, s1, _, s2, l, _, _, _, _, rfl, rfl, hl, ixP_nat (by simpa using hy), e0, l, _, _, _, rfl, hl, rfl, ixP_nat (by simpa using hy), ?_⟩
    have e1 : (c.map ni).set y (.int ((((c[y]?).getD 0 : Nat) : Int) + 1)) = (c.set y ((c[y]?).getD 0 + 1)).map ni := by
      rw [map_set]
      rfl
    rw [e1, List.set_set]
    refine count_loop hab ha hb r (c.set y ((c[y]?).getD 0 + 1)) (some (ni y)) _ (getL_set hl) (fun x z => by simpa using hx x (by simp [z])) (fun h' z => hg h' fun k hk => (z k hk).trans (getL_set_ne (Ne.symm hk))) (hg _ fun k hk => getL_set_ne (Ne.symm hk)) fun u' h' f g => k u' h' (Fr.trans (Fr.set (by simp)) f) g
def opsAt (vs : List Vl) (i : Nat) : List Nat := (vs[i]?.map Vl.ops).getD []
theorem opsAt_lt {vs : List Vl} {i x : Nat} (hw : WF vs) (hx : x ∈ opsAt vs i) : x < i ∧ i < vs.length := by
  unfold opsAt at hx
  cases e : vs[i]? with
  | none => rw [e] at hx; cases hx
  | some v =>
    rw [e] at hx
    have := hw i v e
    have hi := (List.getElem?_eq_some_iff.mp e).1
    cases v with
    | inp s => cases hx
    | wk w o => exact ⟨this.2 x hx, hi⟩
def users (vs : List Vl) (is : List Nat) (c : List Nat) : List Nat := is.foldl (fun c i => bump c (dd (opsAt vs i))) c
/-- sizes -/
def SZ (vs : List Vl) : Prop := vs.length ≤ 1000 ∧ ∀ (i : Nat), (opsAt vs i).length ≤ 10
theorem users_loop {n l : Nat} {vs : List Vl} {W : PV} {outs : List Nat} {κ : KS} {g : PH → Prop} (hg : ∀ h, g h) (hw : WF vs) (hz : SZ vs) : ∀ (is c : List Nat) (u2 u3 : Option PV) (h : PH), (∀ i, i ∈ is → i < vs.length) → c.length = vs.length → getL h l = some (c.map ni) →
    (∀ (u2 u3 : Option PV) (h' : PH), Fr [l] h h' → getL h' l = some ((users vs is c).map ni) → κ.nx [some (scr vs W outs), some (.loc l), u2, u3] h') →
    forW g (.slot 2) (wSs (den TT12 (n + 1)) (.cons (.fors (.slot 3) (.la (.e (.call 147 (.cons (.call 138 (.cons (.var 0) (.cons (.var 2) .nil))) .nil))))
        (.cons (.augS (.var 1) (.var 3) .Add (.int 1))
        .nil))
      .nil)) κ (is.map ni) [some (scr vs W outs), some (.loc l), u2, u3] h
  | [], c, u2, u3, h, hi, hc, hl, k => ⟨hg _, k u2 u3 h Fr.refl hl⟩
  | i :: is, c, u2, u3, h, hi, hc, hl, k => by
    have hi0 := hi i (by simp)
    obtain ⟨v, hv⟩ : ∃ v, vs[i]? = some v := ⟨_, List.getElem?_eq_getElem hi0⟩
    have eo : opsAt vs i = v.ops := by unfold opsAt; rw [hv]; rfl
    refine ⟨hg _, _, rfl, _, rfl, ?_⟩
    refine operands_ok hw hv ?_
    refine distinct_ok (by have := hz.2 i; rw [eo] at this; omega) fun l2 h2 f hlt g2 => ?_
    have hl2 := f.get hl (by simp)
    have ne : l2 ≠ l := by have := getL_lt hl; omega
    refine .inl ⟨_, g2, ?_⟩
    refine count_loop (a := 1) (b := 3) (l := l) (ς0 := [some (scr vs W outs), some (.loc l), some (ni i), u3]) (by decide) rfl (by simp) (dd v.ops) c u3 h2 hl2 (fun x hx => ?_) (fun h' z => (z l2 ne).trans g2) g2 fun u h3 f3 g3 => ?_
    · rw [dd_mem, ← eo] at hx
      have := opsAt_lt hw hx
      omega
    · refine users_loop hg hw hz is (bump c (dd v.ops)) _ _ h3 (fun i hi' => hi i (by simp [hi'])) (by rw [bump_len, hc]) g3 fun u2 u3 h' f' g' => k u2 u3 h' ?_ ?_
      · exact ((f.mono (by simp)).trans f3).trans f'
      · show getL h' l = some ((users vs is (bump c (dd (opsAt vs i)))).map ni)
        rw [eo]
        exact g'
theorem need_lt {vs : List Vl} {xs : List Nat} : ∀ i, i ∈ need vs xs → i < vs.length := fun i hi => by
  unfold need at hi
  exact List.mem_range.mp (List.mem_filter.mp hi).1
theorem users_len {vs : List Vl} : ∀ {is c : List Nat}, (users vs is c).length = c.length
  | [], c => rfl
  | i :: is, c => by show (users vs is (bump c _)).length = _; rw [users_len, bump_len]
def cnts (vs : List Vl) (outs : List Nat) : List Nat := users vs (need vs outs) (List.replicate vs.length 0)
theorem needed_users_ok {n : Nat} {vs : List Vl} {W : PV} {outs : List Nat} {h : PH} {q : QV} {x : QX} (hw : WF vs) (hz : SZ vs) (hx : ∀ y, y ∈ outs → y < vs.length)
    (k : ∀ l h', Fr [] h h' → h.length ≤ l → getL h' l = some ((cnts vs outs).map ni) → q (.loc l) h') : den TT12 (n + 4) 83 [scr vs W outs] h q x := by
  have hn := hz.1
  refine den_call (F := ir_p_needed_users) (by rfl) rfl ?_
  have hlen : (vs.map Vl.enc).length = vs.length := by simp
  refine ⟨Nat.le_of_ble_eq_true rfl, _, rfl, _, _, _, _, rfl, rfl, rfl, rfl, _, _, rfl, rfl, _, _, rfl, rfl, by omega, by omega, sz (by simp; omega), ?_⟩
  have e0 : (List.replicate (((vs.map Vl.enc).length : Int)).toNat [PV.int 0]).flatten = (List.replicate vs.length 0).map ni := by
    rw [rep_one, hlen]
    simp
  rw [e0]
  refine ⟨_, rfl, ?_⟩
  refine needed_values_ok hw hn hx fun h1 f1 => ?_
  refine .inl ⟨_, rfl, ?_⟩
  have h0 : getL (h ++ [.lst ((List.replicate vs.length 0).map ni)]) h.length = some ((List.replicate vs.length 0).map ni) := getL_new
  refine users_loop (l := h.length) (fun _ => rfl) hw hz (need vs outs) (List.replicate vs.length 0) none none h1 need_lt (by simp) (f1.get h0 (by simp)) fun u2 u3 h' f' g' => ?_
  refine ⟨_, rfl, k _ _ ?_ (Nat.le_refl _) g'⟩
  exact ((Fr.app (S := [])).trans f1).drop f' fun l hl => .inr (by simp at hl; omega)
/-! ### shared -/
def shr (vs : List Vl) (outs : List Nat) : List Nat := (need vs outs).filter fun v => decide ((((cnts vs outs)[v]?).getD 0) > 1) || (decide ((((cnts vs outs)[v]?).getD 0) = 1) && outs.contains v)
abbrev shBody : Sms := (.cons (.ifs (.or (.cmp .Gt (.ix (.var 1) (.var 3)) (.int 1)) (.and (.cmp .Eq (.ix (.var 1) (.var 3)) (.int 1)) (.cmp .In (.var 3) (.ix (.var 0) (.int 2)))))
      (.cons (.expr (.mth .append (.var 2) (.cons (.var 3) .nil)))
      .nil)
      .nil)
    .nil)
theorem shared_loop {Φ : Phi} {l2 l1 : Nat} {vs : List Vl} {W : PV} {outs cs : List Nat} {κ : KS} {g : PH → Prop} (hg : ∀ h, g h) (ne : l1 ≠ l2) : ∀ (is acc : List Nat) (u3 : Option PV) (h : PH), (∀ i, i ∈ is → i < cs.length) → getL h l1 = some (cs.map ni) → getL h l2 = some (acc.map ni) → acc.length + is.length ≤ 10000 →
    (∀ (u3 : Option PV) (h' : PH), Fr [l2] h h' → getL h' l2 = some ((acc ++ is.filter fun v => decide (((cs[v]?).getD 0) > 1) || (decide (((cs[v]?).getD 0) = 1) && outs.contains v)).map ni) → κ.nx [some (scr vs W outs), some (.loc l1), some (.loc l2), u3] h') →
    forW g (.slot 3) (wSs Φ shBody) κ (is.map ni) [some (scr vs W outs), some (.loc l1), some (.loc l2), u3] h
  | [], acc, u3, h, hi, h1, h2, hs, k => ⟨hg _, k u3 h Fr.refl (by simpa using h2)⟩
  | i :: is, acc, u3, h, hi, h1, h2, hs, k => by
    have hi0 := hi i (by simp)
    have e0 : (cs.map ni)[i]? = some (ni ((cs[i]?).getD 0)) := by simp [hi0]
    have yes : (decide (((cs[i]?).getD 0) > 1) || (decide (((cs[i]?).getD 0) = 1) && outs.contains i)) = true → wSs Φ (.cons (.expr (.mth .append (.var 2) (.cons (.var 3) .nil))) .nil) { κ with nx := forW g (.slot 3) (wSs Φ shBody) κ (is.map ni), ct := forW g (.slot 3) (wSs Φ shBody) κ (is.map ni), bk := κ.nx } [some (scr vs W outs), some (.loc l1), some (.loc l2), some (ni i)] h := by
      intro e
      refine ⟨_, rfl, ⟨_, _, rfl, h2⟩, _, rfl, _, _, rfl, h2, _, rfl, sz (by simp at hs ⊢; omega), ?_⟩
      have e1 : acc.map ni ++ [ni i] = (acc ++ [i]).map ni := by simp
      rw [e1]
      refine shared_loop hg ne is (acc ++ [i]) _ _ (fun i z => hi i (by simp [z])) ((getL_set_ne (Ne.symm ne)).trans h1) (getL_set h2) (by simp at hs ⊢; omega) fun u h' f g' => k u h' (Fr.trans (Fr.set (by simp)) f) ?_
      rw [g', List.filter_cons, if_pos e]
      simp
    have no : (decide (((cs[i]?).getD 0) > 1) || (decide (((cs[i]?).getD 0) = 1) && outs.contains i)) = false → forW g (.slot 3) (wSs Φ shBody) κ (is.map ni) [some (scr vs W outs), some (.loc l1), some (.loc l2), some (ni i)] h := by
      intro e
      refine shared_loop hg ne is acc _ _ (fun i z => hi i (by simp [z])) h1 h2 (by simp at hs ⊢; omega) fun u h' f g' => k u h' f ?_
      rw [g', List.filter_cons, if_neg (by rw [e]; exact Bool.false_ne_true)]
    refine ⟨hg _, _, rfl, _, rfl, _, _, _, _, rfl, h1, ixP_nat (by simpa using hi0), e0, _, _, rfl, rfl, ite_b (fun e => ?_) (fun e => ?_)⟩
    · refine ite_t rfl (yes ?_)
      have : (cs[i]?).getD 0 > 1 := by have := of_decide_eq_true e; omega
      simp [this]
    · have n1 : ¬ (cs[i]?).getD 0 > 1 := by have := of_decide_eq_false e; omega
      refine ⟨_, rfl, _, rfl, _, _, _, _, rfl, h1, ixP_nat (by simpa using hi0), e0, .inl ⟨rfl, ite_b (fun e2 => ?_) (fun e2 => ?_)⟩⟩
      · have e3 : (cs[i]?).getD 0 = 1 := by
          have := of_decide_eq_true e2
          have z : (((cs[i]?).getD 0 : Nat) : Int) = 1 := by injection this
          omega
        refine ⟨_, rfl, _, rfl, _, _, _, _, rfl, rfl, rfl, rfl, ?_⟩
        refine in_tup ?_
        refine ite_b (fun e4 => yes ?_) (fun e4 => no ?_)
        · simp [e3, e4]; simpa using e4
        · simp [e3]; simpa using e4
      · refine ite_f rfl (no ?_)
        have e3 : (cs[i]?).getD 0 ≠ 1 := by
          intro z
          have := of_decide_eq_false e2
          apply this
          rw [z]
          rfl
        simp [n1, e3]
end WD
end
section
set_option Elab.async false
set_option linter.all false
set_option maxRecDepth 100000
set_option autoImplicit false
set_option maxHeartbeats 8000000
set_option pp.maxSteps 600
namespace WD
open PySem PySem.Spec PyProof.Rows L2
theorem shared_values_ok {n : Nat} {vs : List Vl} {W : PV} {outs : List Nat} {h : PH} {q : QV} {x : QX} (hw : WF vs) (hz : SZ vs) (hx : ∀ y, y ∈ outs → y < vs.length)
    (k : ∀ h', Fr [] h h' → q (.tup ((shr vs outs).map ni)) h') : den TT12 (n + 5) 84 [scr vs W outs] h q x := by
  refine den_call (F := ir_p_shared_values) (by rfl) rfl ?_
  refine ⟨_, rfl, ?_⟩
  refine needed_users_ok hw hz hx fun l1 h1 f1 hl1 g1 => ?_
  refine ⟨Nat.zero_le _, _, rfl, ?_⟩
  refine needed_values_ok hw hz.1 hx fun h2 f2 => ?_
  refine .inl ⟨_, rfl, ?_⟩
  have a1 : getL h2 l1 = some ((cnts vs outs).map ni) := f2.get (getL_app g1) (by simp)
  have a2 : getL h2 h1.length = some (([] : List Nat).map ni) := f2.get (getL_new (xs := [])) (by simp)
  have cl : (cnts vs outs).length = vs.length := by unfold cnts; rw [users_len, List.length_replicate]
  have lt : l1 < h1.length := getL_lt g1
  have nl : (need vs outs).length ≤ vs.length := by unfold need; have := List.length_filter_le (isIn (marks vs outs)) (List.range vs.length); simpa using this
  refine shared_loop (cs := cnts vs outs) (fun _ => rfl) (by omega) (need vs outs) [] none h2 (fun i hi => by rw [cl]; exact need_lt i hi) a1 a2 (by have := hz.1; simp; omega) fun u3 h' f g => ?_
  refine ⟨_, rfl, _, g, k h' ?_⟩
  exact (f1.trans ((Fr.app (S := [])).trans f2)).drop f fun l hl => .inr (by simp at hl; have := f1.1; omega)
theorem is_forest_ok {n : Nat} {vs : List Vl} {W : PV} {outs : List Nat} {h : PH} {q : QV} {x : QX} (hw : WF vs) (hz : SZ vs) (hx : ∀ y, y ∈ outs → y < vs.length)
    (k : ∀ h', Fr [] h h' → q (.bl (shr vs outs).isEmpty) h') : den TT12 (n + 6) 85 [scr vs W outs] h q x := by
  refine den_call (F := ir_p_is_forest) (by rfl) rfl ?_
  refine ⟨_, rfl, ?_⟩
  refine shared_values_ok hw hz hx fun h1 f1 => ?_
  refine ⟨Nat.zero_le _, .inr ⟨.tuple ((shr vs outs).map fun (i : Nat) => PyData.int (i : Int)), .tuple [], ?_, rfl, ?_⟩⟩
  · show (((shr vs outs).map ni).mapM (toD h1 63)).map PyData.tuple = _
    rw [toD_ns]
    rfl
  · have e : PyData.eqv (.tuple ((shr vs outs).map fun (i : Nat) => PyData.int (i : Int))) (.tuple []) = (shr vs outs).isEmpty := by
      cases (shr vs outs) <;> rfl
    rw [e]
    exact k h1 f1
/-! ### the law's own -/
theorem const_loop {Φ : Phi} {X : QX} {b : Nat} {ς : PSt} {g : PH → Prop} (hg : ∀ h, g h) {e : Ex} {v : PV} (he : ∀ ς h q, q v h → wE Φ e X ς h q) {h : PH} {q : List PV → PH → Prop} : ∀ (xs acc : List PV), acc.length + xs.length ≤ 10000 →
    q (acc ++ List.replicate xs.length v) h → compW g (.slot b) ς (wC Φ .no X) (wE Φ e X) q xs acc h
  | [], acc, hs, k => ⟨hg _, by simpa using k⟩
  | y :: r, acc, hs, k => by
    refine ⟨hg _, ?_⟩
    show (if true = true then _ else compW g (.slot b) ς (wC Φ .no X) (wE Φ e X) q r acc h)
    rw [if_pos rfl]
    refine he _ _ _ ⟨sz (by simp at hs; omega), ?_⟩
    exact const_loop hg he r (acc ++ [v]) (by simp at hs ⊢; omega) (by simpa [List.replicate_succ] using k)
theorem cut_take {xs : List Nat} {s : Nat} (h : s ≤ xs.length) : cutP (xs.map ni) none (some (s : Int)) = (xs.take s).map ni := by
  unfold cutP bndP
  rw [HT.sIx_none, HT.sIx_nat]
  simp [Nat.min_eq_left h, List.map_take]
theorem slS_take {xs : List Nat} {s : Nat} {h : PH} {q : QV} (e : s ≤ xs.length) (k : q (.tup ((xs.take s).map ni)) h) : slS (.tup (xs.map ni)) none (some (s : Int)) h q := by
  show q (.tup (cutP (xs.map ni) none (some (s : Int)))) h
  rw [cut_take e]
  exact k
theorem sub_to {i j k : Int} {h : PH} {q : QV} (e : i - j = k) (z : q (.int k) h) : binS .Sub (.int i) (.int j) h q := by
  subst e
  exact z
theorem bump_app {c xs : List Nat} {x : Nat} : bump c (xs ++ [x]) = (bump c xs).set x (((bump c xs)[x]?).getD 0 + 1) := by
  unfold bump
  rw [List.foldl_append]
  rfl
theorem mark_app {m : List Bool} {xs : List Nat} {x : Nat} : mark m (xs ++ [x]) = (mark m xs).set x true := by
  unfold mark
  rw [List.foldl_append]
  rfl
theorem take_next {xs : List Nat} {s : Nat} {x : Nat} (h : xs[s]? = some x) : xs.take (s + 1) = xs.take s ++ [x] := by
  have hs := (List.getElem?_eq_some_iff.mp h).1
  rw [List.take_add_one, h]
  rfl
abbrev inBody : Sms := (.cons (.sub (.var 2) (.ix (.var 9) (.var 10)) (.bl true))
        (.cons (.ifs (.cmp .NotIn (.ix (.var 9) (.var 10)) (.sl (.var 9) .no (.some (.var 10))))
          (.cons (.augS (.var 4) (.ix (.var 9) (.var 10)) .Add (.int 1))
          .nil)
          .nil)
        .nil))
theorem inner_loop {Φ : Phi} {κ : KS} {a b : Nat} (nab : a ≠ b) {s0 s1 s3 s5 s6 s7 s8 : Option PV} {ops : List Nat} {m : List Bool} {c : List Nat} (hm : ∀ x, x ∈ ops → x < m.length) (hc : c.length = m.length) : ∀ (r s : Nat) (u : Option PV) (h : PH), s + r = ops.length →
    getL h a = some ((mark m (ops.take s)).map .bl) → getL h b = some ((bump c (dd (ops.take s))).map ni) →
    (∀ (u : Option PV) (h' : PH), Fr [a, b] h h' → getL h' a = some ((mark m ops).map .bl) → getL h' b = some ((bump c (dd ops)).map ni) → κ.nx [s0, s1, some (.loc a), s3, some (.loc b), s5, s6, s7, s8, some (.tup (ops.map ni)), u] h') →
    forW (fun _ => True) (.slot 10) (wSs Φ inBody) κ ((List.range' s r).map ni) [s0, s1, some (.loc a), s3, some (.loc b), s5, s6, s7, s8, some (.tup (ops.map ni)), u] h
  | 0, s, u, h, e, ha, hb, k => by
    have : ops.take s = ops := List.take_of_length_le (by omega)
    rw [this] at ha hb
    exact ⟨trivial, k u h Fr.refl ha hb⟩
  | r + 1, s, u, h, e, ha, hb, k => by
    have hs : s < ops.length := by omega
    obtain ⟨x, hx⟩ : ∃ x, ops[s]? = some x := ⟨_, List.getElem?_eq_getElem hs⟩
    have hxm := hm x (List.mem_of_getElem? hx)
    have ex : (ops.map ni)[s]? = some (ni x) := by simp [hx]
    have tk := take_next hx
    have is : ixP (ops.map ni).length ((s : Nat) : Int) = some s := ixP_nat (by simpa using hs)
    rw [List.range'_succ]
    refine ⟨trivial, _, rfl, _, rfl, _, rfl, _, _, _, _, rfl, rfl, is, ex, a, _, _, _, rfl, ha, rfl, ixP_nat (by rw [List.length_map, mark_len]; exact hxm), ?_⟩
    have e1 : ((mark m (ops.take s)).map PV.bl).set x (.bl true) = (mark m (ops.take (s + 1))).map PV.bl := by rw [tk, mark_app, map_set]
    rw [e1]
    have ha1 : getL (h.set a (.lst ((mark m (ops.take (s + 1))).map .bl))) a = some ((mark m (ops.take (s + 1))).map .bl) := getL_set ha
    have hb1 : getL (h.set a (.lst ((mark m (ops.take (s + 1))).map .bl))) b = some ((bump c (dd (ops.take s))).map ni) := (getL_set_ne nab).trans hb
    refine ⟨_, rfl, _, rfl, _, _, _, _, rfl, rfl, is, ex, _, rfl, _, rfl, _, rfl, ?_⟩
    refine slS_take (by omega) ?_
    refine notin_tup ?_
    have key : dd (ops.take (s + 1)) = dd1 (dd (ops.take s)) x := by rw [tk, dd_app]
    refine ite_b (fun e2 => ?_) (fun e2 => ?_)
    · have nx : x ∉ dd (ops.take s) := by rw [dd_mem]; simpa using e2
      have bl : x < (bump c (dd (ops.take s))).length := by rw [bump_len, hc]; exact hxm
      have e0 : ((bump c (dd (ops.take s))).map ni)[x]? = some (ni (((bump c (dd (ops.take s)))[x]?).getD 0)) := by simp [bl]
      refine ⟨_, rfl, _, rfl, _, rfl, _, _, _, _, rfl, rfl, is, ex, b, _, _, _, _, rfl, rfl, hb1, ixP_nat (by simpa using bl), e0, b, _, _, _, rfl, hb1, rfl, ixP_nat (by simpa using bl), ?_⟩
      have e3 : ((bump c (dd (ops.take s))).map ni).set x (.int (((((bump c (dd (ops.take s)))[x]?).getD 0 : Nat) : Int) + 1)) = (bump c (dd (ops.take (s + 1)))).map ni := by
        rw [key]
        unfold dd1
        rw [if_neg nx, bump_app, map_set]
        rfl
      rw [e3]
      refine inner_loop nab hm hc r (s + 1) _ _ (by omega) ((getL_set_ne (Ne.symm nab)).trans ha1) (getL_set hb1) fun u h' f g1 g2 => k u h' ?_ g1 g2
      exact (Fr.set (by simp)).trans ((Fr.set (by simp)).trans f)
    · have nx : x ∈ dd (ops.take s) := by rw [dd_mem]; simpa using e2
      have e3 : dd (ops.take (s + 1)) = dd (ops.take s) := by rw [key]; unfold dd1; rw [if_pos nx]
      refine inner_loop nab hm hc r (s + 1) _ _ (by omega) ha1 (by rw [e3]; exact hb1) fun u h' f g1 g2 => k u h' ?_ g1 g2
      exact (Fr.set (by simp)).trans f
def tdn (vs : List Vl) : Nat → List Bool → List Nat → List Nat
  | 0, _, c => c
  | k + 1, m, c => tdn vs k (step vs m k) (if m[k]? = some true then bump c (dd (opsAt vs k)) else c)
abbrev tkBody : Sms := (.cons (.set (.slot 6) (.bin .Sub (.bin .Sub (.bif .len (.cons (.var 1) .nil)) (.int 1)) (.var 5)))
    (.cons (.set (.tup [(.slot 8), (.slot 9)]) (.ix (.var 1) (.var 6)))
    (.cons (.ifs (.and (.ix (.var 2) (.var 6)) (.cmp .NotEq (.var 8) (.str "in")))
      (.cons (.fors (.slot 10) (.range1 (.bif .len (.cons (.var 9) .nil))) inBody)
      .nil)
      .nil)
    .nil)))
theorem taken_loop {Φ : Phi} {κ : KS} {a b : Nat} (nab : a ≠ b) {s0 s3 : Option PV} {vs : List Vl} (hw : WF vs) (hz : SZ vs) : ∀ (k s : Nat) (m : List Bool) (c : List Nat) (u5 u6 u7 u8 u9 u10 : Option PV) (h : PH), s + k = vs.length → m.length = vs.length → c.length = vs.length →
    getL h a = some (m.map .bl) → getL h b = some (c.map ni) →
    (∀ (u5 u6 u7 u8 u9 u10 : Option PV) (h' : PH), Fr [a, b] h h' → getL h' a = some ((down vs k m).map .bl) → getL h' b = some ((tdn vs k m c).map ni) → κ.nx [s0, some (.tup (vs.map Vl.enc)), some (.loc a), s3, some (.loc b), u5, u6, u7, u8, u9, u10] h') →
    forW (fun _ => True) (.slot 5) (wSs Φ tkBody) κ ((List.range' s k).map ni) [s0, some (.tup (vs.map Vl.enc)), some (.loc a), s3, some (.loc b), u5, u6, u7, u8, u9, u10] h
  | 0, s, m, c, u5, u6, u7, u8, u9, u10, h, e, hm, hc, ha, hb, z => ⟨trivial, z _ _ _ _ _ _ h Fr.refl ha hb⟩
  | k + 1, s, m, c, u5, u6, u7, u8, u9, u10, h, e, hm, hc, ha, hb, z => by
    have hk : k < vs.length := by omega
    obtain ⟨v, hv⟩ : ∃ v, vs[k]? = some v := ⟨_, List.getElem?_eq_getElem hk⟩
    have eo : opsAt vs k = v.ops := by unfold opsAt; rw [hv]; rfl
    have hok := hw k v hv
    rw [List.range'_succ]
    have en : (((vs.map Vl.enc).length : Int) - 1 - ((s : Nat) : Int)) = ((k : Nat) : Int) := by simp; omega
    refine ⟨trivial, _, rfl, _, _, rfl, rfl, _, rfl, ?_⟩
    refine sub_to en ?_
    refine ⟨_, rfl, _, rfl, _, _, _, _, rfl, rfl, ixP_nat (by simpa using hk), enc_get hv, ?_⟩
    have next : ∀ (u6 u7 u8 u9 u10 : Option PV) (h2 : PH), Fr [a, b] h h2 → getL h2 a = some ((step vs m k).map .bl) → getL h2 b = some ((if m[k]? = some true then bump c (dd (opsAt vs k)) else c).map ni) →
        forW (fun _ => True) (.slot 5) (wSs Φ tkBody) κ ((List.range' (s + 1) k).map ni) [s0, some (.tup (vs.map Vl.enc)), some (.loc a), s3, some (.loc b), some (ni s), u6, u7, u8, u9, u10] h2 := by
      intro u6 u7 u8 u9 u10 h2 f2 g1 g2
      refine taken_loop nab hw hz k (s + 1) (step vs m k) _ _ _ _ _ _ _ h2 (by omega) (by rw [step_len, hm]) ?_ g1 g2 fun u5 u6 u7 u8 u9 u10 h' f g1 g2 => z u5 u6 u7 u8 u9 u10 h' (f2.trans f) g1 g2
      split
      · rw [bump_len, hc]
      · exact hc
    have st1 : m[k]? = some true → step vs m k = mark m v.ops := fun q => by unfold step; rw [if_pos q, ← eo]; rfl
    have st2 : m[k]? ≠ some true → step vs m k = m := fun q => by unfold step; rw [if_neg q]
    have gk : m[k]? = some (isIn m k) := by
      unfold isIn
      rw [List.getElem?_eq_getElem (by omega)]
      rfl
    cases v with
    | inp t =>
      refine ⟨_, rfl, _, _, rfl, _, _, rfl, rfl, _, rfl, _, rfl, _, _, _, _, rfl, ha, ixP_nat (by simp; omega), isIn_get (by omega), _, rfl, ite_b (fun e1 => ?_) (fun e1 => ?_)⟩
      · have gt : m[k]? = some true := by rw [gk, e1]
        refine ⟨_, rfl, .inl ⟨rfl, ite_f (by decide +kernel) ?_⟩⟩
        refine next _ _ _ _ _ _ Fr.refl (by rw [st1 gt]; exact ha) ?_
        rw [if_pos gt, eo]
        exact hb
      · have gt : m[k]? ≠ some true := by rw [gk, e1]; simp
        refine ite_f rfl ?_
        refine next _ _ _ _ _ _ Fr.refl (by rw [st2 gt]; exact ha) ?_
        rw [if_neg gt]
        exact hb
    | wk w o =>
      refine ⟨_, rfl, _, _, rfl, _, _, rfl, rfl, _, rfl, _, rfl, _, _, _, _, rfl, ha, ixP_nat (by simp; omega), isIn_get (by omega), _, rfl, ite_b (fun e1 => ?_) (fun e1 => ?_)⟩
      · have gt : m[k]? = some true := by rw [gk, e1]
        refine ⟨_, rfl, .inl ⟨rfl, ite_t ?_ ?_⟩⟩
        · rw [decide_eq_false fun z => hok.1 (by cases z; rfl)]
          rfl
        have zo : o.length ≤ 10 := by have := hz.2 k; rw [eo] at this; exact this
        refine ⟨_, rfl, _, _, rfl, rfl, _, rfl, by omega, by simp; omega, ?_⟩
        have er : rangeL 0 (((o.map ni).length : Int)).toNat = (List.range' 0 o.length).map ni := by
          rw [rangeL0, List.range_eq_range']
          simp
        refine er ▸ ?_
        refine inner_loop (m := m) (c := c) (ops := o) nab (fun x hx => by have := hok.2 x hx; omega) (by omega) o.length 0 _ h (by omega) ha hb fun u h' f g1 g2 => ?_
        refine next _ _ _ _ _ _ f (by rw [st1 gt]; exact g1) ?_
        rw [if_pos gt, eo]
        exact g2
      · have gt : m[k]? ≠ some true := by rw [gk, e1]; simp
        refine ite_f rfl ?_
        refine next _ _ _ _ _ _ Fr.refl (by rw [st2 gt]; exact ha) ?_
        rw [if_neg gt]
        exact hb
end WD
end
section
set_option Elab.async false
set_option linter.all false
set_option maxRecDepth 100000
set_option autoImplicit false
set_option maxHeartbeats 8000000
set_option pp.maxSteps 600
namespace WD
open PySem PySem.Spec PyProof.Rows L2
def tcn (vs : List Vl) (outs : List Nat) : List Nat := tdn vs vs.length (mark (List.replicate vs.length false) outs) (List.replicate vs.length 0)
theorem tdn_len {vs : List Vl} : ∀ {k : Nat} {m : List Bool} {c : List Nat}, (tdn vs k m c).length = c.length
  | 0, _, _ => rfl
  | k + 1, m, c => by
    show (tdn vs k _ _).length = _
    rw [tdn_len]
    split
    · exact bump_len
    · rfl
/-- values' tuple, or the list of a script in the making -/
theorem taken_ok {n : Nat} {vs : List Vl} {W : PV} {outs : List Nat} {h : PH} {q : QV} {x : QX} (hw : WF vs) (hz : SZ vs) (hx : ∀ y, y ∈ outs → y < vs.length)
    (k : ∀ a b h', Fr [] h h' → h.length ≤ a → h.length ≤ b → a ≠ b → getL h' a = some ((marks vs outs).map .bl) → getL h' b = some ((tcn vs outs).map ni) → q (.tup [.loc a, .loc b]) h') : den TT12 (n + 1) 1007 [scr vs W outs] h q x := by
  have hn := hz.1
  refine den_call (F := ir_f_law_taken) (by rfl) rfl ?_
  have hlen : (vs.map Vl.enc).length = vs.length := by simp
  refine ⟨_, rfl, _, _, _, _, rfl, rfl, rfl, rfl, ?_⟩
  refine ⟨_, rfl, .inl ⟨_, rfl, ?_⟩⟩
  refine const_loop (fun _ => rfl) (e := .bl false) (v := .bl false) (fun _ _ _ z => z) _ [] (by simp; omega) ?_
  have e0 : ([] ++ List.replicate (vs.map Vl.enc).length (PV.bl false)) = (List.replicate vs.length false).map PV.bl := by rw [hlen]; simp
  rw [e0]
  refine ⟨_, rfl, _, _, _, _, rfl, rfl, rfl, rfl, .inl ⟨_, rfl, ?_⟩⟩
  have h0 : getL (h ++ [.lst ((List.replicate vs.length false).map PV.bl)]) h.length = some ((List.replicate vs.length false).map PV.bl) := getL_new
  refine mark_loop (a := 2) (b := 3) (l := h.length) (ς0 := [some (scr vs W outs), some (.tup (vs.map Vl.enc)), some (.loc h.length), none, none, none, none, none, none, none, none]) (by decide) rfl (by simp) outs _ none _ h0 (fun y hy => by simpa using hx y hy) (fun _ _ => rfl) rfl fun u => ?_
  refine ⟨_, rfl, .inl ⟨_, rfl, ?_⟩⟩
  refine const_loop (fun _ => rfl) (e := .int 0) (v := .int 0) (fun _ _ _ z => z) _ [] (by simp; omega) ?_
  have e1 : ([] ++ List.replicate (vs.map Vl.enc).length (PV.int 0)) = (List.replicate vs.length 0).map ni := by rw [hlen]; simp
  rw [e1]
  have a1 := getL_set (xs := (mark (List.replicate vs.length false) outs).map PV.bl) h0
  refine ⟨_, rfl, _, _, rfl, rfl, _, rfl, by omega, by omega, ?_⟩
  have er : rangeL 0 (((vs.map Vl.enc).length : Int)).toNat = (List.range' 0 vs.length).map ni := by
    rw [rangeL0, List.range_eq_range', hlen]
    simp
  rw [er]
  refine taken_loop (a := h.length) (by simp) hw hz vs.length 0 _ _ _ _ _ _ _ _ _ (by omega) (by rw [mark_len, List.length_replicate]) (by simp) (getL_app a1) getL_new fun u5 u6 u7 u8 u9 u10 h' f g1 g2 => ?_
  refine ⟨_, rfl, _, rfl, Nat.le_of_ble_eq_true rfl, k _ _ h' ?_ (Nat.le_refl _) (by simp) (by simp) g1 g2⟩
  refine (((Fr.app (S := [])).setNew (Nat.le_refl _)).trans (Fr.app (S := []))).drop f fun l hl => .inr ?_
  simp at hl
  omega
/-! ### the same counts -/
theorem dd1_cons (x : Nat) : True := trivial
theorem bump_get1 {c : List Nat} {x j : Nat} (hj : j < c.length) : ((c.set x ((c[x]?).getD 0 + 1))[j]?).getD 0 = (c[j]?).getD 0 + (if j = x then 1 else 0) := by
  by_cases e : j = x
  · subst e
    rw [List.getElem?_set_self hj, if_pos rfl]
    rfl
  · rw [List.getElem?_set_ne (Ne.symm e), if_neg e]
    rfl
theorem bump_dd {c : List Nat} {j : Nat} (hj : j < c.length) : ∀ (xs : List Nat), ((bump c (dd xs))[j]?).getD 0 = (c[j]?).getD 0 + (if j ∈ xs then 1 else 0) := by
  intro xs
  have key : ∀ r : List Nat, ∀ ys, ys.reverse = r → ((bump c (dd ys))[j]?).getD 0 = (c[j]?).getD 0 + (if j ∈ ys then 1 else 0) := by
    intro r
    induction r with
    | nil =>
      intro ys e
      have : ys = [] := by simpa using e
      subst this
      rfl
    | cons x r ih =>
      intro ys e
      have e' : ys = r.reverse ++ [x] := by
        have := congrArg List.reverse e
        simpa using this
      subst e'
      have i0 := ih r.reverse (by simp)
      rw [dd_app]
      unfold dd1
      by_cases z : x ∈ dd r.reverse
      · rw [if_pos z, i0]
        have zm : x ∈ r.reverse := dd_mem.mp z
        by_cases q : j ∈ r.reverse
        · rw [if_pos q, if_pos (by simp at q ⊢; exact .inl q)]
        · have : j ≠ x := fun w => q (w ▸ zm)
          rw [if_neg q, if_neg (by simp at q ⊢; exact ⟨q, this⟩)]
      · rw [if_neg z, bump_app, bump_get1 (by rw [bump_len]; exact hj), i0]
        have zm : x ∉ r.reverse := fun w => z (dd_mem.mpr w)
        by_cases q : j = x
        · subst q
          rw [if_neg zm, if_pos rfl, if_pos (by simp)]
        · rw [if_neg q]
          by_cases q2 : j ∈ r.reverse
          · rw [if_pos q2, if_pos (by simp at q2 ⊢; exact .inl q2)]
          · rw [if_neg q2, if_neg (by simp at q2 ⊢; exact ⟨q2, q⟩)]
  exact key _ xs rfl
theorem mark_above {m : List Bool} {j : Nat} : ∀ {xs : List Nat}, (∀ x, x ∈ xs → x < j) → (mark m xs)[j]? = m[j]? := by
  intro xs
  induction xs generalizing m with
  | nil => intro _; rfl
  | cons x r ih =>
    intro h
    show (mark (m.set x true) r)[j]? = _
    rw [ih fun y hy => h y (by simp [hy]), List.getElem?_set_ne]
    have := h x (by simp)
    omega
theorem step_above {vs : List Vl} (hw : WF vs) {m : List Bool} {k j : Nat} (h : k ≤ j) : (step vs m k)[j]? = m[j]? := by
  unfold step
  split
  · exact mark_above fun x hx => by have := opsAt_lt hw (show x ∈ opsAt vs k from hx); omega
  · rfl
theorem down_above {vs : List Vl} (hw : WF vs) : ∀ {k : Nat} {m : List Bool} {j : Nat}, k ≤ j → (down vs k m)[j]? = m[j]?
  | 0, _, _, _ => rfl
  | k + 1, m, j, h => by
    show (down vs k (step vs m k))[j]? = _
    rw [down_above hw (by omega), step_above hw (by omega)]
theorem tdn_get {vs : List Vl} (hw : WF vs) {j : Nat} : ∀ (k : Nat) (m : List Bool) (c : List Nat), k ≤ m.length → j < c.length →
    ((tdn vs k m c)[j]?).getD 0 = (c[j]?).getD 0 + ((List.range k).filter fun i => isIn (down vs k m) i && (opsAt vs i).contains j).length
  | 0, m, c, hk, hj => rfl
  | k + 1, m, c, hk, hj => by
    show ((tdn vs k (step vs m k) _)[j]?).getD 0 = _
    have hj' : j < (if m[k]? = some true then bump c (dd (opsAt vs k)) else c).length := by
      split
      · rw [bump_len]; exact hj
      · exact hj
    rw [tdn_get hw k (step vs m k) _ (by rw [step_len]; omega) hj', List.range_succ, List.filter_append, List.length_append]
    have e1 : isIn (down vs (k + 1) m) k = isIn m k := by
      unfold isIn
      show ((down vs k (step vs m k))[k]?).getD false = _
      rw [down_above hw (Nat.le_refl _), step_above hw (Nat.le_refl _)]
    have e2 : ((List.range k).filter fun i => isIn (down vs (k + 1) m) i && (opsAt vs i).contains j) = (List.range k).filter fun i => isIn (down vs k (step vs m k)) i && (opsAt vs i).contains j := rfl
    rw [e2]
    have e3 : (List.filter (fun i => isIn (down vs (k + 1) m) i && (opsAt vs i).contains j) [k]).length = if m[k]? = some true ∧ j ∈ opsAt vs k then 1 else 0 := by
      rw [List.filter_cons, e1]
      have gk : m[k]? = some (isIn m k) := by
        unfold isIn
        rw [List.getElem?_eq_getElem (by omega)]
        rfl
      rw [gk]
      cases isIn m k <;> by_cases z : j ∈ opsAt vs k <;> simp [z]
    rw [e3]
    by_cases q : m[k]? = some true
    · rw [if_pos q, bump_dd hj]
      by_cases z : j ∈ opsAt vs k
      · rw [if_pos z, if_pos ⟨q, z⟩]; omega
      · rw [if_neg z, if_neg (fun w => z w.2)]; omega
    · rw [if_neg q, if_neg (fun w => q w.1)]
      omega
theorem users_get {vs : List Vl} {j : Nat} : ∀ (is : List Nat) (c : List Nat), j < c.length → ((users vs is c)[j]?).getD 0 = (c[j]?).getD 0 + (is.filter fun i => (opsAt vs i).contains j).length
  | [], c, hj => rfl
  | i :: is, c, hj => by
    show ((users vs is (bump c (dd (opsAt vs i))))[j]?).getD 0 = _
    rw [users_get is _ (by rw [bump_len]; exact hj), bump_dd hj, List.filter_cons]
    by_cases z : j ∈ opsAt vs i
    · rw [if_pos z, if_pos (by simpa using z), List.length_cons]; omega
    · rw [if_neg z, if_neg (by simpa using z)]; omega
theorem same_counts {vs : List Vl} (hw : WF vs) (outs : List Nat) {j : Nat} (hj : j < vs.length) : ((tcn vs outs)[j]?).getD 0 = ((cnts vs outs)[j]?).getD 0 := by
  unfold tcn cnts
  rw [tdn_get hw _ _ _ (by rw [mark_len, List.length_replicate]; omega) (by simpa using hj), users_get _ _ (by simpa using hj)]
  congr 2
  unfold need
  rw [List.filter_filter]
  congr 1
  funext i
  exact Bool.and_comm _ _
/-! ### the law's list of the shared -/
def lsh (vs : List Vl) (outs : List Nat) : List Nat := (List.range vs.length).filter fun v => isIn (marks vs outs) v && decide (((((tcn vs outs)[v]?).getD 0 : Nat) : Int) + (if (outs.contains v && decide ((((tcn vs outs)[v]?).getD 0 : Nat) > (0 : Int))) = true then 1 else 0) > 1)
theorem lsh_eq {vs : List Vl} (hw : WF vs) (outs : List Nat) : lsh vs outs = shr vs outs := by
  unfold lsh shr need
  rw [List.filter_filter]
  apply List.filter_congr
  intro v hv
  have hv' := List.mem_range.mp hv
  rw [same_counts hw outs hv', Bool.and_comm]
  congr 1
  generalize ((cnts vs outs)[v]?).getD 0 = c
  rw [Bool.eq_iff_iff]
  cases outs.contains v
  · simp
    omega
  · simp
    by_cases z : 0 < c
    · simp [z]; omega
    · have : c = 0 := by omega
      subst this
      simp
end WD
end
section
set_option Elab.async false
set_option linter.all false
set_option maxRecDepth 100000
set_option autoImplicit false
set_option maxHeartbeats 8000000
set_option pp.maxSteps 600
namespace WD
open PySem PySem.Spec PyProof.Rows L2
abbrev lsBody : Sms := (.cons (.ifs (.and (.ix (.var 3) (.var 2)) (.cmp .Gt (.bin .Add (.ix (.var 4) (.var 2)) (.bif .int (.cons (.and (.cmp .In (.var 2) (.ix (.var 0) (.int 2))) (.cmp .Gt (.ix (.var 4) (.var 2)) (.int 0))) .nil))) (.int 1)))
      (.cons (.expr (.mth .append (.var 1) (.cons (.var 2) .nil)))
      .nil)
      .nil)
    .nil)
def lsT (m : List Bool) (c outs : List Nat) (v : Nat) : Bool := isIn m v && decide ((((c[v]?).getD 0 : Nat) : Int) + (if (outs.contains v && decide ((((c[v]?).getD 0 : Nat)) > (0 : Int))) = true then 1 else 0) > 1)
theorem ls_loop {Φ : Phi} {κ : KS} {r a b : Nat} (n1 : r ≠ a) (n2 : r ≠ b) {vs : List Vl} {W : PV} {outs : List Nat} {m : List Bool} {c : List Nat} : ∀ (is acc : List Nat) (u : Option PV) (h : PH), (∀ i, i ∈ is → i < m.length ∧ i < c.length) → getL h a = some (m.map .bl) → getL h b = some (c.map ni) → getL h r = some (acc.map ni) → acc.length + is.length ≤ 10000 →
    (∀ (u : Option PV) (h' : PH), Fr [r] h h' → getL h' r = some ((acc ++ is.filter (lsT m c outs)).map ni) → κ.nx [some (scr vs W outs), some (.loc r), u, some (.loc a), some (.loc b)] h') →
    forW (fun _ => True) (.slot 2) (wSs Φ lsBody) κ (is.map ni) [some (scr vs W outs), some (.loc r), u, some (.loc a), some (.loc b)] h
  | [], acc, u, h, hi, ha, hb, hr, hs, k => ⟨trivial, k u h Fr.refl (by simpa using hr)⟩
  | i :: is, acc, u, h, hi, ha, hb, hr, hs, k => by
    have hi0 := hi i (by simp)
    have e0 : (c.map ni)[i]? = some (ni ((c[i]?).getD 0)) := by simp [hi0.2]
    have ic : ixP (c.map ni).length ((i : Nat) : Int) = some i := ixP_nat (by simpa using hi0.2)
    have no : lsT m c outs i = false → forW (fun _ => True) (.slot 2) (wSs Φ lsBody) κ (is.map ni) [some (scr vs W outs), some (.loc r), some (ni i), some (.loc a), some (.loc b)] h := by
      intro e
      refine ls_loop n1 n2 is acc _ _ (fun i z => hi i (by simp [z])) ha hb hr (by simp at hs ⊢; omega) fun u h' f g' => k u h' f ?_
      rw [g', List.filter_cons, if_neg (by rw [e]; exact Bool.false_ne_true)]
    refine ⟨trivial, _, rfl, _, rfl, _, _, _, _, rfl, ha, ixP_nat (by simpa using hi0.1), isIn_get hi0.1, _, rfl, ite_b (fun e1 => ?_) (fun e1 => ?_)⟩
    · refine ⟨_, rfl, _, rfl, _, _, _, _, rfl, hb, ic, e0, ?_⟩
      refine ⟨_, rfl, _, rfl, _, _, _, _, rfl, rfl, rfl, rfl, ?_⟩
      refine in_tup ?_
      have fin : ∀ z : Bool, z = (outs.contains i && decide ((((c[i]?).getD 0 : Nat)) > (0 : Int))) → cmpS .Gt (.int (((((c[i]?).getD 0 : Nat)) : Int) + (if z = true then 1 else 0))) (.int 1) h fun r' => if r' = true then wSs Φ (.cons (.expr (.mth .append (.var 1) (.cons (.var 2) .nil))) .nil) { κ with nx := forW (fun _ => True) (.slot 2) (wSs Φ lsBody) κ (is.map ni), ct := forW (fun _ => True) (.slot 2) (wSs Φ lsBody) κ (is.map ni), bk := κ.nx } [some (scr vs W outs), some (.loc r), some (ni i), some (.loc a), some (.loc b)] h else forW (fun _ => True) (.slot 2) (wSs Φ lsBody) κ (is.map ni) [some (scr vs W outs), some (.loc r), some (ni i), some (.loc a), some (.loc b)] h := by
        intro z ez
        subst ez
        refine ⟨_, _, rfl, rfl, ite_b (fun e2 => ?_) (fun e2 => no ?_)⟩
        · refine ⟨_, rfl, ⟨_, _, rfl, hr⟩, _, rfl, _, _, rfl, hr, _, rfl, sz (by simp at hs ⊢; omega), ?_⟩
          have e3 : acc.map ni ++ [ni i] = (acc ++ [i]).map ni := by simp
          rw [e3]
          refine ls_loop n1 n2 is (acc ++ [i]) _ _ (fun i z => hi i (by simp [z])) ((getL_set_ne n1).trans ha) ((getL_set_ne n2).trans hb) (getL_set hr) (by simp at hs ⊢; omega) fun u h' f g' => k u h' (Fr.trans (Fr.set (by simp)) f) ?_
          have yes : lsT m c outs i = true := by
            unfold lsT
            rw [e1, Bool.true_and]
            have := of_decide_eq_true e2
            exact decide_eq_true (by omega)
          rw [g', List.filter_cons, if_pos yes]
          simp
        · unfold lsT
          rw [e1, Bool.true_and]
          have := of_decide_eq_false e2
          exact decide_eq_false (by omega)
      cases eo : outs.contains i
      · refine ⟨_, rfl, ite_f rfl ?_⟩
        refine ⟨_, _, rfl, rfl, ?_⟩
        exact fin false (by rw [eo]; rfl)
      · refine ⟨_, rfl, ite_t rfl ?_⟩
        refine ⟨_, rfl, _, rfl, _, _, _, _, rfl, hb, ic, e0, _, _, rfl, rfl, ?_⟩
        refine ⟨_, _, rfl, rfl, ?_⟩
        exact fin _ (by rw [eo, Bool.true_and])
    · refine no ?_
      unfold lsT
      rw [e1]
      rfl
theorem len_loc {h : PH} {l : Nat} {xs : List PV} (e : getL h l = some xs) : lenP h (.loc l) = some xs.length := by
  have := getL_some e
  show (match h[l]? with | some (.lst xs) => some xs.length | some (.dic kvs) => some kvs.length | none => none) = _
  rw [this]
theorem law_shared_ok {n : Nat} {vs : List Vl} {W : PV} {outs : List Nat} {h : PH} {q : QV} {x : QX} (hw : WF vs) (hz : SZ vs) (hx : ∀ y, y ∈ outs → y < vs.length)
    (k : ∀ l h', Fr [] h h' → h.length ≤ l → getL h' l = some ((shr vs outs).map ni) → q (.loc l) h') : den TT12 (n + 2) 1008 [scr vs W outs] h q x := by
  refine den_call (F := ir_f_law_shared) (by rfl) rfl ?_
  refine ⟨_, rfl, ?_⟩
  refine taken_ok hw hz hx fun a b h1 f1 la lb nab g1 g2 => ?_
  have hn := hz.1
  have ml : ((marks vs outs).map PV.bl).length = vs.length := by rw [List.length_map, marks_len]
  have cl : (tcn vs outs).length = vs.length := by unfold tcn; rw [tdn_len, List.length_replicate]
  refine ⟨_, rfl, _, _, rfl, _, _, rfl, rfl, Nat.zero_le _, _, rfl, _, _, rfl, len_loc (getL_app g1), _, rfl, by omega, by omega, ?_⟩
  have er : rangeL 0 ((((marks vs outs).map PV.bl).length : Int)).toNat = (List.range vs.length).map ni := by rw [rangeL0, ml]; rfl
  rw [er]
  have := getL_lt g1
  have := getL_lt g2
  refine ls_loop (r := h1.length) (a := a) (b := b) (by omega) (by omega) (m := marks vs outs) (c := tcn vs outs) (List.range vs.length) [] none _ (fun i hi => by rw [marks_len, cl]; exact ⟨List.mem_range.mp hi, List.mem_range.mp hi⟩) (getL_app g1) (getL_app g2) getL_new (by simp; omega) fun u h' f g => ?_
  refine ⟨_, rfl, k _ _ ?_ f1.1 ?_⟩
  · exact (f1.trans (Fr.app (S := []))).drop f fun l hl => .inr (by simp at hl; have := f1.1; omega)
  · rw [← lsh_eq hw outs]
    exact g
abbrev akBody : Sms := (.cons (.ifs (.or (.not (.bif (.isT "int") (.cons (.ix (.var 3) (.var 4)) .nil))) (.or (.bif (.isT "bool") (.cons (.ix (.var 3) (.var 4)) .nil)) (.cmp .NotEq (.ix (.var 3) (.var 4)) (.ix (.var 2) (.var 4)))))
      (.cons (.ret (.bl false))
      .nil)
      .nil)
    .nil)
theorem asked_loop {Φ : Phi} {κ : KS} {s0 s1 s5 : Option PV} {d : Nat} {S : List Nat} {h : PH} (hd : getL h d = some (S.map ni)) : ∀ (is : List Nat) (u : Option PV), (∀ i, i ∈ is → i < S.length) →
    (∀ (u : Option PV), κ.nx [s0, s1, some (.loc d), some (.tup (S.map ni)), u, s5] h) →
    forW (fun _ => True) (.slot 4) (wSs Φ akBody) κ (is.map ni) [s0, s1, some (.loc d), some (.tup (S.map ni)), u, s5] h
  | [], u, hi, k => ⟨trivial, k u⟩
  | i :: is, u, hi, k => by
    have hi0 := hi i (by simp)
    have e0 : (S.map ni)[i]? = some (ni S[i]) := by simp [hi0]
    have ic : ixP (S.map ni).length ((i : Nat) : Int) = some i := ixP_nat (by simpa using hi0)
    refine ⟨trivial, _, rfl, _, rfl, _, _, _, _, rfl, rfl, ic, e0, _, true, rfl, by rfl, _, rfl, ite_f rfl ?_⟩
    refine ⟨_, rfl, _, rfl, _, _, _, _, rfl, rfl, ic, e0, _, false, rfl, by rfl, _, rfl, ite_f rfl ?_⟩
    refine ⟨_, rfl, _, rfl, _, _, _, _, rfl, rfl, ic, e0, _, rfl, _, rfl, _, _, _, _, rfl, hd, ic, e0, .inl ⟨rfl, ite_f (by simp) ?_⟩⟩
    exact asked_loop hd is _ (fun i z => hi i (by simp [z])) k
theorem asked_ok {n t : Nat} {a b : Int} {vs : List Vl} {W : PV} {outs : List Nat} {h : PH} {q : QV} {x : QX} (hw : WF vs) (hz : SZ vs) (hx : ∀ y, y ∈ outs → y < vs.length) (ht : getL h t = some [.int a, .int b])
    (k : ∀ h', Fr [t] h h' → getL h' t = some (if shr vs outs = [] then [.int a, .int (b + 1)] else [.int (a + 1), .int b]) → q (.bl true) h') : den TT12 (n + 7) 1009 [scr vs W outs, .loc t] h q x := by
  refine den_call (F := ir_f_law_asked) (by rfl) rfl ?_
  refine ⟨_, rfl, ?_⟩
  refine law_shared_ok hw hz hx fun d h1 f1 ld g1 => ?_
  refine ⟨_, rfl, ?_⟩
  refine shared_values_ok hw hz hx fun h2 f2 => ?_
  have g2 := f2.get g1 (by simp)
  have t2 := f2.get (f1.get ht (by simp)) (by simp)
  have sl : (shr vs outs).length ≤ 1000 := by
    have nl : (need vs outs).length ≤ vs.length := by unfold need; have := List.length_filter_le (isIn (marks vs outs)) (List.range vs.length); simpa using this
    have := hz.1
    unfold shr
    have := List.length_filter_le (fun v => decide ((((cnts vs outs)[v]?).getD 0) > 1) || (decide ((((cnts vs outs)[v]?).getD 0) = 1) && outs.contains v)) (need vs outs)
    omega
  refine ⟨_, rfl, _, true, rfl, by rfl, _, rfl, ite_f rfl ?_⟩
  refine ⟨_, rfl, _, _, rfl, rfl, _, rfl, _, _, rfl, len_loc g2, .inl ⟨rfl, ite_f (by simp) ?_⟩⟩
  refine ⟨_, rfl, _, _, rfl, len_loc g2, _, rfl, by have := List.length_map (as := shr vs outs) ni; omega, by have := List.length_map (as := shr vs outs) ni; omega, ?_⟩
  have er : rangeL 0 ((((shr vs outs).map ni).length : Int)).toNat = (List.range (shr vs outs).length).map ni := by rw [rangeL0]; simp
  rw [er]
  refine asked_loop g2 _ _ (fun i hi => List.mem_range.mp hi) fun u => ?_
  have fin : ∀ (h3 : PH), Fr [t] h h3 → getL h3 d = some ((shr vs outs).map ni) → getL h3 t = some (if shr vs outs = [] then [.int a, .int (b + 1)] else [.int (a + 1), .int b]) →
      wSs (den TT12 (n + 6)) (.cons (.set (.slot 5) (.call 85 (.cons (.var 0) .nil)))
  (.cons (.ret (.and (.bif (.isT "bool") (.cons (.var 5) .nil)) (.cmp .Eq (.var 5) (.cmp .Eq (.bif .len (.cons (.var 2) .nil)) (.int 0)))))
  .nil)) { nx := fun _ h' => q .non h', rt := q, ex := fun e _ h' => x e h' } [some (scr vs W outs), some (.loc t), some (.loc d), some (.tup ((shr vs outs).map ni)), u, none] h3 := by
    intro h3 f3 g3 t3
    refine ⟨_, rfl, ?_⟩
    refine is_forest_ok hw hz hx fun h4 f4 => ?_
    refine ⟨_, rfl, _, true, rfl, by rfl, _, rfl, ite_t rfl ?_⟩
    refine ⟨_, rfl, _, rfl, _, _, rfl, len_loc (f4.get g3 (by simp)), .inl ⟨rfl, .inl ⟨rfl, ?_⟩⟩⟩
    have e : decide (PV.bl (shr vs outs).isEmpty = PV.bl (decide (PV.int (((shr vs outs).map ni).length : Int) = PV.int 0))) = true := by
      apply decide_eq_true
      congr 1
      cases shr vs outs with
      | nil => rfl
      | cons y r =>
        symm
        apply decide_eq_false
        intro z
        injection z with z
        simp at z
        omega
    rw [e]
    exact k h4 (f3.trans (f4.mono (by simp))) (f4.get t3 (by simp))
  have tne : t ≠ d := by have := getL_lt ht; omega
  cases es : shr vs outs with
  | nil =>
    rw [es] at fin g2
    refine ⟨_, rfl, _, rfl, _, _, rfl, len_loc g2, .inl ⟨rfl, _, _, rfl, rfl, ?_⟩⟩
    refine ⟨t, 1, _, 1, _, rfl, rfl, t2, rfl, rfl, t, _, _, _, rfl, t2, rfl, rfl, ?_⟩
    refine fin _ ((f1.trans f2).mono (by simp) |>.trans (Fr.set (by simp))) ((getL_set_ne tne).trans g2) ?_
    rw [if_pos rfl]
    exact getL_set t2
  | cons y r =>
    rw [es] at fin g2
    have e : decide (PV.int ((((y :: r).map ni).length : Nat) : Int) = PV.int 0) = false := by
      apply decide_eq_false
      intro z
      injection z with z
      simp at z
      omega
    refine ⟨_, rfl, _, rfl, _, _, rfl, len_loc g2, .inl ⟨rfl, _, 0, rfl, ?_, ?_⟩⟩
    · rw [e]
      rfl
    refine ⟨t, 0, _, 0, _, rfl, rfl, t2, rfl, rfl, t, _, _, _, rfl, t2, rfl, rfl, ?_⟩
    refine fin _ ((f1.trans f2).mono (by simp) |>.trans (Fr.set (by simp))) ((getL_set_ne tne).trans g2) ?_
    rw [if_neg (by simp)]
    exact getL_set t2
end WD
end
section
set_option Elab.async false
set_option linter.all false
set_option maxRecDepth 100000
set_option autoImplicit false
set_option maxHeartbeats 8000000
set_option pp.maxSteps 600
namespace WD
open PySem PySem.Spec PyProof.Rows L2
/-- the seed stands at l; at most k draws were made -/
def Sd (h : PH) (l : Nat) (k : Int) : Prop := ∃ s c, getL h l = some [.int s, .int c] ∧ (0 ≤ s ∧ s < 2 ^ 62) ∧ 0 ≤ c ∧ c ≤ k
theorem Sd.fr {h h' : PH} {l : Nat} {k : Int} {S : List Nat} (s : Sd h l k) (f : Fr S h h') (hn : l ∉ S) : Sd h' l k := by
  obtain ⟨a, b, e, r⟩ := s
  exact ⟨a, b, f.get e hn, r⟩
theorem Sd.mono {h : PH} {l : Nat} {k k' : Int} (s : Sd h l k) (e : k ≤ k') : Sd h l k' := by
  obtain ⟨a, b, e1, e2, e3, e4⟩ := s
  exact ⟨a, b, e1, e2, e3, by omega⟩
theorem Sd.lt {h : PH} {l : Nat} {k : Int} (s : Sd h l k) : l < h.length := by
  obtain ⟨a, b, e1, _⟩ := s
  exact getL_lt e1
theorem sow {n l : Nat} {k many : Int} {h : PH} {q : QV} {x : QX} (s : Sd h l k) (hk : k < 2 ^ 61) (hm : 0 < many) (hm2 : many < 2 ^ 62)
    (z : ∀ (r : Nat) h', (r : Int) < many → Sd h' l (k + 1) → Fr [l] h h' → q (ni r) h') : den TT12 (n + 1) 1001 [.loc l, .int many] h q x := by
  obtain ⟨a, b, e1, e2, e3, e4⟩ := s
  refine sow_ok e1 e2 (by omega) hm hm2 fun r s' h' r0 r1 s0 s1 g f => ?_
  have er : PV.int r = ni r.toNat := by show PV.int r = PV.int ((r.toNat : Nat) : Int); rw [Int.toNat_of_nonneg r0]
  rw [er]
  exact z r.toNat h' (by omega) ⟨s', b + 1, g, ⟨s0, s1⟩, by omega, by omega⟩ f
theorem word_ok {n l : Nat} {k many : Int} {h : PH} {q : QV} {x : QX} (s : Sd h l k) (hk : k < 2 ^ 61)
    (z : ∀ (w : Str) h', w ≠ ("in" : Str) → Sd h' l (k + 1) → Fr [l] h h' → q (.str w) h') : den TT12 (n + 2) 1003 [.loc l, .int many] h q x := by
  refine den_call (F := ir_f_law_word) (by rfl) rfl ?_
  refine ⟨_, rfl, .inl ⟨rfl, ite_b (fun e => ?_) (fun e => ?_)⟩⟩
  · refine ⟨Nat.le_of_ble_eq_true rfl, _, rfl, ?_⟩
    refine sow s hk (by omega) (by omega) fun r h' hr s' f => ?_
    match r, hr with
    | 0, _ => exact ⟨_, _, _, _, rfl, rfl, rfl, rfl, z _ h' (by decide +kernel) s' f⟩
    | 1, _ => exact ⟨_, _, _, _, rfl, rfl, rfl, rfl, z _ h' (by decide +kernel) s' f⟩
    | 2, _ => exact ⟨_, _, _, _, rfl, rfl, rfl, rfl, z _ h' (by decide +kernel) s' f⟩
    | r + 3, hr => exact absurd hr (by omega)
  · refine ⟨_, rfl, .inl ⟨rfl, ite_b (fun e => ?_) (fun e => ?_)⟩⟩
    · refine ⟨Nat.le_of_ble_eq_true rfl, _, rfl, ?_⟩
      refine sow s hk (by omega) (by omega) fun r h' hr s' f => ?_
      match r, hr with
      | 0, _ => exact ⟨_, _, _, _, rfl, rfl, rfl, rfl, z _ h' (by decide +kernel) s' f⟩
      | 1, _ => exact ⟨_, _, _, _, rfl, rfl, rfl, rfl, z _ h' (by decide +kernel) s' f⟩
      | 2, _ => exact ⟨_, _, _, _, rfl, rfl, rfl, rfl, z _ h' (by decide +kernel) s' f⟩
      | 3, _ => exact ⟨_, _, _, _, rfl, rfl, rfl, rfl, z _ h' (by decide +kernel) s' f⟩
      | 4, _ => exact ⟨_, _, _, _, rfl, rfl, rfl, rfl, z _ h' (by decide +kernel) s' f⟩
      | r + 5, hr => exact absurd hr (by omega)
    · refine ⟨Nat.le_of_ble_eq_true rfl, _, rfl, ?_⟩
      refine sow s hk (by omega) (by omega) fun r h' hr s' f => ?_
      match r, hr with
      | 0, _ => exact ⟨_, _, _, _, rfl, rfl, rfl, rfl, z _ h' (by decide +kernel) s' f⟩
      | 1, _ => exact ⟨_, _, _, _, rfl, rfl, rfl, rfl, z _ h' (by decide +kernel) s' f⟩
      | r + 2, hr => exact absurd hr (by omega)
/-! ### leaves -/
abbrev skS (k : Nat) : Str := (toString ((k : Nat) : Int) : String)
abbrev lf8 (k : Nat) : Int := if ((k : Int) + 1) < 8 then (k : Int) + 1 else 8
abbrev lfb (k : Nat) : Int := if decide ((k : Int) < 8) = true then 1 else 0
abbrev lfc (k : Nat) : Int := if decide (7 < (k : Int)) = true then 1 else 0
abbrev lf1 (k : Nat) : Str := strMul "s" (lf8 k)
abbrev lf2 (k : Nat) : Str := strMul (lf1 k) (lfb k)
abbrev lf3 (k : Nat) : Str := lf2 k ++ ("i" : Str)
abbrev lf4 (k : Nat) : Str := strMul (skS k) (lfc k)
def lfOk (k : Nat) : Bool := decide (((k : Nat) : Int).natAbs.log2 < 1920) && decide (("r" : Str).length + (skS k).length ≤ sizeLine) && decide (("out" : Str).length + (skS k).length ≤ sizeLine) &&
  decide (lf8 k ≤ 1000000 ∧ -1000000 ≤ lf8 k ∧ ("s" : Str).length * (lf8 k).toNat ≤ 16777216) && decide (lfb k ≤ 1000000 ∧ -1000000 ≤ lfb k ∧ (lf1 k).length * (lfb k).toNat ≤ 16777216) &&
  decide ((lf2 k).length + ("i" : Str).length ≤ sizeLine) && decide (lfc k ≤ 1000000 ∧ -1000000 ≤ lfc k ∧ (skS k).length * (lfc k).toNat ≤ 16777216) && decide ((lf3 k).length + (lf4 k).length ≤ sizeLine)
theorem lf_all : ∀ k : Fin 128, lfOk k.val = true := by decide +kernel
theorem leaf_ok {n k : Nat} {h : PH} {q : QV} {x : QX} (hk : k < 128) (z : ∀ s : Str, q (Vl.inp s).enc h) : den TT12 (n + 1) 1002 [ni k] h q x := by
  have ok := lf_all ⟨k, hk⟩
  unfold lfOk at ok
  simp only [Bool.and_eq_true, decide_eq_true_eq] at ok
  obtain ⟨⟨⟨⟨⟨⟨⟨o1, o2⟩, o3⟩, o4⟩, o5⟩, o6⟩, o7⟩, o8⟩ := ok
  have sp : strP (ni k) = some (skS k) := if_pos o1
  refine den_call (F := ir_f_law_leaf) (by rfl) rfl ?_
  refine ⟨_, rfl, _, _, rfl, sp, o2, ?_⟩
  refine ⟨_, rfl, _, _, rfl, sp, o3, ?_⟩
  refine ⟨_, rfl, _, _, rfl, o4.1, o4.2.1, o4.2.2, ?_⟩
  refine ⟨_, rfl, _, _, rfl, rfl, _, _, rfl, rfl, o5.1, o5.2.1, o5.2.2, o6, ?_⟩
  refine ⟨_, rfl, _, _, rfl, sp, ?_⟩
  refine ⟨_, rfl, _, _, rfl, rfl, _, _, rfl, rfl, o7.1, o7.2.1, o7.2.2, o8, ?_⟩
  refine ⟨Nat.le_of_ble_eq_true rfl, _, rfl, by omega, ?_⟩
  have hm : ∃ j : Nat, j < 3 ∧ ((k : Nat) : Int) % 3 = (j : Int) := ⟨k % 3, Nat.mod_lt _ (by omega), by omega⟩
  obtain ⟨j, j1, j2⟩ := hm
  have key : ∀ (a b c : PV) (q' : QV), (∀ y, y = a ∨ y = b ∨ y = c → q' y h) → ixS (.tup [a, b, c]) (.int (((k : Nat) : Int) % 3)) h q' := by
    intro a b c q' w
    rw [j2]
    match j, j1 with
    | 0, _ => exact ⟨_, _, _, _, rfl, rfl, rfl, rfl, w a (.inl rfl)⟩
    | 1, _ => exact ⟨_, _, _, _, rfl, rfl, rfl, rfl, w b (.inr (.inl rfl))⟩
    | 2, _ => exact ⟨_, _, _, _, rfl, rfl, rfl, rfl, w c (.inr (.inr rfl))⟩
  refine key _ _ _ _ fun y hy => ?_
  rcases hy with rfl | rfl | rfl
  · exact ⟨Nat.le_of_ble_eq_true rfl, z _⟩
  · exact ⟨Nat.le_of_ble_eq_true rfl, z _⟩
  · exact ⟨Nat.le_of_ble_eq_true rfl, z _⟩
/-! ### three -/
theorem sow_comp {n l b : Nat} {many : Int} {e : Ex} {add : Int} {X : QX} {g : PH → Prop} {ς : PSt} {q : List PV → PH → Prop} (hm : 0 < many) (hm2 : many < 2 ^ 62) {h0 : PH} (hg : ∀ h, Fr [l] h0 h → g h)
    (he : ∀ (y : PV) (h : PH) (k : Int) (Q : QV), Fr [l] h0 h → Sd h l k → k < 2 ^ 61 → (∀ (r : Nat) (h' : PH), (r : Int) < many → Fr [l] h h' → Sd h' l (k + 1) → Q (.int (add + r)) h') → wE (den TT12 (n + 1)) e X (ς.set b (some y)) h Q) :
    ∀ (xs : List PV) (acc : List Nat) (h : PH) (k : Int), 0 ≤ add → Fr [l] h0 h → Sd h l k → k + xs.length < 2 ^ 60 → acc.length + xs.length ≤ 10000 →
    (∀ (rs : List Nat) (h' : PH), rs.length = xs.length → (∀ r, r ∈ rs → add ≤ (r : Int) ∧ (r : Int) < add + many) → Fr [l] h h' → Sd h' l (k + xs.length) → q ((acc ++ rs).map ni) h') →
    compW g (.slot b) ς (wC (den TT12 (n + 1)) .no X) (wE (den TT12 (n + 1)) e X) q xs (acc.map ni) h
  | [], acc, h, k, ha, f, s, hk, hs, z => ⟨hg h f, by simpa using z [] h rfl (by simp) Fr.refl (by simpa using s)⟩
  | y :: r, acc, h, k, ha, f, s, hk, hs, z => by
    refine ⟨hg h f, ?_⟩
    show (if true = true then _ else compW g (.slot b) ς (wC (den TT12 (n + 1)) .no X) (wE (den TT12 (n + 1)) e X) q r (acc.map ni) h)
    rw [if_pos rfl]
    simp only [List.length_cons] at hk hs
    refine he y h k _ f s (by omega) fun v h1 hv f1 s1 => ⟨sz (by simp; omega), ?_⟩
    have ev : PV.int (add + (v : Int)) = ni (add.toNat + v) := by show _ = PV.int ((add.toNat + v : Nat) : Int); congr 1; omega
    have e1 : acc.map ni ++ [PV.int (add + (v : Int))] = (acc ++ [add.toNat + v]).map ni := by rw [ev]; simp
    rw [e1]
    refine sow_comp hm hm2 hg he r (acc ++ [add.toNat + v]) h1 (k + 1) ha (f.trans f1) s1 (by omega) (by simp; omega) fun rs h' hl hr f' s' => ?_
    have := z ((add.toNat + v) :: rs) h' (by simp [hl]) (fun w hw => by
      rcases List.mem_cons.mp hw with rfl | hw
      · omega
      · exact hr w hw) (f1.trans f') (s'.mono (by simp; omega))
    simpa using this
theorem const_at {Φ : Phi} {X : QX} {b : Nat} {ς : PSt} {g : PH → Prop} {h : PH} (hg : g h) {e : Ex} {v : PV} (he : ∀ ς q, q v h → wE Φ e X ς h q) {q : List PV → PH → Prop} : ∀ (xs acc : List PV), acc.length + xs.length ≤ 10000 →
    q (acc ++ List.replicate xs.length v) h → compW g (.slot b) ς (wC Φ .no X) (wE Φ e X) q xs acc h
  | [], acc, hs, k => ⟨hg, by simpa using k⟩
  | y :: r, acc, hs, k => by
    refine ⟨hg, ?_⟩
    show (if true = true then _ else compW g (.slot b) ς (wC Φ .no X) (wE Φ e X) q r acc h)
    rw [if_pos rfl]
    refine he _ _ ⟨sz (by simp at hs; omega), ?_⟩
    exact const_at hg he r (acc ++ [v]) (by simp at hs ⊢; omega) (by simpa [List.replicate_succ] using k)
theorem three_ok {n s v o : Nat} {k : Int} {vs : List Vl} {outs : List Nat} {h : PH} {q : QV} {x : QX} (hs : Sd h s k) (hk : k < 2 ^ 59) (hn : vs.length ≤ 1000) (hv : getL h v = some (vs.map Vl.enc)) (ho : getL h o = some (outs.map ni)) (n1 : s ≠ v) (n2 : s ≠ o)
    (z : ∀ W h', Fr [s] h h' → Sd h' s (k + 2000) → q (scr vs W outs) h') : den TT12 (n + 2) 1006 [.loc s, .loc v, .loc o] h q x := by
  refine den_call (F := ir_f_law_three) (by rfl) rfl ?_
  refine ⟨_, rfl, .inl ⟨_, hv, ?_⟩⟩
  have vl := getL_lt hv
  have ol := getL_lt ho
  have hlen : (vs.map Vl.enc).length = vs.length := by simp
  refine const_at hv (e := .int 1) (v := .int 1) (fun _ _ z => z) _ [] (by simp; omega) ?_
  have f0 : Fr [] h (h ++ [PO.lst ([] ++ List.replicate (vs.map Vl.enc).length (PV.int 1))]) := Fr.app
  refine ⟨_, rfl, ?_⟩
  refine sow (hs.fr f0 (by simp)) (by omega) (by omega) (by omega) fun r h1 hr s1 f1 => ?_
  have v1 := f1.get (f0.get hv (by simp)) (by simp; omega)
  have o1 := f1.get (f0.get ho (by simp)) (by simp; omega)
  have w1 := f1.get (getL_new (h := h) (xs := [] ++ List.replicate (vs.map Vl.enc).length (PV.int 1))) (by have := hs.lt; simp; omega)
  refine .inl ⟨rfl, ite_b (fun e => ?_) (fun e => ?_)⟩
  · refine ⟨_, rfl, .inl ⟨_, v1, ?_⟩⟩
    refine sow_comp (n := n) (l := s) (h0 := h1) (add := 1) (many := 99) (by omega) (by omega) (fun h' f => f.get v1 (by simp; omega)) ?_ (vs.map Vl.enc) [] h1 (k + 1) (by omega) Fr.refl s1 (by simp; omega) (by simp; omega) fun rs h2 hl hb f2 s2 => ?_
    · intro y h' k' Q f s' hk' w
      refine ⟨_, rfl, ?_⟩
      exact sow s' hk' (by omega) (by omega) fun r h'' hr s'' f'' => w r h'' hr f'' s''
    · have v2 := getL_app (o := .lst (([] ++ rs).map ni)) (f2.get v1 (by simp; omega))
      have o2 := getL_app (o := .lst (([] ++ rs).map ni)) (f2.get o1 (by simp; omega))
      refine ⟨_, rfl, _, v2, _, rfl, _, getL_new, _, rfl, _, o2, Nat.le_of_ble_eq_true rfl, ?_⟩
      refine z _ _ ?_ ?_
      · exact ((f0.mono (by simp)).trans f1).trans (f2.trans Fr.app)
      · exact (s2.fr (Fr.app (S := [])) (by simp)).mono (by simp; omega)
  · refine ⟨_, rfl, _, v1, _, rfl, _, w1, _, rfl, _, o1, Nat.le_of_ble_eq_true rfl, ?_⟩
    exact z _ _ ((f0.mono (by simp)).trans f1) (s1.mono (by omega))
end WD
end
section
set_option Elab.async false
set_option linter.all false
set_option maxRecDepth 100000
set_option autoImplicit false
set_option maxHeartbeats 8000000
set_option pp.maxSteps 600
namespace WD
open PySem PySem.Spec PyProof.Rows L2
theorem intsOf_mp : ∀ ns : List Int, intsOf (ns.map PV.int) = some ns
  | [] => rfl
  | i :: r => by
    show (intsOf (r.map PV.int)).map (i :: ·) = _
    rw [intsOf_mp r]
    rfl
theorem idx_comp {Φ : Phi} {X : QX} {a b p : Nat} {ς : PSt} {g : PH → Prop} {h : PH} {parts : List Int} {q : List PV → PH → Prop} (hg : g h) (hab : a ≠ b) (ha : ς[a]? = some (some (.loc p))) (hb : b < ς.length) (hp : getL h p = some (parts.map PV.int)) : ∀ (is : List Nat) (acc : List Int), (∀ i, i ∈ is → i < parts.length) → acc.length + is.length ≤ 10000 →
    (∀ ns : List Int, q (ns.map PV.int) h) → compW g (.slot b) ς (wC Φ .no X) (wE Φ (.ix (.var a) (.var b)) X) q (is.map ni) (acc.map PV.int) h
  | [], acc, hi, hs, z => ⟨hg, z acc⟩
  | i :: r, acc, hi, hs, z => by
    have hi0 := hi i (by simp)
    refine ⟨hg, ?_⟩
    show (if true = true then _ else compW g (.slot b) ς (wC Φ .no X) (wE Φ (.ix (.var a) (.var b)) X) q (r.map ni) (acc.map PV.int) h)
    rw [if_pos rfl]
    have s1 : (ς.set b (some (ni i)))[a]? = some (some (.loc p)) := by rw [List.getElem?_set_ne hab.symm]; exact ha
    have s2 : (ς.set b (some (ni i)))[b]? = some (some (ni i)) := by rw [List.getElem?_set_self hb]
    have e0 : (parts.map PV.int)[i]? = some (.int parts[i]) := by simp [hi0]
    refine ⟨_, s1, _, s2, _, _, _, _, rfl, hp, ixP_nat (by simpa using hi0), e0, sz (by simp at hs ⊢; omega), ?_⟩
    have e1 : acc.map PV.int ++ [PV.int parts[i]] = (acc ++ [parts[i]]).map PV.int := by simp
    rw [e1]
    exact idx_comp hg hab ha hb hp r (acc ++ [parts[i]]) (fun i z => hi i (by simp [z])) (by simp at hs ⊢; omega) z
theorem erase_lt {xs : List Nat} {k K : Nat} (h : ∀ x, x ∈ xs → x < K) : ∀ x, x ∈ xs.eraseIdx k → x < K := fun x hx => h x (List.mem_of_mem_eraseIdx hx)
abbrev pkBody : Sms := (.cons (.expr (.mth .append (.var 9) (.cons (.mth .popAt (.var 4) (.cons (.call 1001 (.cons (.var 0) (.cons (.bif .len (.cons (.var 4) .nil)) .nil))) .nil)) .nil)))
        .nil)
theorem picks_loop {n s r pk K : Nat} {κ : KS} {s1 s2 s3 s5 s6 s7 s8 s11 : Option PV} (nsr : s ≠ r) (nsp : s ≠ pk) (nrp : r ≠ pk) : ∀ (ys : List PV) (roots picks : List Nat) (u : Option PV) (h : PH) (k : Int), ys.length ≤ roots.length → roots.length ≤ 1000 → picks.length + ys.length ≤ 1000 → (∀ x, x ∈ roots → x < K) → (∀ x, x ∈ picks → x < K) →
    getL h r = some (roots.map ni) → getL h pk = some (picks.map ni) → Sd h s k → k + ys.length < 2 ^ 60 →
    (∀ (u : Option PV) (roots' picks' : List Nat) (h' : PH), Fr [s, r, pk] h h' → getL h' r = some (roots'.map ni) → getL h' pk = some (picks'.map ni) → picks'.length = picks.length + ys.length → roots'.length + ys.length = roots.length → (∀ x, x ∈ roots' → x < K) → (∀ x, x ∈ picks' → x < K) → Sd h' s (k + ys.length) →
      κ.nx [some (.loc s), s1, s2, s3, some (.loc r), s5, s6, s7, s8, some (.loc pk), u, s11] h') →
    forW (fun _ => True) (.slot 10) (wSs (den TT12 (n + 1)) pkBody) κ ys [some (.loc s), s1, s2, s3, some (.loc r), s5, s6, s7, s8, some (.loc pk), u, s11] h
  | [], roots, picks, u, h, k, h1, h2, h3, h4, h5, hr, hp, hs, hk, z => ⟨trivial, z u roots picks h Fr.refl hr hp (by simp) (by simp) h4 h5 (by simpa using hs)⟩
  | y :: ys, roots, picks, u, h, k, h1, h2, h3, h4, h5, hr, hp, hs, hk, z => by
    simp only [List.length_cons] at h1 h3 hk
    refine ⟨trivial, _, rfl, ⟨_, _, rfl, hp⟩, _, rfl, ⟨_, _, rfl, hr⟩, _, rfl, _, rfl, _, _, rfl, len_loc hr, ?_⟩
    refine sow hs (by omega) (by simp; omega) (by simp; omega) fun t h1' ht s1' f1 => ?_
    have hr1 := f1.get hr (by simp; omega)
    have hp1 := f1.get hp (by simp; omega)
    have htl : t < roots.length := by simp at ht; omega
    have e0 : (roots.map ni)[t]? = some (ni roots[t]) := by simp [htl]
    have er : (roots.map ni).eraseIdx t = (roots.eraseIdx t).map ni := by
      rw [List.eraseIdx_eq_take_drop_succ, List.eraseIdx_eq_take_drop_succ]
      simp [List.map_take, List.map_drop]
    refine ⟨r, _, rfl, hr1, _, t, _, rfl, ⟨by omega, by omega⟩, ixP_nat (by simpa using htl), e0, ?_⟩
    rw [er]
    have hr2 : getL (h1'.set r (.lst ((roots.eraseIdx t).map ni))) r = some ((roots.eraseIdx t).map ni) := getL_set hr1
    have hp2 : getL (h1'.set r (.lst ((roots.eraseIdx t).map ni))) pk = some (picks.map ni) := (getL_set_ne nrp).trans hp1
    refine ⟨pk, _, rfl, hp2, _, rfl, sz (by simp; omega), ?_⟩
    have e1 : picks.map ni ++ [ni roots[t]] = (picks ++ [roots[t]]).map ni := by simp
    rw [e1]
    have s2 : Sd ((h1'.set r (.lst ((roots.eraseIdx t).map ni))).set pk (.lst ((picks ++ [roots[t]]).map ni))) s (k + 1) :=
      (s1'.fr (Fr.set (S := [r]) (by simp)) (by simp; omega)).fr (Fr.set (S := [pk]) (by simp)) (by simp; omega)
    have le : (roots.eraseIdx t).length + 1 = roots.length := by rw [List.length_eraseIdx_of_lt htl]; omega
    refine picks_loop nsr nsp nrp ys (roots.eraseIdx t) (picks ++ [roots[t]]) _ _ (k + 1) (by omega) (by omega) (by simp; omega) (erase_lt h4) (fun x hx => ?_) ((getL_set_ne (Ne.symm nrp)).trans hr2) (getL_set hp2) s2 (by omega) fun u r' p' h' f g1 g2 g3 g4 g5 g6 g7 => ?_
    · rcases List.mem_append.mp hx with hx | hx
      · exact h5 x hx
      · have : x = roots[t] := by simpa using hx
        rw [this]
        exact h4 _ (List.getElem_mem _)
    · refine z u r' p' h' ?_ g1 g2 (by simp at g3 ⊢; omega) (by simp; omega) g5 g6 (g7.mono (by simp; omega))
      exact (f1.mono (by simp)).trans ((Fr.set (by simp)).trans ((Fr.set (by simp)).trans f))
/-- values being made -/
structure Mk (vs : List Vl) : Prop where
  wf : WF vs
  few : ∀ v, v ∈ vs → v.ops.length ≤ 4
theorem Mk.sz {vs : List Vl} (m : Mk vs) (h : vs.length ≤ 1000) : SZ vs := ⟨h, fun i => by
  unfold opsAt
  cases e : vs[i]? with
  | none => exact Nat.zero_le _
  | some v => have := m.few v (List.mem_of_getElem? e); show v.ops.length ≤ 10; omega⟩
theorem Mk.inp {vs : List Vl} (m : Mk vs) (s : Str) : Mk (vs ++ [.inp s]) := ⟨fun i v hv => by
  by_cases h : i < vs.length
  · rw [List.getElem?_append_left h] at hv
    exact m.wf i v hv
  · rw [List.getElem?_append_right (by omega)] at hv
    have : v = .inp s := by
      cases q : i - vs.length with
      | zero => rw [q] at hv; simpa using hv.symm
      | succ j => rw [q] at hv; simp at hv
    subst this
    trivial, fun v hv => by
  rcases List.mem_append.mp hv with h | h
  · exact m.few v h
  · have : v = .inp s := by simpa using h
    subst this
    exact Nat.zero_le _⟩
theorem Mk.wk {vs : List Vl} (m : Mk vs) {w : Str} {o : List Nat} (hw : w ≠ ("in" : Str)) (ho : ∀ x, x ∈ o → x < vs.length) (hl : o.length ≤ 4) : Mk (vs ++ [.wk w o]) := ⟨fun i v hv => by
  by_cases h : i < vs.length
  · rw [List.getElem?_append_left h] at hv
    exact m.wf i v hv
  · rw [List.getElem?_append_right (by omega)] at hv
    have : v = .wk w o := by
      cases q : i - vs.length with
      | zero => rw [q] at hv; simpa using hv.symm
      | succ j => rw [q] at hv; simp at hv
    subst this
    exact ⟨hw, fun x hx => by have := ho x hx; omega⟩, fun v hv => by
  rcases List.mem_append.mp hv with h | h
  · exact m.few v h
  · have : v = .wk w o := by simpa using h
    subst this
    exact hl⟩
end WD
end
section
set_option Elab.async false
set_option linter.all false
set_option maxRecDepth 100000
set_option autoImplicit false
set_option maxHeartbeats 8000000
set_option pp.maxSteps 600
namespace WD
open PySem PySem.Spec PyProof.Rows L2
abbrev wdTail : Sms := (.cons (.expr (.mth .append (.var 4) (.cons (.var 6) .nil)))
    (.cons (.expr (.mth .append (.var 5) (.cons (.var 7) .nil)))
    .nil))
abbrev wdLast : Sms := (.cons (.expr (.mth .append (.var 3) (.cons (.tup (.cons (.call 1003 (.cons (.var 0) (.cons (.bif .len (.cons (.var 9) .nil)) .nil))) (.cons (.lif .tuple (.e (.var 9))) .nil))) .nil)))
      .nil)
abbrev wdBody : Sms := (.cons (.set (.slot 7) (.int 1))
    (.cons (.set (.slot 8) (.bif .min2 (.cons (.bif .len (.cons (.var 4) .nil)) (.cons (.bin .Add (.int 1) (.call 1001 (.cons (.var 0) (.cons (.int 3) .nil)))) .nil))))
    (.cons (.ifs (.cmp .Lt (.call 1001 (.cons (.var 0) (.cons (.int 10) .nil))) (.var 2))
      (.cons (.expr (.mth .append (.var 3) (.cons (.call 1002 (.cons (.var 6) .nil)) .nil)))
      .nil)
      (.cons (.set (.slot 9) (.new (.disp .nil)))
      (.cons (.fors (.slot 10) (.range1 (.var 8)) pkBody)
      (.cons (.set (.slot 7) (.bin .Add (.int 1) (.lif .sum (.l (.comp [11] (.ix (.var 5) (.var 11)) (.slot 11) (.la (.e (.var 9))) .no)))))
      (.cons (.ifs (.and (.cmp .Lt (.bif .len (.cons (.var 9) .nil)) (.int 3)) (.and (.cmp .Lt (.var 7) (.int 30)) (.cmp .Eq (.call 1001 (.cons (.var 0) (.cons (.int 3) .nil))) (.int 0))))
        (.cons (.set (.slot 7) (.bin .Add (.var 7) (.ix (.var 5) (.ix (.var 9) (.int 0)))))
        (.cons (.expr (.mth .append (.var 9) (.cons (.ix (.var 9) (.int 0)) .nil)))
        .nil))
        .nil)
      wdLast)))))
    wdTail)))
theorem wood_loop {n s v r p : Nat} {many bare : Int} {κ : KS} (sv : s ≠ v) (sr : s ≠ r) (sp : s ≠ p) (vr : v ≠ r) (vp : v ≠ p) (rp : r ≠ p) : ∀ (cnt K : Nat) (vs : List Vl) (roots : List Nat) (parts : List Int) (u6 u7 u8 u9 u10 u11 : Option PV) (h : PH) (k : Int),
    K + cnt ≤ 100 → vs.length = K → Mk vs → parts.length = K → roots ≠ [] → roots.length ≤ K → (∀ x, x ∈ roots → x < K) → getL h v = some (vs.map Vl.enc) → getL h r = some (roots.map ni) → getL h p = some (parts.map PV.int) → Sd h s k → k + 20 * cnt < 2 ^ 59 →
    (∀ (u6 u7 u8 u9 u10 u11 : Option PV) (vs' : List Vl) (roots' : List Nat) (h' : PH), Fr [s, v, r, p] h h' → vs'.length = K + cnt → Mk vs' → roots' ≠ [] → roots'.length ≤ K + cnt → (∀ x, x ∈ roots' → x < K + cnt) → getL h' v = some (vs'.map Vl.enc) → getL h' r = some (roots'.map ni) → Sd h' s (k + 20 * cnt) →
      κ.nx [some (.loc s), some (.int many), some (.int bare), some (.loc v), some (.loc r), some (.loc p), u6, u7, u8, u9, u10, u11] h') →
    forW (fun _ => True) (.slot 6) (wSs (den TT12 (n + 2)) wdBody) κ ((List.range' K cnt).map ni) [some (.loc s), some (.int many), some (.int bare), some (.loc v), some (.loc r), some (.loc p), u6, u7, u8, u9, u10, u11] h
  | 0, K, vs, roots, parts, u6, u7, u8, u9, u10, u11, h, k, hK, hl, mk, hpl, hne, hrl, hrk, gv, gr, gp, sd, hk, z => ⟨trivial, z _ _ _ _ _ _ vs roots h Fr.refl (by simpa using hl) mk hne (by simpa using hrl) (by simpa using hrk) gv gr (by simpa using sd)⟩
  | cnt + 1, K, vs, roots, parts, u6, u7, u8, u9, u10, u11, h, k, hK, hl, mk, hpl, hne, hrl, hrk, gv, gr, gp, sd, hk, z => by
    rw [List.range'_succ]
    -- the end of a turn
    have tail : ∀ (vs' : List Vl) (sz' : Int) (roots0 : List Nat) (u8 u9 u10 u11 : Option PV) (h2 : PH), Fr [s, v, r, p] h h2 → vs'.length = K + 1 → Mk vs' → roots0.length ≤ K → (∀ x, x ∈ roots0 → x < K) → getL h2 v = some (vs'.map Vl.enc) → getL h2 r = some (roots0.map ni) → getL h2 p = some (parts.map PV.int) → Sd h2 s (k + 20) →
        wSs (den TT12 (n + 2)) wdTail { κ with nx := forW (fun _ => True) (.slot 6) (wSs (den TT12 (n + 2)) wdBody) κ ((List.range' (K + 1) cnt).map ni), ct := forW (fun _ => True) (.slot 6) (wSs (den TT12 (n + 2)) wdBody) κ ((List.range' (K + 1) cnt).map ni), bk := κ.nx } [some (.loc s), some (.int many), some (.int bare), some (.loc v), some (.loc r), some (.loc p), some (ni K), some (.int sz'), u8, u9, u10, u11] h2 := by
      intro vs' sz' roots0 u8 u9 u10 u11 h2 f hl' mk' hr0 hrk0 gv2 gr2 gp2 sd2
      refine ⟨_, rfl, ⟨_, _, rfl, gr2⟩, _, rfl, _, _, rfl, gr2, _, rfl, sz (by simp; omega), ?_⟩
      have e1 : roots0.map ni ++ [ni K] = (roots0 ++ [K]).map ni := by simp
      rw [e1]
      have gp3 : getL (h2.set r (.lst ((roots0 ++ [K]).map ni))) p = some (parts.map PV.int) := (getL_set_ne rp).trans gp2
      refine ⟨_, rfl, ⟨_, _, rfl, gp3⟩, _, rfl, _, _, rfl, gp3, _, rfl, sz (by simp; omega), ?_⟩
      have e2 : parts.map PV.int ++ [PV.int sz'] = (parts ++ [sz']).map PV.int := by simp
      rw [e2]
      refine wood_loop sv sr sp vr vp rp cnt (K + 1) vs' (roots0 ++ [K]) (parts ++ [sz']) _ _ _ _ _ _ _ (k + 20) (by omega) hl' mk' (by simp [hpl]) (by simp) (by simp; omega) (fun x hx => ?_) ?_ ?_ (getL_set gp3) ?_ (by omega) fun u6 u7 u8 u9 u10 u11 vs'' roots'' h' f' a1 a2 a3 a4 a5 a6 a7 a8 => ?_
      · rcases List.mem_append.mp hx with hx | hx
        · have := hrk0 x hx; omega
        · have : x = K := by simpa using hx
          omega
      · exact (getL_set_ne (Ne.symm vp)).trans ((getL_set_ne (Ne.symm vr)).trans gv2)
      · exact (getL_set_ne (Ne.symm rp)).trans (getL_set gr2)
      · exact (sd2.fr (Fr.set (S := [r]) (by simp)) (by simp; omega)).fr (Fr.set (S := [p]) (by simp)) (by simp; omega)
      · refine z u6 u7 u8 u9 u10 u11 vs'' roots'' h' ?_ (by omega) a2 a3 (by omega) (fun x hx => by have := a5 x hx; omega) a6 a7 (a8.mono (by omega))
        exact f.trans ((Fr.set (by simp)).trans ((Fr.set (by simp)).trans f'))
    refine ⟨trivial, _, rfl, _, _, rfl, len_loc gr, _, rfl, ?_⟩
    refine sow sd (by omega) (by omega) (by omega) fun t h1 ht s1 f1 => ?_
    have gv1 := f1.get gv (by simp; omega)
    have gr1 := f1.get gr (by simp; omega)
    have gp1 := f1.get gp (by simp; omega)
    refine ⟨_, _, rfl, _, rfl, ?_⟩
    refine sow s1 (by omega) (by omega) (by omega) fun t2 h2 ht2 s2 f2 => ?_
    have gv2 := f2.get gv1 (by simp; omega)
    have gr2 := f2.get gr1 (by simp; omega)
    have gp2 := f2.get gp1 (by simp; omega)
    have f12 : Fr [s, v, r, p] h h2 := (f1.trans f2).mono (by simp)
    have rlen : (roots.map ni).length = roots.length := by simp
    have rpos : 0 < roots.length := List.length_pos_iff.mpr hne
    refine ⟨_, rfl, _, _, rfl, rfl, ite_b (fun e => ?_) (fun e => ?_)⟩
    · refine ⟨_, rfl, ⟨_, _, rfl, gv2⟩, _, rfl, ?_⟩
      refine leaf_ok (by omega) fun str => ?_
      refine ⟨_, _, rfl, gv2, _, rfl, sz (by simp; omega), ?_⟩
      have e1 : vs.map Vl.enc ++ [(Vl.inp str).enc] = (vs ++ [Vl.inp str]).map Vl.enc := by simp
      rw [e1]
      refine tail (vs ++ [Vl.inp str]) 1 roots _ _ _ _ _ (f12.trans (Fr.set (by simp))) (by simp [hl]) (mk.inp str) hrl hrk (getL_set gv2) ((getL_set_ne vr).trans gr2) ((getL_set_ne vp).trans gp2) ?_
      exact (s2.fr (Fr.set (S := [v]) (by simp)) (by simp; omega)).mono (by omega)
    · refine ⟨Nat.zero_le _, _, rfl, _, rfl, ?_, ?_, ?_⟩
      · split <;> omega
      · split <;> omega
      have v2 := getL_lt gv2
      have r2 := getL_lt gr2
      have p2 := getL_lt gp2
      have sl := s2.lt
      have ga := getL_new (h := h2) (xs := [])
      have al : (if (1 : Int) + (t : Int) < ((roots.map ni).length : Nat) then (1 : Int) + (t : Int) else ((roots.map ni).length : Nat)).toNat ≤ roots.length ∧ 1 ≤ (if (1 : Int) + (t : Int) < ((roots.map ni).length : Nat) then (1 : Int) + (t : Int) else ((roots.map ni).length : Nat)).toNat ∧ (if (1 : Int) + (t : Int) < ((roots.map ni).length : Nat) then (1 : Int) + (t : Int) else ((roots.map ni).length : Nat)).toNat ≤ 3 := by
        rw [rlen]
        split <;> omega
      generalize (if (1 : Int) + (t : Int) < ((roots.map ni).length : Nat) then (1 : Int) + (t : Int) else ((roots.map ni).length : Nat)) = ar at al ⊢
      have yl : (rangeL 0 ar.toNat).length = ar.toNat := rangeL_length _ _
      refine picks_loop (K := K) sr (by omega) (by omega) (rangeL 0 ar.toNat) roots [] _ _ (k + 1 + 1) (by omega) (by omega) (by simp; omega) hrk (by simp) (getL_app gr2) ga (s2.fr (Fr.app (S := [])) (by simp)) (by omega) fun u10 roots' picks h3 f3 gr3 ga3 pl rl rk pk s3 => ?_
      have f03 : Fr [s, v, r, p] h h3 := (f12.trans Fr.app).drop f3 fun l hl => by
        simp at hl
        rcases hl with rfl | rfl | rfl
        · exact .inl (by simp)
        · exact .inl (by simp)
        · exact .inr f12.1
      have gv3 := f3.get (getL_app (o := .lst []) gv2) (by simp; omega)
      have gp3 := f3.get (getL_app (o := .lst []) gp2) (by simp; omega)
      have pl' : picks.length = ar.toNat := by rw [pl, yl]; simp
      refine ⟨_, rfl, .inl ⟨_, ga3, ?_⟩⟩
      refine idx_comp (a := 5) (b := 11) (p := p) ga3 (by decide) rfl (by show (11 : Nat) < 12; decide) gp3 picks [] (fun i hi => by have := pk i hi; omega) (by simp; omega) fun ns => ?_
      refine ⟨_, rfl, _, intsOf_mp ns, ?_⟩
      -- the value is appended
      have last : ∀ (picks' : List Nat) (sz' : Int) (h4 : PH) (k4 : Int), picks'.length ≤ 4 → (∀ x, x ∈ picks' → x < K) → Fr [s, v, r, p] h h4 → getL h4 v = some (vs.map Vl.enc) → getL h4 r = some (roots'.map ni) → getL h4 p = some (parts.map PV.int) → getL h4 h2.length = some (picks'.map ni) → Sd h4 s k4 → k4 ≤ k + 10 → ∀ (u8 u11 : Option PV),
          wSs (den TT12 (n + 2)) wdLast { κ with nx := wSs (den TT12 (n + 2)) wdTail { κ with nx := forW (fun _ => True) (.slot 6) (wSs (den TT12 (n + 2)) wdBody) κ ((List.range' (K + 1) cnt).map ni), ct := forW (fun _ => True) (.slot 6) (wSs (den TT12 (n + 2)) wdBody) κ ((List.range' (K + 1) cnt).map ni), bk := κ.nx }, ct := forW (fun _ => True) (.slot 6) (wSs (den TT12 (n + 2)) wdBody) κ ((List.range' (K + 1) cnt).map ni), bk := κ.nx } [some (.loc s), some (.int many), some (.int bare), some (.loc v), some (.loc r), some (.loc p), some (ni K), some (.int sz'), u8, some (.loc h2.length), u10, u11] h4 := by
        intro picks' sz' h4 k4 c1 c2 f4 gv4 gr4 gp4 ga4 s4 c3 u8 u11
        refine ⟨_, rfl, ⟨_, _, rfl, gv4⟩, _, rfl, _, rfl, _, _, rfl, len_loc ga4, ?_⟩
        refine word_ok s4 (by omega) fun w h5 hw s5 f5 => ?_
        have gv5 := f5.get gv4 (by simp; omega)
        have gr5 := f5.get gr4 (by simp; omega)
        have gp5 := f5.get gp4 (by simp; omega)
        have ga5 := f5.get ga4 (by simp; omega)
        refine ⟨_, rfl, _, ga5, Nat.le_of_ble_eq_true rfl, _, _, rfl, gv5, _, rfl, sz (by simp; omega), ?_⟩
        have e1 : vs.map Vl.enc ++ [.tup [.str w, .tup (picks'.map ni)]] = (vs ++ [Vl.wk w picks']).map Vl.enc := by simp [Vl.enc]
        rw [e1]
        refine tail (vs ++ [Vl.wk w picks']) sz' roots' _ _ _ _ _ (f4.trans ((f5.mono (by simp)).trans (Fr.set (by simp)))) (by simp [hl]) (mk.wk hw (by rw [hl]; exact c2) c1) (by omega) rk (getL_set gv5) ((getL_set_ne vr).trans gr5) ((getL_set_ne vp).trans gp5) ?_
        exact (s5.fr (Fr.set (S := [v]) (by simp)) (by simp; omega)).mono (by omega)
      refine ⟨_, rfl, _, _, rfl, len_loc ga3, _, _, rfl, rfl, ite_b (fun e2 => ?_) (fun e2 => ?_)⟩
      · refine ⟨_, rfl, _, _, rfl, rfl, ite_b (fun e3 => ?_) (fun e3 => ?_)⟩
        · refine ⟨_, rfl, ?_⟩
          refine sow s3 (by omega) (by omega) (by omega) fun t4 h4 ht4 s4 f4 => ?_
          have gv4 := f4.get gv3 (by simp; omega)
          have gr4 := f4.get gr3 (by simp; omega)
          have gp4 := f4.get gp3 (by simp; omega)
          have ga4 := f4.get ga3 (by simp; omega)
          refine .inl ⟨rfl, ite_b (fun e4 => ?_) (fun e4 => ?_)⟩
          · have p0 : 0 < picks.length := by omega
            have ep : (picks.map ni)[0]? = some (ni picks[0]) := by simp [p0]
            have pk0 := pk picks[0] (List.getElem_mem _)
            have eq0 : (parts.map PV.int)[picks[0]]? = some (.int (parts[picks[0]]'(by omega))) := by simp [show picks[0] < parts.length by omega]
            have ip : ixP (picks.map ni).length (0 : Int) = some 0 := ixP_nat (i := 0) (by simpa using p0)
            refine ⟨_, rfl, _, rfl, _, rfl, _, _, _, _, rfl, ga4, ip, ep, _, _, _, _, rfl, gp4, ixP_nat (by simp; omega), eq0, ?_⟩
            refine ⟨_, rfl, ⟨_, _, rfl, ga4⟩, _, rfl, _, _, _, _, rfl, ga4, ip, ep, _, _, rfl, ga4, _, rfl, sz (by simp; omega), ?_⟩
            have e5 : picks.map ni ++ [ni picks[0]] = (picks ++ [picks[0]]).map ni := by simp
            rw [e5]
            refine last (picks ++ [picks[0]]) _ _ (k + 1 + 1 + (rangeL 0 ar.toNat).length + 1) (by simp; omega) (fun x hx => ?_) ?_ ((getL_set_ne (by omega)).trans gv4) ((getL_set_ne (by omega)).trans gr4) ((getL_set_ne (by omega)).trans gp4) (getL_set ga4) ?_ (by omega) _ _
            · rcases List.mem_append.mp hx with hx | hx
              · exact pk x hx
              · have : x = picks[0] := by simpa using hx
                rw [this]; exact pk0
            · exact (f03.trans (f4.mono (by simp))).setNew f12.1
            · exact s4.fr (Fr.set (S := [h2.length]) (by simp)) (by simp; omega)
          · exact last picks _ h4 _ (by omega) pk (f03.trans (f4.mono (by simp))) gv4 gr4 gp4 ga4 s4 (by omega) _ _
        · exact ite_f rfl (last picks _ h3 _ (by omega) pk f03 gv3 gr3 gp3 ga3 s3 (by omega) _ _)
      · exact ite_f rfl (last picks _ h3 _ (by omega) pk f03 gv3 gr3 gp3 ga3 s3 (by omega) _ _)
end WD
end
section
set_option Elab.async false
set_option linter.all false
set_option maxRecDepth 100000
set_option autoImplicit false
set_option maxHeartbeats 8000000
set_option pp.maxSteps 600
namespace WD
open PySem PySem.Spec PyProof.Rows L2
theorem Mk.nil : Mk [] := ⟨fun i v hv => by simp at hv, fun v hv => by simp at hv⟩
theorem wood_ok {n s : Nat} {k bare : Int} {many : Nat} {h : PH} {q : QV} {x : QX} (hs : Sd h s k) (hk : k < 2 ^ 57) (m1 : 1 ≤ many) (m2 : many ≤ 100)
    (z : ∀ (v r : Nat) (vs : List Vl) (roots : List Nat) (h' : PH), Fr [s] h h' → h.length ≤ v → h.length ≤ r → v ≠ r → vs.length = many → Mk vs → roots.length ≤ many → (∀ y, y ∈ roots → y < many) → getL h' v = some (vs.map Vl.enc) → getL h' r = some (roots.map ni) → Sd h' s (k + 2000) → q (.tup [.loc v, .loc r]) h') :
    den TT12 (n + 3) 1004 [.loc s, ni many, .int bare] h q x := by
  refine den_call (F := ir_f_law_wood) (by rfl) rfl ?_
  refine leaf_ok (k := 0) (by decide) fun str => ?_
  refine ⟨Nat.le_of_ble_eq_true rfl, Nat.le_of_ble_eq_true rfl, Nat.le_of_ble_eq_true rfl, _, rfl, _, _, rfl, rfl, ⟨by omega, by omega, by omega, by omega⟩, ?_⟩
  have sl := hs.lt
  have er : rangeL 1 (((many : Nat) : Int) - 1).toNat = (List.range' 1 (many - 1)).map ni := by
    have : (((many : Nat) : Int) - 1).toNat = many - 1 := by omega
    rw [this]
    exact rangeL_map _ 1
  rw [er]
  have g1 := getL_new (h := h) (xs := [(Vl.inp str).enc])
  have g2 := getL_new (h := h ++ [.lst [(Vl.inp str).enc]]) (xs := [ni 0])
  have g3 := getL_new (h := h ++ [.lst [(Vl.inp str).enc]] ++ [.lst [ni 0]]) (xs := [PV.int 1])
  have f3 : Fr [] h (h ++ [.lst [(Vl.inp str).enc]] ++ [.lst [ni 0]] ++ [.lst [PV.int 1]]) := (Fr.app (S := [])).trans ((Fr.app (S := [])).trans Fr.app)
  have l1 : (h ++ [PO.lst [(Vl.inp str).enc]]).length = h.length + 1 := by simp
  have l2 : (h ++ [PO.lst [(Vl.inp str).enc]] ++ [PO.lst [ni 0]]).length = h.length + 2 := by simp
  refine wood_loop (v := h.length) (r := (h ++ [PO.lst [(Vl.inp str).enc]]).length) (p := (h ++ [PO.lst [(Vl.inp str).enc]] ++ [PO.lst [ni 0]]).length) (by omega) (by omega) (by omega) (by omega) (by omega) (by omega) (many - 1) 1 [Vl.inp str] [0] [1] _ _ _ _ _ _ _ k (by omega) rfl (Mk.nil.inp str) rfl (by simp) (by simp) (by simp) (getL_app (getL_app g1)) (getL_app g2) g3 (hs.fr f3 (by simp)) (by omega) fun u6 u7 u8 u9 u10 u11 vs' roots' h' f c1 c2 c3 c4 c5 c6 c7 c8 => ?_
  refine ⟨_, rfl, _, rfl, Nat.le_of_ble_eq_true rfl, ?_⟩
  refine z _ _ vs' roots' h' ?_ (Nat.le_refl _) (by omega) (by omega) (by omega) c2 (by omega) (fun y hy => by have := c5 y hy; omega) c6 c7 (c8.mono (by omega))
  exact (f3.mono (by simp)).drop f fun l hl => by
    simp only [List.mem_cons, List.not_mem_nil, or_false] at hl
    rcases hl with rfl | rfl | rfl | rfl
    · exact .inl (by simp)
    · exact .inr (Nat.le_refl _)
    · exact .inr (by omega)
    · exact .inr (by omega)
theorem id_at {Φ : Phi} {X : QX} {b : Nat} {ς : PSt} {g : PH → Prop} {h : PH} (hg : g h) (hb : b < ς.length) {q : List PV → PH → Prop} : ∀ (xs acc : List PV), acc.length + xs.length ≤ 10000 →
    q (acc ++ xs) h → compW g (.slot b) ς (wC Φ .no X) (wE Φ (.var b) X) q xs acc h
  | [], acc, hs, k => ⟨hg, by simpa using k⟩
  | y :: r, acc, hs, k => by
    refine ⟨hg, ?_⟩
    show (if true = true then _ else compW g (.slot b) ς (wC Φ .no X) (wE Φ (.var b) X) q r acc h)
    rw [if_pos rfl]
    have s2 : (ς.set b (some y))[b]? = some (some y) := by rw [List.getElem?_set_self hb]
    refine ⟨_, s2, sz (by simp at hs; omega), ?_⟩
    exact id_at hg hb r (acc ++ [y]) (by simp at hs ⊢; omega) (by simpa using k)
/-- counting by any test -/
theorem cnt_at {Φ : Phi} {X : QX} {b : Nat} {ς : PSt} {g : PH → Prop} {h : PH} {cd : OEx} (hg : g h) {q : List PV → PH → Prop} (z : ∀ L, q L h) : ∀ (vs : List Vl) (acc : List PV), acc.length + vs.length ≤ 10000 → (∀ v, v ∈ vs → ∀ Q : Bool → PH → Prop, (∀ b, Q b h) → wC Φ cd X (ς.set b (some v.enc)) h Q) →
    compW g (.slot b) ς (wC Φ cd X) (wE Φ (.int 1) X) q (vs.map Vl.enc) acc h
  | [], acc, hs, hc => ⟨hg, z acc⟩
  | v :: r, acc, hs, hc => by
    refine ⟨hg, ?_⟩
    refine hc v (by simp) _ fun b' => ?_
    refine ite_b (fun e => ?_) (fun e => ?_)
    · exact ⟨sz (by simp at hs; omega), cnt_at hg z r _ (by simp at hs ⊢; omega) fun v hv => hc v (by simp [hv])⟩
    · exact cnt_at hg z r _ (by simp at hs ⊢; omega) fun v hv => hc v (by simp [hv])
theorem toD_tup {h : PH} (xs : List Nat) : toD h 64 (.tup (xs.map ni)) = some (.tuple (xs.map fun (i : Nat) => PyData.int (i : Int))) := by
  show ((xs.map ni).mapM (toD h 63)).map PyData.tuple = _
  rw [toD_ns]
  rfl
/-- the known one: the first test, then the second -/
theorem known_ok {h : PH} (v : Vl) (w : Str) (picks : List Nat) : ∃ (w' : Str) (o : PV), v.enc = .tup [.str w', o] ∧ ∀ Q : Bool → Prop, (∀ b, Q b) → cmpS .Eq o (.tup (picks.map ni)) h Q := by
  cases v with
  | inp t => exact ⟨_, _, rfl, fun Q z => .inr ⟨_, _, rfl, toD_tup picks, z _⟩⟩
  | wk w' o => exact ⟨_, _, rfl, fun Q z => .inr ⟨_, _, toD_tup o, toD_tup picks, z _⟩⟩
abbrev weBody : Sms := (.cons (.set (.slot 5) (.bin .Add (.int 1) (.call 1001 (.cons (.var 0) (.cons (.int 3) .nil)))))
    (.cons (.set (.slot 6) (.lif .tuple (.l (.comp [9] (.call 1001 (.cons (.var 0) (.cons (.bif .len (.cons (.var 1) .nil)) .nil))) (.slot 9) (.range1 (.var 5)) .no))))
    (.cons (.set (.slot 7) (.call 1003 (.cons (.var 0) (.cons (.var 5) .nil))))
    (.cons (.ifs (.cmp .Eq (.lif .len (.l (.comp [8] (.int 1) (.slot 8) (.la (.e (.var 3))) (.some (.and (.cmp .Eq (.ix (.var 8) (.int 0)) (.var 7)) (.cmp .Eq (.ix (.var 8) (.int 1)) (.var 6))))))) (.int 0))
      (.cons (.expr (.mth .append (.var 3) (.cons (.tup (.cons (.var 7) (.cons (.var 6) .nil))) .nil)))
      .nil)
      .nil)
    .nil))))
theorem weeds_loop {n s v w : Nat} {mp : PV} {vs : List Vl} {κ : KS} (sv : s ≠ v) (sw : s ≠ w) (vw : v ≠ w) (v0 : 0 < vs.length) : ∀ (ys : List PV) (vs' : List Vl) (u4 u5 u6 u7 u8 u9 : Option PV) (h : PH) (k : Int),
    vs'.length + ys.length ≤ 900 → vs.length ≤ vs'.length → Mk vs' → getL h v = some (vs.map Vl.enc) → getL h w = some (vs'.map Vl.enc) → Sd h s k → k + 20 * ys.length < 2 ^ 59 →
    (∀ (u4 u5 u6 u7 u8 u9 : Option PV) (vs'' : List Vl) (h' : PH), Fr [s, w] h h' → vs'.length ≤ vs''.length → vs''.length ≤ vs'.length + ys.length → Mk vs'' → getL h' w = some (vs''.map Vl.enc) → Sd h' s (k + 20 * ys.length) →
      κ.nx [some (.loc s), some (.loc v), some mp, some (.loc w), u4, u5, u6, u7, u8, u9] h') →
    forW (fun _ => True) (.slot 4) (wSs (den TT12 (n + 2)) weBody) κ ys [some (.loc s), some (.loc v), some mp, some (.loc w), u4, u5, u6, u7, u8, u9] h
  | [], vs', u4, u5, u6, u7, u8, u9, h, k, hn, hl, mk, gv, gw, sd, hk, z => ⟨trivial, z _ _ _ _ _ _ vs' h Fr.refl (Nat.le_refl _) (by simp) mk gw (by simpa using sd)⟩
  | y :: ys, vs', u4, u5, u6, u7, u8, u9, h, k, hn, hl, mk, gv, gw, sd, hk, z => by
    simp only [List.length_cons] at hn hk
    refine ⟨trivial, _, rfl, ?_⟩
    refine sow sd (by omega) (by omega) (by omega) fun t h1 ht s1 f1 => ?_
    have gv1 := f1.get gv (by simp; omega)
    have gw1 := f1.get gw (by simp; omega)
    refine ⟨_, rfl, _, rfl, by omega, by omega, ?_⟩
    have yl : (rangeL 0 ((1 : Int) + (t : Int)).toNat).length ≤ 3 := by rw [rangeL_length]; omega
    refine sow_comp (n := n + 1) (l := s) (h0 := h1) (add := 0) (many := ((vs.map Vl.enc).length : Nat)) (by simp; omega) (by simp; omega) (fun _ _ => trivial) ?_ _ [] h1 (k + 1) (by omega) Fr.refl s1 (by omega) (by simp; omega) fun rs h2 hl2 hb f2 s2 => ?_
    · intro y h' k' Q f s' hk' ww
      refine ⟨_, rfl, _, rfl, _, _, rfl, len_loc (f.get gv1 (by simp; omega)), ?_⟩
      exact sow s' hk' (by simp; omega) (by simp; omega) fun r h'' hr s'' f'' => by simpa using ww r h'' hr f'' s''
    have gv2 := f2.get gv1 (by simp; omega)
    have gw2 := f2.get gw1 (by simp; omega)
    refine ⟨_, rfl, _, rfl, _, rfl, ?_⟩
    refine word_ok s2 (by omega) fun wd h3 hw s3 f3 => ?_
    have gw3 := f3.get gw2 (by simp; omega)
    have gv3 := f3.get gv2 (by simp; omega)
    have f03 : Fr [s, w] h h3 := (f1.trans (f2.trans f3)).mono (by simp)
    refine ⟨_, rfl, .inl ⟨_, gw3, ?_⟩⟩
    refine cnt_at gw3 (fun L => ?_) vs' [] (by simp; omega) fun v' hv' Q zq => ?_
    · refine ⟨_, rfl, .inl ⟨rfl, ite_b (fun e => ?_) (fun e => ?_)⟩⟩
      · refine ⟨_, rfl, ⟨_, _, rfl, gw3⟩, _, rfl, _, rfl, Nat.le_of_ble_eq_true rfl, _, _, rfl, gw3, _, rfl, sz (by simp; omega), ?_⟩
        have e1 : vs'.map Vl.enc ++ [.tup [.str wd, .tup (([] ++ rs).map ni)]] = (vs' ++ [Vl.wk wd rs]).map Vl.enc := by simp [Vl.enc]
        rw [e1]
        refine weeds_loop sv sw vw v0 ys (vs' ++ [Vl.wk wd rs]) _ _ _ _ _ _ _ (k + 20) (by simp; omega) (by simp; omega) (mk.wk hw (fun x hx => by have := hb x hx; simp at this; omega) (by omega)) ((getL_set_ne (Ne.symm vw)).trans gv3) (getL_set gw3) ?_ (by omega) fun u4 u5 u6 u7 u8 u9 vs'' h' f a1 a2 a3 a4 a5 => ?_
        · exact (s3.fr (Fr.set (S := [w]) (by simp)) (by simp; omega)).mono (by omega)
        · refine z _ _ _ _ _ _ vs'' h' (f03.trans ((Fr.set (by simp)).trans f)) (by simp at a1; omega) (by simp at a2 ⊢; omega) a3 a4 (a5.mono (by simp; omega))
      · refine weeds_loop sv sw vw v0 ys vs' _ _ _ _ _ _ _ (k + 20) (by omega) hl mk gv3 gw3 (s3.mono (by omega)) (by omega) fun u4 u5 u6 u7 u8 u9 vs'' h' f a1 a2 a3 a4 a5 => ?_
        exact z _ _ _ _ _ _ vs'' h' (f03.trans f) a1 (by simp; omega) a3 a4 (a5.mono (by simp; omega))
    · obtain ⟨w', o, e1, e2⟩ := known_ok (h := h3) v' wd ([] ++ rs)
      rw [e1]
      refine ⟨_, rfl, _, _, _, _, rfl, rfl, rfl, rfl, _, rfl, .inl ⟨rfl, ite_b (fun e => ?_) (fun e => zq _)⟩⟩
      refine ⟨_, rfl, _, _, _, _, rfl, rfl, rfl, rfl, _, rfl, ?_⟩
      exact e2 _ zq
theorem weeds_ok {n s v : Nat} {k : Int} {many : Nat} {vs : List Vl} {h : PH} {q : QV} {x : QX} (hs : Sd h s k) (hk : k < 2 ^ 57) (m2 : many ≤ 10) (sv : s ≠ v) (gv : getL h v = some (vs.map Vl.enc)) (v0 : 0 < vs.length) (vn : vs.length ≤ 100) (mk : Mk vs)
    (z : ∀ (w : Nat) (vs' : List Vl) (h' : PH), Fr [s] h h' → h.length ≤ w → vs.length ≤ vs'.length → vs'.length ≤ 200 → Mk vs' → getL h' w = some (vs'.map Vl.enc) → Sd h' s (k + 500) → q (.loc w) h') :
    den TT12 (n + 3) 1005 [.loc s, .loc v, ni many] h q x := by
  refine den_call (F := ir_f_law_weeds) (by rfl) rfl ?_
  refine ⟨_, rfl, .inl ⟨_, gv, ?_⟩⟩
  refine id_at gv (by show (8 : Nat) < 10; decide) _ [] (by simp; omega) ?_
  have sl := hs.lt
  have vl := getL_lt gv
  refine ⟨_, rfl, _, rfl, by omega, by omega, ?_⟩
  have yl : (rangeL 0 (((many : Nat) : Int)).toNat).length = many := by rw [rangeL_length]; omega
  refine weeds_loop (w := h.length) sv (by omega) (by omega) v0 _ vs _ _ _ _ _ _ _ k (by omega) (Nat.le_refl _) mk (getL_app gv) getL_new (hs.fr (Fr.app (S := [])) (by simp)) (by omega) fun u4 u5 u6 u7 u8 u9 vs'' h' f a1 a2 a3 a4 a5 => ?_
  refine ⟨_, rfl, z _ vs'' h' ?_ (Nat.le_refl _) a1 (by omega) a3 a4 (a5.mono (by omega))⟩
  exact (Fr.app (S := [s])).drop f fun l hl => by
    simp only [List.mem_cons, List.not_mem_nil, or_false] at hl
    rcases hl with rfl | rfl
    · exact .inl (by simp)
    · exact .inr (Nat.le_refl _)
end WD
end
section
set_option Elab.async false
set_option linter.all false
set_option maxRecDepth 100000
set_option autoImplicit false
set_option maxHeartbeats 8000000
set_option pp.maxSteps 600
namespace WD
open PySem PySem.Spec PyProof.Rows L2
theorem le {n m : Nat} (h : Nat.ble n m = true) : n ≤ m := Nat.le_of_ble_eq_true h
theorem seed_loop {Φ : Phi} {κ : KS} {s0 : Option PV} {g : PH → Prop} (hg : ∀ h, g h) : ∀ (ns : List Int) (j : Nat) (soil : Int) (u2 u3 : Option PV) (h : PH), 0 ≤ soil → soil < 2 ^ 62 → j + ns.length ≤ 100 →
    (∀ (soil : Int) (u2 u3 : Option PV), 0 ≤ soil → soil < 2 ^ 62 → κ.nx [s0, some (.int soil), u2, u3] h) →
    forW g (.tup [.slot 2, .slot 3]) (wSs Φ (.cons (.set (.slot 1) (.bin .Mod (.bin .Add (.bin .Add (.bin .Add (.bin .Mult (.var 1) (.int 9600629759793949)) (.bin .Mod (.bif .int (.cons (.var 3) .nil)) (.int 4611686018427387817))) (.bin .Mult (.int 13) (.var 2))) (.int 1)) (.int 4611686018427387817)))
    .nil)) κ (enumL (j : Int) (ns.map PV.int)) [s0, some (.int soil), u2, u3] h
  | [], j, soil, u2, u3, h, h1, h2, hj, z => ⟨hg h, z soil u2 u3 h1 h2⟩
  | i :: r, j, soil, u2, u3, h, h1, h2, hj, z => by
    simp only [List.length_cons] at hj
    refine ⟨hg h, ?_⟩
    refine ⟨_, rfl, _, _, rfl, _, _, rfl, rfl, _, rfl, mulX (by omega) (by omega), _, rfl, _, _, rfl, rfl, by omega, _, rfl, mulX (by omega) (by omega), by omega, ?_⟩
    have e : (j : Int) + 1 = ((j + 1 : Nat) : Int) := by omega
    rw [e]
    exact seed_loop hg r (j + 1) _ _ _ h (Int.emod_nonneg _ (by omega)) (Int.lt_trans (Int.emod_lt_of_pos _ (by omega)) (by omega)) (by omega) z
theorem seed_ok {n : Nat} {ns : List Int} {h : PH} {q : QV} {x : QX} (hn : ns.length ≤ 63) (z : ∀ (l : Nat) (h' : PH), Fr [] h h' → h.length ≤ l → Sd h' l 0 → q (.loc l) h') : den TT12 (n + 1) 1000 [.rol (ns.map .int)] h q x := by
  refine den_call (F := ir_f_law_seed) (by rfl) rfl ?_
  refine ⟨_, rfl, _, rfl, ?_⟩
  refine seed_loop (j := 0) (fun _ => rfl) ns 33391 none none h (by omega) (by omega) (by omega) fun soil u2 u3 h1 h2 => ?_
  refine ⟨_, rfl, le rfl, ?_⟩
  exact z _ _ Fr.app (Nat.le_refl _) ⟨soil, 0, getL_new, ⟨h1, h2⟩, by omega, by omega⟩
def hb : List Vl := [.inp "r", .inp "q", .wk "n" [0], .wk "nn" [2, 2], .wk "n" [2], .wk "nn" [1, 3], .wk "n" [5], .wk "mul" [6, 4]]
theorem hb_mk : Mk hb := by
  have a := ((((((((Mk.nil.inp "r").inp "q").wk (w := "n") (o := [0]) (by decide +kernel) (by simp) (by simp)).wk (w := "nn") (o := [2, 2]) (by decide +kernel) (by simp) (by simp)).wk (w := "n") (o := [2]) (by decide +kernel) (by simp) (by simp)).wk (w := "nn") (o := [1, 3]) (by decide +kernel) (by simp) (by simp)).wk (w := "n") (o := [5]) (by decide +kernel) (by simp) (by simp)).wk (w := "mul") (o := [6, 4]) (by decide +kernel) (by simp) (by simp))
  exact a
theorem hand_ok {n s : Nat} {k : Int} {h : PH} {q : QV} {x : QX} (hs : Sd h s k) (hk : k < 2 ^ 57)
    (z : ∀ (b o : Nat) (outs : List Nat) (h' : PH), Fr [s] h h' → h.length ≤ b → h.length ≤ o → getL h' b = some (hb.map Vl.enc) → getL h' o = some (outs.map ni) → (∀ y, y ∈ outs → y < 8) → outs.length ≤ 5 → Sd h' s (k + 1) → q (.tup [.loc b, .loc o]) h') : den TT12 (n + 2) 1013 [.loc s] h q x := by
  refine den_call (F := ir_f_law_hand) (by rfl) rfl ?_
  refine ⟨le rfl, le rfl, le rfl, le rfl, le rfl, le rfl, le rfl, le rfl, le rfl, le rfl, le rfl, le rfl, le rfl, le rfl, le rfl, ?_⟩
  refine ⟨le rfl, le rfl, le rfl, le rfl, le rfl, le rfl, le rfl, le rfl, le rfl, le rfl, le rfl, le rfl, le rfl, ?_⟩
  refine ⟨_, rfl, _, rfl, _, rfl, _, rfl, _, _, rfl, rfl, ?_⟩
  have sl := hs.lt
  refine sow (hs.fr (S := []) ⟨by simp, fun l hl _ => ?_⟩ (by simp)) (by omega) (by show (0 : Int) < 12; decide) (by show (12 : Int) < 2 ^ 62; decide) fun r h' hr s' f => ?_
  · simp only [List.append_assoc]
    rw [List.getElem?_append_left hl]
  have f0 : Fr [s] h h' := Fr.trans ⟨by simp, fun l hl _ => by
    simp only [List.append_assoc]
    rw [List.getElem?_append_left hl]⟩ f
  have gb : getL h' h.length = some (hb.map Vl.enc) := f.get (by repeat (first | exact getL_new | refine getL_app ?_)) (by simp; omega)
  match r, hr with
  | 0, _ => exact ⟨_, _, _, _, rfl, rfl, rfl, rfl, le rfl, z _ _ [5] h' f0 (Nat.le_refl _) (by simp) gb (f.get (by repeat (first | exact getL_new | refine getL_app ?_)) (by simp; omega)) (by simp) (by simp) s'⟩
  | 1, _ => exact ⟨_, _, _, _, rfl, rfl, rfl, rfl, le rfl, z _ _ [3] h' f0 (Nat.le_refl _) (by simp) gb (f.get (by repeat (first | exact getL_new | refine getL_app ?_)) (by simp; omega)) (by simp) (by simp) s'⟩
  | 2, _ => exact ⟨_, _, _, _, rfl, rfl, rfl, rfl, le rfl, z _ _ [3, 3] h' f0 (Nat.le_refl _) (by simp) gb (f.get (by repeat (first | exact getL_new | refine getL_app ?_)) (by simp; omega)) (by simp) (by simp) s'⟩
  | 3, _ => exact ⟨_, _, _, _, rfl, rfl, rfl, rfl, le rfl, z _ _ [5, 4] h' f0 (Nat.le_refl _) (by simp) gb (f.get (by repeat (first | exact getL_new | refine getL_app ?_)) (by simp; omega)) (by simp) (by simp) s'⟩
  | 4, _ => exact ⟨_, _, _, _, rfl, rfl, rfl, rfl, le rfl, z _ _ [5, 3] h' f0 (Nat.le_refl _) (by simp) gb (f.get (by repeat (first | exact getL_new | refine getL_app ?_)) (by simp; omega)) (by simp) (by simp) s'⟩
  | 5, _ => exact ⟨_, _, _, _, rfl, rfl, rfl, rfl, le rfl, z _ _ [7] h' f0 (Nat.le_refl _) (by simp) gb (f.get (by repeat (first | exact getL_new | refine getL_app ?_)) (by simp; omega)) (by simp) (by simp) s'⟩
  | 6, _ => exact ⟨_, _, _, _, rfl, rfl, rfl, rfl, le rfl, z _ _ [4] h' f0 (Nat.le_refl _) (by simp) gb (f.get (by repeat (first | exact getL_new | refine getL_app ?_)) (by simp; omega)) (by simp) (by simp) s'⟩
  | 7, _ => exact ⟨_, _, _, _, rfl, rfl, rfl, rfl, le rfl, z _ _ [1, 5] h' f0 (Nat.le_refl _) (by simp) gb (f.get (by repeat (first | exact getL_new | refine getL_app ?_)) (by simp; omega)) (by simp) (by simp) s'⟩
  | 8, _ => exact ⟨_, _, _, _, rfl, rfl, rfl, rfl, le rfl, z _ _ [6, 5] h' f0 (Nat.le_refl _) (by simp) gb (f.get (by repeat (first | exact getL_new | refine getL_app ?_)) (by simp; omega)) (by simp) (by simp) s'⟩
  | 9, _ => exact ⟨_, _, _, _, rfl, rfl, rfl, rfl, le rfl, z _ _ [0] h' f0 (Nat.le_refl _) (by simp) gb (f.get (by repeat (first | exact getL_new | refine getL_app ?_)) (by simp; omega)) (by simp) (by simp) s'⟩
  | 10, _ => exact ⟨_, _, _, _, rfl, rfl, rfl, rfl, le rfl, z _ _ [] h' f0 (Nat.le_refl _) (by simp) gb (f.get (by repeat (first | exact getL_new | refine getL_app ?_)) (by simp; omega)) (by simp) (by simp) s'⟩
  | 11, _ => exact ⟨_, _, _, _, rfl, rfl, rfl, rfl, le rfl, z _ _ [1, 1, 3] h' f0 (Nat.le_refl _) (by simp) gb (f.get (by repeat (first | exact getL_new | refine getL_app ?_)) (by simp; omega)) (by simp) (by simp) s'⟩
  | r + 12, hr => exact absurd hr (by show ¬ (((r + 12 : Nat) : Int) < (12 : Int)); omega)
/-! ### a new script -/
theorem flt_sow {n l b : Nat} {X : QX} {g : PH → Prop} {ς : PSt} {q : List PV → PH → Prop} (hl0 : ∃ v, ς[0]? = some (some v) ∧ v = .loc l) (hb0 : b ≠ 0) (hbl : b < ς.length) {h0 : PH} (hg : ∀ h, Fr [l] h0 h → g h) : ∀ (xs acc : List Nat) (h : PH) (k : Int), Fr [l] h0 h → Sd h l k → k + xs.length < 2 ^ 60 → acc.length + xs.length ≤ 10000 →
    (∀ (rs : List Nat) (h' : PH), rs.length ≤ xs.length → (∀ r, r ∈ rs → r ∈ xs) → Fr [l] h h' → Sd h' l (k + xs.length) → q ((acc ++ rs).map ni) h') →
    compW g (.slot b) ς (wC (den TT12 (n + 1)) (.some (.cmp .Gt (.call 1001 (.cons (.var 0) (.cons (.int 8) .nil))) (.int 0))) X) (wE (den TT12 (n + 1)) (.var b) X) q (xs.map ni) (acc.map ni) h
  | [], acc, h, k, f, s, hk, hs, z => ⟨hg h f, by simpa using z [] h (by simp) (by simp) Fr.refl (by simpa using s)⟩
  | y :: r, acc, h, k, f, s, hk, hs, z => by
    obtain ⟨v0, e0, rfl⟩ := hl0
    simp only [List.length_cons] at hk hs
    refine ⟨hg h f, ?_⟩
    have s1 : (ς.set b (some (ni y)))[0]? = some (some (.loc l)) := by rw [List.getElem?_set_ne hb0]; exact e0
    have s2 : (ς.set b (some (ni y)))[b]? = some (some (ni y)) := by rw [List.getElem?_set_self hbl]
    refine ⟨_, s1, ?_⟩
    refine sow s (by omega) (by omega) (by omega) fun t h1 ht s1' f1 => ?_
    refine ⟨_, _, rfl, rfl, ite_b (fun e => ?_) (fun e => ?_)⟩
    · refine ⟨_, s2, sz (by simp; omega), ?_⟩
      have e1 : acc.map ni ++ [ni y] = (acc ++ [y]).map ni := by simp
      rw [e1]
      refine flt_sow ⟨_, e0, rfl⟩ hb0 hbl hg r (acc ++ [y]) h1 (k + 1) (f.trans f1) s1' (by omega) (by simp; omega) fun rs h' h2 h3 f' s' => ?_
      have := z (y :: rs) h' (by simp; omega) (fun w hw => by
        rcases List.mem_cons.mp hw with rfl | hw
        · simp
        · simp [h3 w hw]) (f1.trans f') (s'.mono (by simp; omega))
      simpa using this
    · refine flt_sow ⟨_, e0, rfl⟩ hb0 hbl hg r acc h1 (k + 1) (f.trans f1) s1' (by omega) (by omega) fun rs h' h2 h3 f' s' => ?_
      exact z rs h' (by simp; omega) (fun w hw => by simp [h3 w hw]) (f1.trans f') (s'.mono (by simp; omega))
theorem cut_any (L : List Nat) (m : Nat) : ∃ L' : List Nat, cutP (L.map ni) none (some (m : Int)) = L'.map ni ∧ L'.length ≤ m ∧ L'.length ≤ L.length ∧ ∀ y, y ∈ L' → y ∈ L := by
  refine ⟨L.take (min m L.length), ?_, by simp; omega, by simp; omega, fun y hy => List.mem_of_mem_take hy⟩
  unfold cutP bndP
  rw [HT.sIx_none, HT.sIx_nat]
  simp [List.map_take]
end WD
end
section
set_option Elab.async false
set_option linter.all false
set_option maxRecDepth 100000
set_option autoImplicit false
set_option maxHeartbeats 8000000
set_option pp.maxSteps 600
namespace WD
open PySem PySem.Spec PyProof.Rows L2
/-- reading a list of places by places told from a range -/
theorem back_at {Φ : Phi} {X : QX} {p : Nat} {ς : PSt} {h : PH} {E : List Nat} {q : List PV → PH → Prop} (ha : ς[5]? = some (some (.loc p))) (hb : 10 < ς.length) (hp : getL h p = some (E.map ni)) : ∀ (is acc : List Nat), (∀ i, i ∈ is → i < E.length) → acc.length + is.length ≤ 1000 → (∀ y, y ∈ acc → y ∈ E) →
    (∀ L : List Nat, L.length = acc.length + is.length → (∀ y, y ∈ L → y ∈ E) → q (L.map ni) h) → compW (fun _ => True) (.slot 10) ς (wC Φ .no X) (wE Φ (.ix (.var 5) (.bin .Sub (.bin .Sub (.bif .len (.cons (.var 5) .nil)) (.int 1)) (.var 10))) X) q (is.map ni) (acc.map ni) h
  | [], acc, hi, hs, hA, z => ⟨trivial, z acc (by simp) hA⟩
  | i :: r, acc, hi, hs, hA, z => by
    have hi0 := hi i (by simp)
    refine ⟨trivial, ?_⟩
    show (if true = true then _ else compW (fun _ => True) (.slot 10) ς (wC Φ .no X) (wE Φ (.ix (.var 5) (.bin .Sub (.bin .Sub (.bif .len (.cons (.var 5) .nil)) (.int 1)) (.var 10))) X) q (r.map ni) (acc.map ni) h)
    rw [if_pos rfl]
    have s1 : (ς.set 10 (some (ni i)))[5]? = some (some (.loc p)) := by rw [List.getElem?_set_ne (by decide)]; exact ha
    have s2 : (ς.set 10 (some (ni i)))[10]? = some (some (ni i)) := by rw [List.getElem?_set_self hb]
    have jl : E.length - 1 - i < E.length := by omega
    have e0 : (E.map ni)[E.length - 1 - i]? = some (ni E[E.length - 1 - i]) := by simp [jl]
    refine ⟨_, s1, _, s1, _, _, rfl, len_loc hp, _, s2, ?_⟩
    refine sub_to (k := ((E.length - 1 - i : Nat) : Int)) (by simp; omega) ?_
    refine ⟨_, _, _, _, rfl, hp, ixP_nat (by simpa using jl), e0, sz (by simp at hs ⊢; omega), ?_⟩
    have e1 : acc.map ni ++ [ni E[E.length - 1 - i]] = (acc ++ [E[E.length - 1 - i]]).map ni := by simp
    rw [e1]
    refine back_at ha hb hp r (acc ++ [E[E.length - 1 - i]]) (fun i z => hi i (by simp [z])) (by simp at hs ⊢; omega) (fun y hy => ?_) fun L l1 l2 => z L (by simp at l1 ⊢; omega) l2
    rcases List.mem_append.mp hy with hy | hy
    · exact hA y hy
    · have : y = E[E.length - 1 - i] := by simpa using hy
      rw [this]
      exact List.getElem_mem _
abbrev grRest : Sms := (.cons (.ifs (.cmp .Eq (.call 1001 (.cons (.var 0) (.cons (.int 2) .nil))) (.int 0))
    (.cons (.set (.slot 5) (.new (.comp [10] (.ix (.var 5) (.bin .Sub (.bin .Sub (.bif .len (.cons (.var 5) .nil)) (.int 1)) (.var 10))) (.slot 10) (.range1 (.bif .len (.cons (.var 5) .nil))) .no)))
    .nil)
    .nil)
  (.cons (.set (.slot 6) (.call 1005 (.cons (.var 0) (.cons (.var 7) (.cons (.var 4) .nil)))))
  (.cons (.ret (.tup (.cons (.var 6) (.cons (.var 5) .nil))))
  .nil)))
theorem grown_ok {n s : Nat} {k bare : Int} {many most weeds : Nat} {h : PH} {q : QV} {x : QX} (hs : Sd h s k) (hk : k < 2 ^ 55) (m1 : 1 ≤ many) (m2 : many ≤ 100) (m3 : weeds ≤ 10) (m4 : most ≤ 50)
    (z : ∀ (v o : Nat) (vs : List Vl) (outs : List Nat) (h' : PH), Fr [s] h h' → h.length ≤ v → h.length ≤ o → getL h' v = some (vs.map Vl.enc) → Mk vs → 0 < vs.length → vs.length ≤ 200 → getL h' o = some (outs.map ni) → (∀ y, y ∈ outs → y < vs.length) → outs.length ≤ 60 → Sd h' s (k + 5000) → q (.tup [.loc v, .loc o]) h') :
    den TT12 (n + 4) 1011 [.loc s, ni many, .int bare, ni most, ni weeds] h q x := by
  refine den_call (F := ir_f_law_grown) (by rfl) rfl ?_
  refine ⟨_, rfl, _, rfl, _, rfl, ?_⟩
  refine wood_ok hs (by omega) m1 m2 fun v r vs roots h1 f1 lv lr vr hvl mk rl rk gv gr s1 => ?_
  have sl := hs.lt
  have sl1 := s1.lt
  refine ⟨_, rfl, _, _, rfl, _, _, rfl, rfl, _, rfl, .inl ⟨_, gr, ?_⟩⟩
  refine flt_sow (l := s) (b := 9) ⟨_, rfl, rfl⟩ (by decide) (by show (9 : Nat) < 11; decide) (h0 := h1) (fun h' f => f.get gr (by simp; omega)) roots [] h1 (k + 2000) Fr.refl s1 (by omega) (by simp; omega) fun rs h2 rl2 rs2 f2 s2 => ?_
  refine ⟨_, rfl, _, rfl, _, rfl, ?_⟩
  obtain ⟨E, e1, E1, E2, E3⟩ := cut_any ([] ++ rs) most
  rw [e1]
  have gE := getL_new (h := h2) (xs := E.map ni)
  have gv2 := getL_app (o := .lst (E.map ni)) (f2.get gv (by simp; omega))
  have Ek : ∀ y, y ∈ E → y < many := fun y hy => rk y (rs2 y (by simpa using E3 y hy))
  have s2' := s2.fr (Fr.app (S := []) (o := .lst (E.map ni))) (by simp)
  have f02 : Fr [s] h (h2 ++ [.lst (E.map ni)]) := f1.trans (f2.trans Fr.app)
  have l2 : h.length ≤ h2.length := (f1.trans f2).1
  have rest : ∀ (E' : List Nat) (h4 : PH) (k4 : Int) (u6 u9 u10 : Option PV), E'.length ≤ 60 → (∀ y, y ∈ E' → y < many) → Fr [s] h h4 → getL h4 v = some (vs.map Vl.enc) → getL h4 h2.length = some (E'.map ni) → Sd h4 s k4 → k4 ≤ k + 3000 →
      wSs (den TT12 (n + 3)) grRest { nx := fun _ h' => q .non h', rt := q, ex := fun e _ h' => x e h' } [some (.loc s), some (ni many), some (.int bare), some (ni most), some (ni weeds), some (.loc h2.length), u6, some (.loc v), some (.loc r), u9, u10] h4 := by
    intro E' h4 k4 u6 u9 u10 c1 c2 f4 gv4 gE4 s4 c3
    have fin : ∀ (o : Nat) (E2 : List Nat) (h5 : PH) (k5 : Int) (u6 u9 u10 : Option PV), h.length ≤ o → E2.length ≤ 60 → (∀ y, y ∈ E2 → y < many) → Fr [s] h h5 → getL h5 v = some (vs.map Vl.enc) → getL h5 o = some (E2.map ni) → Sd h5 s k5 → k5 ≤ k + 3001 →
        wSs (den TT12 (n + 3)) (.cons (.set (.slot 6) (.call 1005 (.cons (.var 0) (.cons (.var 7) (.cons (.var 4) .nil))))) (.cons (.ret (.tup (.cons (.var 6) (.cons (.var 5) .nil)))) .nil)) { nx := fun _ h' => q .non h', rt := q, ex := fun e _ h' => x e h' } [some (.loc s), some (ni many), some (.int bare), some (ni most), some (ni weeds), some (.loc o), u6, some (.loc v), some (.loc r), u9, u10] h5 := by
      intro o E2 h5 k5 u6 u9 u10 d0 d1 d2 f5 gv5 go5 s5 d3
      refine ⟨_, rfl, _, rfl, _, rfl, ?_⟩
      refine weeds_ok s5 (by omega) m3 (by omega) gv5 (by omega) (by omega) mk fun w vs' h6 f6 lw a1 a2 a3 a4 a5 => ?_
      refine ⟨_, rfl, _, rfl, le rfl, ?_⟩
      exact z w o vs' E2 h6 (f5.trans f6) (Nat.le_trans f5.1 lw) d0 a4 a3 (by omega) a2 (f6.get go5 (by simp; omega)) (fun y hy => by have := d2 y hy; omega) d1 (a5.mono (by omega))
    refine ⟨_, rfl, ?_⟩
    refine sow s4 (by omega) (by omega) (by omega) fun t h5 ht s5 f5 => ?_
    have gE5 := f5.get gE4 (by simp; omega)
    have gv5 := f5.get gv4 (by simp; omega)
    refine .inl ⟨rfl, ite_b (fun e => ?_) (fun e => ?_)⟩
    · refine ⟨_, rfl, _, _, rfl, len_loc gE5, _, rfl, by omega, by simp; omega, ?_⟩
      have er : rangeL 0 (((E'.map ni).length : Int)).toNat = (List.range E'.length).map ni := by rw [rangeL0]; simp
      rw [er]
      refine back_at rfl (by show (10 : Nat) < 11; decide) gE5 (List.range E'.length) [] (fun i hi => List.mem_range.mp hi) (by simp; omega) (by simp) fun L l3 l4 => ?_
      have l5 : h.length ≤ h5.length := (f4.trans f5).1
      exact fin _ L _ (k4 + 1) _ _ _ l5 (by simp at l3; omega) (fun y hy => c2 y (l4 y hy)) ((f4.trans f5).trans Fr.app) (getL_app gv5) getL_new (s5.fr (Fr.app (S := [])) (by simp)) (by omega)
    · exact fin _ E' h5 (k4 + 1) _ _ _ l2 c1 c2 (f4.trans f5) gv5 gE5 s5 (by omega)
  have E60 : E.length ≤ 50 := by omega
  refine ⟨_, rfl, _, _, rfl, len_loc gE, _, _, rfl, rfl, ite_b (fun e2 => ?_) (fun e2 => ?_)⟩
  · refine ⟨_, rfl, _, _, rfl, len_loc gE, _, rfl, _, _, rfl, rfl, ite_b (fun e3 => ?_) (fun e3 => ?_)⟩
    · refine ⟨_, rfl, ?_⟩
      refine sow s2' (by omega) (by omega) (by omega) fun t h3 ht s3 f3 => ?_
      have gE3 := f3.get gE (by simp; omega)
      have gv3 := f3.get gv2 (by simp; omega)
      refine .inl ⟨rfl, ite_b (fun e4 => ?_) (fun e4 => ?_)⟩
      · have ep : 0 < E.length := by have := of_decide_eq_true e2; simp at this; omega
        refine ⟨_, rfl, ⟨_, _, rfl, gE3⟩, _, rfl, _, rfl, _, rfl, _, _, rfl, len_loc gE3, ?_⟩
        refine sow s3 (by omega) (by simp; omega) (by simp; omega) fun t2 h4 ht2 s4 f4 => ?_
        have gE4 := f4.get gE3 (by simp; omega)
        have gv4 := f4.get gv3 (by simp; omega)
        have tl : t2 < E.length := by simp at ht2; omega
        have e0 : (E.map ni)[t2]? = some (ni E[t2]) := by simp [tl]
        refine ⟨_, _, _, _, rfl, gE4, ixP_nat (by simpa using tl), e0, _, _, rfl, gE4, _, rfl, sz (by simp; omega), ?_⟩
        have e5 : E.map ni ++ [ni E[t2]] = (E ++ [E[t2]]).map ni := by simp
        rw [e5]
        refine rest (E ++ [E[t2]]) _ _ _ _ _ (by simp; omega) (fun y hy => ?_) (((f02.trans (f3.trans f4))).setNew l2) ((getL_set_ne (by have := getL_lt gv; have := f2.1; omega)).trans gv4) (getL_set gE4) (s4.fr (Fr.set (S := [h2.length]) (by simp)) (by have := f2.1; simp; omega)) (by omega)
        rcases List.mem_append.mp hy with hy | hy
        · exact Ek y hy
        · have : y = E[t2] := by simpa using hy
          rw [this]
          exact Ek _ (List.getElem_mem _)
      · exact rest E h3 _ _ _ _ (by omega) Ek (f02.trans f3) gv3 gE3 s3 (by omega)
    · exact ite_f rfl (rest E _ _ _ _ _ (by omega) Ek f02 gv2 gE s2' (by omega))
  · exact ite_f rfl (rest E _ _ _ _ _ (by omega) Ek f02 gv2 gE s2' (by omega))
end WD
end
section
set_option Elab.async false
set_option linter.all false
set_option maxRecDepth 100000
set_option autoImplicit false
set_option maxHeartbeats 8000000
set_option pp.maxSteps 600
namespace WD
open PySem PySem.Spec PyProof.Rows L2
abbrev msBody : Sms := (.cons (.set (.slot 5) (.new (.comp [9] (.call 1001 (.cons (.var 0) (.cons (.var 4) .nil))) (.slot 9) (.range1 (.bin .Add (.int 1) (.call 1001 (.cons (.var 0) (.cons (.int 3) .nil))))) .no)))
    (.cons (.set (.slot 6) (.call 1003 (.cons (.var 0) (.cons (.bif .len (.cons (.var 5) .nil)) .nil))))
    (.cons (.set (.slot 7) (.bin .Add (.int 1) (.lif .sum (.l (.comp [10] (.ix (.var 3) (.var 10)) (.slot 10) (.la (.e (.var 5))) .no)))))
    (.cons (.set (.slot 8) (.cmp .Gt (.lif .len (.l (.comp [11] (.int 1) (.slot 11) (.la (.e (.var 2))) (.some (.and (.cmp .Eq (.ix (.var 11) (.int 0)) (.var 6)) (.cmp .Eq (.ix (.var 11) (.int 1)) (.lif .tuple (.e (.var 5))))))))) (.int 0)))
    (.cons (.ifs (.or (.var 8) (.or (.cmp .Gt (.var 7) (.int 200)) (.cmp .Eq (.call 1001 (.cons (.var 0) (.cons (.int 4) .nil))) (.int 0))))
      (.cons (.expr (.mth .append (.var 2) (.cons (.call 1002 (.cons (.var 4) .nil)) .nil)))
      (.cons (.expr (.mth .append (.var 3) (.cons (.int 1) .nil)))
      .nil))
      (.cons (.expr (.mth .append (.var 2) (.cons (.tup (.cons (.var 6) (.cons (.lif .tuple (.e (.var 5))) .nil))) .nil)))
      (.cons (.expr (.mth .append (.var 3) (.cons (.var 7) .nil)))
      .nil)))
    .nil)))))
theorem mesh_loop {n s v p : Nat} {mp : PV} {κ : KS} (sv : s ≠ v) (sp : s ≠ p) (vp : v ≠ p) : ∀ (cnt K : Nat) (vs : List Vl) (parts : List Int) (u4 u5 u6 u7 u8 u9 u10 u11 : Option PV) (h : PH) (k : Int),
    K + cnt ≤ 100 → 1 ≤ K → vs.length = K → Mk vs → parts.length = K → getL h v = some (vs.map Vl.enc) → getL h p = some (parts.map PV.int) → Sd h s k → k + 20 * cnt < 2 ^ 59 →
    (∀ (u4 u5 u6 u7 u8 u9 u10 u11 : Option PV) (vs' : List Vl) (h' : PH), Fr [s, v, p] h h' → vs'.length = K + cnt → Mk vs' → getL h' v = some (vs'.map Vl.enc) → Sd h' s (k + 20 * cnt) →
      κ.nx [some (.loc s), some mp, some (.loc v), some (.loc p), u4, u5, u6, u7, u8, u9, u10, u11] h') →
    forW (fun _ => True) (.slot 4) (wSs (den TT12 (n + 2)) msBody) κ ((List.range' K cnt).map ni) [some (.loc s), some mp, some (.loc v), some (.loc p), u4, u5, u6, u7, u8, u9, u10, u11] h
  | 0, K, vs, parts, u4, u5, u6, u7, u8, u9, u10, u11, h, k, hK, k1, hl, mk, hp, gv, gp, sd, hk, z => ⟨trivial, z _ _ _ _ _ _ _ _ vs h Fr.refl (by simpa using hl) mk gv (by simpa using sd)⟩
  | cnt + 1, K, vs, parts, u4, u5, u6, u7, u8, u9, u10, u11, h, k, hK, k1, hl, mk, hp, gv, gp, sd, hk, z => by
    rw [List.range'_succ]
    refine ⟨trivial, _, rfl, ?_⟩
    refine sow sd (by omega) (by omega) (by omega) fun t h1 ht s1 f1 => ?_
    have gv1 := f1.get gv (by simp; omega)
    have gp1 := f1.get gp (by simp; omega)
    refine ⟨_, rfl, by omega, by omega, ?_⟩
    have yl : (rangeL 0 ((1 : Int) + (t : Int)).toNat).length ≤ 3 := by rw [rangeL_length]; omega
    refine sow_comp (n := n + 1) (l := s) (h0 := h1) (add := 0) (many := ((K : Nat) : Int)) (by omega) (by omega) (fun _ _ => trivial) ?_ _ [] h1 (k + 1) (by omega) Fr.refl s1 (by omega) (by simp; omega) fun rs h2 hl2 hb f2 s2 => ?_
    · intro y h' k' Q f s' hk' ww
      refine ⟨_, rfl, _, rfl, ?_⟩
      exact sow s' hk' (by omega) (by omega) fun r h'' hr s'' f'' => by simpa using ww r h'' hr f'' s''
    have rb : ∀ x, x ∈ rs → x < K := fun x hx => by have := hb x hx; omega
    have v1 := getL_lt gv1
    have p1 := getL_lt gp1
    have l12 := f2.1
    have gv2 := getL_app (o := .lst (([] ++ rs).map ni)) (f2.get gv1 (by simp; omega))
    have gp2 := getL_app (o := .lst (([] ++ rs).map ni)) (f2.get gp1 (by simp; omega))
    have ga2 := getL_new (h := h2) (xs := ([] ++ rs).map ni)
    have sl := s2.lt
    have f02 : Fr [s, v, p] h (h2 ++ [.lst (([] ++ rs).map ni)]) := (f1.mono (by simp)).trans ((f2.mono (by simp)).trans Fr.app)
    refine ⟨_, rfl, _, rfl, _, _, rfl, len_loc ga2, ?_⟩
    refine word_ok (s2.fr (Fr.app (S := [])) (by simp)) (by omega) fun wd h3 hw s3 f3 => ?_
    have gv3 := f3.get gv2 (by simp; omega)
    have gp3 := f3.get gp2 (by simp; omega)
    have ga3 := f3.get ga2 (by simp; omega)
    have f03 := f02.trans (f3.mono (by simp))
    refine ⟨_, rfl, .inl ⟨_, ga3, ?_⟩⟩
    refine idx_comp (a := 3) (b := 10) (p := p) ga3 (by decide) rfl (by show (10 : Nat) < 12; decide) gp3 ([] ++ rs) [] (fun i hi => by have := rb i (by simpa using hi); omega) (by simp; omega) fun ns => ?_
    refine ⟨_, rfl, _, intsOf_mp ns, ?_⟩
    refine ⟨_, rfl, .inl ⟨_, gv3, ?_⟩⟩
    refine cnt_at gv3 (fun L => ?_) vs [] (by simp; omega) fun v' hv' Q zq => ?_
    · refine ⟨_, rfl, _, _, rfl, rfl, ?_⟩
      have next : ∀ (vs' : List Vl) (tot : Int) (h4 : PH) (k4 : Int) (u8 u9 u10 u11 : Option PV), vs'.length = K + 1 → Mk vs' → Fr [s, v, p] h h4 → getL h4 v = some (vs'.map Vl.enc) → getL h4 p = some ((parts ++ [tot]).map PV.int) → Sd h4 s k4 → k4 ≤ k + 20 → ∀ (u5 u6 u7 : Option PV),
          forW (fun _ => True) (.slot 4) (wSs (den TT12 (n + 2)) msBody) κ ((List.range' (K + 1) cnt).map ni) [some (.loc s), some mp, some (.loc v), some (.loc p), some (ni K), u5, u6, u7, u8, u9, u10, u11] h4 := by
        intro vs' tot h4 k4 u8 u9 u10 u11 c1 c2 f4 gv4 gp4 s4 c3 u5 u6 u7
        refine mesh_loop sv sp vp cnt (K + 1) vs' (parts ++ [tot]) _ _ _ _ _ _ _ _ h4 (k + 20) (by omega) (by omega) c1 c2 (by simp [hp]) gv4 gp4 (s4.mono c3) (by omega) fun u4 u5 u6 u7 u8 u9 u10 u11 vs'' h' f a1 a2 a3 a4 => ?_
        exact z _ _ _ _ _ _ _ _ vs'' h' (f4.trans f) (by omega) a2 a3 (a4.mono (by omega))
      have leafB : ∀ (h4 : PH) (k4 : Int) (u8 : Option PV), Fr [s, v, p] h h4 → getL h4 v = some (vs.map Vl.enc) → getL h4 p = some (parts.map PV.int) → Sd h4 s k4 → k4 ≤ k + 19 → ∀ (u5 u6 u7 u9 u10 u11 : Option PV),
          wSs (den TT12 (n + 2)) (.cons (.expr (.mth .append (.var 2) (.cons (.call 1002 (.cons (.var 4) .nil)) .nil))) (.cons (.expr (.mth .append (.var 3) (.cons (.int 1) .nil))) .nil)) { κ with nx := forW (fun _ => True) (.slot 4) (wSs (den TT12 (n + 2)) msBody) κ ((List.range' (K + 1) cnt).map ni), ct := forW (fun _ => True) (.slot 4) (wSs (den TT12 (n + 2)) msBody) κ ((List.range' (K + 1) cnt).map ni), bk := κ.nx } [some (.loc s), some mp, some (.loc v), some (.loc p), some (ni K), u5, u6, u7, u8, u9, u10, u11] h4 := by
        intro h4 k4 u8 f4 gv4 gp4 s4 c3 u5 u6 u7 u9 u10 u11
        refine ⟨_, rfl, ⟨_, _, rfl, gv4⟩, _, rfl, ?_⟩
        refine leaf_ok (by omega) fun str => ?_
        refine ⟨_, _, rfl, gv4, _, rfl, sz (by simp; omega), ?_⟩
        have e1 : vs.map Vl.enc ++ [(Vl.inp str).enc] = (vs ++ [Vl.inp str]).map Vl.enc := by simp
        rw [e1]
        have gp5 := (getL_set_ne (o := .lst ((vs ++ [Vl.inp str]).map Vl.enc)) vp).trans gp4
        refine ⟨_, rfl, ⟨_, _, rfl, gp5⟩, _, _, rfl, gp5, _, rfl, sz (by simp; omega), ?_⟩
        have e2 : parts.map PV.int ++ [PV.int 1] = (parts ++ [1]).map PV.int := by simp
        rw [e2]
        refine next (vs ++ [Vl.inp str]) 1 _ k4 _ _ _ _ (by simp [hl]) (mk.inp str) (f4.trans ((Fr.set (by simp)).trans (Fr.set (by simp)))) ((getL_set_ne (Ne.symm vp)).trans (getL_set gv4)) (getL_set gp5) ?_ (by omega) _ _ _
        exact (s4.fr (Fr.set (S := [v]) (by simp)) (by simp; omega)).fr (Fr.set (S := [p]) (by simp)) (by simp; omega)
      refine ⟨_, rfl, _, rfl, ite_b (fun e => ite_t rfl (leafB h3 _ _ f03 gv3 gp3 s3 (by omega) _ _ _ _ _ _)) (fun e => ?_)⟩
      refine ⟨_, rfl, _, _, rfl, rfl, ite_b (fun e => ite_t rfl (leafB h3 _ _ f03 gv3 gp3 s3 (by omega) _ _ _ _ _ _)) (fun e => ?_)⟩
      refine ⟨_, rfl, ?_⟩
      refine sow s3 (by omega) (by omega) (by omega) fun t4 h4 ht4 s4 f4 => ?_
      have gv4 := f4.get gv3 (by simp; omega)
      have gp4 := f4.get gp3 (by simp; omega)
      have ga4 := f4.get ga3 (by simp; omega)
      have f04 := f03.trans (f4.mono (by simp))
      refine .inl ⟨rfl, ite_b (fun e => leafB h4 _ _ f04 gv4 gp4 s4 (by omega) _ _ _ _ _ _) (fun e => ?_)⟩
      refine ⟨_, rfl, ⟨_, _, rfl, gv4⟩, _, rfl, _, rfl, _, ga4, le rfl, _, _, rfl, gv4, _, rfl, sz (by simp; omega), ?_⟩
      have e1 : vs.map Vl.enc ++ [.tup [.str wd, .tup (([] ++ rs).map ni)]] = (vs ++ [Vl.wk wd rs]).map Vl.enc := by simp [Vl.enc]
      rw [e1]
      have gp5 := (getL_set_ne (o := .lst ((vs ++ [Vl.wk wd rs]).map Vl.enc)) vp).trans gp4
      refine ⟨_, rfl, ⟨_, _, rfl, gp5⟩, _, rfl, _, _, rfl, gp5, _, rfl, sz (by simp; omega), ?_⟩
      have e2 : ∀ tot : Int, parts.map PV.int ++ [PV.int tot] = (parts ++ [tot]).map PV.int := fun tot => by simp
      rw [e2]
      refine next (vs ++ [Vl.wk wd rs]) _ _ _ _ _ _ _ (by simp [hl]) (mk.wk hw (fun x hx => by have := rb x hx; omega) (by omega)) (f04.trans ((Fr.set (by simp)).trans (Fr.set (by simp)))) ((getL_set_ne (Ne.symm vp)).trans (getL_set gv4)) (getL_set gp5) ((s4.fr (Fr.set (S := [v]) (by simp)) (by simp; omega)).fr (Fr.set (S := [p]) (by simp)) (by simp; omega)) (by omega) _ _ _
    · obtain ⟨w', o, e1, e2⟩ := known_ok (h := h3) v' wd ([] ++ rs)
      rw [e1]
      refine ⟨_, rfl, _, _, _, _, rfl, rfl, rfl, rfl, _, rfl, .inl ⟨rfl, ite_b (fun e => ?_) (fun e => zq _)⟩⟩
      refine ⟨_, rfl, _, _, _, _, rfl, rfl, rfl, rfl, _, rfl, _, ga3, ?_⟩
      exact e2 _ zq
theorem mesh_ok {n s : Nat} {k : Int} {many : Nat} {h : PH} {q : QV} {x : QX} (hs : Sd h s k) (hk : k < 2 ^ 57) (m1 : 2 ≤ many) (m2 : many ≤ 100)
    (z : ∀ (v : Nat) (vs : List Vl) (h' : PH), Fr [s] h h' → h.length ≤ v → vs.length = many → Mk vs → getL h' v = some (vs.map Vl.enc) → Sd h' s (k + 2000) → q (.loc v) h') :
    den TT12 (n + 3) 1012 [.loc s, ni many] h q x := by
  refine den_call (F := ir_f_law_mesh) (by rfl) rfl ?_
  refine leaf_ok (k := 0) (by decide) fun st0 => ?_
  refine leaf_ok (k := 1) (by decide) fun st1 => ?_
  refine ⟨le rfl, le rfl, _, rfl, _, _, rfl, rfl, ⟨by omega, by omega, by omega, by omega⟩, ?_⟩
  have sl := hs.lt
  have er : rangeL 2 (((many : Nat) : Int) - 2).toNat = (List.range' 2 (many - 2)).map ni := by
    have : (((many : Nat) : Int) - 2).toNat = many - 2 := by omega
    rw [this]
    exact rangeL_map _ 2
  rw [er]
  have g1 := getL_new (h := h) (xs := [(Vl.inp st0).enc, (Vl.inp st1).enc])
  have g2 := getL_new (h := h ++ [.lst [(Vl.inp st0).enc, (Vl.inp st1).enc]]) (xs := [PV.int 1, PV.int 1])
  have f3 : Fr [] h (h ++ [.lst [(Vl.inp st0).enc, (Vl.inp st1).enc]] ++ [.lst [PV.int 1, PV.int 1]]) := (Fr.app (S := [])).trans Fr.app
  have l1 : (h ++ [PO.lst [(Vl.inp st0).enc, (Vl.inp st1).enc]]).length = h.length + 1 := by simp
  refine mesh_loop (v := h.length) (p := (h ++ [PO.lst [(Vl.inp st0).enc, (Vl.inp st1).enc]]).length) (by omega) (by omega) (by omega) (many - 2) 2 [Vl.inp st0, Vl.inp st1] [1, 1] _ _ _ _ _ _ _ _ _ k (by omega) (by omega) rfl ((Mk.nil.inp st0).inp st1) rfl (getL_app g1) g2 (hs.fr f3 (by simp)) (by omega) fun u4 u5 u6 u7 u8 u9 u10 u11 vs' h' f a1 a2 a3 a4 => ?_
  refine ⟨_, rfl, z _ vs' h' ?_ (Nat.le_refl _) (by omega) a2 a3 (a4.mono (by omega))⟩
  exact (f3.mono (by simp)).drop f fun l hl => by
    simp only [List.mem_cons, List.not_mem_nil, or_false] at hl
    rcases hl with rfl | rfl | rfl
    · exact .inl (by simp)
    · exact .inr (Nat.le_refl _)
    · exact .inr (by omega)
end WD
end
section
set_option Elab.async false
set_option linter.all false
set_option maxRecDepth 100000
set_option autoImplicit false
set_option maxHeartbeats 8000000
set_option pp.maxSteps 600
namespace WD
open PySem PySem.Spec PyProof.Rows L2
/-- a pair of lists: values, outs -/
def Pr (N : List Nat) (h : PH) (p : PV) : Prop := ∃ (v o : Nat) (vs : List Vl) (outs : List Nat), p = .tup [.loc v, .loc o] ∧ v ∉ N ∧ o ∉ N ∧ getL h v = some (vs.map Vl.enc) ∧ getL h o = some (outs.map ni) ∧ Mk vs ∧ 0 < vs.length ∧ vs.length ≤ 300 ∧ (∀ y, y ∈ outs → y < vs.length)
theorem Pr.fr {N S : List Nat} {h h' : PH} {p : PV} (a : Pr N h p) (f : Fr S h h') (m : ∀ l, l ∈ S → l ∈ N) : Pr N h' p := by
  obtain ⟨v, o, vs, outs, e, n1, n2, g1, g2, r⟩ := a
  exact ⟨v, o, vs, outs, e, n1, n2, f.get g1 fun z => n1 (m _ z), f.get g2 fun z => n2 (m _ z), r⟩
theorem Pr.sub {N N' : List Nat} {h : PH} {p : PV} (a : Pr N' h p) (m : ∀ l, l ∈ N → l ∈ N') : Pr N h p := by
  obtain ⟨v, o, vs, outs, e, n1, n2, r⟩ := a
  exact ⟨v, o, vs, outs, e, fun z => n1 (m _ z), fun z => n2 (m _ z), r⟩
def BentOk : Prop := ∀ {n s v o : Nat} {k : Int} {N : List Nat} {vs : List Vl} {outs : List Nat} {h : PH} {q : QV} {x : QX} (hs : Sd h s k) (hk : k < 2 ^ 55) (sN : s ∈ N) (hN : ∀ l, l ∈ N → l < h.length) (vN : v ∉ N) (oN : o ∉ N) (gv : getL h v = some (vs.map Vl.enc)) (go : getL h o = some (outs.map ni)) (mk : Mk vs) (v0 : 0 < vs.length) (vn : vs.length ≤ 200) (hx : ∀ y, y ∈ outs → y < vs.length) (on : outs.length ≤ 60)
    (z : ∀ (l : Nat) (rows : List PV) (h' : PH), Fr [s] h h' → h.length ≤ l → getL h' l = some rows → rows.length ≤ 3 → (∀ p, p ∈ rows → Pr N h' p) → Sd h' s (k + 10) → q (.loc l) h'),
    den TT12 (n + 2) 1010 [.loc s, .loc v, .loc o] h q x
/-- the state of the law's body -/
structure St (s t L : Nat) (h : PH) (k : Int) (m : Nat) : Prop where
  sd : Sd h s k
  tl : ∃ a b : Int, getL h t = some [.int a, .int b] ∧ 0 ≤ a ∧ 1 ≤ b
  sc : ∃ items, getL h L = some items ∧ items.length ≤ m ∧ ∀ p, p ∈ items → Pr [s, t, L] h p
  st : s ≠ t
  sL : s ≠ L
  tL : t ≠ L
theorem St.fr {s t L : Nat} {h h' : PH} {k k' : Int} {m : Nat} (a : St s t L h k m) (f : Fr [s] h h') (sd : Sd h' s k') : St s t L h' k' m := by
  have st := a.st
  have sL := a.sL
  obtain ⟨x, y, e1, e2⟩ := a.tl
  obtain ⟨it, i1, i2, i3⟩ := a.sc
  exact ⟨sd, ⟨x, y, f.get e1 (by simp; omega), e2⟩, ⟨it, f.get i1 (by simp; omega), i2, fun p hp => (i3 p hp).fr f (by simp)⟩, a.st, a.sL, a.tL⟩
theorem St.add {s t L : Nat} {h : PH} {k : Int} {m j : Nat} {items rows : List PV} (a : St s t L h k m) (g : getL h L = some items) (hr : rows.length ≤ j) (hp : ∀ p, p ∈ rows → Pr [s, t, L] h p) : St s t L (h.set L (.lst (items ++ rows))) k (m + j) := by
  have st := a.st
  have sL := a.sL
  have tL := a.tL
  have f : Fr [L] h (h.set L (.lst (items ++ rows))) := Fr.set (by simp)
  obtain ⟨x, y, e1, e2⟩ := a.tl
  obtain ⟨it, i1, i2, i3⟩ := a.sc
  rw [g] at i1
  cases i1
  refine ⟨a.sd.fr f (by simp; omega), ⟨x, y, f.get e1 (by simp; omega), e2⟩, ⟨_, getL_set g, by simp; omega, fun p q => ?_⟩, st, sL, tL⟩
  rcases List.mem_append.mp q with w | w
  · exact (i3 p w).fr f (by simp)
  · exact (hp p w).fr f (by simp)
theorem St.lt {s t L : Nat} {h : PH} {k : Int} {m : Nat} (a : St s t L h k m) : ∀ l, l ∈ [s, t, L] → l < h.length := by
  obtain ⟨x, y, e1, e2⟩ := a.tl
  obtain ⟨it, i1, i2, i3⟩ := a.sc
  intro l hl
  simp only [List.mem_cons, List.not_mem_nil, or_false] at hl
  rcases hl with rfl | rfl | rfl
  · exact a.sd.lt
  · exact getL_lt e1
  · exact getL_lt i1
theorem add_to {i j k : Int} {h : PH} {q : QV} (e : i + j = k) (z : q (.int k) h) : binS .Add (.int i) (.int j) h q := by
  subst e
  exact z
abbrev adBody : Sms := (.cons (.expr (.mth .append (.var 4) (.cons (.tup (.cons (.var 8) (.cons (.var 9) .nil))) .nil)))
    (.cons (.expr (.ext (.var 4) (.e (.call 1010 (.cons (.var 1) (.cons (.var 8) (.cons (.var 9) .nil)))))))
    .nil))
theorem add_ok (bent : BentOk) {n s t L v o m : Nat} {k : Int} {vs : List Vl} {outs : List Nat} {h : PH} {κ : KS} {s0 s3 u5 u6 u7 u10 : Option PV} (a : St s t L h k m) (hm : m ≤ 100) (hk : k < 2 ^ 50) (vN : v ∉ [s, t, L]) (oN : o ∉ [s, t, L]) (gv : getL h v = some (vs.map Vl.enc)) (go : getL h o = some (outs.map ni)) (mk : Mk vs) (v0 : 0 < vs.length) (vn : vs.length ≤ 200) (hx : ∀ y, y ∈ outs → y < vs.length) (on : outs.length ≤ 60)
    (z : ∀ h', h.length ≤ h'.length → St s t L h' (k + 10) (m + 4) → κ.nx [s0, some (.loc s), some (.loc t), s3, some (.loc L), u5, u6, u7, some (.loc v), some (.loc o), u10] h') :
    wSs (den TT12 (n + 2)) adBody κ [s0, some (.loc s), some (.loc t), s3, some (.loc L), u5, u6, u7, some (.loc v), some (.loc o), u10] h := by
  obtain ⟨it, i1, i2, i3⟩ := a.sc
  have st := a.st
  have sL := a.sL
  have tL := a.tL
  refine ⟨_, rfl, ⟨_, _, rfl, i1⟩, _, rfl, _, rfl, le rfl, _, _, rfl, i1, _, rfl, sz (by omega), ?_⟩
  have P : Pr [s, t, L] h (.tup [.loc v, .loc o]) := ⟨_, _, _, _, rfl, vN, oN, gv, go, mk, v0, by omega, hx⟩
  have a2 := a.add (j := 1) (rows := [.tup [.loc v, .loc o]]) i1 (by simp) (by simpa using P)
  have vN' : L ≠ v := fun e => vN (by simp [e])
  have oN' : L ≠ o := fun e => oN (by simp [e])
  have gv2 := (getL_set_ne (o := .lst (it ++ [.tup [.loc v, .loc o]])) vN').trans gv
  have go2 := (getL_set_ne (o := .lst (it ++ [.tup [.loc v, .loc o]])) oN').trans go
  have l2 : h.length ≤ (h.set L (.lst (it ++ [.tup [.loc v, .loc o]]))).length := by simp
  have i2' : getL (h.set L (.lst (it ++ [.tup [.loc v, .loc o]]))) L = some (it ++ [.tup [.loc v, .loc o]]) := getL_set i1
  refine ⟨_, rfl, ⟨_, _, rfl, i2'⟩, _, rfl, _, rfl, _, rfl, ?_⟩
  refine bent (N := [s, t, L]) a2.sd (by omega) (by simp) a2.lt vN oN gv2 go2 mk v0 vn hx on fun l rows h3 f3 ll g3 r1 r2 s3 => ?_
  have a3 := a2.fr f3 s3
  have i3' := f3.get i2' (by simp; omega)
  refine ⟨_, _, _, rfl, i3', g3, sz (by simp; omega), ?_⟩
  exact z _ (by have := f3.1; simp at this ⊢; omega) (a3.add (j := 3) i3' r1 r2)
abbrev l1Body : Sms := (.cons (.set (.tup [(.slot 8), (.slot 9)]) (.call 1011 (.cons (.var 1) (.cons (.bin .Add (.int 1) (.call 1001 (.cons (.var 1) (.cons (.int 10) .nil)))) (.cons (.bin .Add (.int 2) (.bin .Mult (.int 2) (.var 5))) (.cons (.int 6) (.cons (.var 5) .nil))))))) adBody)
theorem notN {s t L v : Nat} {h : PH} {k : Int} {m : Nat} (a : St s t L h k m) (hv : h.length ≤ v) : v ∉ [s, t, L] := fun z => by
  have := a.lt v z
  omega
theorem loop1 (bent : BentOk) {n s t L : Nat} {s0 s3 : Option PV} {κ : KS} : ∀ (cnt j m : Nat) (u5 u6 u7 u8 u9 u10 : Option PV) (h : PH) (k : Int), j + cnt ≤ 3 → m + 4 * cnt ≤ 90 → St s t L h k m → k + 6000 * cnt < 2 ^ 50 →
    (∀ (u5 u6 u7 u8 u9 u10 : Option PV) h', h.length ≤ h'.length → St s t L h' (k + 6000 * cnt) (m + 4 * cnt) → κ.nx [s0, some (.loc s), some (.loc t), s3, some (.loc L), u5, u6, u7, u8, u9, u10] h') →
    forW (fun _ => True) (.slot 5) (wSs (den TT12 (n + 10)) l1Body) κ ((List.range' j cnt).map ni) [s0, some (.loc s), some (.loc t), s3, some (.loc L), u5, u6, u7, u8, u9, u10] h
  | 0, j, m, u5, u6, u7, u8, u9, u10, h, k, hj, hm, a, hk, z => ⟨trivial, z _ _ _ _ _ _ h (Nat.le_refl _) (by simpa using a)⟩
  | cnt + 1, j, m, u5, u6, u7, u8, u9, u10, h, k, hj, hm, a, hk, z => by
    rw [List.range'_succ]
    have sd := a.sd
    refine ⟨trivial, _, rfl, _, rfl, ?_⟩
    refine sow sd (by omega) (by omega) (by omega) fun r h1 hr s1 f1 => ?_
    have a1 := a.fr f1 s1
    refine add_to (k := ((1 + r : Nat) : Int)) (by omega) ?_
    refine ⟨_, rfl, mulX (by omega) (by omega), _, rfl, ?_⟩
    refine grown_ok (most := 6) s1 (by omega) (by omega) (by omega) (by omega) (by omega) fun v o vs outs h2 f2 lv lo gv mk v0 vn go hx on s2 => ?_
    have a2 := a1.fr f2 s2
    refine ⟨_, rfl, _, _, rfl, _, _, rfl, rfl, ?_⟩
    refine add_ok bent a2 (by omega) (by omega) (notN a1 lv) (notN a1 lo) gv go mk v0 vn hx on fun h3 l3 a3 => ?_
    have l13 := f1.1
    have l23 := f2.1
    refine loop1 bent cnt (j + 1) (m + 4) _ _ _ _ _ _ h3 (k + 6000) (by omega) (by omega) ⟨a3.sd.mono (by omega), a3.tl, a3.sc, a3.st, a3.sL, a3.tL⟩ (by omega) fun u5 u6 u7 u8 u9 u10 h' l' a' => ?_
    exact z _ _ _ _ _ _ h' (by omega) (by
      have e1 : k + 6000 + 6000 * (cnt : Int) = k + 6000 * ((cnt + 1 : Nat) : Int) := by omega
      have e2 : m + 4 + 4 * cnt = m + 4 * (cnt + 1) := by omega
      rw [← e1, ← e2]; exact a')
abbrev l2Body : Sms := (.cons (.set (.slot 8) (.call 1012 (.cons (.var 1) (.cons (.bin .Add (.int 2) (.call 1001 (.cons (.var 1) (.cons (.int 9) .nil)))) .nil))))
    (.cons (.set (.slot 9) (.new (.comp [10] (.call 1001 (.cons (.var 1) (.cons (.bif .len (.cons (.var 8) .nil)) .nil))) (.slot 10) (.range1 (.call 1001 (.cons (.var 1) (.cons (.int 4) .nil)))) .no)))
    (.cons (.expr (.mth .append (.var 4) (.cons (.tup (.cons (.var 8) (.cons (.var 9) .nil))) .nil)))
    .nil)))
theorem loop2 {n s t L : Nat} {s0 s3 : Option PV} {κ : KS} : ∀ (ys : List PV) (m : Nat) (u5 u6 u7 u8 u9 u10 : Option PV) (h : PH) (k : Int), m + ys.length ≤ 90 → St s t L h k m → k + 6000 * ys.length < 2 ^ 50 →
    (∀ (u5 u6 u7 u8 u9 u10 : Option PV) h', h.length ≤ h'.length → St s t L h' (k + 6000 * ys.length) (m + ys.length) → κ.nx [s0, some (.loc s), some (.loc t), s3, some (.loc L), u5, u6, u7, u8, u9, u10] h') →
    forW (fun _ => True) (.slot 5) (wSs (den TT12 (n + 10)) l2Body) κ ys [s0, some (.loc s), some (.loc t), s3, some (.loc L), u5, u6, u7, u8, u9, u10] h
  | [], m, u5, u6, u7, u8, u9, u10, h, k, hm, a, hk, z => ⟨trivial, z _ _ _ _ _ _ h (Nat.le_refl _) (by simpa using a)⟩
  | y :: ys, m, u5, u6, u7, u8, u9, u10, h, k, hm, a, hk, z => by
    simp only [List.length_cons] at hm hk
    have sd := a.sd
    have sL := a.sL
    refine ⟨trivial, _, rfl, _, rfl, ?_⟩
    refine sow sd (by omega) (by omega) (by omega) fun r h1 hr s1 f1 => ?_
    have a1 := a.fr f1 s1
    refine add_to (k := ((2 + r : Nat) : Int)) (by omega) ?_
    refine mesh_ok s1 (by omega) (by omega) (by omega) fun v vs h2 f2 lv hvl mk gv s2 => ?_
    have a2 := a1.fr f2 s2
    refine ⟨_, rfl, ?_⟩
    refine sow s2 (by omega) (by omega) (by omega) fun r2 h3 hr2 s3' f3 => ?_
    have a3 := a2.fr f3 s3'
    have vN := notN a1 lv
    have sv : s ≠ v := fun e => vN (by simp [e])
    have gv3 := f3.get gv (by simp; omega)
    refine ⟨_, rfl, by omega, by omega, ?_⟩
    have yl : (rangeL 0 ((r2 : Int)).toNat).length ≤ 4 := by rw [rangeL_length]; omega
    refine sow_comp (n := n + 9) (l := s) (h0 := h3) (add := 0) (many := (((vs.map Vl.enc).length : Nat) : Int)) (by simp; omega) (by simp; omega) (fun _ _ => trivial) ?_ _ [] h3 (k + 1 + 2000 + 1) (by omega) Fr.refl s3' (by omega) (by rw [List.length_nil]; omega) fun rs h4 hl4 hb4 f4 s4 => ?_
    · intro y h' k' Q f s' hk' ww
      refine ⟨_, rfl, _, rfl, _, _, rfl, len_loc (f.get gv3 (by simp; omega)), ?_⟩
      exact sow s' hk' (by simp; omega) (by simp; omega) fun r h'' hr s'' f'' => by simpa using ww r h'' hr f'' s''
    have gv4 := getL_app (o := .lst (([] ++ rs).map ni)) (f4.get gv3 (by simp; omega))
    have go4 := getL_new (h := h4) (xs := ([] ++ rs).map ni)
    have a4 := (a3.fr f4 s4).fr (Fr.app (S := [s]) (o := .lst (([] ++ rs).map ni))) (s4.fr (Fr.app (S := [])) (by simp))
    have oN := notN (a3.fr f4 s4) (Nat.le_refl h4.length)
    obtain ⟨it, i1, i2, i3⟩ := a4.sc
    refine ⟨_, rfl, ⟨_, _, rfl, i1⟩, _, rfl, _, rfl, le rfl, _, _, rfl, i1, _, rfl, sz (by omega), ?_⟩
    have P : Pr [s, t, L] (h4 ++ [.lst (([] ++ rs).map ni)]) (.tup [.loc v, .loc h4.length]) := ⟨_, _, _, _, rfl, vN, oN, gv4, go4, mk, by omega, by omega, fun y hy => by have := hb4 y (by simpa using hy); simp at this; omega⟩
    have a5 := a4.add (j := 1) (rows := [.tup [.loc v, .loc h4.length]]) i1 (by simp) (by simpa using P)
    have l1 := f1.1
    have l2 := f2.1
    have l3 := f3.1
    have l4 := f4.1
    refine loop2 ys (m + 1) _ _ _ _ _ _ _ (k + 6000) (by omega) ⟨a5.sd.mono (by omega), a5.tl, a5.sc, a5.st, a5.sL, a5.tL⟩ (by omega) fun u5 u6 u7 u8 u9 u10 h' l' a' => ?_
    exact z _ _ _ _ _ _ h' (by simp at l'; omega) (by
      have e1 : k + 6000 + 6000 * (ys.length : Int) = k + 6000 * ((y :: ys).length : Int) := by simp; omega
      have e2 : m + 1 + ys.length = m + (y :: ys).length := by simp; omega
      rw [← e1, ← e2]; exact a')
end WD
end
section
set_option Elab.async false
set_option linter.all false
set_option maxRecDepth 100000
set_option autoImplicit false
set_option maxHeartbeats 8000000
set_option pp.maxSteps 300
namespace WD
open PySem PySem.Spec PyProof.Rows L2
theorem sel_at {Φ : Phi} {X : QX} {b : Nat} {ς : PSt} {h : PH} {cd : OEx} (hb : b < ς.length) {q : List PV → PH → Prop} : ∀ (is acc : List Nat), acc.length + is.length ≤ 1000 → (∀ i, i ∈ is → ∀ Q : Bool → PH → Prop, (∀ b, Q b h) → wC Φ cd X (ς.set b (some (ni i))) h Q) →
    (∀ L : List Nat, (∀ x, x ∈ L → x ∈ acc ∨ x ∈ is) → L.length ≤ acc.length + is.length → q (L.map ni) h) → compW (fun _ => True) (.slot b) ς (wC Φ cd X) (wE Φ (.var b) X) q (is.map ni) (acc.map ni) h
  | [], acc, hs, hc, z => ⟨trivial, z acc (fun x hx => .inl hx) (by simp)⟩
  | i :: r, acc, hs, hc, z => by
    refine ⟨trivial, ?_⟩
    refine hc i (by simp) _ fun b' => ?_
    refine ite_b (fun e => ?_) (fun e => ?_)
    · have s2 : (ς.set b (some (ni i)))[b]? = some (some (ni i)) := by rw [List.getElem?_set_self hb]
      refine ⟨_, s2, sz (by simp at hs ⊢; omega), ?_⟩
      have e1 : acc.map ni ++ [ni i] = (acc ++ [i]).map ni := by simp
      rw [e1]
      refine sel_at hb r (acc ++ [i]) (by simp at hs ⊢; omega) (fun i hi => hc i (by simp [hi])) fun L h1 h2 => z L (fun x hx => ?_) (by simp at h2 ⊢; omega)
      rcases h1 x hx with w | w
      · rcases List.mem_append.mp w with w | w
        · exact .inl w
        · exact .inr (by simp at w; simp [w])
      · exact .inr (by simp [w])
    · refine sel_at hb r acc (by simp at hs ⊢; omega) (fun i hi => hc i (by simp [hi])) fun L h1 h2 => z L (fun x hx => ?_) (by simp at h2 ⊢; omega)
      rcases h1 x hx with w | w
      · exact .inl w
      · exact .inr (by simp [w])
theorem cut_from (L : List Nat) (m : Nat) : ∃ L' : List Nat, cutP (L.map ni) (some (m : Int)) none = L'.map ni ∧ L'.length ≤ L.length ∧ ∀ y, y ∈ L' → y ∈ L := by
  refine ⟨(L.drop (min m L.length)).take (L.length - min m L.length), ?_, by simp, fun y hy => List.mem_of_mem_drop (List.mem_of_mem_take hy)⟩
  unfold cutP bndP
  rw [HT.sIx_none, HT.sIx_nat]
  simp [List.map_take, List.map_drop]
abbrev btRest : Sms := (.cons (.ifs (.and (.cmp .Gt (.bif .len (.cons (.var 4) .nil)) (.int 0)) (.cmp .Lt (.bif .len (.cons (.var 1) .nil)) (.int 100)))
    (.cons (.set (.slot 8) (.ix (.var 4) (.call 1001 (.cons (.var 0) (.cons (.bif .len (.cons (.var 4) .nil)) .nil)))))
    (.cons (.set (.slot 10) (.ix (.var 4) (.call 1001 (.cons (.var 0) (.cons (.bif .len (.cons (.var 4) .nil)) .nil)))))
    (.cons (.expr (.mth .append (.var 5) (.cons (.tup (.cons (.new (.cat (.e (.var 1)) (.l (.disp (.cons (.tup (.cons (.str "twice") (.cons (.tup (.cons (.var 8) (.cons (.var 10) .nil))) .nil))) .nil))))) (.cons (.new (.cat (.e (.var 2)) (.l (.disp (.cons (.bif .len (.cons (.var 1) .nil)) .nil))))) .nil))) .nil)))
    (.cons (.expr (.mth .append (.var 5) (.cons (.tup (.cons (.new (.cat (.e (.var 1)) (.l (.disp (.cons (.tup (.cons (.str "twice") (.cons (.tup (.cons (.var 8) (.cons (.var 10) .nil))) .nil))) .nil))))) (.cons (.var 2) .nil))) .nil)))
    .nil))))
    .nil)
  (.cons (.ret (.var 5))
  .nil))
abbrev btMain : Sms := (.cons (.ifs (.cmp .Gt (.bif .len (.cons (.var 3) .nil)) (.int 0))
    (.cons (.set (.slot 8) (.ix (.var 3) (.bin .Sub (.bif .len (.cons (.var 3) .nil)) (.int 1))))
    (.cons (.ifs (.cmp .Eq (.call 1001 (.cons (.var 0) (.cons (.int 2) .nil))) (.int 0))
      (.cons (.set (.slot 8) (.ix (.var 3) (.call 1001 (.cons (.var 0) (.cons (.bif .len (.cons (.var 3) .nil)) .nil)))))
      .nil)
      .nil)
    (.cons (.set (.slot 9) (.call 1001 (.cons (.var 0) (.cons (.bin .Add (.bif .len (.cons (.var 2) .nil)) (.int 1)) .nil))))
    (.cons (.expr (.mth .append (.var 5) (.cons (.tup (.cons (.var 1) (.cons (.new (.cat (.l (.cat (.e (.sl (.var 2) .no (.some (.var 9)))) (.l (.disp (.cons (.var 8) .nil))))) (.e (.sl (.var 2) (.some (.var 9)) .no)))) .nil))) .nil)))
    .nil))))
    .nil)
  btRest)
theorem bent_ok {n s v o : Nat} {k : Int} {N : List Nat} {vs : List Vl} {outs : List Nat} {h : PH} {q : QV} {x : QX} (hs : Sd h s k) (hk : k < 2 ^ 55) (sN : s ∈ N) (hN : ∀ l, l ∈ N → l < h.length) (vN : v ∉ N) (oN : o ∉ N) (gv : getL h v = some (vs.map Vl.enc)) (go : getL h o = some (outs.map ni)) (mk : Mk vs) (v0 : 0 < vs.length) (vn : vs.length ≤ 200) (hx : ∀ y, y ∈ outs → y < vs.length) (on : outs.length ≤ 60)
    (z : ∀ (l : Nat) (rows : List PV) (h' : PH), Fr [s] h h' → h.length ≤ l → getL h' l = some rows → rows.length ≤ 3 → (∀ p, p ∈ rows → Pr N h' p) → Sd h' s (k + 10) → q (.loc l) h') :
    den TT12 (n + 2) 1010 [.loc s, PV.loc v, PV.loc o] h q x := by
  refine den_call (F := ir_f_law_bent) (by rfl) rfl ?_
  refine ⟨_, rfl, _, gv, le rfl, _, rfl, _, go, le rfl, ?_⟩
  refine taken_ok (W := .tup []) (vs := vs) (outs := outs) mk.wf (mk.sz (by omega)) hx fun a b h1 f1 la lb nab ga gb => ?_
  have gv1 := f1.get gv (by simp)
  have go1 := f1.get go (by simp)
  have s1 := hs.fr f1 (by simp)
  have ml : (marks vs outs).length = vs.length := marks_len
  have cl : (tcn vs outs).length = vs.length := by unfold tcn; rw [tdn_len, List.length_replicate]
  have er : rangeL 0 (((vs.map Vl.enc).length : Int)).toNat = (List.range vs.length).map ni := by rw [rangeL0]; simp
  have vne : s ≠ v := fun e => vN (e ▸ sN)
  have one' : s ≠ o := fun e => oN (e ▸ sN)
  have sl := hs.lt
  have vl := getL_lt gv
  have ol := getL_lt go
  refine ⟨_, rfl, _, _, rfl, _, _, rfl, rfl, _, rfl, _, _, rfl, len_loc gv1, _, rfl, by omega, by simp; omega, ?_⟩
  rw [er]
  refine sel_at (by show (11 : Nat) < 12; decide) (List.range vs.length) [] (by simp; omega) (fun i hi Q zq => ?_) fun I I1 I2 => ?_
  · have hi' := List.mem_range.mp hi
    have e0 : ((tcn vs outs).map ni)[i]? = some (ni (((tcn vs outs)[i]?).getD 0)) := by simp [show i < (tcn vs outs).length by omega]
    refine ⟨_, rfl, _, rfl, _, _, _, _, rfl, ga, ixP_nat (by simp; omega), isIn_get (by omega), _, rfl, ite_b (fun e => ?_) (fun e => zq _)⟩
    exact ⟨_, rfl, _, rfl, _, _, _, _, rfl, gb, ixP_nat (by simp; omega), e0, _, _, rfl, rfl, zq _⟩
  have I3 : I.length ≤ 300 := by rw [List.length_nil, List.length_range] at I2; omega
  have Ib : ∀ x, x ∈ I → x < vs.length := fun x hx => by
    rcases I1 x hx with w | w
    · cases w
    · exact List.mem_range.mp w
  have gvI := getL_app (o := .lst (I.map ni)) gv1
  have gaI := getL_app (o := .lst (I.map ni)) ga
  refine ⟨_, rfl, _, _, rfl, len_loc gvI, _, rfl, by omega, by simp; omega, ?_⟩
  rw [er]
  refine sel_at (by show (11 : Nat) < 12; decide) (List.range vs.length) [] (by simp; omega) (fun i hi Q zq => ?_) fun D D1 D2 => ?_
  · have hi' := List.mem_range.mp hi
    exact ⟨_, rfl, _, rfl, _, _, _, _, rfl, gaI, ixP_nat (by simp; omega), isIn_get (by omega), _, rfl, zq _⟩
  have D3 : D.length ≤ 300 := by rw [List.length_nil, List.length_range] at D2; omega
  have Db : ∀ x, x ∈ D → x < vs.length := fun x hx => by
    rcases D1 x hx with w | w
    · cases w
    · exact List.mem_range.mp w
  refine ⟨Nat.zero_le _, ?_⟩
  have f4 : Fr [] h (h1 ++ [PO.lst (I.map ni)] ++ [PO.lst (D.map ni)] ++ [PO.lst []]) := f1.trans (Fr.app.trans (Fr.app.trans Fr.app))
  have gI4 : getL (h1 ++ [PO.lst (I.map ni)] ++ [PO.lst (D.map ni)] ++ [PO.lst []]) h1.length = some (I.map ni) := getL_app (getL_app getL_new)
  have gD4 : getL (h1 ++ [PO.lst (I.map ni)] ++ [PO.lst (D.map ni)] ++ [PO.lst []]) (h1 ++ [PO.lst (I.map ni)]).length = some (D.map ni) := getL_app getL_new
  have gR4 : getL (h1 ++ [PO.lst (I.map ni)] ++ [PO.lst (D.map ni)] ++ [PO.lst []]) (h1 ++ [PO.lst (I.map ni)] ++ [PO.lst (D.map ni)]).length = some [] := getL_new
  have l1 := f1.1
  have q1 : h.length ≤ (h1 ++ [PO.lst (I.map ni)]).length := by simp; omega
  have q2 : h.length ≤ (h1 ++ [PO.lst (I.map ni)] ++ [PO.lst (D.map ni)]).length := by simp; omega
  have q3 : (h1 ++ [PO.lst (I.map ni)]).length ≠ (h1 ++ [PO.lst (I.map ni)] ++ [PO.lst (D.map ni)]).length := by simp
  have main : ∀ (h4 : PH) (R dl : Nat), Fr [] h h4 → getL h4 h1.length = some (I.map ni) → getL h4 dl = some (D.map ni) → getL h4 R = some [] → h.length ≤ dl → h.length ≤ R → dl ≠ R →
      wSs (den TT12 (n + 1)) btMain { nx := fun _ h' => q .non h', rt := q, ex := fun e _ h' => x e h' } [some (.loc s), some (.loc v), some (.loc o), some (.loc h1.length), some (.loc dl), some (.loc R), some (.loc a), some (.loc b), none, none, none, none] h4 := by
    intro h4 R dl f4 gI4 gD4 gR4 q1 q2 q3
    have Rl := getL_lt gR4
    have gv4 := f4.get gv (by simp)
    have go4 := f4.get go (by simp)
    have s4 := hs.fr f4 (by simp)
    have vR : v ∉ R :: N := fun z => by
      rcases List.mem_cons.mp z with z | z
      · omega
      · exact vN z
    have oR : o ∉ R :: N := fun z => by
      rcases List.mem_cons.mp z with z | z
      · omega
      · exact oN z
    have newN : ∀ (h' : PH), h4.length ≤ h'.length → h'.length ∉ R :: N := fun h' hh z => by
      rcases List.mem_cons.mp z with z | z
      · omega
      · have := hN _ z; have := f4.1; omega
    -- the end
    have rest : ∀ (R1 : List PV) (h5 : PH) (k5 : Int) (u8 u9 u10 u11 : Option PV), R1.length ≤ 1 → (∀ p, p ∈ R1 → Pr (R :: N) h5 p) → Fr [s, R] h4 h5 → getL h5 R = some R1 → Sd h5 s k5 → k5 ≤ k + 5 →
        wSs (den TT12 (n + 1)) btRest { nx := fun _ h' => q .non h', rt := q, ex := fun e _ h' => x e h' } [some (.loc s), some (.loc v), some (.loc o), some (.loc h1.length), some (.loc dl), some (.loc R), some (.loc a), some (.loc b), u8, u9, u10, u11] h5 := by
      intro R1 h5 k5 u8 u9 u10 u11 c1 c2 f5 gR5 s5 c3
      have gD5 := f5.get gD4 (by simp; omega)
      have gv5 := f5.get gv4 (by simp; omega)
      have go5 := f5.get go4 (by simp; omega)
      have fin : ∀ (R2 : List PV) (h6 : PH) (k6 : Int) (u8 u9 u10 u11 : Option PV), R2.length ≤ 3 → (∀ p, p ∈ R2 → Pr (R :: N) h6 p) → Fr [s, R] h4 h6 → getL h6 R = some R2 → Sd h6 s k6 → k6 ≤ k + 10 →
          wSs (den TT12 (n + 1)) (.cons (.ret (.var 5)) .nil) { nx := fun _ h' => q .non h', rt := q, ex := fun e _ h' => x e h' } [some (.loc s), some (.loc v), some (.loc o), some (.loc h1.length), some (.loc dl), some (.loc R), some (.loc a), some (.loc b), u8, u9, u10, u11] h6 := by
        intro R2 h6 k6 u8 u9 u10 u11 d1 d2 f6 gR6 s6 d3
        refine ⟨_, rfl, z R R2 h6 ?_ q2 gR6 d1 (fun p hp => (d2 p hp).sub fun l hl => by simp [hl]) (s6.mono d3)⟩
        exact (f4.mono (by simp)).drop f6 fun l hl => by
          simp only [List.mem_cons, List.not_mem_nil, or_false] at hl
          rcases hl with rfl | rfl
          · exact .inl (by simp)
          · exact .inr q2
      refine ⟨_, rfl, _, _, rfl, len_loc gD5, _, _, rfl, rfl, ite_b (fun e1 => ?_) (fun e1 => ite_f rfl (fin R1 h5 k5 _ _ _ _ (by omega) c2 f5 gR5 s5 (by omega)))⟩
      refine ⟨_, rfl, _, _, rfl, len_loc gv5, _, _, rfl, rfl, ite_b (fun e2 => ?_) (fun e2 => fin R1 h5 k5 _ _ _ _ (by omega) c2 f5 gR5 s5 (by omega))⟩
      have dp : 0 < D.length := by have := of_decide_eq_true e1; simp at this; omega
      have vsm : vs.length < 100 := by have := of_decide_eq_true e2; simp at this; omega
      refine ⟨_, rfl, _, rfl, _, rfl, _, _, rfl, len_loc gD5, ?_⟩
      refine sow s5 (by omega) (by simp; omega) (by simp; omega) fun t1 h6 ht1 s6 f6 => ?_
      have gD6 := f6.get gD5 (by simp; omega)
      have t1l : t1 < D.length := by simp at ht1; omega
      have e3 : (D.map ni)[t1]? = some (ni D[t1]) := by simp [t1l]
      refine ⟨_, _, _, _, rfl, gD6, ixP_nat (by simpa using t1l), e3, ?_⟩
      refine ⟨_, rfl, _, rfl, _, rfl, _, _, rfl, len_loc gD6, ?_⟩
      refine sow s6 (by omega) (by simp; omega) (by simp; omega) fun t2 h7 ht2 s7 f7 => ?_
      have gD7 := f7.get gD6 (by simp; omega)
      have t2l : t2 < D.length := by simp at ht2; omega
      have e4 : (D.map ni)[t2]? = some (ni D[t2]) := by simp [t2l]
      have f57 : Fr [s] h5 h7 := f6.trans f7
      have gv7 := f57.get gv5 (by simp; omega)
      have go7 := f57.get go5 (by simp; omega)
      have gR7 := f57.get gR5 (by simp; omega)
      have len7 : h4.length ≤ h7.length := (f5.trans (f57.mono (by simp))).1
      have b1 := Db D[t1] (List.getElem_mem _)
      have b2 := Db D[t2] (List.getElem_mem _)
      refine ⟨_, _, _, _, rfl, gD7, ixP_nat (by simpa using t2l), e4, ?_⟩
      have ev : vs.map Vl.enc ++ [.tup [.str ("twice" : Str), .tup [ni D[t1], ni D[t2]]]] = (vs ++ [Vl.wk "twice" [D[t1], D[t2]]]).map Vl.enc := by simp [Vl.enc]
      have mk2 : Mk (vs ++ [Vl.wk "twice" [D[t1], D[t2]]]) := mk.wk (by decide +kernel) (fun x hx => by simp at hx; omega) (by simp)
      have eo : outs.map ni ++ [.int (((vs.map Vl.enc).length : Nat) : Int)] = (outs ++ [vs.length]).map ni := by simp
      refine ⟨_, rfl, ⟨_, _, rfl, gR7⟩, _, rfl, _, rfl, _, rfl, le rfl, le rfl, le rfl, _, _, gv7, rfl, sz (by simp; omega), ?_⟩
      rw [ev]
      have go8 := getL_app (o := .lst ((vs ++ [Vl.wk "twice" [D[t1], D[t2]]]).map Vl.enc)) go7
      have gv8 := getL_app (o := .lst ((vs ++ [Vl.wk "twice" [D[t1], D[t2]]]).map Vl.enc)) gv7
      have gR8 := getL_app (o := .lst ((vs ++ [Vl.wk "twice" [D[t1], D[t2]]]).map Vl.enc)) gR7
      have gn8 := getL_new (h := h7) (xs := (vs ++ [Vl.wk "twice" [D[t1], D[t2]]]).map Vl.enc)
      refine ⟨_, rfl, _, rfl, _, _, rfl, len_loc gv8, le rfl, _, _, go8, rfl, sz (by simp; omega), ?_⟩
      rw [eo]
      have f58 : Fr [s] h5 (h7 ++ [PO.lst ((vs ++ [Vl.wk "twice" [D[t1], D[t2]]]).map Vl.enc)]) := f57.trans Fr.app
      have len8 : h4.length ≤ (h7 ++ [PO.lst ((vs ++ [Vl.wk "twice" [D[t1], D[t2]]]).map Vl.enc)]).length := by simp; omega
      have s8 := s7.fr (Fr.app (S := []) (o := .lst ((vs ++ [Vl.wk "twice" [D[t1], D[t2]]]).map Vl.enc))) (by simp)
      have n7 := newN h7 len7
      have gn9 := getL_app (o := .lst ((outs ++ [vs.length]).map ni)) gn8
      have gm9 := getL_new (h := (h7 ++ [PO.lst ((vs ++ [Vl.wk "twice" [D[t1], D[t2]]]).map Vl.enc)])) (xs := (outs ++ [vs.length]).map ni)
      have gv9 := getL_app (o := .lst ((outs ++ [vs.length]).map ni)) gv8
      have go9 := getL_app (o := .lst ((outs ++ [vs.length]).map ni)) go8
      have gR9 := getL_app (o := .lst ((outs ++ [vs.length]).map ni)) gR8
      have f59 : Fr [s] h5 ((h7 ++ [PO.lst ((vs ++ [Vl.wk "twice" [D[t1], D[t2]]]).map Vl.enc)]) ++ [PO.lst ((outs ++ [vs.length]).map ni)]) := f58.trans Fr.app
      have n8 := newN (h7 ++ [PO.lst ((vs ++ [Vl.wk "twice" [D[t1], D[t2]]]).map Vl.enc)]) len8
      have s9 := s8.fr (Fr.app (S := []) (o := .lst ((outs ++ [vs.length]).map ni))) (by simp)
      have len9 : h4.length ≤ ((h7 ++ [PO.lst ((vs ++ [Vl.wk "twice" [D[t1], D[t2]]]).map Vl.enc)]) ++ [PO.lst ((outs ++ [vs.length]).map ni)]).length := by simp; omega
      refine ⟨le rfl, _, _, rfl, gR9, _, rfl, sz (by omega), ?_⟩
      have P1 : Pr (R :: N) ((h7 ++ [PO.lst ((vs ++ [Vl.wk "twice" [D[t1], D[t2]]]).map Vl.enc)]) ++ [PO.lst ((outs ++ [vs.length]).map ni)]) (.tup [.loc h7.length, PV.loc (h7 ++ [PO.lst ((vs ++ [Vl.wk "twice" [D[t1], D[t2]]]).map Vl.enc)]).length]) := ⟨_, _, _, _, rfl, n7, n8, gn9, gm9, mk2, by simp, by simp; omega, fun y hy => by
        rcases List.mem_append.mp hy with w | w
        · have := hx y w; simp; omega
        · simp at w; simp; omega⟩
      have gRA : getL (((h7 ++ [PO.lst ((vs ++ [Vl.wk "twice" [D[t1], D[t2]]]).map Vl.enc)]) ++ [PO.lst ((outs ++ [vs.length]).map ni)]).set R (PO.lst (R1 ++ [PV.tup [PV.loc h7.length, PV.loc (h7 ++ [PO.lst ((vs ++ [Vl.wk "twice" [D[t1], D[t2]]]).map Vl.enc)]).length]]))) R = some (R1 ++ [PV.tup [PV.loc h7.length, PV.loc (h7 ++ [PO.lst ((vs ++ [Vl.wk "twice" [D[t1], D[t2]]]).map Vl.enc)]).length]]) := getL_set gR9
      have gvA := (getL_set_ne (o := .lst (R1 ++ [PV.tup [PV.loc h7.length, PV.loc (h7 ++ [PO.lst ((vs ++ [Vl.wk "twice" [D[t1], D[t2]]]).map Vl.enc)]).length]])) (show R ≠ v by omega)).trans gv9
      have goA := (getL_set_ne (o := .lst (R1 ++ [PV.tup [PV.loc h7.length, PV.loc (h7 ++ [PO.lst ((vs ++ [Vl.wk "twice" [D[t1], D[t2]]]).map Vl.enc)]).length]])) (show R ≠ o by omega)).trans go9
      have fA : Fr [s, R] h5 (((h7 ++ [PO.lst ((vs ++ [Vl.wk "twice" [D[t1], D[t2]]]).map Vl.enc)]) ++ [PO.lst ((outs ++ [vs.length]).map ni)]).set R (PO.lst (R1 ++ [PV.tup [PV.loc h7.length, PV.loc (h7 ++ [PO.lst ((vs ++ [Vl.wk "twice" [D[t1], D[t2]]]).map Vl.enc)]).length]]))) := (f59.mono (by simp)).trans (Fr.set (by simp))
      have P1A : Pr (R :: N) (((h7 ++ [PO.lst ((vs ++ [Vl.wk "twice" [D[t1], D[t2]]]).map Vl.enc)]) ++ [PO.lst ((outs ++ [vs.length]).map ni)]).set R (PO.lst (R1 ++ [PV.tup [PV.loc h7.length, PV.loc (h7 ++ [PO.lst ((vs ++ [Vl.wk "twice" [D[t1], D[t2]]]).map Vl.enc)]).length]]))) (.tup [.loc h7.length, PV.loc (h7 ++ [PO.lst ((vs ++ [Vl.wk "twice" [D[t1], D[t2]]]).map Vl.enc)]).length]) := P1.fr (Fr.set (S := [R]) (by simp)) (by simp)
      have sA := s9.fr (Fr.set (S := [R]) (l := R) (o := .lst (R1 ++ [PV.tup [PV.loc h7.length, PV.loc (h7 ++ [PO.lst ((vs ++ [Vl.wk "twice" [D[t1], D[t2]]]).map Vl.enc)]).length]])) (by simp)) (by simp; omega)
      have lenA : h4.length ≤ (((h7 ++ [PO.lst ((vs ++ [Vl.wk "twice" [D[t1], D[t2]]]).map Vl.enc)]) ++ [PO.lst ((outs ++ [vs.length]).map ni)]).set R (PO.lst (R1 ++ [PV.tup [PV.loc h7.length, PV.loc (h7 ++ [PO.lst ((vs ++ [Vl.wk "twice" [D[t1], D[t2]]]).map Vl.enc)]).length]]))).length := by simpa using len9
      refine ⟨_, rfl, ⟨_, _, rfl, gRA⟩, _, rfl, _, rfl, _, rfl, le rfl, le rfl, le rfl, _, _, gvA, rfl, sz (by simp; omega), ?_⟩
      rw [ev]
      have goB := getL_app (o := .lst ((vs ++ [Vl.wk "twice" [D[t1], D[t2]]]).map Vl.enc)) goA
      have gRB := getL_app (o := .lst ((vs ++ [Vl.wk "twice" [D[t1], D[t2]]]).map Vl.enc)) gRA
      have gnB := getL_new (h := (((h7 ++ [PO.lst ((vs ++ [Vl.wk "twice" [D[t1], D[t2]]]).map Vl.enc)]) ++ [PO.lst ((outs ++ [vs.length]).map ni)]).set R (PO.lst (R1 ++ [PV.tup [PV.loc h7.length, PV.loc (h7 ++ [PO.lst ((vs ++ [Vl.wk "twice" [D[t1], D[t2]]]).map Vl.enc)]).length]])))) (xs := (vs ++ [Vl.wk "twice" [D[t1], D[t2]]]).map Vl.enc)
      refine ⟨_, rfl, le rfl, _, _, rfl, gRB, _, rfl, sz (by simp; omega), ?_⟩
      have PB : Pr (R :: N) ((((h7 ++ [PO.lst ((vs ++ [Vl.wk "twice" [D[t1], D[t2]]]).map Vl.enc)]) ++ [PO.lst ((outs ++ [vs.length]).map ni)]).set R (PO.lst (R1 ++ [PV.tup [PV.loc h7.length, PV.loc (h7 ++ [PO.lst ((vs ++ [Vl.wk "twice" [D[t1], D[t2]]]).map Vl.enc)]).length]]))) ++ [PO.lst ((vs ++ [Vl.wk "twice" [D[t1], D[t2]]]).map Vl.enc)]) (.tup [.loc (((h7 ++ [PO.lst ((vs ++ [Vl.wk "twice" [D[t1], D[t2]]]).map Vl.enc)]) ++ [PO.lst ((outs ++ [vs.length]).map ni)]).set R (PO.lst (R1 ++ [PV.tup [PV.loc h7.length, PV.loc (h7 ++ [PO.lst ((vs ++ [Vl.wk "twice" [D[t1], D[t2]]]).map Vl.enc)]).length]]))).length, PV.loc o]) := ⟨_, _, _, _, rfl, newN (((h7 ++ [PO.lst ((vs ++ [Vl.wk "twice" [D[t1], D[t2]]]).map Vl.enc)]) ++ [PO.lst ((outs ++ [vs.length]).map ni)]).set R (PO.lst (R1 ++ [PV.tup [PV.loc h7.length, PV.loc (h7 ++ [PO.lst ((vs ++ [Vl.wk "twice" [D[t1], D[t2]]]).map Vl.enc)]).length]]))) lenA, oR, gnB, goB, mk2, by simp, by simp; omega, fun y hy => by have := hx y hy; simp; omega⟩
      refine fin _ _ (k5 + 1 + 1) _ _ _ _ (by simp; omega) (fun p hp => ?_) (f5.trans (fA.trans (Fr.app.trans (Fr.set (by simp))))) (getL_set gRB) ((sA.fr (Fr.app (S := [])) (by simp)).fr (Fr.set (S := [R]) (by simp)) (by simp; omega)) (by omega)
      have fs : Fr [R] ((((h7 ++ [PO.lst ((vs ++ [Vl.wk "twice" [D[t1], D[t2]]]).map Vl.enc)]) ++ [PO.lst ((outs ++ [vs.length]).map ni)]).set R (PO.lst (R1 ++ [PV.tup [PV.loc h7.length, PV.loc (h7 ++ [PO.lst ((vs ++ [Vl.wk "twice" [D[t1], D[t2]]]).map Vl.enc)]).length]]))) ++ [PO.lst ((vs ++ [Vl.wk "twice" [D[t1], D[t2]]]).map Vl.enc)]) (((((h7 ++ [PO.lst ((vs ++ [Vl.wk "twice" [D[t1], D[t2]]]).map Vl.enc)]) ++ [PO.lst ((outs ++ [vs.length]).map ni)]).set R (PO.lst (R1 ++ [PV.tup [PV.loc h7.length, PV.loc (h7 ++ [PO.lst ((vs ++ [Vl.wk "twice" [D[t1], D[t2]]]).map Vl.enc)]).length]]))) ++ [PO.lst ((vs ++ [Vl.wk "twice" [D[t1], D[t2]]]).map Vl.enc)]).set R (PO.lst (R1 ++ [PV.tup [PV.loc h7.length, PV.loc (h7 ++ [PO.lst ((vs ++ [Vl.wk "twice" [D[t1], D[t2]]]).map Vl.enc)]).length]] ++ [PV.tup [PV.loc (((h7 ++ [PO.lst ((vs ++ [Vl.wk "twice" [D[t1], D[t2]]]).map Vl.enc)]) ++ [PO.lst ((outs ++ [vs.length]).map ni)]).set R (PO.lst (R1 ++ [PV.tup [PV.loc h7.length, PV.loc (h7 ++ [PO.lst ((vs ++ [Vl.wk "twice" [D[t1], D[t2]]]).map Vl.enc)]).length]]))).length, PV.loc o]]))) := Fr.set (by simp)
      rcases List.mem_append.mp hp with w | w
      · rcases List.mem_append.mp w with w | w
        · exact (c2 p w).fr (fA.trans (Fr.app.trans (fs.mono (by simp)))) (by simp [sN])
        · have : p = .tup [.loc h7.length, PV.loc (h7 ++ [PO.lst ((vs ++ [Vl.wk "twice" [D[t1], D[t2]]]).map Vl.enc)]).length] := by simpa using w
          subst this
          exact (P1A.fr (Fr.app (S := [])) (by simp)).fr fs (by simp)
      · have : p = .tup [.loc (((h7 ++ [PO.lst ((vs ++ [Vl.wk "twice" [D[t1], D[t2]]]).map Vl.enc)]) ++ [PO.lst ((outs ++ [vs.length]).map ni)]).set R (PO.lst (R1 ++ [PV.tup [PV.loc h7.length, PV.loc (h7 ++ [PO.lst ((vs ++ [Vl.wk "twice" [D[t1], D[t2]]]).map Vl.enc)]).length]]))).length, PV.loc o] := by simpa using w
        subst this
        exact PB.fr fs (by simp)
    refine ⟨_, rfl, _, _, rfl, len_loc gI4, _, _, rfl, rfl, ite_b (fun e1 => ?_) (fun e1 => rest [] h4 k _ _ _ _ (by simp) (by simp) Fr.refl gR4 s4 (by omega))⟩
    have ip : 0 < I.length := by have := of_decide_eq_true e1; simp at this; omega
    have e2 : (I.map ni)[I.length - 1]? = some (ni I[I.length - 1]) := by simp [show I.length - 1 < I.length by omega]
    refine ⟨_, rfl, _, rfl, _, _, rfl, len_loc gI4, ?_⟩
    have hix : ixP (I.map ni).length ((((I.map ni).length : Nat) : Int) - 1) = some (I.length - 1) := by
      have e : (((I.map ni).length : Nat) : Int) - 1 = ((I.length - 1 : Nat) : Int) := by rw [List.length_map]; omega
      rw [e]
      exact ixP_nat (by rw [List.length_map]; omega)
    refine ⟨_, _, _, _, rfl, gI4, hix, e2, ?_⟩
    -- a place is drawn, the row laid
    have lay : ∀ (on1 : Nat) (h5 : PH) (k5 : Int) (u9 u10 u11 : Option PV), on1 < vs.length → Fr [s] h4 h5 → Sd h5 s k5 → k5 ≤ k + 3 →
        wSs (den TT12 (n + 1)) (.cons (.set (.slot 9) (.call 1001 (.cons (.var 0) (.cons (.bin .Add (.bif .len (.cons (.var 2) .nil)) (.int 1)) .nil))))
      (.cons (.expr (.mth .append (.var 5) (.cons (.tup (.cons (.var 1) (.cons (.new (.cat (.l (.cat (.e (.sl (.var 2) .no (.some (.var 9)))) (.l (.disp (.cons (.var 8) .nil))))) (.e (.sl (.var 2) (.some (.var 9)) .no)))) .nil))) .nil)))
      .nil)) { nx := wSs (den TT12 (n + 1)) btRest { nx := fun _ h' => q .non h', rt := q, ex := fun e _ h' => x e h' }, rt := q, ex := fun e _ h' => x e h' } [some (.loc s), some (.loc v), some (.loc o), some (.loc h1.length), some (.loc dl), some (.loc R), some (.loc a), some (.loc b), some (ni on1), u9, u10, u11] h5 := by
      intro on1 h5 k5 u9 u10 u11 c1 f5 s5 c3
      have go5 := f5.get go4 (by simp; omega)
      refine ⟨_, rfl, _, rfl, _, _, rfl, len_loc go5, ?_⟩
      refine sow s5 (by omega) (by simp) (by simp; omega) fun t h6 ht s6 f6 => ?_
      have f46 : Fr [s] h4 h6 := f5.trans f6
      have go6 := f46.get go4 (by simp; omega)
      have gv6 := f46.get gv4 (by simp; omega)
      have gR6 := f46.get gR4 (by simp; omega)
      obtain ⟨A, eA, A1, A2, A3⟩ := cut_any outs t
      obtain ⟨B, eB, B1, B2⟩ := cut_from outs t
      refine ⟨_, rfl, ⟨_, _, rfl, gR6⟩, _, rfl, _, rfl, _, rfl, _, rfl, _, go6, ?_⟩
      rw [eA]
      refine ⟨_, rfl, le rfl, _, _, getL_new, rfl, sz (by simp; omega), ?_⟩
      refine ⟨_, rfl, _, rfl, _, rfl, _, getL_app go6, ?_⟩
      rw [eB]
      refine ⟨_, _, rfl, getL_new, sz (by simp; omega), le rfl, ?_⟩
      have eO : A.map ni ++ [ni on1] ++ B.map ni = (A ++ [on1] ++ B).map ni := by simp
      rw [eO]
      have f67 : Fr [s] h4 (h6 ++ [PO.lst (A.map ni)] ++ [PO.lst (B.map ni)]) := f46.trans (Fr.app.trans Fr.app)
      have s7 := (s6.fr (Fr.app (S := []) (o := .lst (A.map ni))) (by simp)).fr (Fr.app (S := []) (o := .lst (B.map ni))) (by simp)
      have gR7 := getL_app (o := .lst (B.map ni)) (getL_app (o := .lst (A.map ni)) gR6)
      have gv7 := getL_app (o := .lst (B.map ni)) (getL_app (o := .lst (A.map ni)) gv6)
      have n7 := newN (h6 ++ [PO.lst (A.map ni)] ++ [PO.lst (B.map ni)]) f67.1
      refine ⟨_, _, rfl, getL_app gR7, _, rfl, sz (by simp), ?_⟩
      refine rest _ _ (k5 + 1) _ _ _ _ (by simp) (fun p hp => ?_) ((f67.mono (by simp)).trans (Fr.app.trans (Fr.set (by simp)))) (getL_set (getL_app gR7)) ((s7.fr (Fr.app (S := [])) (by simp)).fr (Fr.set (S := [R]) (by simp)) (by simp; omega)) (by omega)
      have : p = .tup [.loc v, PV.loc (h6 ++ [PO.lst (A.map ni)] ++ [PO.lst (B.map ni)]).length] := by simpa using hp
      subst this
      have P : Pr (R :: N) ((h6 ++ [PO.lst (A.map ni)] ++ [PO.lst (B.map ni)]) ++ [PO.lst ((A ++ [on1] ++ B).map ni)]) (.tup [.loc v, PV.loc (h6 ++ [PO.lst (A.map ni)] ++ [PO.lst (B.map ni)]).length]) := ⟨_, _, _, _, rfl, vR, n7, getL_app gv7, getL_new, mk, v0, by omega, fun y hy => by
        rcases List.mem_append.mp hy with w | w
        · rcases List.mem_append.mp w with w | w
          · exact hx y (A3 y w)
          · simp at w; omega
        · exact hx y (B2 y w)⟩
      exact P.fr (Fr.set (S := [R]) (by simp)) (by simp)
    refine ⟨_, rfl, ?_⟩
    refine sow s4 (by omega) (by omega) (by omega) fun t h5 ht s5 f5 => ?_
    have gI5 := f5.get gI4 (by simp; omega)
    refine .inl ⟨rfl, ite_b (fun e3 => ?_) (fun e3 => ?_)⟩
    · refine ⟨_, rfl, _, rfl, _, rfl, _, _, rfl, len_loc gI5, ?_⟩
      refine sow s5 (by omega) (by simp; omega) (by simp; omega) fun t2 h6 ht2 s6 f6 => ?_
      have gI6 := f6.get gI5 (by simp; omega)
      have tl : t2 < I.length := by simp at ht2; omega
      have e4 : (I.map ni)[t2]? = some (ni I[t2]) := by simp [tl]
      refine ⟨_, _, _, _, rfl, gI6, ixP_nat (by simpa using tl), e4, ?_⟩
      exact lay I[t2] h6 _ _ _ _ (Ib _ (List.getElem_mem _)) (f5.trans f6) s6 (by omega)
    · exact lay I[I.length - 1] h5 _ _ _ _ (Ib _ (List.getElem_mem _)) f5 s5 (by omega)
  exact main _ _ _ f4 gI4 gD4 gR4 q1 q2 q3
end WD
end
section
set_option Elab.async false
set_option linter.all false
set_option maxRecDepth 100000
set_option autoImplicit false
set_option maxHeartbeats 8000000
set_option pp.maxSteps 600
namespace WD
open PySem PySem.Spec PyProof.Rows L2
abbrev l3Body : Sms := (.cons (.ifs (.not (.call 1009 (.cons (.call 1006 (.cons (.var 1) (.cons (.var 8) (.cons (.var 9) .nil)))) (.cons (.var 2) .nil))))
      (.cons (.ret (.bl false))
      .nil)
      .nil)
    .nil)
/-- one question -/
theorem St.ask {n s t L : Nat} {W : PV} {vs : List Vl} {outs : List Nat} {h : PH} {k : Int} {m : Nat} {q : QV} {x : QX} (a : St s t L h k m) (mk : Mk vs) (vn : vs.length ≤ 1000) (hx : ∀ y, y ∈ outs → y < vs.length)
    (z : ∀ h', Fr [t] h h' → St s t L h' k m → (shr vs outs ≠ [] → ∃ a b : Int, getL h' t = some [.int a, .int b] ∧ 1 ≤ a ∧ 1 ≤ b) → q (.bl true) h') : den TT12 (n + 7) 1009 [scr vs W outs, .loc t] h q x := by
  obtain ⟨p, r, e1, e2, e3⟩ := a.tl
  have st := a.st
  have sL := a.sL
  have tL := a.tL
  refine asked_ok mk.wf (mk.sz vn) hx e1 fun h' f g => ?_
  obtain ⟨it, i1, i2, i3⟩ := a.sc
  refine z h' f ⟨a.sd.fr f (by simp; omega), ?_, ⟨it, f.get i1 (by simp; omega), i2, fun p hp => (i3 p hp).fr f (by simp)⟩, st, sL, tL⟩ fun ne => ?_
  · by_cases w : shr vs outs = []
    · rw [if_pos w] at g; exact ⟨_, _, g, e2, by omega⟩
    · rw [if_neg w] at g; exact ⟨_, _, g, by omega, e3⟩
  · rw [if_neg ne] at g
    exact ⟨_, _, g, by omega, e3⟩
theorem loop3 {n s t L m : Nat} {s0 : Option PV} {W : PV} {vs0 : List Vl} {outs0 : List Nat} {κ : KS} {items : List PV} : ∀ (ys : List PV) (u5 u6 u7 u8 u9 u10 : Option PV) (h : PH) (k : Int), (∀ y, y ∈ ys → y ∈ items) → getL h L = some items → St s t L h k m → k + 3000 * ys.length < 2 ^ 55 →
    (∀ (u5 u6 u7 u8 u9 u10 : Option PV) h', St s t L h' (k + 3000 * ys.length) m → κ.nx [s0, some (.loc s), some (.loc t), some (scr vs0 W outs0), some (.loc L), u5, u6, u7, u8, u9, u10] h') →
    forW (standsP (.loc L) items) (.tup [.slot 8, .slot 9]) (wSs (den TT12 (n + 10)) l3Body) κ ys [s0, some (.loc s), some (.loc t), some (scr vs0 W outs0), some (.loc L), u5, u6, u7, u8, u9, u10] h
  | [], u5, u6, u7, u8, u9, u10, h, k, hy, hL, a, hk, z => ⟨hL, z _ _ _ _ _ _ h (by simpa using a)⟩
  | y :: ys, u5, u6, u7, u8, u9, u10, h, k, hy, hL, a, hk, z => by
    simp only [List.length_cons] at hk
    have st := a.st
    have sL := a.sL
    have tL := a.tL
    obtain ⟨it, i1, i2, i3⟩ := a.sc
    have e0 : it = items := by rw [hL] at i1; cases i1; rfl
    subst e0
    obtain ⟨v, o, vs, outs, e, n1, n2, g1, g2, mk, v0, vn, hx⟩ := i3 y (hy y (by simp))
    subst e
    have sv : s ≠ v := fun w => n1 (by simp [w])
    have so : s ≠ o := fun w => n2 (by simp [w])
    refine ⟨hL, ?_⟩
    refine ⟨_, rfl, _, _, rfl, _, _, rfl, rfl, _, rfl, _, rfl, _, rfl, ?_⟩
    refine three_ok a.sd (by omega) (by omega) g1 g2 sv so fun W' h1 f1 s1 => ?_
    have a1 := a.fr f1 s1
    refine ⟨_, rfl, ?_⟩
    refine a1.ask mk (by omega) hx fun h2 f2 a2 _ => ?_
    refine ⟨_, rfl, ite_f rfl ?_⟩
    have hL2 := f2.get (f1.get hL (by simp; omega)) (by simp; omega)
    refine loop3 ys _ _ _ _ _ _ h2 (k + 3000) (fun y w => hy y (by simp [w])) hL2 ⟨a2.sd.mono (by omega), a2.tl, a2.sc, a2.st, a2.sL, a2.tL⟩ (by omega) fun u5 u6 u7 u8 u9 u10 h' a' => ?_
    exact z _ _ _ _ _ _ h' (by
      have e1 : k + 3000 + 3000 * (ys.length : Int) = k + 3000 * ((PV.tup [.loc v, .loc o] :: ys).length : Int) := by simp; omega
      rw [← e1]; exact a')
theorem law_ok (bent : BentOk) {n : Nat} {ns : List Int} (hn : ns.length ≤ 63) : den TT12 (n + 20) 1014 [.rol (ns.map .int)] [] (fun v _ => v = .bl true) (fun _ _ => False) := by
  refine den_call (F := ir_p_law) (by rfl) rfl ?_
  refine ⟨_, rfl, ?_⟩
  refine seed_ok hn fun s h1 f1 ls sd1 => ?_
  have sl1 := sd1.lt
  refine ⟨le rfl, ?_⟩
  have gt2 := getL_new (h := h1) (xs := [PV.int 0, PV.int 0])
  have sd2 := sd1.fr (Fr.app (S := []) (o := .lst [PV.int 0, PV.int 0])) (by simp)
  have l2 : (h1 ++ [PO.lst [PV.int 0, PV.int 0]]).length = h1.length + 1 := by simp
  refine ⟨_, rfl, ?_⟩
  refine hand_ok sd2 (by omega) fun b o outs h3 f3 lb lo gb go ho hol sd3 => ?_
  have gt3 := f3.get gt2 (by simp; omega)
  have l3 := f3.1
  refine ⟨_, rfl, _, _, rfl, _, _, rfl, rfl, _, rfl, _, rfl, le rfl, ?_⟩
  have bl3 := getL_lt gb
  have ol3 := getL_lt go
  refine three_ok (outs := [5]) (sd3.fr (Fr.app (S := [])) (by simp)) (by omega) (by decide) (getL_app gb) getL_new (by omega) (by omega) fun W1 h4 f4 sd4 => ?_
  have gt4 := f4.get (getL_app gt3) (by simp; omega)
  have gb4 := f4.get (getL_app gb) (by simp; omega)
  have go4 := f4.get (getL_app go) (by simp; omega)
  have hbl : hb.length = 8 := rfl
  refine ⟨_, rfl, _, rfl, ?_⟩
  refine asked_ok (outs := [5]) hb_mk.wf (hb_mk.sz (by decide)) (by simp [hbl]) gt4 fun h5 f5 g5 => ?_
  rw [if_pos (show shr hb [5] = [] by decide +kernel)] at g5
  have sd5 := sd4.fr f5 (by simp; omega)
  have gb5 := f5.get gb4 (by simp; omega)
  have go5 := f5.get go4 (by simp; omega)
  refine ⟨_, rfl, ite_f rfl ?_⟩
  refine ⟨_, rfl, _, rfl, _, rfl, ?_⟩
  refine three_ok sd5 (by omega) (by decide) gb5 go5 (by omega) (by omega) fun W2 h6 f6 sd6 => ?_
  have g6 := f6.get g5 (by simp; omega)
  have gb6 := f6.get gb5 (by simp; omega)
  refine ⟨_, rfl, ?_⟩
  refine asked_ok (outs := outs) hb_mk.wf (hb_mk.sz (by decide)) (by rw [hbl]; exact ho) g6 fun h7 f7 g7 => ?_
  have sd7 := sd6.fr f7 (by simp; omega)
  have gb7 := f7.get gb6 (by simp; omega)
  have tl7 : ∃ a b : Int, getL h7 h1.length = some [.int a, .int b] ∧ 0 ≤ a ∧ 1 ≤ b := by
    by_cases w : shr hb outs = []
    · rw [if_pos w] at g7; exact ⟨_, _, g7, by omega, by omega⟩
    · rw [if_neg w] at g7; exact ⟨_, _, g7, by omega, by omega⟩
  obtain ⟨a7, b7, g7', a70, b71⟩ := tl7
  refine ⟨_, rfl, ite_f rfl ?_⟩
  refine ⟨_, rfl, _, rfl, le rfl, ?_⟩
  have gt8 := getL_app (o := .lst [PV.int 7]) g7'
  refine three_ok (outs := [7]) (sd7.fr (Fr.app (S := [])) (by simp)) (by omega) (by decide) (getL_app gb7) getL_new (by omega) (by have := getL_lt gb7; have := sd7.lt; omega) fun W3 h8 f8 sd8 => ?_
  have g8 := f8.get gt8 (by simp; omega)
  have gb8 := f8.get (getL_app gb7) (by simp; omega)
  refine ⟨_, rfl, ?_⟩
  refine asked_ok (outs := [7]) hb_mk.wf (hb_mk.sz (by decide)) (by simp [hbl]) g8 fun h9 f9 g9 => ?_
  have sd9 := sd8.fr f9 (by simp; omega)
  have tl9 : ∃ a b : Int, getL h9 h1.length = some [.int a, .int b] ∧ 0 ≤ a ∧ 1 ≤ b := by
    by_cases w : shr hb [7] = []
    · rw [if_pos w] at g9; exact ⟨_, _, g9, by omega, by omega⟩
    · rw [if_neg w] at g9; exact ⟨_, _, g9, by omega, by omega⟩
  obtain ⟨a9, b9, g9', a90, b91⟩ := tl9
  refine ⟨_, rfl, ite_f rfl ?_⟩
  refine ⟨le rfl, le rfl, le rfl, le rfl, _, rfl, ?_⟩
  refine asked_ok (vs := []) (outs := []) (W := .tup []) Mk.nil.wf (Mk.nil.sz (by decide)) (by simp) g9' fun h10 f10 g10 => ?_
  have sd10 := sd9.fr f10 (by simp; omega)
  rw [if_pos (show shr [] [] = [] by decide +kernel)] at g10
  refine ⟨_, rfl, ite_f rfl ?_⟩
  refine ⟨le rfl, ?_⟩
  have t10 := getL_lt g10
  have s10 := sd10.lt
  have S0 : St s h1.length h10.length (h10 ++ [.lst []]) (1 + 2000 + 2000 + 2000) 0 := ⟨(sd10.mono (by omega)).fr (Fr.app (S := [])) (by simp), ⟨_, _, getL_app g10, by omega, by omega⟩, ⟨[], getL_new, by simp, by simp⟩, by omega, by omega, by omega⟩
  refine ⟨3, rfl, by omega, by omega, ?_⟩
  refine loop1 bent 3 0 0 _ _ _ _ _ _ _ _ (by omega) (by omega) S0 (by omega) fun u5 u6 u7 u8 u9 u10 h12 l12 S1 => ?_
  refine ⟨2, rfl, by omega, by omega, ?_⟩
  refine loop2 (rangeL 0 (2 : Int).toNat) _ _ _ _ _ _ _ h12 _ (by rw [rangeL_length]; decide) S1 (by rw [rangeL_length]; decide) fun u5 u6 u7 u8 u9 u10 h13 l13 S2 => ?_
  rw [rangeL_length] at S2
  have S2' : St s h1.length h10.length h13 40000 14 := ⟨S2.sd.mono (by decide), S2.tl, S2.sc, S2.st, S2.sL, S2.tL⟩
  -- the end
  have fin : ∀ (u5 u6 u7 u8 u9 u10 : Option PV) (h14 : PH) (k : Int), St s h1.length h10.length h14 k 20 → k ≤ 60000 →
      wSs (den TT12 (n + 19)) (.cons (.fors (.tup [(.slot 8), (.slot 9)]) (.la (.e (.var 4))) l3Body)
  (.cons (.ifs (.or (.not (.call 1009 (.cons (.tup (.cons (.ix (.var 3) (.int 0)) (.cons (.ix (.var 3) (.int 1)) (.cons (.tup (.cons (.int 5) (.cons (.int 4) .nil))) .nil)))) (.cons (.var 2) .nil)))) (.not (.call 1009 (.cons (.var 3) (.cons (.var 2) .nil)))))
    (.cons (.ret (.bl false))
    .nil)
    .nil)
  (.cons (.ret (.and (.cmp .Gt (.ix (.var 2) (.int 0)) (.int 0)) (.cmp .Gt (.ix (.var 2) (.int 1)) (.int 0))))
  .nil))) { nx := fun _ h' => (fun v _ => v = PV.bl true) PV.non h', rt := fun v _ => v = .bl true, ex := fun e _ h' => (fun _ _ => False) e h' } [some (.rol (ns.map .int)), some (.loc s), some (.loc h1.length), some (scr hb W1 [5]), some (.loc h10.length), u5, u6, u7, u8, u9, u10] h14 := by
    intro u5 u6 u7 u8 u9 u10 h14 k S3 hk
    obtain ⟨it, i1, i2, i3⟩ := S3.sc
    refine ⟨_, rfl, .inl ⟨_, i1, ?_⟩⟩
    refine loop3 it _ _ _ _ _ _ h14 k (fun y w => w) i1 S3 (by omega) fun u5 u6 u7 u8 u9 u10 h15 S4 => ?_
    refine ⟨_, rfl, _, _, _, _, rfl, rfl, rfl, rfl, _, rfl, _, _, _, _, rfl, rfl, rfl, rfl, le rfl, le rfl, _, rfl, ?_⟩
    refine S4.ask (W := W1) (vs := hb) (outs := [5, 4]) hb_mk (by decide) (by simp [hbl]) fun h16 f16 S5 ne => ?_
    obtain ⟨p, r, e1, e2, e3⟩ := ne (by decide +kernel)
    refine ⟨_, rfl, ite_f rfl ?_⟩
    refine ⟨_, rfl, _, rfl, ?_⟩
    refine asked_ok (outs := [5]) hb_mk.wf (hb_mk.sz (by decide)) (by simp [hbl]) e1 fun h17 f17 g17 => ?_
    rw [if_pos (show shr hb [5] = [] by decide +kernel)] at g17
    refine ⟨_, rfl, ite_f rfl ?_⟩
    refine ⟨_, rfl, _, _, _, _, rfl, g17, rfl, rfl, _, _, rfl, rfl, _, rfl, ite_t (decide_eq_true (by omega)) ?_⟩
    refine ⟨_, rfl, _, _, _, _, rfl, g17, rfl, rfl, _, _, rfl, rfl, ?_⟩
    show PV.bl _ = PV.bl true
    rw [decide_eq_true (by omega)]
  refine ⟨_, rfl, ?_⟩
  refine sow S2'.sd (by omega) (by omega) (by omega) fun r h14 hr s14 f14 => ?_
  have S3 := S2'.fr f14 s14
  refine .inl ⟨rfl, ite_b (fun e => ?_) (fun e => ?_)⟩
  · refine ⟨_, rfl, _, rfl, ?_⟩
    refine sow S3.sd (by omega) (by omega) (by omega) fun r2 h15 hr2 s15 f15 => ?_
    have S4 := S3.fr f15 s15
    refine add_to (k := ((90 + r2 : Nat) : Int)) (by omega) ?_
    refine grown_ok (most := 39) (weeds := 4) S4.sd (by omega) (by omega) (by omega) (by omega) (by omega) fun v o vs outs h16 f16 lv lo gv mk v0 vn go hx on s16 => ?_
    have S5 := S4.fr f16 s16
    refine ⟨_, rfl, _, _, rfl, _, _, rfl, rfl, ?_⟩
    refine add_ok bent S5 (by omega) (by omega) (notN S4 lv) (notN S4 lo) gv go mk v0 vn hx on fun h17 l17 S6 => ?_
    obtain ⟨it, i1, i2, i3⟩ := S6.sc
    exact fin _ _ _ _ _ _ h17 _ ⟨S6.sd, S6.tl, ⟨it, i1, by omega, i3⟩, S6.st, S6.sL, S6.tL⟩ (by omega)
  · obtain ⟨it, i1, i2, i3⟩ := S3.sc
    exact fin _ _ _ _ _ _ h14 _ ⟨S3.sd, S3.tl, ⟨it, i1, by omega, i3⟩, S3.st, S3.sL, S3.tL⟩ (by omega)
end WD
end
set_option Elab.async false
set_option maxRecDepth 100000
set_option maxHeartbeats 40000000
set_option linter.all false
namespace WD
open PySem PySem.Spec PyProof.Rows L2
theorem ok_p_operands_of : DOk ds fr 138 de_p_operands_of := ⟨⟨rfl, rfl, rfl, by decide +kernel, rfl, by decide +kernel, by decide +kernel⟩, by kernel_rfl, rfl, rfl, (fun _ _ _ _ _ _ us hl => match us, hl with | [_, _], _ => rfl), by rfl⟩
theorem ok_p_needed_for : DOk ds fr 139 de_p_needed_for := ⟨⟨rfl, rfl, rfl, by decide +kernel, rfl, by decide +kernel, by decide +kernel⟩, by kernel_rfl, rfl, rfl, (fun _ _ _ _ _ _ us hl => match us, hl with | [_, _], _ => rfl), by rfl⟩
theorem ok_p_needed_values : DOk ds fr 140 de_p_needed_values := ⟨⟨rfl, rfl, rfl, by decide +kernel, rfl, by decide +kernel, by decide +kernel⟩, by kernel_rfl, rfl, rfl, (fun _ _ _ _ _ _ us hl => match us, hl with | [_], _ => rfl), by rfl⟩
theorem ok_p_distinct : DOk ds fr 147 de_p_distinct := ⟨⟨rfl, rfl, rfl, by decide +kernel, rfl, by decide +kernel, by decide +kernel⟩, by kernel_rfl, rfl, rfl, (fun _ _ _ _ _ _ us hl => match us, hl with | [_], _ => rfl), by rfl⟩
theorem ok_p_needed_users : DOk ds fr 83 de_p_needed_users := ⟨⟨rfl, rfl, rfl, by decide +kernel, rfl, by decide +kernel, by decide +kernel⟩, by kernel_rfl, rfl, rfl, (fun _ _ _ _ _ _ us hl => match us, hl with | [_], _ => rfl), by rfl⟩
theorem ok_p_shared_values : DOk ds fr 84 de_p_shared_values := ⟨⟨rfl, rfl, rfl, by decide +kernel, rfl, by decide +kernel, by decide +kernel⟩, by kernel_rfl, rfl, rfl, (fun _ _ _ _ _ _ us hl => match us, hl with | [_], _ => rfl), by rfl⟩
theorem ok_p_is_forest : DOk ds fr 85 de_p_is_forest := ⟨⟨rfl, rfl, rfl, by decide +kernel, rfl, by decide +kernel, by decide +kernel⟩, by kernel_rfl, rfl, rfl, (fun _ _ _ _ _ _ us hl => match us, hl with | [_], _ => rfl), by rfl⟩
theorem ok_f_law_seed : DOk ds fr 1000 de_f_law_seed := ⟨⟨rfl, rfl, rfl, by decide +kernel, rfl, by decide +kernel, by decide +kernel⟩, by kernel_rfl, rfl, rfl, (fun _ _ _ _ _ _ us hl => match us, hl with | [_], _ => rfl), by rfl⟩
theorem ok_f_law_sow : DOk ds fr 1001 de_f_law_sow := ⟨⟨rfl, rfl, rfl, by decide +kernel, rfl, by decide +kernel, by decide +kernel⟩, by kernel_rfl, rfl, rfl, (fun _ _ _ _ _ _ us hl => match us, hl with | [_, _], _ => rfl), by rfl⟩
theorem ok_f_law_leaf : DOk ds fr 1002 de_f_law_leaf := ⟨⟨rfl, rfl, rfl, by decide +kernel, rfl, by decide +kernel, by decide +kernel⟩, by kernel_rfl, rfl, rfl, (fun _ _ _ _ _ _ us hl => match us, hl with | [_], _ => rfl), by rfl⟩
theorem ok_f_law_word : DOk ds fr 1003 de_f_law_word := ⟨⟨rfl, rfl, rfl, by decide +kernel, rfl, by decide +kernel, by decide +kernel⟩, by kernel_rfl, rfl, rfl, (fun _ _ _ _ _ _ us hl => match us, hl with | [_, _], _ => rfl), by rfl⟩
theorem ok_f_law_wood : DOk ds fr 1004 de_f_law_wood := ⟨⟨rfl, rfl, rfl, by decide +kernel, rfl, by decide +kernel, by decide +kernel⟩, by kernel_rfl, rfl, rfl, (fun _ _ _ _ _ _ us hl => match us, hl with | [_, _, _], _ => rfl), by rfl⟩
theorem ok_f_law_weeds : DOk ds fr 1005 de_f_law_weeds := ⟨⟨rfl, rfl, rfl, by decide +kernel, rfl, by decide +kernel, by decide +kernel⟩, by kernel_rfl, rfl, rfl, (fun _ _ _ _ _ _ us hl => match us, hl with | [_, _, _], _ => rfl), by rfl⟩
theorem ok_f_law_three : DOk ds fr 1006 de_f_law_three := ⟨⟨rfl, rfl, rfl, by decide +kernel, rfl, by decide +kernel, by decide +kernel⟩, by kernel_rfl, rfl, rfl, (fun _ _ _ _ _ _ us hl => match us, hl with | [_, _, _], _ => rfl), by rfl⟩
theorem ok_f_law_taken : DOk ds fr 1007 de_f_law_taken := ⟨⟨rfl, rfl, rfl, by decide +kernel, rfl, by decide +kernel, by decide +kernel⟩, by kernel_rfl, rfl, rfl, (fun _ _ _ _ _ _ us hl => match us, hl with | [_], _ => rfl), by rfl⟩
theorem ok_f_law_shared : DOk ds fr 1008 de_f_law_shared := ⟨⟨rfl, rfl, rfl, by decide +kernel, rfl, by decide +kernel, by decide +kernel⟩, by kernel_rfl, rfl, rfl, (fun _ _ _ _ _ _ us hl => match us, hl with | [_], _ => rfl), by rfl⟩
theorem ok_f_law_asked : DOk ds fr 1009 de_f_law_asked := ⟨⟨rfl, rfl, rfl, by decide +kernel, rfl, by decide +kernel, by decide +kernel⟩, by kernel_rfl, rfl, rfl, (fun _ _ _ _ _ _ us hl => match us, hl with | [_, _], _ => rfl), by rfl⟩
theorem ok_f_law_bent : DOk ds fr 1010 de_f_law_bent := ⟨⟨rfl, rfl, rfl, by decide +kernel, rfl, by decide +kernel, by decide +kernel⟩, by kernel_rfl, rfl, rfl, (fun _ _ _ _ _ _ us hl => match us, hl with | [_, _, _], _ => rfl), by rfl⟩
theorem ok_f_law_grown : DOk ds fr 1011 de_f_law_grown := ⟨⟨rfl, rfl, rfl, by decide +kernel, rfl, by decide +kernel, by decide +kernel⟩, by kernel_rfl, rfl, rfl, (fun _ _ _ _ _ _ us hl => match us, hl with | [_, _, _, _, _], _ => rfl), by rfl⟩
theorem ok_f_law_mesh : DOk ds fr 1012 de_f_law_mesh := ⟨⟨rfl, rfl, rfl, by decide +kernel, rfl, by decide +kernel, by decide +kernel⟩, by kernel_rfl, rfl, rfl, (fun _ _ _ _ _ _ us hl => match us, hl with | [_, _], _ => rfl), by rfl⟩
theorem ok_f_law_hand : DOk ds fr 1013 de_f_law_hand := ⟨⟨rfl, rfl, rfl, by decide +kernel, rfl, by decide +kernel, by decide +kernel⟩, by kernel_rfl, rfl, rfl, (fun _ _ _ _ _ _ us hl => match us, hl with | [_], _ => rfl), by rfl⟩
theorem ok_p_law : DOk ds fr 1014 de_p_law := ⟨⟨rfl, rfl, rfl, by decide +kernel, rfl, by decide +kernel, by decide +kernel⟩, by kernel_rfl, rfl, rfl, (fun _ _ _ _ _ _ us hl => match us, hl with | [_], _ => rfl), by rfl⟩
theorem ok_all : ∀ p ∈ ds, DOk ds fr p.1 p.2 := by
  intro p hp
  unfold ds at hp
  simp only [List.mem_cons, List.not_mem_nil, or_false] at hp
  rcases hp with rfl | rfl | rfl | rfl | rfl | rfl | rfl | rfl | rfl | rfl | rfl | rfl | rfl | rfl | rfl | rfl | rfl | rfl | rfl | rfl | rfl | rfl
  · exact ok_p_operands_of
  · exact ok_p_needed_for
  · exact ok_p_needed_values
  · exact ok_p_distinct
  · exact ok_p_needed_users
  · exact ok_p_shared_values
  · exact ok_p_is_forest
  · exact ok_f_law_seed
  · exact ok_f_law_sow
  · exact ok_f_law_leaf
  · exact ok_f_law_word
  · exact ok_f_law_wood
  · exact ok_f_law_weeds
  · exact ok_f_law_three
  · exact ok_f_law_taken
  · exact ok_f_law_shared
  · exact ok_f_law_asked
  · exact ok_f_law_bent
  · exact ok_f_law_grown
  · exact ok_f_law_mesh
  · exact ok_f_law_hand
  · exact ok_p_law
abbrev R : PySem.W.OpenRow := PySem.W.OpenLaw.row PySem.Challenge.rw_whateverdrops_k12_forests
abbrev hk : PySem.W.Hook := He.hookD 4 (fasOf ds fr) (fnsOf ds)
def ob (s : PySem.W.SharedT) : He.AlD := He.obsDG 4 (fasOf ds fr) (fnsOf ds) (HandSHeadRun.getT s)
theorem ob_eq (s : PySem.W.SharedT) : ob s = hk.obs s.abs := He.obsDG_eq (HandSHeadRun.getT_eq s)
theorem run (w : World) : HandSHeadRun.RunEq R (PySem.W.view R.prog [25]) hk ob 4000 ["operands_of", "needed_for", "needed_values", "distinct", "needed_users", "shared_values", "is_forest", "_law_seed", "_law_sow", "_law_leaf", "_law_word", "_law_wood", "_law_weeds", "_law_three", "_law_taken", "_law_shared", "_law_asked", "_law_bent", "_law_grown", "_law_mesh", "_law_hand"] w := by
  intro os
  kernel_rfl
theorem pure_law : PureLaw ds 40 1014 := fun ns hn _ => law_ok (n := 20) (fun hs hk sN hN vN oN gv go mk v0 vn hx on z => bent_ok hs hk sN hN vN oN gv go mk v0 vn hx on z) hn
end WD
open PySem PySem.W PySem.Calls PyProof.Rows
theorem PySem.Challenge.cw_whateverdrops_k12_forests_holds : PySem.Challenge.rw_whateverdrops_k12_forests.Holds := by
  w_on; o_law
  refine HandSHeadRun.head_any (r := OpenLaw.row PySem.Challenge.rw_whateverdrops_k12_forests) (q := view (OpenLaw.row PySem.Challenge.rw_whateverdrops_k12_forests).prog [25]) (H := WD.hk) (ob := WD.ob) (M := 4000) (loose := ["operands_of", "needed_for", "needed_values", "distinct", "needed_users", "shared_values", "is_forest", "_law_seed", "_law_sow", "_law_leaf", "_law_word", "_law_wood", "_law_weeds", "_law_three", "_law_taken", "_law_shared", "_law_asked", "_law_bent", "_law_grown", "_law_mesh", "_law_hand"]) (d := HandSHeadRun.topDef (OpenLaw.row PySem.Challenge.rw_whateverdrops_k12_forests).prog 25) (kwd := []) WD.ob_eq
    (by kernel_rfl) (fun s => by kernel_rfl) WD.run (by kernel_rfl) (by kernel_rfl) (by kernel_rfl) (by rfl) (by first | assumption | decide +kernel) (by decide +kernel) ⟨rfl, rfl, rfl, rfl, rfl, by decide +kernel⟩ ?hw ?hc
  case hw => w_witness2
  case hc =>
    refine WD.walk_ofW (l := PySem.Challenge.rw_whateverdrops_k12_forests) (n := 63) (k := 40) (x := "script") rfl (by decide) (by kernel_rfl) ⟨rfl, by decide, by decide⟩ ?F
    intro w mg fa h Y G hmg0
    obtain ⟨K, KX, c⟩ := Y
    have hmg : mg ("law" : PySem.Str) = some (.ref fa) := by
      have e : (HandSHeadRun.topDef (OpenLaw.row PySem.Challenge.rw_whateverdrops_k12_forests).prog 25).name = ("law" : PySem.Str) := by kernel_rfl
      rw [← e]
      exact hmg0
    obtain ⟨fd, sp, hb, hsp, hF⟩ := WD.head_facts (P := (PySem.Challenge.rw_whateverdrops_k12_forests).prog) (w := w) (id := 1014) (d := WD.de_p_law) (n := 40) WD.ok_all (by simp [WD.ds]) rfl WD.pure_law KX G hmg c
    exact ⟨K, fd, sp, KX, hb, hsp, hF⟩

