import PyProof.Rows.All
import Wide.All
import OpenK.AllK
import Wide.FinOn
import HandS.ForMost
import HandS.ForExc
import HandS.Deep
import HandS.TupAny
import HandS.IsInst
import HandS.Wide
import HandS.WideBits
import HandS.Style
import HandS.Conv
import HandS.TupMul
import HandS.SortInts
import HandS.More
import HandS.RaiseMore
import HandS.WordsDict
import HandS.Zip
import HandS.Lambda
import HandS.Defaults
import HandS.Head0
import HandS.Head1
import HandS.Head2
import HandS.HeadEnd
import HandS.EndBits
import HandS.HeadHook1
import HandS.HeadHook2
import HandS.HeadHook4
import PySem.Challenge.RW_whateverdrops_k11_needs_shortened
section
set_option Elab.async false
set_option linter.all false
set_option maxRecDepth 100000
set_option maxHeartbeats 4000000
/-! WCore: pure values, pure heaps, the small language and its meaning (weakest preconditions). -/
namespace WD
open PySem PySem.Spec PyProof.Rows L2

/-- pure values: tuples by value, lists and dicts by location; rol: a list that is only read (the script) -/
inductive PV where
  | non | bl (b : Bool) | int (i : Int) | str (x : Str) | tup (xs : List PV) | rol (xs : List PV) | loc (l : Nat) | xc (c : Nat) (fs : List PV)

mutual
def PV.beq : PV → PV → Bool
  | .non, .non => true
  | .bl a, .bl b => a == b
  | .int a, .int b => decide (a = b)
  | .str a, .str b => decide (a = b)
  | .tup a, .tup b => PV.beqs a b
  | .rol a, .rol b => PV.beqs a b
  | .loc a, .loc b => decide (a = b)
  | .xc c a, .xc d b => decide (c = d) && PV.beqs a b
  | _, _ => false
def PV.beqs : List PV → List PV → Bool
  | [], [] => true
  | a :: as, b :: bs => PV.beq a b && PV.beqs as bs
  | _, _ => false
end
mutual
theorem PV.beq_self : ∀ a : PV, PV.beq a a = true
  | .non => rfl
  | .bl b => by simp [PV.beq]
  | .int a => by simp [PV.beq]
  | .str a => by simp [PV.beq]
  | .tup a => by simpa [PV.beq] using PV.beqs_self a
  | .rol a => by simpa [PV.beq] using PV.beqs_self a
  | .loc a => by simp [PV.beq]
  | .xc c a => by simpa [PV.beq] using PV.beqs_self a
theorem PV.beqs_self : ∀ a : List PV, PV.beqs a a = true
  | [] => rfl
  | a :: as => by simp [PV.beqs, PV.beq_self a, PV.beqs_self as]
end
mutual
theorem PV.eq_of_beq : ∀ a b : PV, PV.beq a b = true → a = b
  | .non, b, h => by cases b <;> simp_all [PV.beq]
  | .bl x, b, h => by cases b <;> simp_all [PV.beq]
  | .int x, b, h => by cases b <;> simp_all [PV.beq]
  | .str x, b, h => by cases b <;> simp_all [PV.beq]
  | .tup x, b, h => by
    cases b with
    | tup y => rw [PV.eq_of_beqs x y (by simpa [PV.beq] using h)]
    | _ => simp [PV.beq] at h
  | .rol x, b, h => by
    cases b with
    | rol y => rw [PV.eq_of_beqs x y (by simpa [PV.beq] using h)]
    | _ => simp [PV.beq] at h
  | .loc x, b, h => by cases b <;> simp_all [PV.beq]
  | .xc c x, b, h => by
    cases b with
    | xc d y =>
      simp only [PV.beq, Bool.and_eq_true, decide_eq_true_eq] at h
      rw [h.1, PV.eq_of_beqs x y h.2]
    | _ => simp [PV.beq] at h
theorem PV.eq_of_beqs : ∀ a b : List PV, PV.beqs a b = true → a = b
  | [], [], _ => rfl
  | [], _ :: _, h => by simp [PV.beqs] at h
  | _ :: _, [], h => by simp [PV.beqs] at h
  | a :: as, b :: bs, h => by
    simp only [PV.beqs, Bool.and_eq_true] at h
    rw [PV.eq_of_beq a b h.1, PV.eq_of_beqs as bs h.2]
end
instance : DecidableEq PV := fun a b => if h : PV.beq a b = true then .isTrue (PV.eq_of_beq a b h) else .isFalse fun e => h (e ▸ PV.beq_self a)
instance : Inhabited PV := ⟨.non⟩

/-- what stands at a location -/
inductive PO where
  | lst (xs : List PV)
  | dic (kvs : List (Key × PV))
abbrev PH := List PO
abbrev PSt := List (Option PV)
/-- what is wanted of a value, of an exception (its class and fields) -/
abbrev QV := PV → PH → Prop
abbrev QX := PV → PH → Prop

/-! ### the language -/
/-- built-in functions by values -/
inductive Bif where
  | len | int | str | abs | min2 | max2 | isT (t : String) | bool
  deriving DecidableEq, Repr
/-- built-in functions of a list's or a tuple's items -/
inductive Lif where
  | tuple | len | sum | max | min | all | any
  deriving DecidableEq, Repr
/-- methods that change or look at an object -/
inductive Mth where
  | append | pop | popAt | insert | reverse | get | getD
  deriving DecidableEq, Repr
/-- targets -/
inductive Tg where
  | slot (i : Nat) | tup (ts : List Tg)
  deriving Repr
instance : Inhabited Tg := ⟨.slot 0⟩

mutual
inductive Ex where
  | var (i : Nat)
  | non | bl (b : Bool) | int (i : Int) | str (x : Str)
  | cst (v : PV) (x : Str)
  | tup (es : Exs)
  | bin (o : Operator) (a b : Ex)
  | neg (a : Ex)
  | cmp (o : CmpOp) (a b : Ex)
  | chn (o o' : CmpOp) (a b c : Ex)
  | and (a b : Ex) | or (a b : Ex) | not (a : Ex)
  | ifx (c a b : Ex)
  | ix (a b : Ex)
  | sl (a : Ex) (lo hi : OEx)
  | call (f : Nat) (es : Exs)
  | bif (b : Bif) (es : Exs)
  | lif (b : Lif) (l : La)
  | mth (m : Mth) (a : Ex) (es : Exs)
  | ext (a : Ex) (l : La)
  | new (l : Lx)
  | dic (ps : Prs)
  | callk (f n m : Nat) (es ks : Exs) (ix : List Nat)
  | tupR (a b : OEx)
  | cin (neg : Bool) (ks : List Str) (a : Ex)
  | cix (ks : List Str) (xs : List PV) (a : Ex)
inductive Prs where
  | nil | cons (k v : Ex) (r : Prs)
inductive Exs where
  | nil | cons (e : Ex) (es : Exs)
inductive OEx where
  | no | some (e : Ex)
/-- what makes a new list -/
inductive Lx where
  | disp (es : Exs)
  | cat (a b : La)
  | rep (a : La) (n : Ex)
  | comp (own : List Nat) (elt : Ex) (tg : Tg) (it : Wk) (cond : OEx)
  | cut (a : La) (lo hi : OEx)
  | list (a : La)
  | sort (a : La)
  | rng (a b : OEx)
/-- a list (or a tuple) to be read: one that stands, or one just made -/
inductive La where
  | e (x : Ex) | l (x : Lx)
/-- what a loop walks -/
inductive Wk where
  | la (a : La)
  | range1 (a : Ex) | range2 (a b : Ex) | range3 (a b c : Ex)
  | enum (a : La) | zip (a b : La) | rev (a : La)
end

inductive Ct where
  | pass | brk | cnt
  deriving Repr

mutual
inductive Sm where
  | ct (c : Ct)
  | expr (e : Ex)
  | set (t : Tg) (e : Ex)
  | par (i j : Nat) (a b : Ex)
  | sub (o i e : Ex)
  | aug (i : Nat) (op : Operator) (e : Ex)
  | augS (o i : Ex) (op : Operator) (e : Ex)
  | ret (e : Ex)
  | retN
  | ifs (c : Ex) (a b : Sms)
  | fors (t : Tg) (it : Wk) (b : Sms)
  | whil (c : Ex) (b : Sms)
inductive Sms where
  | nil | cons (s : Sm) (r : Sms)
end

/-! ### dicts -/
section
variable {α : Type}
def dGet (kvs : List (Key × α)) (k : Key) : Option α := (kvs.find? fun kv => decide (kv.1 = k)).map (·.2)
def dPut (kvs : List (Key × α)) (k : Key) (v : α) : List (Key × α) :=
  if (kvs.any fun kv => decide (kv.1 = k)) = true then kvs.map (fun kv => if kv.1 = k then (kv.1, v) else kv) else kvs ++ [(k, v)]
def dMerge (kvs more : List (Key × α)) : List (Key × α) := more.foldl (fun acc kv => dPut acc kv.1 kv.2) kvs
end
def keyP : PV → Option Key
  | .int i => some (.inl i)
  | .str x => some (.inr x)
  | _ => none
def kP : Key → PV
  | .inl i => .int i
  | .inr x => .str x
def keysOf : List (PV × PV) → Option (List (Key × PV))
  | [] => some []
  | (k, v) :: r => match keyP k, keysOf r with
    | some k', some r' => some ((k', v) :: r')
    | _, _ => none
def rodGet : List Str → List PV → Str → Option PV
  | k :: ks, x :: xs, z => if k = z then some x else rodGet ks xs z
  | _, _, _ => none
/-! ### operations by values -/
/-- the place that an index means -/
def ixP (n : Nat) (i : Int) : Option Nat := if 0 ≤ i then (if i < n then some i.toNat else none) else if -(n : Int) ≤ i then some (i + n).toNat else none
def getL (h : PH) (l : Nat) : Option (List PV) := match h[l]? with
  | some (.lst xs) => some xs
  | _ => none
/-- the items of what is a list or a tuple -/
def items (h : PH) : PV → Option (List PV)
  | .tup xs => some xs
  | .rol xs => some xs
  | .loc l => getL h l
  | _ => none
/-- the items of what is a list -/
def itemsL (h : PH) : PV → Option (List PV)
  | .rol xs => some xs
  | .loc l => getL h l
  | _ => none

/-- data: what == compares -/
def toD (h : PH) : Nat → PV → Option PyData
  | 0, _ => none
  | n + 1, v => match v with
    | .non => some .none
    | .bl b => some (.bool b)
    | .int i => some (.int i)
    | .str x => some (.str x)
    | .tup xs => (xs.mapM (toD h n)).map .tuple
    | .rol xs => (xs.mapM (toD h n)).map .list
    | .loc l => match getL h l with
      | some xs => (xs.mapM (toD h n)).map .list
      | none => none
    | _ => none
/-- the scalars -/
def scalP : PV → PV → Bool
  | .non, .non => true | .non, .int _ => true | .int _, .non => true | .non, .bl _ => true | .bl _, .non => true | .non, .str _ => true | .str _, .non => true
  | .int _, .int _ => true | .bl _, .bl _ => true | .str _, .str _ => true
  | .int _, .str _ => true | .str _, .int _ => true | .bl _, .str _ => true | .str _, .bl _ => true
  | _, _ => false
/-- == -/
def eqS (h : PH) (v w : PV) (q : Bool → Prop) : Prop :=
  (scalP v w = true ∧ q (decide (v = w))) ∨ ∃ d e, toD h 64 v = some d ∧ toD h 64 w = some e ∧ q (PyData.eqv d e)
/-- truth -/
def truS (h : PH) (v : PV) : Option Bool := match v with
  | .non => some false
  | .bl b => some b
  | .int i => some (i != 0)
  | .str x => if x.length ≤ sizeLine then some ((x.length : Int) != 0) else none
  | .tup xs => some !xs.isEmpty
  | .rol xs => some !xs.isEmpty
  | .loc l => match h[l]? with
    | some (.lst xs) => some !xs.isEmpty
    | some (.dic kvs) => some !kvs.isEmpty
    | none => none
  | _ => none
/-- v in w -/
def inS (h : PH) (v w : PV) (q : Bool → Prop) : Prop := match w with
  | .str z => ∃ y, v = .str y ∧ q (!(Builtin.Str.occurrences z y 0 z.length 1).isEmpty)
  | .loc l => ∃ o, h[l]? = some o ∧ match o with
    | .lst xs => ∃ d es, toD h 64 v = some d ∧ xs.mapM (toD h 63) = some es ∧ q (es.any fun z => PyData.eqv z d)
    | .dic kvs => ∃ k, keyP v = some k ∧ q (dGet kvs k).isSome
  | _ => ∃ d xs es, toD h 64 v = some d ∧ items h w = some xs ∧ xs.mapM (toD h 63) = some es ∧ q (es.any fun z => PyData.eqv z d)
def strMul (x : Str) (n : Int) : Str := ⟨(List.replicate n.toNat x.cps.toList).flatten.toArray⟩
def binS (o : Operator) (v w : PV) (h : PH) (q : QV) : Prop := match o, v, w with
  | .Add, .int i, .int j => q (.int (i + j)) h
  | .Add, .str a, .str b => a.length + b.length ≤ sizeLine ∧ q (.str (a ++ b)) h
  | .Add, .tup xs, .tup ys => xs.length + ys.length ≤ sizeLine ∧ q (.tup (xs ++ ys)) h
  | .Add, .loc a, .loc b => ∃ xs ys, getL h a = some xs ∧ getL h b = some ys ∧ xs.length + ys.length ≤ sizeLine ∧ q (.loc h.length) (h ++ [.lst (xs ++ ys)])
  | .Sub, .int i, .int j => q (.int (i - j)) h
  | .Mult, .int i, .int j => CMulX i j ∧ q (.int (i * j)) h
  | .Mult, .tup xs, .int n => (xs ≠ [] ∧ 2 ≤ n ∧ n ≤ 1000 ∧ xs.length ≤ 1000) ∧ q (.tup (List.replicate n.toNat xs).flatten) h
  | .Mult, .str x, .int n => n ≤ 1000000 ∧ -1000000 ≤ n ∧ x.length * n.toNat ≤ 16777216 ∧ q (.str (strMul x n)) h
  | .FloorDiv, .int i, .int j => CDivW i j ∧ q (.int (i / j)) h
  | .Mod, .int i, .int j => 0 < j ∧ q (.int (i % j)) h
  | .Pow, .int i, .int j => CPow i j ∧ q (.int (i ^ j.toNat)) h
  | .LShift, .int i, .int j => CPow i j ∧ q (.int (i * 2 ^ j.toNat)) h
  | .RShift, .int i, .int j => 0 ≤ j ∧ q (.int (i / 2 ^ j.toNat)) h
  | .BitAnd, .int i, .int j => q (.int (Builtin.bitAnd i j)) h
  | .BitOr, .int i, .int j => q (.int (Builtin.bitOr i j)) h
  | .BitXor, .int i, .int j => q (.int (Builtin.bitXor i j)) h
  | _, _, _ => False
def cmpS (o : CmpOp) (v w : PV) (h : PH) (q : Bool → Prop) : Prop := match o with
  | .Eq => eqS h v w q
  | .NotEq => eqS h v w fun b => q (!b)
  | .Lt => ∃ i j, v = .int i ∧ w = .int j ∧ q (decide (i < j))
  | .LtE => ∃ i j, v = .int i ∧ w = .int j ∧ q (decide (i ≤ j))
  | .Gt => ∃ i j, v = .int i ∧ w = .int j ∧ q (decide (j < i))
  | .GtE => ∃ i j, v = .int i ∧ w = .int j ∧ q (decide (j ≤ i))
  | .Is => (w = .non ∧ q (decide (v = .non))) ∨ ∃ a b, v = .bl a ∧ w = .bl b ∧ q (decide (a = b))
  | .IsNot => (w = .non ∧ q (!decide (v = .non))) ∨ ∃ a b, v = .bl a ∧ w = .bl b ∧ q (!decide (a = b))
  | .In => inS h v w q
  | .NotIn => inS h v w fun b => q (!b)
/-- o[w] -/
def ixO (o : PO) (w : PV) (h : PH) (q : QV) : Prop := match o with
  | .lst xs => ∃ i k x, w = .int i ∧ ixP xs.length i = some k ∧ xs[k]? = some x ∧ q x h
  | .dic kvs => ∃ k y, keyP w = some k ∧ dGet kvs k = some y ∧ q y h
/-- v[w] -/
def ixS (v w : PV) (h : PH) (q : QV) : Prop := match v with
  | .str z => ∃ i k c, w = .int i ∧ z.length ≤ sizeLine ∧ ixP z.length i = some k ∧ z.cps.toList[k]? = some c ∧ q (.str ⟨#[c]⟩) h
  | .loc l => ∃ o, h[l]? = some o ∧ ixO o w h q
  | _ => ∃ i xs k x, w = .int i ∧ items h v = some xs ∧ ixP xs.length i = some k ∧ xs[k]? = some x ∧ q x h
/-- v[w] of what can be written -/
def augG (v w : PV) (h : PH) (q : QV) : Prop := ∃ l o, v = .loc l ∧ h[l]? = some o ∧ ixO o w h q
/-- a slice's bound as a place -/
def bndP (n d : Nat) (o : Option Int) : Nat := HT.sIx n d o
def cutP {α : Type} (xs : List α) (lo hi : Option Int) : List α := (xs.drop (bndP xs.length 0 lo)).take (bndP xs.length xs.length hi - bndP xs.length 0 lo)
/-- v[lo:hi] of a tuple or a text -/
def slS (v : PV) (lo hi : Option Int) (h : PH) (q : QV) : Prop := match v with
  | .tup xs => q (.tup (cutP xs lo hi)) h
  | .str z => z.length ≤ sizeLine ∧ q (.str (cutS z lo hi)) h
  | v => ∃ xs, itemsL h v = some xs ∧ q (.loc h.length) (h ++ [.lst (cutP xs lo hi)])
def typB (t : String) (v : PV) (h : PH) : Option Bool := match v with
  | .non => kitB "NoneType" t
  | .bl _ => kitB "bool" t
  | .int _ => kitB "int" t
  | .str _ => kitB "str" t
  | .tup _ => kitB "tuple" t
  | .rol _ => kitB "list" t
  | .loc l => match h[l]? with
    | some (.lst _) => kitB "list" t
    | some (.dic _) => kitB "dict" t
    | none => none
  | .xc _ _ => none
/-- len -/
def lenP (h : PH) (v : PV) : Option Nat := match v with
  | .str x => if x.length ≤ sizeLine then some x.length else none
  | .tup xs => some xs.length
  | .rol xs => some xs.length
  | .loc l => match h[l]? with
    | some (.lst xs) => some xs.length
    | some (.dic kvs) => some kvs.length
    | none => none
  | _ => none
def intP : PV → Option Int
  | .int i => some i
  | .bl k => some (if k then 1 else 0)
  | _ => none
def boolP : PV → Option Bool
  | .int i => some (i != 0)
  | .bl k => some k
  | _ => none
def strP : PV → Option Str
  | .int i => if i.natAbs.log2 < 1920 then some (toString i : String) else none
  | .str x => some x
  | _ => none
def bifS (b : Bif) (vs : List PV) (h : PH) (q : QV) : Prop := match b with
  | .len => ∃ v n, vs = [v] ∧ lenP h v = some n ∧ q (.int n) h
  | .int => ∃ v i, vs = [v] ∧ intP v = some i ∧ q (.int i) h
  | .bool => ∃ v i, vs = [v] ∧ boolP v = some i ∧ q (.bl i) h
  | .str => ∃ v x, vs = [v] ∧ strP v = some x ∧ q (.str x) h
  | .abs => ∃ i, vs = [.int i] ∧ q (.int (if i < 0 then -i else i)) h
  | .min2 => ∃ i j, vs = [.int i, .int j] ∧ q (.int (if j < i then j else i)) h
  | .max2 => ∃ i j, vs = [.int i, .int j] ∧ q (.int (if j > i then j else i)) h
  | .isT t => ∃ v b, vs = [v] ∧ typB t v h = some b ∧ q (.bl b) h
def intsOf : List PV → Option (List Int)
  | [] => some []
  | .int i :: r => (intsOf r).map (i :: ·)
  | _ => none
def blsOf : List PV → Option (List Bool)
  | [] => some []
  | .bl i :: r => (blsOf r).map (i :: ·)
  | _ => none
def lifS (b : Lif) (xs : List PV) (h : PH) (q : QV) : Prop := match b with
  | .tuple => q (.tup xs) h
  | .len => q (.int xs.length) h
  | .sum => ∃ ns, intsOf xs = some ns ∧ q (.int ns.sum) h
  | .max => ∃ ns, intsOf xs = some ns ∧ 0 < ns.length ∧ ∀ m, m ∈ ns → (∀ y, y ∈ ns → y ≤ m) → q (.int m) h
  | .min => ∃ ns, intsOf xs = some ns ∧ 0 < ns.length ∧ ∀ m, m ∈ ns → (∀ y, y ∈ ns → m ≤ y) → q (.int m) h
  | .all => ∃ bs, blsOf xs = some bs ∧ q (.bl (bs.all id)) h
  | .any => ∃ bs, blsOf xs = some bs ∧ q (.bl (bs.any id)) h
def mthO (m : Mth) (o : PO) (vs : List PV) (l : Nat) (h : PH) (q : QV) : Prop := match m, o, vs with
  | .append, .lst xs, [y] => xs.length < sizeLine ∧ q .non (h.set l (.lst (xs ++ [y])))
  | .pop, .lst xs, [] => ∃ y, xs[xs.length - 1]? = some y ∧ q y (h.set l (.lst xs.dropLast))
  | .popAt, .lst xs, [.int i] => ∃ k y, (-(2 ^ 63) ≤ i ∧ i < 2 ^ 63) ∧ ixP xs.length i = some k ∧ xs[k]? = some y ∧ q y (h.set l (.lst (xs.eraseIdx k)))
  | .insert, .lst xs, [.int i, y] => xs.length < sizeLine ∧ 0 ≤ i ∧ i < 2 ^ 63 ∧ q .non (h.set l (.lst (xs.take i.toNat ++ y :: xs.drop i.toNat)))
  | .reverse, .lst xs, [] => q .non (h.set l (.lst xs.reverse))
  | .get, .dic kvs, [k] => ∃ k', keyP k = some k' ∧ q ((dGet kvs k').getD .non) h
  | .getD, .dic kvs, [k, x] => ∃ k', keyP k = some k' ∧ q ((dGet kvs k').getD x) h
  | _, _, _ => False
def mthS (m : Mth) (v : PV) (vs : List PV) (h : PH) (q : QV) : Prop := ∃ l o, v = .loc l ∧ h[l]? = some o ∧ mthO m o vs l h q
/-- the kind of object that has the method -/
def Mth.dict : Mth → Bool
  | .get => true
  | .getD => true
  | _ => false
def PO.isDic : PO → Bool
  | .dic _ => true
  | .lst _ => false
def isObj (m : Mth) (h : PH) (v : PV) : Prop := ∃ l o, v = .loc l ∧ h[l]? = some o ∧ o.isDic = m.dict
/-- it is a list that may be written -/
def isLst (h : PH) (v : PV) : Prop := ∃ l xs, v = .loc l ∧ getL h l = some xs
def setS (v i w : PV) (h : PH) (q : PH → Prop) : Prop := ∃ l o, v = .loc l ∧ h[l]? = some o ∧ match o with
  | .lst xs => ∃ k j, i = .int k ∧ ixP xs.length k = some j ∧ q (h.set l (.lst (xs.set j w)))
  | .dic kvs => ∃ k, keyP i = some k ∧ kvs.length < sizeLine ∧ q (h.set l (.dic (dPut kvs k w)))
def augB (o : Operator) (v w : PV) (h : PH) (q : QV) : Prop := match o, v, w with
  | .Add, .int i, .int j => q (.int (i + j)) h
  | .Sub, .int i, .int j => q (.int (i - j)) h
  | .Add, .str a, .str b => a.length + b.length ≤ sizeLine ∧ q (.str (a ++ b)) h
  | _, _, _ => False
/-! ### targets -/
mutual
def setT : Tg → PV → PSt → (PSt → Prop) → Prop
  | .slot i, v, ς, q => q (ς.set i (some v))
  | .tup ts, v, ς, q => ∃ xs, v = .tup xs ∧ setTs ts xs ς q
def setTs : List Tg → List PV → PSt → (PSt → Prop) → Prop
  | [], vs, ς, q => vs = [] ∧ q ς
  | t :: ts, vs, ς, q => ∃ v r, vs = v :: r ∧ setT t v ς fun ς' => setTs ts r ς' q
end
/-- the slots of a comprehension's own names forgotten -/
def wipeP (ς : PSt) : List Nat → PSt
  | [] => ς
  | v :: vs => (wipeP ς vs).set v none

/-- what is wanted behind a statement -/
structure KS where
  nx : PSt → PH → Prop
  rt : QV
  ex : PV → PSt → PH → Prop := fun _ _ _ => False
  bk : PSt → PH → Prop := fun _ _ => False
  ct : PSt → PH → Prop := fun _ _ => False

/-- a loop over items; g: what must hold of the heap (the walked list stands) -/
def forW (g : PH → Prop) (t : Tg) (body : KS → PSt → PH → Prop) (κ : KS) : List PV → PSt → PH → Prop
  | [], ς, h => g h ∧ κ.nx ς h
  | x :: r, ς, h => g h ∧ setT t x ς fun ς' => body { κ with nx := forW g t body κ r, ct := forW g t body κ r, bk := κ.nx } ς' h
def whileW (c : PSt → PH → (Bool → PH → Prop) → Prop) (body : KS → PSt → PH → Prop) (κ : KS) : Nat → PSt → PH → Prop
  | 0, _, _ => False
  | n + 1, ς, h => c ς h fun b h1 => if b = true then body { κ with nx := whileW c body κ n, ct := whileW c body κ n, bk := κ.nx } ς h1 else κ.nx ς h1
/-- a comprehension over items -/
def compW (g : PH → Prop) (t : Tg) (ς : PSt) (cond : PSt → PH → (Bool → PH → Prop) → Prop) (elt : PSt → PH → QV → Prop) (q : List PV → PH → Prop) : List PV → List PV → PH → Prop
  | [], acc, h => g h ∧ q acc h
  | x :: r, acc, h => g h ∧ setT t x ς fun ς' => cond ς' h fun b h1 => if b = true then elt ς' h1 fun y h2 => acc.length < sizeLine ∧ compW g t ς cond elt q r (acc ++ [y]) h2 else compW g t ς cond elt q r acc h1

/-- the meaning of defs: by number, arguments, heap, what is wanted of the value, of an exception -/
abbrev Phi := Nat → List PV → PH → QV → QX → Prop

def rangeL (lo : Int) : Nat → List PV
  | 0 => []
  | n + 1 => .int lo :: rangeL (lo + 1) n
/-- a value, or the items of a list just made -/
inductive LV where
  | v (v : PV) | t (xs : List PV)
def lvA (h : PH) : LV → Option (List PV)
  | .v v => items h v
  | .t xs => some xs
/-- the items of a list, a tuple; a dict's keys -/
def lvK (h : PH) : LV → Option (List PV)
  | .v (.loc l) => match h[l]? with
    | some (.lst xs) => some xs
    | some (.dic kvs) => some (kvs.map fun kv => kP kv.1)
    | none => none
  | u => lvA h u
def strsOf : List PV → Option (List Str)
  | [] => some []
  | .str i :: r => (strsOf r).map (i :: ·)
  | _ => none
/-- what sorted gives -/
def sortS (xs : List PV) (h : PH) (q : List PV → PH → Prop) : Prop :=
  (∃ ns, intsOf xs = some ns ∧ ∀ ms : List Int, ms.Perm ns → ms.Pairwise (· ≤ ·) → q (ms.map .int) h) ∨
  ∃ zs, strsOf xs = some zs ∧ zs.length < 64 ∧ ∀ ys : List Str, ys.Perm zs → sortedS ys = true → q (ys.map .str) h
def oI (d : Int) : Option Int → Int
  | none => d
  | some i => i
def rangeC (lo c : Int) : Nat → List PV
  | 0 => []
  | n + 1 => .int lo :: rangeC (lo + c) c n
def enumL (k : Int) : List PV → List PV
  | [] => []
  | x :: r => .tup [.int k, x] :: enumL (k + 1) r
def zipL : List PV → List PV → List PV
  | x :: r, y :: s => .tup [x, y] :: zipL r s
  | _, _ => []
def lvL (h : PH) : LV → Option (List PV)
  | .v v => itemsL h v
  | .t xs => some xs
def lvM (h : PH) : LV → Option (List PV)
  | .v (.loc l) => getL h l
  | .v _ => none
  | .t xs => some xs
/-- what is asked of sum, max, min, all, any: a list -/
def needL : Lif → Bool
  | .tuple => false
  | .len => false
  | _ => true
def lvB (b : Lif) (h : PH) (u : LV) : Option (List PV) := if needL b = true then lvL h u else lvA h u
/-- that the list at a location stands -/
def standsP (v : PV) (xs : List PV) (h : PH) : Prop := items h v = some xs
section
variable (Φ : Phi)
mutual
def wE : Ex → QX → PSt → PH → QV → Prop
  | .var i, x, ς, h, q => ∃ v, ς[i]? = some (some v) ∧ q v h
  | .non, x, _, h, q => q .non h
  | .bl b, x, _, h, q => q (.bl b) h
  | .int i, x, _, h, q => q (.int i) h
  | .str z, x, _, h, q => q (.str z) h
  | .cst v _, x, _, h, q => q v h
  | .tup es, x, ς, h, q => wEs es x ς h fun vs h1 => vs.length ≤ sizeLine ∧ q (.tup vs) h1
  | .bin o a b, x, ς, h, q => wE a x ς h fun v h1 => wE b x ς h1 fun w h2 => binS o v w h2 q
  | .neg a, x, ς, h, q => wE a x ς h fun v h1 => ∃ i, v = .int i ∧ q (.int (-i)) h1
  | .cmp o a b, x, ς, h, q => wE a x ς h fun v h1 => wE b x ς h1 fun w h2 => cmpS o v w h2 fun r => q (.bl r) h2
  | .chn o o' a b c, x, ς, h, q => wE a x ς h fun u h1 => wE b x ς h1 fun v h2 => cmpS o u v h2 fun r => if r = true then wE c x ς h2 fun w h3 => cmpS o' v w h3 fun r' => q (.bl r') h3 else q (.bl false) h2
  | .and a b, x, ς, h, q => wE a x ς h fun v h1 => ∃ r, v = .bl r ∧ if r = true then wE b x ς h1 q else q (.bl false) h1
  | .or a b, x, ς, h, q => wE a x ς h fun v h1 => ∃ r, v = .bl r ∧ if r = true then q (.bl true) h1 else wE b x ς h1 q
  | .not a, x, ς, h, q => wE a x ς h fun v h1 => ∃ r, v = .bl r ∧ q (.bl (!r)) h1
  | .ifx c a b, x, ς, h, q => wT c x ς h fun r h1 => if r = true then wE a x ς h1 q else wE b x ς h1 q
  | .ix a b, x, ς, h, q => wE a x ς h fun v h1 => wE b x ς h1 fun w h2 => ixS v w h2 q
  | .sl a lo hi, x, ς, h, q => wE a x ς h fun v h1 => wO lo x ς h1 fun l h2 => wO hi x ς h2 fun u h3 => slS v l u h3 q
  | .call f es, x, ς, h, q => wEs es x ς h fun vs h1 => Φ f vs h1 q x
  | .bif b es, x, ς, h, q => wEs es x ς h fun vs h1 => bifS b vs h1 q
  | .lif b l, x, ς, h, q => wLa l x ς h fun u h1 => ∃ xs, lvB b h1 u = some xs ∧ lifS b xs h1 q
  | .mth m a es, x, ς, h, q => wE a x ς h fun v h1 => isObj m h1 v ∧ wEs es x ς h1 fun vs h2 => mthS m v vs h2 q
  | .ext a l, x, ς, h, q => wE a x ς h fun v h1 => isLst h1 v ∧ wLa l x ς h1 fun u h2 => ∃ l xs ys, v = .loc l ∧ getL h2 l = some xs ∧ lvM h2 u = some ys ∧ xs.length + ys.length ≤ sizeLine ∧ q .non (h2.set l (.lst (xs ++ ys)))
  | .new l, x, ς, h, q => wL l x ς h fun xs h1 => q (.loc h1.length) (h1 ++ [.lst xs])
  | .dic ps, x, ς, h, q => wPs ps x ς h fun kvs h1 => ∃ ks, keysOf kvs = some ks ∧ ks.length ≤ 15 ∧ q (.loc h1.length) (h1 ++ [.dic (dMerge [] ks)])
  | .callk f n m es ks ix, x, ς, h, q => wEs es x ς h fun vs h1 => wEs ks x ς h1 fun zs h2 => vs.length = n ∧ zs.length = m ∧ ∃ ws, ix.mapM (fun i => (vs ++ zs)[i]?) = some ws ∧ Φ f ws h2 q x
  | .tupR a b, x, ς, h, q => wO a x ς h fun i h1 => wO b x ς h1 fun j h2 => RgOk (oI 0 i) (oI 0 j) ∧ q (.tup (rangeL (oI 0 i) (oI 0 j - oI 0 i).toNat)) h2
  | .cin neg ks a, x, ς, h, q => wE a x ς h fun v h1 => ∃ z, v = .str z ∧ q (.bl (if neg then !ks.contains z else ks.contains z)) h1
  | .cix ks xs a, x, ς, h, q => wE a x ς h fun v h1 => ∃ z y, v = .str z ∧ rodGet ks xs z = some y ∧ q y h1
def wPs : Prs → QX → PSt → PH → (List (PV × PV) → PH → Prop) → Prop
  | .nil, x, _, h, q => q [] h
  | .cons k v r, x, ς, h, q => wE k x ς h fun y h1 => wE v x ς h1 fun z h2 => wPs r x ς h2 fun kvs h3 => q ((y, z) :: kvs) h3
def wEs : Exs → QX → PSt → PH → (List PV → PH → Prop) → Prop
  | .nil, x, _, h, q => q [] h
  | .cons e es, x, ς, h, q => wE e x ς h fun v h1 => wEs es x ς h1 fun vs h2 => q (v :: vs) h2
def wO : OEx → QX → PSt → PH → (Option Int → PH → Prop) → Prop
  | .no, x, _, h, q => q none h
  | .some e, x, ς, h, q => wE e x ς h fun v h1 => ∃ i, v = .int i ∧ q (some i) h1
/-- a test -/
def wT : Ex → QX → PSt → PH → (Bool → PH → Prop) → Prop
  | .and a b, x, ς, h, q => wT a x ς h fun r h1 => if r = true then wT b x ς h1 q else q false h1
  | .or a b, x, ς, h, q => wT a x ς h fun r h1 => if r = true then q true h1 else wT b x ς h1 q
  | .not a, x, ς, h, q => wT a x ς h fun r h1 => q (!r) h1
  | .cmp o a b, x, ς, h, q => wE a x ς h fun v h1 => wE b x ς h1 fun w h2 => cmpS o v w h2 fun r => q r h2
  | .chn o o' a b c, x, ς, h, q => wE a x ς h fun u h1 => wE b x ς h1 fun v h2 => cmpS o u v h2 fun r => if r = true then wE c x ς h2 fun w h3 => cmpS o' v w h3 fun r' => q r' h3 else q false h2
  | .var i, x, ς, h, q => ∃ v, ς[i]? = some (some v) ∧ ∃ r, truS h v = some r ∧ q r h
  | .bl b, x, _, h, q => q b h
  | .cin neg ks a, x, ς, h, q => wE a x ς h fun v h1 => ∃ z, v = .str z ∧ q (if neg then !ks.contains z else ks.contains z) h1
  | .ix a b, x, ς, h, q => wE a x ς h fun v h1 => wE b x ς h1 fun w h2 => ixS v w h2 fun u h3 => ∃ r, truS h3 u = some r ∧ q r h3
  | .call f es, x, ς, h, q => wEs es x ς h fun vs h1 => Φ f vs h1 (fun v h2 => ∃ r, truS h2 v = some r ∧ q r h2) x
  | .bif b es, x, ς, h, q => wEs es x ς h fun vs h1 => bifS b vs h1 fun v h2 => ∃ r, truS h2 v = some r ∧ q r h2
  | .lif b l, x, ς, h, q => wLa l x ς h fun u h1 => ∃ xs, lvB b h1 u = some xs ∧ lifS b xs h1 fun v h2 => ∃ r, truS h2 v = some r ∧ q r h2
  | _, _, _, _, _ => False
def wL : Lx → QX → PSt → PH → (List PV → PH → Prop) → Prop
  | .disp es, x, ς, h, q => wEs es x ς h fun vs h1 => vs.length ≤ sizeLine ∧ q vs h1
  | .cat a b, x, ς, h, q => wLa a x ς h fun u h1 => wLa b x ς h1 fun w h2 => ∃ xs ys, lvM h2 u = some xs ∧ lvM h2 w = some ys ∧ xs.length + ys.length ≤ sizeLine ∧ q (xs ++ ys) h2
  | .rep a n, x, ς, h, q => wLa a x ς h fun u h1 => wE n x ς h1 fun w h2 => ∃ xs i, lvM h2 u = some xs ∧ w = .int i ∧ -(2 ^ 63) ≤ i ∧ i < 2 ^ 63 ∧ xs.length * i.toNat ≤ sizeLine ∧ q (List.replicate i.toNat xs).flatten h2
  | .comp own elt t it cond, x, ς, h, q => wI it x ς h fun xs g h1 => compW g t (wipeP ς own) (wC cond fun _ _ => False) (wE elt fun _ _ => False) q xs [] h1
  | .cut a lo hi, x, ς, h, q => wLa a x ς h fun u h1 => wO lo x ς h1 fun l h2 => wO hi x ς h2 fun w h3 => ∃ xs, lvL h3 u = some xs ∧ q (cutP xs l w) h3
  | .list a, x, ς, h, q => wLa a x ς h fun u h1 => ∃ xs, lvK h1 u = some xs ∧ q xs h1
  | .sort a, x, ς, h, q => wLa a x ς h fun u h1 => ∃ xs, lvL h1 u = some xs ∧ sortS xs h1 q
  | .rng a b, x, ς, h, q => wO a x ς h fun i h1 => wO b x ς h1 fun j h2 => RgOk (oI 0 i) (oI 0 j) ∧ q (rangeL (oI 0 i) (oI 0 j - oI 0 i).toNat) h2
/-- a list or tuple: the value, or the items of one just made -/
def wLa : La → QX → PSt → PH → (LV → PH → Prop) → Prop
  | .e e, x, ς, h, q => wE e x ς h fun v h1 => q (.v v) h1
  | .l l, x, ς, h, q => wL l x ς h fun xs h1 => q (.t xs) h1
def wC : OEx → QX → PSt → PH → (Bool → PH → Prop) → Prop
  | .no, x, _, h, q => q true h
  | .some e, x, ς, h, q => wT e x ς h q
def wI : Wk → QX → PSt → PH → (List PV → (PH → Prop) → PH → Prop) → Prop
  | .la (.e e), x, ς, h, q => wE e x ς h fun v h1 => (∃ xs, items h1 v = some xs ∧ q xs (standsP v xs) h1) ∨ ∃ z, v = .str z ∧ q (z.cps.toList.map fun c => .str ⟨#[c]⟩) (fun _ => True) h1
  | .la (.l l), x, ς, h, q => wL l x ς h fun xs h1 => q xs (fun _ => True) h1
  | .range1 a, x, ς, h, q => wE a x ς h fun v h1 => ∃ j : Int, v = .int j ∧ -(2 ^ 62) ≤ j ∧ j < 2 ^ 62 ∧ q (rangeL 0 j.toNat) (fun _ => True) h1
  | .range2 a b, x, ς, h, q => wE a x ς h fun v h1 => wE b x ς h1 fun w h2 => ∃ i j : Int, v = .int i ∧ w = .int j ∧ (-(2 ^ 62) ≤ i ∧ i < 2 ^ 62 ∧ -(2 ^ 62) ≤ j ∧ j < 2 ^ 62) ∧ q (rangeL i (j - i).toNat) (fun _ => True) h2
  | .range3 a b c, x, ς, h, q => wE a x ς h fun v h1 => wE b x ς h1 fun w h2 => wE c x ς h2 fun u h3 => ∃ (i j k : Int) (n : Nat), v = .int i ∧ w = .int j ∧ u = .int k ∧ RgC i j k n ∧ q (rangeC i k n) (fun _ => True) h3
  | .enum (.e e), x, ς, h, q => wE e x ς h fun v h1 => ∃ xs, items h1 v = some xs ∧ q (enumL 0 xs) (standsP v xs) h1
  | .enum (.l l), x, ς, h, q => wL l x ς h fun xs h1 => q (enumL 0 xs) (fun _ => True) h1
  | _, _, _, _, _ => False
end
mutual
def wS : Sm → KS → PSt → PH → Prop
  | .ct .pass, κ, ς, h => κ.nx ς h
  | .ct .brk, κ, ς, h => κ.bk ς h
  | .ct .cnt, κ, ς, h => κ.ct ς h
  | .expr e, κ, ς, h => wE Φ e (fun e h => κ.ex e ς h) ς h fun _ h1 => κ.nx ς h1
  | .set t e, κ, ς, h => wE Φ e (fun e h => κ.ex e ς h) ς h fun v h1 => setT t v ς fun ς' => κ.nx ς' h1
  | .par i j a b, κ, ς, h => wE Φ a (fun e h => κ.ex e ς h) ς h fun v h1 => wE Φ b (fun e h => κ.ex e ς h) ς h1 fun w h2 => κ.nx ((ς.set i (some v)).set j (some w)) h2
  | .sub o i e, κ, ς, h => wE Φ e (fun e h => κ.ex e ς h) ς h fun w h1 => wE Φ o (fun e h => κ.ex e ς h) ς h1 fun v h2 => wE Φ i (fun e h => κ.ex e ς h) ς h2 fun k h3 => setS v k w h3 fun h4 => κ.nx ς h4
  | .aug i op e, κ, ς, h => ∃ v, ς[i]? = some (some v) ∧ wE Φ e (fun e h => κ.ex e ς h) ς h fun w h1 => augB op v w h1 fun u h2 => κ.nx (ς.set i (some u)) h2
  | .augS o i op e, κ, ς, h => wE Φ o (fun e h => κ.ex e ς h) ς h fun v h1 => wE Φ i (fun e h => κ.ex e ς h) ς h1 fun k h2 => augG v k h2 fun u h3 => wE Φ e (fun e h => κ.ex e ς h) ς h3 fun w h4 => augB op u w h4 fun z h5 => setS v k z h5 fun h6 => κ.nx ς h6
  | .ret e, κ, ς, h => wE Φ e (fun e h => κ.ex e ς h) ς h κ.rt
  | .retN, κ, _, h => κ.rt .non h
  | .ifs c a b, κ, ς, h => wT Φ c (fun e h => κ.ex e ς h) ς h fun r h1 => if r = true then wSs a κ ς h1 else wSs b κ ς h1
  | .fors t it b, κ, ς, h => wI Φ it (fun e h => κ.ex e ς h) ς h fun xs g h1 => forW g t (wSs b) κ xs ς h1
  | .whil c b, κ, ς, h => ∃ n, whileW (fun ς h => wT Φ c (fun e h => κ.ex e ς h) ς h) (wSs b) κ n ς h
def wSs : Sms → KS → PSt → PH → Prop
  | .nil, κ, ς, h => κ.nx ς h
  | .cons s r, κ, ς, h => wS s { κ with nx := wSs r κ } ς h
end
end
/-- a def: how many parameters, how many slots, the body -/
structure Fn where
  ps : Nat
  ns : Nat
  body : Sms
abbrev Tab := Nat → Option Fn
/-- the meaning of the defs of a table, n calls deep -/
def den (T : Tab) (n : Nat) : Phi := match n with
  | 0 => fun _ _ _ _ _ => False
  | n + 1 => fun f vs h q x => ∃ F, T f = some F ∧ vs.length = F.ps ∧ wSs (den T n) F.body { nx := fun _ h' => q .non h', rt := q, ex := fun e _ h' => x e h' } (vs.map some ++ List.replicate (F.ns - F.ps) none) h
termination_by n
theorem den_zero {T : Tab} {f : Nat} {vs : List PV} {h : PH} {q : QV} {x : QX} (z : den T 0 f vs h q x) : False := by
  rw [den] at z
  exact z
theorem den_succ {T : Tab} {n f : Nat} {vs : List PV} {h : PH} {q : QV} {x : QX} : den T (n + 1) f vs h q x = ∃ F, T f = some F ∧ vs.length = F.ps ∧ wSs (den T n) F.body { nx := fun _ h' => q .non h', rt := q, ex := fun e _ h' => x e h' } (vs.map some ++ List.replicate (F.ns - F.ps) none) h := by
  rw [den]
end WD
end
section
set_option Elab.async false
set_option linter.all false
set_option maxRecDepth 100000
set_option autoImplicit false
set_option maxHeartbeats 4000000
/-! WRel: how pure values and heaps stand in the abstract heap of the layer. -/
namespace WD
open PySem PySem.Spec PyProof.Rows L2

/-- a list that no code may change: locked, or of the written part -/
def SqF (K : PySem.W.Frag) (H : Hp) (a : Addr) (vs : List V) : Prop := (∃ o, H a = some (.frz o (.lst vs))) ∨ SqL K (fun _ => none) a vs
mutual
inductive Rep (K : PySem.W.Frag) (ρ : Nat → Addr) (n : Nat) (H : Hp) : PV → V → Prop
  | non : Rep K ρ n H .non .non
  | bl (b : Bool) : Rep K ρ n H (.bl b) (.bl b)
  | int (i : Int) : Rep K ρ n H (.int i) (.int i)
  | str (x : Str) : PyData.strOk x = true → Rep K ρ n H (.str x) (.str x)
  | tup {xs : List PV} {a : Addr} {vs : List V} : SqT K H a vs → Reps K ρ n H xs vs → Rep K ρ n H (.tup xs) (.ref a)
  | rol {xs : List PV} {a : Addr} {vs : List V} : SqF K H a vs → Reps K ρ n H xs vs → Rep K ρ n H (.rol xs) (.ref a)
  | loc (l : Nat) : l < n → Rep K ρ n H (.loc l) (.ref (ρ l))
inductive Reps (K : PySem.W.Frag) (ρ : Nat → Addr) (n : Nat) (H : Hp) : List PV → List V → Prop
  | nil : Reps K ρ n H [] []
  | cons {x : PV} {u : V} {xs : List PV} {us : List V} : Rep K ρ n H x u → Reps K ρ n H xs us → Reps K ρ n H (x :: xs) (u :: us)
end
def kOk : Key → Bool
  | .inl _ => true
  | .inr x => PyData.strOk x
/-- the pairs of a dict -/
inductive RepD (K : PySem.W.Frag) (ρ : Nat → Addr) (n : Nat) (H : Hp) : List (Key × PV) → List (Key × V) → Prop
  | nil : RepD K ρ n H [] []
  | cons {k : Key} {x : PV} {u : V} {xs : List (Key × PV)} {us : List (Key × V)} : kOk k = true → Rep K ρ n H x u → RepD K ρ n H xs us → RepD K ρ n H ((k, x) :: xs) ((k, u) :: us)
/-- what stands at an address for an object -/
inductive OR (K : PySem.W.Frag) (ρ : Nat → Addr) (n : Nat) (H : Hp) : PO → Option HO → Prop
  | lst {xs : List PV} {vs : List V} : Reps K ρ n H xs vs → OR K ρ n H (.lst xs) (some (.lst vs))
  | dic {xs : List (Key × PV)} {vs : List (Key × V)} : RepD K ρ n H xs vs → OR K ρ n H (.dic xs) (some (.dK vs))
structure HR (K : PySem.W.Frag) (ρ : Nat → Addr) (h : PH) (H : Hp) : Prop where
  obj : ∀ l o, h[l]? = some o → OR K ρ h.length H o (H (ρ l))
  inj : ∀ l l', l < h.length → l' < h.length → ρ l = ρ l' → l = l'
structure Ext (ρ : Nat → Addr) (n : Nat) (H : Hp) (ρ' : Nat → Addr) (n' : Nat) (H' : Hp) : Prop where
  le : n ≤ n'
  eq : ∀ l, l < n → ρ' l = ρ l
  keep : ∀ a u, H a = some u → (∀ l, l < n → ρ l ≠ a) → H' a = some u
  new : ∀ l, n ≤ l → l < n' → H (ρ' l) = none

variable {K : PySem.W.Frag} {ρ ρ' ρ1 ρ2 : Nat → Addr} {n n' n1 n2 : Nat} {H H' H1 H2 : Hp} {h h' h1 h2 : PH} {v w : PV} {u : V} {xs ys : List PV} {us vs : List V} {a p : Addr} {l : Nat} {ς : PSt} {σ : L2.St}

theorem Reps.length : ∀ {xs : List PV} {us : List V}, Reps K ρ n H xs us → xs.length = us.length
  | _, _, .nil => rfl
  | _, _, .cons _ t => by simp [Reps.length t]
theorem Reps.get : ∀ {xs : List PV} {us : List V} {i : Nat} {x : PV}, Reps K ρ n H xs us → xs[i]? = some x → ∃ u, us[i]? = some u ∧ Rep K ρ n H x u
  | _, _, _, _, .nil, e => by simp at e
  | _, _, 0, _, .cons r _, e => by simp at e; subst e; exact ⟨_, rfl, r⟩
  | _, _, i + 1, x, .cons _ t, e => by
    obtain ⟨u, h1, h2⟩ := Reps.get (i := i) (x := x) t (by simpa using e)
    exact ⟨u, by simpa using h1, h2⟩
theorem Reps.get' : ∀ {xs : List PV} {us : List V} {i : Nat} {u : V}, Reps K ρ n H xs us → us[i]? = some u → ∃ x, xs[i]? = some x ∧ Rep K ρ n H x u
  | _, _, _, _, .nil, e => by simp at e
  | _, _, 0, _, .cons r _, e => by simp at e; subst e; exact ⟨_, rfl, r⟩
  | _, _, i + 1, u, .cons _ t, e => by
    obtain ⟨x, h1, h2⟩ := Reps.get' (i := i) (u := u) t (by simpa using e)
    exact ⟨x, by simpa using h1, h2⟩
theorem Reps.append : ∀ {xs ys : List PV} {us vs : List V}, Reps K ρ n H xs us → Reps K ρ n H ys vs → Reps K ρ n H (xs ++ ys) (us ++ vs)
  | _, _, _, _, .nil, s => s
  | _, _, _, _, .cons r t, s => .cons r (Reps.append t s)
theorem Reps.set {x : PV} {u : V} (r : Rep K ρ n H x u) : ∀ {xs : List PV} {us : List V} (i : Nat), Reps K ρ n H xs us → Reps K ρ n H (xs.set i x) (us.set i u)
  | _, _, _, .nil => .nil
  | _, _, 0, .cons _ t => .cons r t
  | _, _, i + 1, .cons q t => .cons q (Reps.set r i t)
theorem Reps.take : ∀ {xs : List PV} {us : List V} (k : Nat), Reps K ρ n H xs us → Reps K ρ n H (xs.take k) (us.take k)
  | _, _, 0, _ => .nil
  | _, _, _ + 1, .nil => .nil
  | _, _, k + 1, .cons r t => .cons r (Reps.take k t)
theorem Reps.drop : ∀ {xs : List PV} {us : List V} (k : Nat), Reps K ρ n H xs us → Reps K ρ n H (xs.drop k) (us.drop k)
  | _, _, 0, r => r
  | _, _, _ + 1, .nil => .nil
  | _, _, k + 1, .cons _ t => Reps.drop k t
theorem Reps.erase : ∀ {xs : List PV} {us : List V} (k : Nat), Reps K ρ n H xs us → Reps K ρ n H (xs.eraseIdx k) (us.eraseIdx k)
  | _, _, _, .nil => .nil
  | _, _, 0, .cons _ t => t
  | _, _, k + 1, .cons r t => .cons r (Reps.erase k t)
theorem Reps.reverse : ∀ {xs : List PV} {us : List V}, Reps K ρ n H xs us → Reps K ρ n H xs.reverse us.reverse
  | _, _, .nil => .nil
  | _, _, .cons r t => by simpa using (Reps.reverse t).append (.cons r .nil)
theorem Reps.dropLast {xs : List PV} {us : List V} (r : Reps K ρ n H xs us) : Reps K ρ n H xs.dropLast us.dropLast := by
  rw [List.dropLast_eq_take, List.dropLast_eq_take, r.length]; exact r.take _
theorem Reps.repl {xs : List PV} {us : List V} (r : Reps K ρ n H xs us) : ∀ k : Nat, Reps K ρ n H (List.replicate k xs).flatten (List.replicate k us).flatten
  | 0 => .nil
  | k + 1 => by simpa [List.replicate_succ] using r.append (Reps.repl r k)
theorem Reps.cut {xs : List PV} {us : List V} (r : Reps K ρ n H xs us) (lo hi : Option Int) : Reps K ρ n H (cutP xs lo hi) (cutV us lo hi) := by
  unfold cutP cutV bndP
  rw [r.length]
  exact (r.drop _).take _

theorem RepD.length : ∀ {xs : List (Key × PV)} {us : List (Key × V)}, RepD K ρ n H xs us → xs.length = us.length
  | _, _, .nil => rfl
  | _, _, .cons _ _ t => by simp [RepD.length t]
theorem RepD.keys : ∀ {xs : List (Key × PV)} {us : List (Key × V)}, RepD K ρ n H xs us → xs.map (·.1) = us.map (·.1)
  | _, _, .nil => rfl
  | _, _, .cons _ _ t => by simp [RepD.keys t]
theorem dGet_pos {α : Type} {p : Key × α} {r : List (Key × α)} {k : Key} (e : p.1 = k) : dGet (p :: r) k = some p.2 := by simp [dGet, List.find?_cons, e]
theorem dGet_neg {α : Type} {p : Key × α} {r : List (Key × α)} {k : Key} (e : ¬ p.1 = k) : dGet (p :: r) k = dGet r k := by simp [dGet, List.find?_cons, e]
theorem RepD.get : ∀ {xs : List (Key × PV)} {us : List (Key × V)}, RepD K ρ n H xs us → ∀ k : Key, (dGet xs k = none ∧ valV us k = none) ∨ ∃ x u, dGet xs k = some x ∧ valV us k = some u ∧ Rep K ρ n H x u
  | _, _, .nil, k => .inl ⟨rfl, rfl⟩
  | (k', x) :: xs, (_, u) :: us, .cons _ r t, k => by
    by_cases e : k' = k
    · exact .inr ⟨x, u, dGet_pos e, valV_pos e, r⟩
    · rw [dGet_neg (p := (k', x)) e, valV_neg (p := (k', u)) e]
      exact RepD.get t k
theorem RepD.append : ∀ {xs ys : List (Key × PV)} {us vs : List (Key × V)}, RepD K ρ n H xs us → RepD K ρ n H ys vs → RepD K ρ n H (xs ++ ys) (us ++ vs)
  | _, _, _, _, .nil, s => s
  | _, _, _, _, .cons o r t, s => .cons o r (RepD.append t s)
theorem RepD.repl {x : PV} {u : V} (r0 : Rep K ρ n H x u) (k : Key) : ∀ {xs : List (Key × PV)} {us : List (Key × V)}, RepD K ρ n H xs us → RepD K ρ n H (xs.map fun kv => if kv.1 = k then (kv.1, x) else kv) (us.map fun kv => if kv.1 = k then (kv.1, u) else kv)
  | _, _, .nil => .nil
  | (k', y) :: xs, (_, v) :: us, .cons o r t => by
    rw [List.map_cons, List.map_cons]
    by_cases e : k' = k
    · rw [if_pos e, if_pos e]
      exact .cons o r0 (RepD.repl r0 k t)
    · rw [if_neg e, if_neg e]
      exact .cons o r (RepD.repl r0 k t)
theorem RepD.any : ∀ {xs : List (Key × PV)} {us : List (Key × V)}, RepD K ρ n H xs us → ∀ k : Key, (xs.any fun kv => decide (kv.1 = k)) = us.any fun kv => decide (kv.1 = k)
  | _, _, .nil, k => rfl
  | _, _, .cons _ r t, k => by rw [List.any_cons, List.any_cons, RepD.any t k]
theorem RepD.put {x : PV} {u : V} {xs : List (Key × PV)} {us : List (Key × V)} (t : RepD K ρ n H xs us) (r : Rep K ρ n H x u) (k : Key) (ok : kOk k = true) : RepD K ρ n H (dPut xs k x) (putK us k u) := by
  unfold dPut putK
  rw [t.any k]
  split
  · exact t.repl r k
  · exact t.append (.cons ok r .nil)
theorem RepD.merge : ∀ {ys : List (Key × PV)} {vs : List (Key × V)}, RepD K ρ n H ys vs → ∀ {xs : List (Key × PV)} {us : List (Key × V)}, RepD K ρ n H xs us → RepD K ρ n H (dMerge xs ys) (mergeK us vs)
  | _, _, .nil, _, _, t => t
  | _, _, .cons o r s, _, _, t => RepD.merge s (t.put r _ o)
theorem RepD.vals : ∀ {xs : List (Key × PV)} {us : List (Key × V)}, RepD K ρ n H xs us → Reps K ρ n H (xs.map (·.2)) (us.map (·.2))
  | _, _, .nil => .nil
  | _, _, .cons _ r t => .cons r (RepD.vals t)
theorem RepD.keyReps : ∀ {xs : List (Key × PV)} {us : List (Key × V)}, RepD K ρ n H xs us → Reps K ρ n H (xs.map fun kv => kP kv.1) (us.map fun kv => kV kv.1)
  | _, _, .nil => .nil
  | (.inl i, _) :: _, (_, _) :: _, .cons _ _ t => .cons (.int i) (RepD.keyReps t)
  | (.inr x, _) :: _, (_, _) :: _, .cons o _ t => .cons (.str x o) (RepD.keyReps t)
def seqO : HO → Bool
  | .lst _ => true
  | .dK _ => true
  | _ => false
theorem HR.ntup (R : HR K ρ h H) {o : HO} (hl : l < h.length) (e : H (ρ l) = some o) : seqO o = true := by
  have q := R.obj l h[l] (List.getElem?_eq_getElem hl)
  rw [e] at q
  generalize h[l] = po at q
  cases q with
  | lst r => rfl
  | dic r => rfl
theorem HR.there (R : HR K ρ h H) (hl : l < h.length) : ∃ o, H (ρ l) = some o := by
  have q := R.obj l h[l] (List.getElem?_eq_getElem hl)
  generalize h[l] = po at q
  cases e : H (ρ l) with
  | some o => exact ⟨o, rfl⟩
  | none => rw [e] at q; cases q
theorem SqT.ext (R : HR K ρ h H) (E : Ext ρ h.length H ρ' n' H') (s : SqT K H a us) : SqT K H' a us := by
  rcases s with (s | ⟨o, s⟩) | s
  · exact .inl (.inl (E.keep a _ s fun l hl z => by
      rw [← z] at s
      cases R.ntup hl s))
  · exact .inl (.inr ⟨o, E.keep a _ s fun l hl z => by
      rw [← z] at s
      cases R.ntup hl s⟩)
  · exact .inr s
theorem SqF.sq (s : SqF K H a us) : SqL K H a us := by
  rcases s with ⟨o, s⟩ | s
  · exact .inl (.inr ⟨o, s⟩)
  · rcases s with (s | ⟨o, s⟩) | s
    · cases s
    · cases s
    · exact .inr s
theorem SqF.ext (R : HR K ρ h H) (E : Ext ρ h.length H ρ' n' H') (s : SqF K H a us) : SqF K H' a us := by
  rcases s with ⟨o, s⟩ | s
  · exact .inl ⟨o, E.keep a _ s fun l hl z => by
      rw [← z] at s
      cases R.ntup hl s⟩
  · exact .inr s
mutual
theorem Rep.ext (R : HR K ρ h H) (E : Ext ρ h.length H ρ' n' H') : ∀ {v : PV} {u : V}, Rep K ρ h.length H v u → Rep K ρ' n' H' v u
  | _, _, .non => .non
  | _, _, .bl b => .bl b
  | _, _, .int i => .int i
  | _, _, .str x e => .str x e
  | _, _, .tup s r => .tup (WD.SqT.ext R E s) (Reps.ext R E r)
  | _, _, .rol s r => .rol (SqF.ext R E s) (Reps.ext R E r)
  | _, _, .loc l hl => by
    rw [← E.eq l hl]
    exact .loc l (Nat.lt_of_lt_of_le hl E.le)
theorem Reps.ext (R : HR K ρ h H) (E : Ext ρ h.length H ρ' n' H') : ∀ {xs : List PV} {us : List V}, Reps K ρ h.length H xs us → Reps K ρ' n' H' xs us
  | _, _, .nil => .nil
  | _, _, .cons r t => .cons (Rep.ext R E r) (Reps.ext R E t)
end
theorem RepD.ext (R : HR K ρ h H) (E : Ext ρ h.length H ρ' n' H') : ∀ {xs : List (Key × PV)} {us : List (Key × V)}, RepD K ρ h.length H xs us → RepD K ρ' n' H' xs us
  | _, _, .nil => .nil
  | _, _, .cons o r t => .cons o (Rep.ext R E r) (RepD.ext R E t)
theorem OR.ext (R : HR K ρ h H) (E : Ext ρ h.length H ρ' n' H') {o : PO} {u : Option HO} (q : OR K ρ h.length H o u) : OR K ρ' n' H' o u := by
  cases q with
  | lst r => exact .lst (Reps.ext R E r)
  | dic r => exact .dic (RepD.ext R E r)
theorem Ext.refl : Ext ρ n H ρ n H := ⟨Nat.le_refl _, fun _ _ => rfl, fun _ _ e _ => e, fun l h1 h2 => absurd (Nat.lt_of_lt_of_le h2 h1) (Nat.lt_irrefl _)⟩
theorem Ext.trans (R1 : HR K ρ1 h1 H1) (A : Ext ρ n H ρ1 h1.length H1) (B : Ext ρ1 h1.length H1 ρ2 n2 H2) : Ext ρ n H ρ2 n2 H2 where
  le := Nat.le_trans A.le B.le
  eq := fun l hl => (B.eq l (Nat.lt_of_lt_of_le hl A.le)).trans (A.eq l hl)
  keep := fun a u e hn => B.keep a u (A.keep a u e hn) fun l hl z => by
    by_cases q : l < n
    · exact hn l q ((A.eq l q).symm.trans z)
    · have := A.new l (Nat.le_of_not_lt q) hl
      rw [z, e] at this
      cases this
  new := fun l hl hl2 => by
    by_cases q : l < h1.length
    · rw [B.eq l q]
      exact A.new l hl q
    · have z := B.new l (Nat.le_of_not_lt q) hl2
      cases e : H (ρ2 l) with
      | none => rfl
      | some u =>
        by_cases r : ∃ l', l' < n ∧ ρ l' = ρ2 l
        · obtain ⟨l', h3, h4⟩ := r
          obtain ⟨o, h5⟩ := R1.there (Nat.lt_of_lt_of_le h3 A.le)
          rw [A.eq l' h3, h4, z] at h5
          cases h5
        · have := A.keep _ u e fun l' h3 h4 => r ⟨l', h3, h4⟩
          rw [z] at this
          cases this
/-- the slots -/
structure SR (K : PySem.W.Frag) (ρ : Nat → Addr) (n : Nat) (H : Hp) (ς : PSt) (σ : L2.St) : Prop where
  len : ς.length = σ.length
  get : ∀ (i : Nat) (v : PV), ς[i]? = some (some v) → ∃ u, σ[i]? = some (some u) ∧ Rep K ρ n H v u
theorem SR.ext (S : SR K ρ h.length H ς σ) (R : HR K ρ h H) (E : Ext ρ h.length H ρ' n' H') : SR K ρ' n' H' ς σ :=
  ⟨S.len, fun i v e => let ⟨u, a, b⟩ := S.get i v e; ⟨u, a, b.ext R E⟩⟩
theorem SR.set (S : SR K ρ n H ς σ) (i : Nat) (r : Rep K ρ n H v u) : SR K ρ n H (ς.set i (some v)) (σ.set i (some u)) := by
  refine ⟨by simp [S.len], fun j w e => ?_⟩
  by_cases q : i = j
  · subst q
    by_cases hl : i < ς.length
    · rw [List.getElem?_set_self hl] at e
      cases e
      exact ⟨u, by rw [List.getElem?_set_self (by rw [← S.len]; exact hl)], r⟩
    · rw [List.getElem?_eq_none (by simpa using hl)] at e
      cases e
  · rw [List.getElem?_set_ne q] at e
    obtain ⟨u', a, b⟩ := S.get j w e
    exact ⟨u', by rw [List.getElem?_set_ne q]; exact a, b⟩
theorem SR.unset (S : SR K ρ n H ς σ) (i : Nat) : SR K ρ n H (ς.set i none) (σ.set i none) := by
  refine ⟨by simp [S.len], fun j w e => ?_⟩
  by_cases q : i = j
  · subst q
    by_cases hl : i < ς.length
    · rw [List.getElem?_set_self hl] at e
      cases e
    · rw [List.getElem?_eq_none (by simpa using hl)] at e
      cases e
  · rw [List.getElem?_set_ne q] at e
    obtain ⟨u', a, b⟩ := S.get j w e
    exact ⟨u', by rw [List.getElem?_set_ne q]; exact a, b⟩
theorem SR.wipe (S : SR K ρ n H ς σ) : ∀ vs : List Nat, SR K ρ n H (wipeP ς vs) (wipe σ vs)
  | [] => S
  | v :: vs => (SR.wipe S vs).unset v

/-! ### steps of the heap -/
theorem getL_some (e : getL h l = some xs) : h[l]? = some (.lst xs) := by
  unfold getL at e
  split at e
  · cases e; assumption
  · cases e
theorem getL_lt (e : getL h l = some xs) : l < h.length := by
  have := getL_some e
  exact (List.getElem?_eq_some_iff.mp this).1
/-- a new untracked object -/
theorem Ext.fresh {o : HO} (hp : H p = none) : Ext ρ n H ρ n (upd H p o) :=
  ⟨Nat.le_refl _, fun _ _ => rfl, fun a u e _ => by rw [upd_ne (ne_of_none e hp)]; exact e, fun l h1 h2 => absurd (Nat.lt_of_lt_of_le h2 h1) (Nat.lt_irrefl _)⟩
theorem HR.fresh {o : HO} (R : HR K ρ h H) (hp : H p = none) : HR K ρ h (upd H p o) := by
  refine ⟨fun l o' e => ?_, R.inj⟩
  have hl : l < h.length := (List.getElem?_eq_some_iff.mp e).1
  have q := R.obj l o' e
  obtain ⟨o2, e2⟩ := R.there hl
  rw [e2] at q
  rw [upd_ne (ne_of_none e2 hp), e2]
  exact q.ext R (Ext.fresh hp)
/-- a list that stands at p, untracked, is tracked from now on -/
def ρadd (ρ : Nat → Addr) (n : Nat) (p : Addr) : Nat → Addr := fun l => if l = n then p else ρ l
theorem ρadd_lt {p : Addr} (hl : l < n) : ρadd ρ n p l = ρ l := by unfold ρadd; rw [if_neg (Nat.ne_of_lt hl)]
theorem ρadd_self {p : Addr} : ρadd ρ n p n = p := by unfold ρadd; rw [if_pos rfl]
/-- from H, where p is new, to H1, where the list stands at p -/
theorem Ext.track (E : Ext ρ n H ρ1 h1.length H1) (hp : H p = none) : Ext ρ n H (ρadd ρ1 h1.length p) (h1.length + 1) H1 where
  le := Nat.le_succ_of_le E.le
  eq := fun l hl => by rw [ρadd_lt (Nat.lt_of_lt_of_le hl E.le)]; exact E.eq l hl
  keep := E.keep
  new := fun l h1' h2' => by
    by_cases q : l = h1.length
    · rw [q, ρadd_self]; exact hp
    · have hl : l < h1.length := by omega
      rw [ρadd_lt hl]; exact E.new l h1' hl
mutual
theorem Rep.more (hn : ∀ l, l < n → ρ' l = ρ l) (hle : n ≤ n') : ∀ {v : PV} {u : V}, Rep K ρ n H v u → Rep K ρ' n' H v u
  | _, _, .non => .non
  | _, _, .bl b => .bl b
  | _, _, .int i => .int i
  | _, _, .str x e => .str x e
  | _, _, .tup s r => .tup s (Reps.more hn hle r)
  | _, _, .rol s r => .rol s (Reps.more hn hle r)
  | _, _, .loc l hl => by rw [← hn l hl]; exact .loc l (Nat.lt_of_lt_of_le hl hle)
theorem Reps.more (hn : ∀ l, l < n → ρ' l = ρ l) (hle : n ≤ n') : ∀ {xs : List PV} {us : List V}, Reps K ρ n H xs us → Reps K ρ' n' H xs us
  | _, _, .nil => .nil
  | _, _, .cons r t => .cons (Rep.more hn hle r) (Reps.more hn hle t)
end
theorem RepD.more (hn : ∀ l, l < n → ρ' l = ρ l) (hle : n ≤ n') : ∀ {xs : List (Key × PV)} {us : List (Key × V)}, RepD K ρ n H xs us → RepD K ρ' n' H xs us
  | _, _, .nil => .nil
  | _, _, .cons o r t => .cons o (Rep.more hn hle r) (RepD.more hn hle t)
theorem OR.more (hn : ∀ l, l < n → ρ' l = ρ l) (hle : n ≤ n') {o : PO} {u : Option HO} (q : OR K ρ n H o u) : OR K ρ' n' H o u := by
  cases q with
  | lst r => exact .lst (Reps.more hn hle r)
  | dic r => exact .dic (RepD.more hn hle r)
theorem HR.track {po : PO} {uo : HO} (R : HR K ρ h H) (hp : H p = some uo) (hn : ∀ l, l < h.length → ρ l ≠ p) (r : OR K ρ h.length H po (some uo)) : HR K (ρadd ρ h.length p) (h ++ [po]) H where
  obj := fun l o e => by
    by_cases q : l < h.length
    · rw [List.getElem?_append_left q] at e
      have z := R.obj l o e
      rw [ρadd_lt q]
      obtain ⟨o2, e2⟩ := R.there q
      rw [e2] at z ⊢
      exact z.more (fun l hl => ρadd_lt hl) (by simp)
    · have hl : l < (h ++ [po]).length := (List.getElem?_eq_some_iff.mp e).1
      have q2 : l = h.length := by simp at hl; omega
      subst q2
      simp at e
      subst e
      rw [ρadd_self, hp]
      exact r.more (fun l hl => ρadd_lt hl) (by simp)
  inj := fun l l' hl hl' e => by
    simp only [List.length_append, List.length_cons, List.length_nil] at hl hl'
    by_cases q : l < h.length <;> by_cases q' : l' < h.length
    · rw [ρadd_lt q, ρadd_lt q'] at e; exact R.inj l l' q q' e
    · have : l' = h.length := by omega
      subst this
      rw [ρadd_lt q, ρadd_self] at e
      exact absurd e (hn l q)
    · have : l = h.length := by omega
      subst this
      rw [ρadd_lt q', ρadd_self] at e
      exact absurd e.symm (hn l' q')
    · omega
/-- a tracked list is written -/
theorem Ext.write (R : HR K ρ h H) (hl : l < h.length) {o : HO} : Ext ρ h.length H ρ h.length (upd H (ρ l) o) :=
  ⟨Nat.le_refl _, fun _ _ => rfl, fun a u e hn => by rw [upd_ne (Ne.symm (hn l hl))]; exact e, fun l h1 h2 => absurd (Nat.lt_of_lt_of_le h2 h1) (Nat.lt_irrefl _)⟩
theorem HR.write {po : PO} {uo : HO} (R : HR K ρ h H) (hl : l < h.length) (r : OR K ρ h.length H po (some uo)) : HR K ρ (h.set l po) (upd H (ρ l) uo) := by
  have E : Ext ρ h.length H ρ (h.set l po).length (upd H (ρ l) uo) := by
    rw [List.length_set]
    exact Ext.write R hl
  refine ⟨fun j o e => ?_, fun j j' hj hj' e => R.inj j j' (by simpa using hj) (by simpa using hj') e⟩
  by_cases q : l = j
  · subst q
    rw [List.getElem?_set_self hl] at e
    cases e
    rw [upd_same]
    exact r.ext R E
  · rw [List.getElem?_set_ne q] at e
    have hj : j < h.length := (List.getElem?_eq_some_iff.mp e).1
    have z := R.obj j o e
    rw [upd_ne fun y => q (R.inj l j hl hj y.symm)]
    obtain ⟨o2, e2⟩ := R.there hj
    rw [e2] at z ⊢
    exact z.ext R E
theorem Ext.write' (R : HR K ρ h H) (hl : l < h.length) {o : HO} {po : PO} : Ext ρ h.length H ρ (h.set l po).length (upd H (ρ l) o) := by
  rw [List.length_set]
  exact Ext.write R hl
/-- what stands at a location -/
theorem HR.list (R : HR K ρ h H) (e : getL h l = some xs) : ∃ us, H (ρ l) = some (.lst us) ∧ Reps K ρ h.length H xs us := by
  have q := R.obj l _ (getL_some e)
  obtain ⟨o2, e2⟩ := R.there (getL_lt e)
  rw [e2] at q
  cases q with
  | lst r => exact ⟨_, e2, r⟩
theorem HR.dict {kvs : List (Key × PV)} (R : HR K ρ h H) (e : h[l]? = some (.dic kvs)) : ∃ us, H (ρ l) = some (.dK us) ∧ RepD K ρ h.length H kvs us := by
  have q := R.obj l _ e
  obtain ⟨o2, e2⟩ := R.there (List.getElem?_eq_some_iff.mp e).1
  rw [e2] at q
  cases q with
  | dic r => exact ⟨_, e2, r⟩
end WD
end
section
set_option Elab.async false
set_option linter.all false
set_option maxRecDepth 100000
set_option autoImplicit false
set_option maxHeartbeats 4000000
/-! WOps: each operation by values, seen in the abstract heap. -/
namespace WD
open PySem PySem.Spec PyProof.Rows L2

/-- what is fixed: the written part, the exception classes -/
structure GE where
  K : PySem.W.Frag
  cls : Nat → Option (Addr × List Str)
/-- an exception, as it flies -/
def XR (G : GE) (ρ : Nat → Addr) (n : Nat) (H : Hp) (e : PV) (c : Value) (d : Option Addr) : Prop :=
  ∃ k fs C ns dd vs, e = .xc k fs ∧ G.cls k = some (C, ns) ∧ c = .ref C ∧ d = some dd ∧ H dd = some (.xd (ns.zip vs)) ∧ Reps G.K ρ n H fs vs ∧ vs.length = ns.length
/-- what follows is answered: for values related by R -/
def Cov {α β : Type} (G : GE) (R : (Nat → Addr) → Nat → Hp → α → β → Prop) (ρ : Nat → Addr) (h : PH) (H : Hp) (q : α → PH → Prop) (Q : β → Hp → Prop) : Prop :=
  ∀ ρ' h' H' v u, Ext ρ h.length H ρ' h'.length H' → HR G.K ρ' h' H' → R ρ' h'.length H' v u → q v h' → Q u H'
def CovX (G : GE) (ρ : Nat → Addr) (h : PH) (H : Hp) (x : QX) (σ : L2.St) (W : WX) : Prop :=
  ∀ ρ' h' H' e c d, Ext ρ h.length H ρ' h'.length H' → HR G.K ρ' h' H' → XR G ρ' h'.length H' e c d → x e h' → W c d σ H'

section
variable {α β : Type} {G : GE} {R : (Nat → Addr) → Nat → Hp → α → β → Prop} {ρ ρ1 : Nat → Addr} {h h1 : PH} {H H1 : Hp} {q : α → PH → Prop} {Q : β → Hp → Prop} {x : QX} {σ : L2.St} {W : WX}
theorem Cov.at (c : Cov G R ρ h H q Q) (R1 : HR G.K ρ1 h1 H1) (E : Ext ρ h.length H ρ1 h1.length H1) : Cov G R ρ1 h1 H1 q Q :=
  fun ρ' h' H' v u E' R' r k => c ρ' h' H' v u (E.trans R1 E') R' r k
theorem CovX.at (c : CovX G ρ h H x σ W) (R1 : HR G.K ρ1 h1 H1) (E : Ext ρ h.length H ρ1 h1.length H1) : CovX G ρ1 h1 H1 x σ W :=
  fun ρ' h' H' e k d E' R' r z => c ρ' h' H' e k d (E.trans R1 E') R' r z
theorem CovX.none : CovX G ρ h H (fun _ _ => False) σ W := fun _ _ _ _ _ _ _ _ _ z => z.elim
end
abbrev RV (G : GE) : (Nat → Addr) → Nat → Hp → PV → V → Prop := Rep G.K
abbrev RVs (G : GE) : (Nat → Addr) → Nat → Hp → List PV → List V → Prop := Reps G.K
abbrev REq (α : Type) : (Nat → Addr) → Nat → Hp → α → α → Prop := fun _ _ _ a b => a = b

/-! ### texts -/
theorem strOk_append {a b : Str} (ha : PyData.strOk a = true) (hb : PyData.strOk b = true) : PyData.strOk (a ++ b) = true := by
  have e : (a ++ b).cps = a.cps ++ b.cps := rfl
  unfold PyData.strOk at *
  rw [e, Array.all_append, ha, hb]
  rfl
theorem strOk_iff {a : Str} : PyData.strOk a = true ↔ ∀ c ∈ a.cps.toList, c < 0x110000 := by
  unfold PyData.strOk
  rw [← Array.all_toList, List.all_eq_true]
  simp
theorem strOk_sign {a : Str} (ha : PyData.strOk a = true) {c : Nat} {k : Nat} (e : a.cps.toList[k]? = some c) : PyData.strOk ⟨#[c]⟩ = true := by
  rw [strOk_iff] at ha ⊢
  intro d hd
  have : d = c := by simpa using hd
  rw [this]
  exact ha c (List.mem_of_getElem? e)
theorem strOk_cut {a : Str} (ha : PyData.strOk a = true) (lo hi : Option Int) : PyData.strOk (cutS a lo hi) = true := by
  rw [strOk_iff] at ha ⊢
  intro d hd
  refine ha d ?_
  have e : (cutS a lo hi).cps.toList = (a.cps.toList.drop (HT.sIx a.length 0 lo)).take (HT.sIx a.length a.length hi - HT.sIx a.length 0 lo) := by
    show (Array.toList (List.toArray _)) = _
    rw [List.toList_toArray]
  rw [e] at hd
  exact List.mem_of_mem_drop (List.mem_of_mem_take hd)
theorem strOk_mul {a : Str} (ha : PyData.strOk a = true) (n : Int) : PyData.strOk (strMul a n) = true := by
  rw [strOk_iff] at ha ⊢
  intro d hd
  refine ha d ?_
  have e : (strMul a n).cps.toList = (List.replicate n.toNat a.cps.toList).flatten := by
    show (Array.toList (List.toArray _)) = _
    rw [List.toList_toArray]
  rw [e, List.mem_flatten] at hd
  obtain ⟨l, h1, h2⟩ := hd
  rw [List.mem_replicate] at h1
  rw [h1.2] at h2
  exact h2
theorem strOk_int (i : Int) : PyData.strOk (Str.ofString (toString i)) = true := by
  rw [strOk_iff]
  intro d hd
  rw [Str.ofString_eq_toList] at hd
  simp only [List.toList_toArray, List.mem_map] at hd
  obtain ⟨c, _, rfl⟩ := hd
  have := c.valid
  simp only [UInt32.isValidChar, Nat.isValidChar] at this
  show c.val.toNat < _
  omega

section
variable {K : PySem.W.Frag} {ρ : Nat → Addr} {n : Nat} {H : Hp} {h : PH} {v w : PV} {u u' : V}
/-! ### data -/
theorem Rep.intInv {i : Int} (r : Rep K ρ n H (.int i) u) : u = .int i := by cases r; rfl
theorem Rep.strInv {x : Str} (r : Rep K ρ n H (.str x) u) : u = .str x ∧ PyData.strOk x = true := by cases r; exact ⟨rfl, by assumption⟩
theorem Rep.blInv {b : Bool} (r : Rep K ρ n H (.bl b) u) : u = .bl b := by cases r; rfl
theorem Rep.nonInv (r : Rep K ρ n H .non u) : u = .non := by cases r; rfl
theorem Rep.tupInv {xs : List PV} (r : Rep K ρ n H (.tup xs) u) : ∃ a vs, u = .ref a ∧ SqT K H a vs ∧ Reps K ρ n H xs vs := by cases r; exact ⟨_, _, rfl, by assumption, by assumption⟩
theorem Rep.rolInv {xs : List PV} (r : Rep K ρ n H (.rol xs) u) : ∃ a vs, u = .ref a ∧ SqF K H a vs ∧ Reps K ρ n H xs vs := by cases r; exact ⟨_, _, rfl, by assumption, by assumption⟩
theorem Rep.locInv {l : Nat} (r : Rep K ρ n H (.loc l) u) : u = .ref (ρ l) ∧ l < n := by cases r; exact ⟨rfl, by assumption⟩
/-- what is a list or a tuple -/
theorem items_sq (R : HR K ρ h H) {xs : List PV} (e : items h v = some xs) (r : Rep K ρ h.length H v u) : ∃ a vs, u = .ref a ∧ (SqL K H a vs ∨ SqT K H a vs) ∧ Reps K ρ h.length H xs vs := by
  cases v with
  | tup ys =>
    have e1 : ys = xs := Option.some.inj e
    subst e1
    obtain ⟨a, vs, h1, h2, h3⟩ := r.tupInv
    exact ⟨a, vs, h1, .inr h2, h3⟩
  | rol ys =>
    have e1 : ys = xs := Option.some.inj e
    subst e1
    obtain ⟨a, vs, h1, h2, h3⟩ := r.rolInv
    exact ⟨a, vs, h1, .inl h2.sq, h3⟩
  | loc l =>
    obtain ⟨us, h1, h2⟩ := R.list (show getL h l = some xs from e)
    exact ⟨_, us, r.locInv.1, .inl (SqL.of h1), h2⟩
  | _ => cases e
theorem itemsL_sq (R : HR K ρ h H) {xs : List PV} (e : itemsL h v = some xs) (r : Rep K ρ h.length H v u) : ∃ a vs, u = .ref a ∧ SqL K H a vs ∧ Reps K ρ h.length H xs vs := by
  cases v with
  | rol ys =>
    have e1 : ys = xs := Option.some.inj e
    subst e1
    obtain ⟨a, vs, h1, h2, h3⟩ := r.rolInv
    exact ⟨a, vs, h1, h2.sq, h3⟩
  | loc l =>
    obtain ⟨us, h1, h2⟩ := R.list (show getL h l = some xs from e)
    exact ⟨_, us, r.locInv.1, SqL.of h1, h2⟩
  | _ => cases e
theorem mapM_len {α β : Type} {f : α → Option β} : ∀ {xs : List α} {ys : List β}, xs.mapM f = some ys → xs.length = ys.length
  | [], ys, e => by
    have : ([] : List β) = ys := by simpa using e
    rw [← this]; rfl
  | x :: xs, ys, e => by
    rw [List.mapM_cons] at e
    cases h1 : f x with
    | none => rw [h1] at e; cases e
    | some y =>
      rw [h1] at e
      cases h2 : xs.mapM f with
      | none => rw [h2] at e; cases e
      | some zs =>
        rw [h2] at e
        have : y :: zs = ys := Option.some.inj e
        rw [← this, List.length_cons, List.length_cons, mapM_len h2]
theorem mapM_cons_some {α β : Type} {f : α → Option β} {x : α} {xs : List α} {ys : List β} (e : (x :: xs).mapM f = some ys) : ∃ y zs, f x = some y ∧ xs.mapM f = some zs ∧ ys = y :: zs := by
  rw [List.mapM_cons] at e
  cases h1 : f x with
  | none => rw [h1] at e; cases e
  | some y =>
    rw [h1] at e
    cases h2 : xs.mapM f with
    | none => rw [h2] at e; cases e
    | some zs =>
      rw [h2] at e
      exact ⟨y, zs, rfl, rfl, (Option.some.inj e).symm⟩
mutual
theorem toD_dp (R : HR K ρ h H) : ∀ (k : Nat) (v : PV) (u : V) (d : PyData), toD h k v = some d → Rep K ρ h.length H v u → Dp K H u d ∧ d.canLay0 = true ∧ d.depth ≤ k
  | 0, _, _, _, e, _ => by cases e
  | k + 1, .non, _, _, e, r => by cases e; cases r; exact ⟨.non, rfl, Nat.zero_le _⟩
  | k + 1, .bl b, _, _, e, r => by cases e; cases r; exact ⟨.bl b, rfl, Nat.zero_le _⟩
  | k + 1, .int i, _, _, e, r => by cases e; cases r; exact ⟨.int i, rfl, Nat.zero_le _⟩
  | k + 1, .str x, _, _, e, r => by
    cases e
    obtain ⟨rfl, hs⟩ := r.strInv
    exact ⟨.str x, by simpa [PyData.canLay0] using hs, Nat.zero_le _⟩
  | k + 1, .tup xs, _, _, e, r => by
    simp only [toD, Option.map_eq_some_iff] at e
    obtain ⟨ds, e1, rfl⟩ := e
    obtain ⟨a, vs, rfl, h2, h3⟩ := r.tupInv
    obtain ⟨z1, z2, z3⟩ := toD_dps R k xs vs ds e1 h3
    exact ⟨.tup h2 z1, by simpa [PyData.canLay0] using z2, by simp only [PyData.depth]; omega⟩
  | k + 1, .rol xs, _, _, e, r => by
    simp only [toD, Option.map_eq_some_iff] at e
    obtain ⟨ds, e1, rfl⟩ := e
    obtain ⟨a, vs, rfl, h2, h3⟩ := r.rolInv
    obtain ⟨z1, z2, z3⟩ := toD_dps R k xs vs ds e1 h3
    exact ⟨.lst h2.sq z1, by simpa [PyData.canLay0] using z2, by simp only [PyData.depth]; omega⟩
  | k + 1, .loc l, _, _, e, r => by
    simp only [toD] at e
    cases h0 : getL h l with
    | none => rw [h0] at e; cases e
    | some xs =>
      rw [h0] at e
      simp only [Option.map_eq_some_iff] at e
      obtain ⟨ds, e1, rfl⟩ := e
      obtain ⟨us, h1, h2⟩ := R.list h0
      rw [r.locInv.1]
      obtain ⟨z1, z2, z3⟩ := toD_dps R k xs us ds e1 h2
      exact ⟨.lst (SqL.of h1) z1, by simpa [PyData.canLay0] using z2, by simp only [PyData.depth]; omega⟩
  | k + 1, .xc _ _, _, _, e, _ => by cases e
theorem toD_dps (R : HR K ρ h H) : ∀ (k : Nat) (xs : List PV) (us : List V) (ds : List PyData), xs.mapM (toD h k) = some ds → Reps K ρ h.length H xs us → DpAll K H us ds ∧ PyData.canLayAll0 ds = true ∧ PyData.depthAll ds ≤ k
  | k, [], us, ds, e, r => by
    cases r
    have : ds = [] := by simpa using e.symm
    subst this
    exact ⟨.nil, rfl, Nat.zero_le _⟩
  | k, x :: xs, us, ds, e, r => by
    cases r with
    | cons r1 r2 =>
      obtain ⟨y, zs, e1, e2, rfl⟩ := mapM_cons_some e
      obtain ⟨a1, a2, a3⟩ := toD_dp R k x _ y e1 r1
      obtain ⟨b1, b2, b3⟩ := toD_dps R k xs _ zs e2 r2
      exact ⟨.cons a1 b1, by simp [PyData.canLayAll0, a2, b2], by simp only [PyData.depthAll]; omega⟩
end
theorem shaped_of {d : PyData} (h1 : d.canLay0 = true) (h2 : d.depth ≤ 64) : SeqAt.shaped d = true := by
  unfold SeqAt.shaped
  rw [h1, decide_eq_true h2]
  rfl
theorem scal_rep (e : scalP v w = true) (r : Rep K ρ n H v u) (r' : Rep K ρ n H w u') : L2.scal u u' = true ∧ decide (u = u') = decide (v = w) := by
  cases r <;> cases r' <;> first
    | (simp [scalP] at e; done)
    | (refine ⟨rfl, ?_⟩; simp)
end
section
variable {X : Cx} {ρ : Nat → Addr} {H : Hp} {h : PH} {v w : PV} {u u' : V}
/-- a two-place operation that gives a value -/
def OpOk (X : Cx) (f : Value → Value → Sem Value) (m : PV → PV → PH → QV → Prop) : Prop :=
  ∃ r : R2, OpR X f r ∧ ∀ (G : GE) (ρ : Nat → Addr) (h : PH) (H : Hp) (v w : PV) (u u' : V) (q : QV) (Q : VK), G.K = X.K → HR G.K ρ h H → Rep G.K ρ h.length H v u → Rep G.K ρ h.length H w u' → m v w h q → Cov G (RV G) ρ h H q Q → r u u' H Q
theorem Cov.here {G : GE} {q : QV} {Q : VK} (c : Cov G (RV G) ρ h H q Q) (R : HR G.K ρ h H) (r : Rep G.K ρ h.length H v u) (k : q v h) : Q u H := c ρ h H v u Ext.refl R r k
/-- a new tuple -/
theorem Cov.newTup {G : GE} {q : QV} {Q : VK} {xs : List PV} {us : List V} (c : Cov G (RV G) ρ h H q Q) (R : HR G.K ρ h H) (r : Reps G.K ρ h.length H xs us) (k : q (.tup xs) h) (p : Addr) (hp : H p = none) : Q (.ref p) (upd H p (.tup us)) :=
  c ρ h _ (.tup xs) (.ref p) (Ext.fresh hp) (R.fresh hp) (.tup (SqT.of upd_same) (Reps.ext R (Ext.fresh hp) r)) k
/-- a new list, tracked from now on -/
theorem Cov.newLst {G : GE} {q : QV} {Q : VK} {xs : List PV} {us : List V} (c : Cov G (RV G) ρ h H q Q) (R : HR G.K ρ h H) (r : Reps G.K ρ h.length H xs us) (k : q (.loc h.length) (h ++ [.lst xs])) (p : Addr) (hp : H p = none) : Q (.ref p) (upd H p (.lst us)) := by
  have R1 : HR G.K ρ h (upd H p (.lst us)) := R.fresh hp
  have E1 : Ext ρ h.length H ρ h.length (upd H p (.lst us)) := Ext.fresh hp
  have nl : ∀ l, l < h.length → ρ l ≠ p := fun l hl z => by
    obtain ⟨o, e⟩ := R.there hl
    rw [z, hp] at e
    cases e
  refine c (ρadd ρ h.length p) (h ++ [.lst xs]) _ (.loc h.length) (.ref p) ?_ (R1.track upd_same nl (.lst (Reps.ext R E1 r))) ?_ k
  · have := Ext.track (h1 := h) E1 hp
    rwa [show (h ++ [PO.lst xs]).length = h.length + 1 by simp]
  · have e : V.ref p = V.ref (ρadd ρ h.length p h.length) := by rw [ρadd_self]
    rw [e]
    exact .loc h.length (by simp)
/-- what is just laid, tracked from now on -/
theorem Cov.trackNew {G : GE} {q : QV} {Q : VK} {po : PO} {uo : HO} {ρ0 : Nat → Addr} {h0 : PH} {H0 : Hp} {p : Addr} (R0 : HR G.K ρ0 h0 H0) (E : Ext ρ0 h0.length H0 ρ h.length H) (hp0 : H0 p = none) (c : Cov G (RV G) ρ0 h0 H0 q Q) (R : HR G.K ρ h H) (hp : H p = some uo) (nl : ∀ l, l < h.length → ρ l ≠ p) (r : OR G.K ρ h.length H po (some uo)) (k : q (.loc h.length) (h ++ [po])) : Q (.ref p) H := by
  refine c (ρadd ρ h.length p) (h ++ [po]) H (.loc h.length) (.ref p) ?_ (R.track hp nl r) ?_ k
  · have := Ext.track E hp0
    rwa [show (h ++ [po]).length = h.length + 1 by simp]
  · have e : V.ref p = V.ref (ρadd ρ h.length p h.length) := by rw [ρadd_self]
    rw [e]
    exact .loc h.length (by simp)
theorem strOk_of_mul {a : Str} {k : Nat} : (⟨(List.replicate k a.cps).foldl (· ++ ·) #[]⟩ : Str) = strMul a k := by
  unfold strMul
  congr 1
  have : ∀ (m : Nat) (acc : Array Nat), ((List.replicate m a.cps).foldl (· ++ ·) acc) = acc ++ (List.replicate m a.cps.toList).flatten.toArray := by
    intro m
    induction m with
    | zero => intro acc; simp
    | succ m ih =>
      intro acc
      rw [List.replicate_succ, List.foldl_cons, ih]
      rw [List.replicate_succ, List.flatten_cons]
      apply Array.ext'
      simp
  rw [this]
  simp
theorem op_strMul : OpR X (binaryOp .Mult) (fun x y H Q => ∃ (z : Str) (k : Int), x = .str z ∧ y = .int k ∧ k ≤ 1000000 ∧ -1000000 ≤ k ∧ z.length * k.toNat ≤ 16777216 ∧ Q (.str (strMul z k)) H) := by
  intro pins s σ H x y v u Q I rx ry hh
  obtain ⟨z, k, rfl, rfl, h1, h2, h3, q⟩ := hh
  obtain ⟨t, rfl⟩ := rx
  obtain ⟨t', rfl⟩ := ry
  have hl : (z.length : Int) * k.toNat ≤ 16777216 := by
    have h9 := Int.ofNat_le.mpr h3
    rw [Int.natCast_mul] at h9
    exact h9
  refine PySem.P.mul_str (by rw [decide_eq_false (by omega), decide_eq_false (by omega)]; rfl) (fun h4 _ h5 => ?_) (fun h4 _ => ?_) ?_
  · have hk : 1 ≤ k := by omega
    have e1 : (2 ^ 63 - 1) / k ≥ 16777216 := by
      have : (16777216 : Int) * k ≤ 2 ^ 63 - 1 := by omega
      exact (Int.le_ediv_iff_mul_le (by omega)).mpr this
    have e2 : (z.length : Int) ≤ 16777216 := by
      have : (1 : Int) ≤ k.toNat := by omega
      have : (z.length : Int) * 1 ≤ (z.length : Int) * k.toNat := Int.mul_le_mul_of_nonneg_left this (by omega)
      omega
    omega
  · show decide (z.length * k.toNat > sizeLine) = false
    rw [decide_eq_false]
    rw [sizeLine_eq]
    omega
  · have fin : ∀ s', Inv X pins σ H s' → ∀ tk, EP X pins σ Q (.str (strMul z k) tk) s' := fun s' I' tk => ⟨.str (strMul z k), H, I', ⟨_, rfl⟩, q⟩
    split
    · rename_i h4
      have e : strMul z k = Str.empty := by
        unfold strMul
        have : k.toNat = 0 := by omega
        rw [this]
        rfl
      rw [← e]
      exact ⟨by rw [e]; decide, fin _ (I.tok _) _⟩
    · rename_i h4
      split
      · rename_i h5
        have e : strMul z k = z := by
          simp only [Bool.or_eq_true, beq_iff_eq] at h5
          rcases h5 with h5 | h5
          · subst h5
            unfold strMul
            simp
          · unfold strMul
            have : z.cps = #[] := Array.eq_empty_of_size_eq_zero h5
            obtain ⟨c⟩ := z
            simp only at this
            subst this
            simp
        rw [e] at fin
        exact fin _ I _
      · have e : (⟨(List.replicate k.toNat z.cps).foldl (· ++ ·) #[]⟩ : Str) = strMul z k := by
          rw [strOk_of_mul]
          congr 1
          omega
        rw [e]
        refine ⟨?_, fin _ (I.tok _) _⟩
        have : (strMul z k).length ≤ sizeLine := by
          unfold strMul Str.length
          simp only [List.size_toArray, List.length_flatten, List.map_replicate, List.sum_replicate_nat, Array.length_toList]
          rw [sizeLine_eq]
          have : z.cps.size * k.toNat ≤ 16777216 := h3
          rw [Nat.mul_comm]
          exact this
        exact this
end
end WD
end
section
set_option Elab.async false
set_option linter.all false
set_option maxRecDepth 100000
set_option autoImplicit false
set_option maxHeartbeats 4000000
/-! WOps2: binary operations, comparisons, subscripts, slices, truth. -/
namespace WD
open PySem PySem.Spec PyProof.Rows L2
section
variable {X : Cx}
abbrev rF : R2 := fun _ _ _ _ => False
theorem op_F {f : Value → Value → Sem Value} : OpR X f rF := fun _ _ _ _ _ _ _ _ _ _ _ _ h => h.elim
theorem bin_ok (o : Operator) : OpOk X (binaryOp o) (binS o) := by
  cases o with
  | Add =>
    refine ⟨_, (op_add.or (op_add_str.or (op_catA.or op_cat))), fun G ρ h H v w u u' q Q eK R r r' m c => ?_⟩
    cases v <;> cases w <;> try (exact (m : False).elim)
    · rw [r.intInv, r'.intInv]
      exact .inl ⟨_, _, rfl, rfl, c.here R (.int _) m⟩
    · obtain ⟨e1, s1⟩ := r.strInv
      obtain ⟨e2, s2⟩ := r'.strInv
      rw [e1, e2]
      exact .inr (.inl ⟨_, _, rfl, rfl, m.1, c.here R (.str _ (strOk_append s1 s2)) m.2⟩)
    · obtain ⟨a, vs, rfl, q1, r1⟩ := r.tupInv
      obtain ⟨b, ws, rfl, q2, r2⟩ := r'.tupInv
      obtain ⟨m1, m2⟩ := m
      rw [eK] at q1 q2
      refine .inr (.inr (.inl ⟨a, b, vs, ws, rfl, rfl, q1, q2, by rw [← r1.length, ← r2.length]; exact m1, fun e => ?_, fun e1 e2 => ?_, fun e1 e2 p hp => c.newTup R (r1.append r2) m2 p hp⟩))
      · subst e
        cases r1
        exact c.here R (.tup (eK ▸ q2) r2) m2
      · subst e2
        cases r2
        rw [List.append_nil] at m2
        exact c.here R (.tup (eK ▸ q1) r1) m2
    · obtain ⟨xs, ys, m1, m2, m3, m4⟩ := m
      obtain ⟨us, a1, a2⟩ := R.list m1
      obtain ⟨ws, b1, b2⟩ := R.list m2
      exact .inr (.inr (.inr ⟨_, _, us, ws, r.locInv.1, r'.locInv.1, a1, b1, by rw [← a2.length, ← b2.length]; exact m3, fun p hp => c.newLst R (a2.append b2) m4 p hp⟩))
  | Sub =>
    refine ⟨_, op_sub, fun G ρ h H v w u u' q Q eK R r r' m c => ?_⟩
    cases v <;> cases w <;> try (exact (m : False).elim)
    rw [r.intInv, r'.intInv]
    exact ⟨_, _, rfl, rfl, c.here R (.int _) m⟩
  | Mult =>
    refine ⟨_, op_mulX.or (op_strMul.or op_repT), fun G ρ h H v w u u' q Q eK R r r' m c => ?_⟩
    cases v <;> cases w <;> try (exact (m : False).elim)
    · rw [r.intInv, r'.intInv]
      exact .inl ⟨_, _, rfl, rfl, m.1, c.here R (.int _) m.2⟩
    · obtain ⟨e1, s1⟩ := r.strInv
      rw [e1, r'.intInv]
      obtain ⟨m1, m2, m3, m4⟩ := m
      exact .inr (.inl ⟨_, _, rfl, rfl, m1, m2, m3, c.here R (.str _ (strOk_mul s1 _)) m4⟩)
    · obtain ⟨a, vs, rfl, q1, r1⟩ := r.tupInv
      rw [r'.intInv]
      obtain ⟨⟨m1, m2, m3, m4⟩, m5⟩ := m
      rw [eK] at q1
      refine .inr (.inr ⟨a, _, vs, rfl, rfl, q1, fun e => m1 ?_, m2, m3, by rw [← r1.length]; exact m4, fun p hp => c.newTup R (r1.repl _) m5 p hp⟩)
      subst e
      cases r1
      rfl
  | FloorDiv =>
    refine ⟨_, op_fdivW, fun G ρ h H v w u u' q Q eK R r r' m c => ?_⟩
    cases v <;> cases w <;> try (exact (m : False).elim)
    rw [r.intInv, r'.intInv]
    exact ⟨_, _, rfl, rfl, m.1, c.here R (.int _) m.2⟩
  | Mod =>
    refine ⟨_, op_mod, fun G ρ h H v w u u' q Q eK R r r' m c => ?_⟩
    cases v <;> cases w <;> try (exact (m : False).elim)
    rw [r.intInv, r'.intInv]
    exact ⟨_, _, rfl, rfl, m.1, c.here R (.int _) m.2⟩
  | Pow =>
    refine ⟨_, op_pow, fun G ρ h H v w u u' q Q eK R r r' m c => ?_⟩
    cases v <;> cases w <;> try (exact (m : False).elim)
    rw [r.intInv, r'.intInv]
    exact ⟨_, _, rfl, rfl, m.1, c.here R (.int _) m.2⟩
  | LShift =>
    refine ⟨_, op_shl, fun G ρ h H v w u u' q Q eK R r r' m c => ?_⟩
    cases v <;> cases w <;> try (exact (m : False).elim)
    rw [r.intInv, r'.intInv]
    exact ⟨_, _, rfl, rfl, m.1, c.here R (.int _) m.2⟩
  | RShift =>
    refine ⟨_, op_shr, fun G ρ h H v w u u' q Q eK R r r' m c => ?_⟩
    cases v <;> cases w <;> try (exact (m : False).elim)
    rw [r.intInv, r'.intInv]
    exact ⟨_, _, rfl, rfl, m.1, c.here R (.int _) m.2⟩
  | BitAnd =>
    refine ⟨_, op_and, fun G ρ h H v w u u' q Q eK R r r' m c => ?_⟩
    cases v <;> cases w <;> try (exact (m : False).elim)
    rw [r.intInv, r'.intInv]
    exact ⟨_, _, rfl, rfl, c.here R (.int _) m⟩
  | BitOr =>
    refine ⟨_, op_or, fun G ρ h H v w u u' q Q eK R r r' m c => ?_⟩
    cases v <;> cases w <;> try (exact (m : False).elim)
    rw [r.intInv, r'.intInv]
    exact ⟨_, _, rfl, rfl, c.here R (.int _) m⟩
  | BitXor =>
    refine ⟨_, op_xor, fun G ρ h H v w u u' q Q eK R r r' m c => ?_⟩
    cases v <;> cases w <;> try (exact (m : False).elim)
    rw [r.intInv, r'.intInv]
    exact ⟨_, _, rfl, rfl, c.here R (.int _) m⟩
  | MatMult => exact ⟨rF, op_F, fun G ρ h H v w u u' q Q eK R r r' m c => by cases v <;> cases w <;> exact m⟩
  | Div => exact ⟨rF, op_F, fun G ρ h H v w u u' q Q eK R r r' m c => by cases v <;> cases w <;> exact m⟩
/-- a comparison -/
def CmpOk (X : Cx) (f : Value → Value → Sem Value) (m : PV → PV → PH → (Bool → Prop) → Prop) : Prop :=
  ∃ r : R2, OpR X f r ∧ ∀ (G : GE) (ρ : Nat → Addr) (h : PH) (H : Hp) (v w : PV) (u u' : V) (q : Bool → Prop) (Q : VK), G.K = X.K → HR G.K ρ h H → Rep G.K ρ h.length H v u → Rep G.K ρ h.length H w u' → m v w h q → (∀ b, q b → Q (.bl b) H) → r u u' H Q
theorem eq_ok (hu : X.A.units + 64 < cLine) : CmpOk X (compareOp .Eq) (fun v w h q => eqS h v w q) := by
  refine ⟨_, op_eq.or (op_eqD hu), fun G ρ h H v w u u' q Q eK R r r' m c => ?_⟩
  rcases m with ⟨m1, m2⟩ | ⟨d, e, m1, m2, m3⟩
  · obtain ⟨z1, z2⟩ := scal_rep m1 r r'
    refine .inl ⟨z1, ?_⟩
    rw [z2]
    exact c _ m2
  · obtain ⟨a1, a2, a3⟩ := toD_dp R 64 v u d m1 r
    obtain ⟨b1, b2, b3⟩ := toD_dp R 64 w u' e m2 r'
    exact .inr ⟨d, e, eK ▸ a1, eK ▸ b1, shaped_of a2 a3, shaped_of b2 b3, c _ m3⟩
theorem ne_ok (hu : X.A.units + 64 < cLine) : CmpOk X (compareOp .NotEq) (fun v w h q => eqS h v w fun b => q (!b)) := by
  refine ⟨_, op_ne.or (op_neD hu), fun G ρ h H v w u u' q Q eK R r r' m c => ?_⟩
  rcases m with ⟨m1, m2⟩ | ⟨d, e, m1, m2, m3⟩
  · obtain ⟨z1, z2⟩ := scal_rep m1 r r'
    refine .inl ⟨z1, ?_⟩
    rw [z2]
    exact c _ m2
  · obtain ⟨a1, a2, a3⟩ := toD_dp R 64 v u d m1 r
    obtain ⟨b1, b2, b3⟩ := toD_dp R 64 w u' e m2 r'
    exact .inr ⟨d, e, eK ▸ a1, eK ▸ b1, shaped_of a2 a3, shaped_of b2 b3, c _ m3⟩

/-- x in a list or tuple of data; c in s -/
def rInA (K : PySem.W.Frag) (neg : Bool) : R2 := fun x y H Q => ∃ d ds, Dp K H x d ∧ (Dp K H y (.tuple ds) ∨ Dp K H y (.list ds)) ∧ d.canLay0 = true ∧ d.depth ≤ 64 ∧ PyData.canLayAll0 ds = true ∧ Q (.bl (if neg then !ds.any fun z => PyData.eqv z d else ds.any fun z => PyData.eqv z d)) H
theorem op_inA (hu : X.A.units + 65 < cLine) : OpR X (compareOp .In) (rInA X.K false) := by
  intro pins s σ H x y v u Q I rx ry hh
  obtain ⟨d, ds, hd, he, h1, h2, h3, q⟩ := hh
  obtain ⟨as, r1⟩ := Dp.reads I d x v hd rx
  have hroom : X.A.units + 1 + min (PyData.depthAll ds) d.depth < cLine := by
    have : min (PyData.depthAll ds) d.depth ≤ d.depth := Nat.min_le_right _ _
    omega
  rcases he with he | he
  · obtain ⟨bs, r2⟩ := Dp.reads I (.tuple ds) y u he ry
    exact SeqAt.in_tuple_reads r2 r1 h3 h1 hroom ⟨.bl _, H, I, rfl, q⟩
  · obtain ⟨bs, r2⟩ := Dp.reads I (.list ds) y u he ry
    exact SeqAt.in_list_reads r2 r1 h3 h1 hroom ⟨.bl _, H, I, rfl, q⟩
theorem op_notInA (hu : X.A.units + 65 < cLine) : OpR X (compareOp .NotIn) (rInA X.K true) := by
  intro pins s σ H x y v u Q I rx ry hh
  obtain ⟨d, ds, hd, he, h1, h2, h3, q⟩ := hh
  obtain ⟨as, r1⟩ := Dp.reads I d x v hd rx
  have hroom : X.A.units + 1 + min (PyData.depthAll ds) d.depth < cLine := by
    have : min (PyData.depthAll ds) d.depth ≤ d.depth := Nat.min_le_right _ _
    omega
  rcases he with he | he
  · obtain ⟨bs, r2⟩ := Dp.reads I (.tuple ds) y u he ry
    exact SeqAt.notIn_tuple_reads r2 r1 h3 h1 hroom ⟨.bl _, H, I, rfl, q⟩
  · obtain ⟨bs, r2⟩ := Dp.reads I (.list ds) y u he ry
    exact SeqAt.notIn_list_reads r2 r1 h3 h1 hroom ⟨.bl _, H, I, rfl, q⟩
theorem items_dp {G : GE} {ρ : Nat → Addr} {h : PH} {H : Hp} {v : PV} {u : V} {xs : List PV} {es : List PyData} (R : HR G.K ρ h H) (r : Rep G.K ρ h.length H v u) (e : items h v = some xs) (m : xs.mapM (toD h 63) = some es) :
    (Dp G.K H u (.tuple es) ∨ Dp G.K H u (.list es)) ∧ PyData.canLayAll0 es = true := by
  obtain ⟨a, vs, rfl, q, rs⟩ := items_sq R e r
  obtain ⟨z1, z2, z3⟩ := toD_dps R 63 xs vs es m rs
  rcases q with q | q
  · exact ⟨.inr (.lst q z1), z2⟩
  · exact ⟨.inl (.tup q z1), z2⟩
/-- a key, as it stands -/
theorem keyP_rep {K : PySem.W.Frag} {ρ : Nat → Addr} {n : Nat} {H : Hp} {v : PV} {u : V} {k : Key} (e : keyP v = some k) (r : Rep K ρ n H v u) : u = kV k := by
  cases v with
  | int i => cases e; exact r.intInv
  | str x => cases e; exact r.strInv.1
  | _ => cases e
theorem keyP_ok {K : PySem.W.Frag} {ρ : Nat → Addr} {n : Nat} {H : Hp} {v : PV} {u : V} {k : Key} (e : keyP v = some k) (r : Rep K ρ n H v u) : kOk k = true := by
  cases v with
  | int i => cases e; rfl
  | str x => cases e; exact r.strInv.2
  | _ => cases e
theorem dget_rep {K : PySem.W.Frag} {ρ : Nat → Addr} {h : PH} {H : Hp} {l : Nat} {kvs : List (Key × PV)} (R : HR K ρ h H) (e : h[l]? = some (.dic kvs)) (k : Key) : ∃ o, DGet H (ρ l) (kV k) o ∧ o.isSome = (dGet kvs k).isSome ∧ ∀ x, dGet kvs k = some x → ∃ u, o = some u ∧ Rep K ρ h.length H x u := by
  obtain ⟨us, h1, h2⟩ := R.dict e
  refine ⟨valV us k, DGet.k h1, ?_, ?_⟩
  · rcases h2.get k with ⟨e1, e2⟩ | ⟨x, u, e1, e2, r⟩
    · rw [e1, e2]; rfl
    · rw [e1, e2]; rfl
  · intro x hx
    rcases h2.get k with ⟨e1, e2⟩ | ⟨x', u, e1, e2, r⟩
    · rw [e1] at hx; cases hx
    · rw [e1] at hx; cases hx
      exact ⟨u, e2, r⟩
def rDIn (neg : Bool) : R2 := fun y x H Q => ∃ a o, x = .ref a ∧ DGet H a y o ∧ Q (.bl (if neg then !o.isSome else o.isSome)) H
theorem op_din (hu : X.A.units + 1 < cLine) : OpR X (compareOp .In) (rDIn false) := by
  intro pins s σ H x y v u Q I rx ry hh
  obtain ⟨a, o, rfl, g, q⟩ := hh
  cases ry
  exact d_in hu I g rx fun s' I' => ⟨.bl o.isSome, H, I', rfl, q⟩
theorem op_dnotin (hu : X.A.units + 1 < cLine) : OpR X (compareOp .NotIn) (rDIn true) := by
  intro pins s σ H x y v u Q I rx ry hh
  obtain ⟨a, o, rfl, g, q⟩ := hh
  cases ry
  exact d_notIn hu I g rx fun s' I' => ⟨.bl (!o.isSome), H, I', rfl, q⟩
theorem inS_inv {h : PH} {v w : PV} {q : Bool → Prop} (m : inS h v w q) : (∃ z y, w = .str z ∧ v = .str y ∧ q (!(Builtin.Str.occurrences z y 0 z.length 1).isEmpty)) ∨ (∃ l kvs k, w = .loc l ∧ h[l]? = some (.dic kvs) ∧ keyP v = some k ∧ q (dGet kvs k).isSome) ∨ ∃ d xs es, toD h 64 v = some d ∧ items h w = some xs ∧ xs.mapM (toD h 63) = some es ∧ q (es.any fun z => PyData.eqv z d) := by
  cases w with
  | str z => obtain ⟨y, rfl, m⟩ := m; exact .inl ⟨z, y, rfl, rfl, m⟩
  | loc l =>
    obtain ⟨o, e, m⟩ := m
    cases o with
    | lst xs =>
      obtain ⟨d, es, m1, m2, m3⟩ := m
      exact .inr (.inr ⟨d, xs, es, m1, by show getL h l = some xs; unfold getL; rw [e], m2, m3⟩)
    | dic kvs =>
      obtain ⟨k, m1, m2⟩ := m
      exact .inr (.inl ⟨l, kvs, k, rfl, e, m1, m2⟩)
  | _ => exact .inr (.inr m)
theorem in_ok (hu : X.A.units + 65 < cLine) : CmpOk X (compareOp .In) (fun v w h q => inS h v w q) := by
  refine ⟨_, (op_in_str.or (op_inA hu)).or (op_din (by omega)), fun G ρ h H v w u u' q Q eK R r r' m c => ?_⟩
  rcases inS_inv m with ⟨z, y, rfl, rfl, m0⟩ | ⟨l, kvs, k, rfl, e, ek, m0⟩ | ⟨d, xs, es, m1, m2, m3, m4⟩
  · rw [r.strInv.1, r'.strInv.1]
    exact .inl (.inl ⟨_, _, rfl, rfl, c _ m0⟩)
  · obtain ⟨o, g1, g2, _⟩ := dget_rep R e k
    rw [keyP_rep ek r, r'.locInv.1]
    refine .inr ⟨_, o, rfl, g1, ?_⟩
    have m' := c _ m0
    rw [← g2] at m'
    exact m'
  · obtain ⟨a1, a2, a3⟩ := toD_dp R 64 v u d m1 r
    obtain ⟨b1, b2⟩ := items_dp R r' m2 m3
    rw [eK] at a1 b1
    exact .inl (.inr ⟨d, es, a1, b1, a2, a3, b2, c _ m4⟩)
theorem notIn_ok (hu : X.A.units + 65 < cLine) : CmpOk X (compareOp .NotIn) (fun v w h q => inS h v w fun b => q (!b)) := by
  refine ⟨_, (op_notin_str.or (op_notInA hu)).or (op_dnotin (by omega)), fun G ρ h H v w u u' q Q eK R r r' m c => ?_⟩
  rcases inS_inv m with ⟨z, y, rfl, rfl, m0⟩ | ⟨l, kvs, k, rfl, e, ek, m0⟩ | ⟨d, xs, es, m1, m2, m3, m4⟩
  · rw [r.strInv.1, r'.strInv.1]
    exact .inl (.inl ⟨_, _, rfl, rfl, c _ m0⟩)
  · obtain ⟨o, g1, g2, _⟩ := dget_rep R e k
    rw [keyP_rep ek r, r'.locInv.1]
    refine .inr ⟨_, o, rfl, g1, ?_⟩
    have m' := c _ m0
    rw [← g2] at m'
    exact m'
  · obtain ⟨a1, a2, a3⟩ := toD_dp R 64 v u d m1 r
    obtain ⟨b1, b2⟩ := items_dp R r' m2 m3
    rw [eK] at a1 b1
    exact .inl (.inr ⟨d, es, a1, b1, a2, a3, b2, c _ m4⟩)
theorem cmp_ok (hu : X.A.units + 65 < cLine) (o : CmpOp) : CmpOk X (compareOp o) (cmpS o) := by
  cases o with
  | Eq => exact eq_ok (by omega)
  | NotEq => exact ne_ok (by omega)
  | Lt =>
    refine ⟨_, op_lt, fun G ρ h H v w u u' q Q eK R r r' m c => ?_⟩
    obtain ⟨i, j, rfl, rfl, m⟩ := m
    exact ⟨_, _, r.intInv, r'.intInv, c _ m⟩
  | LtE =>
    refine ⟨_, op_le, fun G ρ h H v w u u' q Q eK R r r' m c => ?_⟩
    obtain ⟨i, j, rfl, rfl, m⟩ := m
    exact ⟨_, _, r.intInv, r'.intInv, c _ m⟩
  | Gt =>
    refine ⟨_, op_gt, fun G ρ h H v w u u' q Q eK R r r' m c => ?_⟩
    obtain ⟨i, j, rfl, rfl, m⟩ := m
    exact ⟨_, _, r.intInv, r'.intInv, c _ m⟩
  | GtE =>
    refine ⟨_, op_ge, fun G ρ h H v w u u' q Q eK R r r' m c => ?_⟩
    obtain ⟨i, j, rfl, rfl, m⟩ := m
    exact ⟨_, _, r.intInv, r'.intInv, c _ m⟩
  | Is =>
    refine ⟨_, op_isN.or op_isBl, fun G ρ h H v w u u' q Q eK R r r' m c => ?_⟩
    rcases m with ⟨rfl, m⟩ | ⟨a, b, rfl, rfl, m⟩
    · refine .inl ⟨r'.nonInv, ?_⟩
      have e : decide (u = .non) = decide (v = .non) := by cases r <;> rfl
      rw [e]
      exact c _ m
    · exact .inr ⟨a, b, r.blInv, r'.blInv, c _ m⟩
  | IsNot =>
    refine ⟨_, op_notN.or op_notBl, fun G ρ h H v w u u' q Q eK R r r' m c => ?_⟩
    rcases m with ⟨rfl, m⟩ | ⟨a, b, rfl, rfl, m⟩
    · refine .inl ⟨r'.nonInv, ?_⟩
      have e : decide (u = .non) = decide (v = .non) := by cases r <;> rfl
      rw [e]
      exact c _ m
    · exact .inr ⟨a, b, r.blInv, r'.blInv, c _ m⟩
  | In => exact in_ok hu
  | NotIn => exact notIn_ok hu
/-! ### subscripts -/
theorem ixP_eq (n : Nat) (i : Int) : ixN n i = ixP n i := rfl
def rDIx : R2 := fun x y H Q => ∃ a v, x = .ref a ∧ DGet H a y (some v) ∧ Q v H
theorem ix_dic (hu : X.A.units + 1 < cLine) : IxR X rDIx := by
  intro value slice pins s σ H x y v u Q I rx ry h hs
  obtain ⟨a, z, rfl, g, q⟩ := h
  cases rx
  exact tail_any (dict_typeIs I g) PySem.F.slot_dict_getitem.lookup (d_getItem hu I g ry fun w' s' I' r' => ⟨z, H, I', r', q⟩) hs
theorem ixO_ok {G : GE} {ρ : Nat → Addr} {h : PH} {H : Hp} {w : PV} {u' : V} {q : QV} {Q : VK} {l : Nat} {o : PO} (R : HR G.K ρ h H) (e : h[l]? = some o) (r' : Rep G.K ρ h.length H w u') (m : ixO o w h q) (c : ∀ x z, Rep G.K ρ h.length H x z → q x h → Q z H) : (rIxL X.K (.ref (ρ l)) u' H Q) ∨ rDIx (.ref (ρ l)) u' H Q := by
  cases o with
  | lst xs =>
    obtain ⟨i, k, x, rfl, m2, m3, m4⟩ := m
    obtain ⟨us, e1, rs⟩ := R.list (show getL h l = some xs by unfold getL; rw [e])
    obtain ⟨z, e2, e3⟩ := rs.get m3
    refine .inl ⟨ρ l, us, i, z, rfl, r'.intInv, SqL.of e1, ?_, c _ _ e3 m4⟩
    unfold atI
    rw [ixP_eq, ← rs.length, m2]
    exact e2
  | dic kvs =>
    obtain ⟨k, y, ek, m2, m3⟩ := m
    obtain ⟨o, g1, g2, g3⟩ := dget_rep R e k
    obtain ⟨z, rfl, rz⟩ := g3 y m2
    rw [keyP_rep ek r']
    exact .inr ⟨_, z, rfl, g1, c _ _ rz m3⟩
theorem ixS_ok {G : GE} {ρ : Nat → Addr} {h : PH} {H : Hp} {v w : PV} {u u' : V} {q : QV} {Q : VK} (eK : G.K = X.K) (R : HR G.K ρ h H) (r : Rep G.K ρ h.length H v u) (r' : Rep G.K ρ h.length H w u') (m : ixS v w h q) (c : ∀ x z, Rep G.K ρ h.length H x z → q x h → Q z H) : rIx X.K u u' H Q ∨ rDIx u u' H Q := by
  have seq : ∀ i xs k x, w = .int i → items h v = some xs → ixP xs.length i = some k → xs[k]? = some x → q x h → rIx X.K u u' H Q := by
    intro i xs k x hw m1 m2 m3 m4
    subst hw
    obtain ⟨a, vs, rfl, sq, rs⟩ := items_sq R m1 r
    obtain ⟨z, e1, e2⟩ := rs.get m3
    have e3 : atI vs i = some z := by
      unfold atI
      rw [ixP_eq, ← rs.length, m2]
      exact e1
    rcases sq with sq | sq
    · exact .inl ⟨a, vs, i, z, rfl, r'.intInv, eK ▸ sq, e3, c _ _ e2 m4⟩
    · exact .inr (.inl ⟨a, vs, i, z, rfl, r'.intInv, eK ▸ sq, e3, c _ _ e2 m4⟩)
  cases v with
  | str z =>
    obtain ⟨i, k, d, rfl, m1, m2, m3, m4⟩ := m
    obtain ⟨e1, s1⟩ := r.strInv
    refine .inl (.inr (.inr ⟨z, i, d, e1, r'.intInv, m1, ?_, c _ _ (.str _ (strOk_sign s1 m3)) m4⟩))
    unfold atI
    rw [ixP_eq, show z.cps.toList.length = z.length from Array.length_toList, m2]
    exact m3
  | loc l =>
    obtain ⟨o, e, m⟩ := m
    rw [r.locInv.1]
    rcases ixO_ok (X := X) R e r' m c with q | q
    · exact .inl (.inl q)
    · exact .inr q
  | _ =>
    obtain ⟨i, xs, k, x, hw, m1, m2, m3, m4⟩ := m
    exact .inl (seq i xs k x hw m1 m2 m3 m4)
/-- v[w] as augmented assignment asks it -/
theorem get_list : PGet X (rIxL X.K) := by
  intro pins s σ H o i ov iv Q I r1 r2 hh
  obtain ⟨p, xs, k, z, rfl, rfl, hq, he, q⟩ := hh
  cases r1
  obtain ⟨t, rfl⟩ := r2
  obtain ⟨its, r, pl, hz⟩ := I.list hq
  obtain ⟨j, h1, h2, h3, h4, h5⟩ := atI_get he
  obtain ⟨w, ew, rw'⟩ := r.get h2
  have hl := r.length
  have hn := line63
  have fin : EP X pins σ Q w s := ⟨z, H, I, rw', q⟩
  by_cases h0 : 0 ≤ k
  · have hj : k.toNat = j := by
      rw [seqIndex_of h0 h5] at h1
      exact Option.some.inj h1
    exact wpAny_getItem_list pl.isList h0 (by omega) (by rw [hj]; simpa using ew) fin
  · have hj : (k + (its.toArray.size : Int)).toNat = j := by
      rw [seqIndex_neg (by omega) h4] at h1
      rw [List.size_toArray, ← hl]
      exact Option.some.inj h1
    exact wpAny_getItem_list_neg pl.isList (by omega) (by rw [List.size_toArray] <;> omega) (by omega) (by rw [hj]; simpa using ew) fin
theorem get_dic (hu : X.A.units + 1 < cLine) : PGet X (fun x y H Q => rIxL X.K x y H Q ∨ rDIx x y H Q) := by
  intro pins s σ H o i ov iv Q I r1 r2 hh
  rcases hh with hh | ⟨a, z, rfl, g, q⟩
  · exact get_list pins s σ H o i ov iv Q I r1 r2 hh
  · cases r1
    exact d_getItem hu I g r2 fun w' s' I' r' => ⟨z, H, I', r', q⟩
theorem augG_ok {G : GE} {ρ : Nat → Addr} {h : PH} {H : Hp} {v w : PV} {u u' : V} {q : QV} {Q : VK} (eK : G.K = X.K) (R : HR G.K ρ h H) (r : Rep G.K ρ h.length H v u) (r' : Rep G.K ρ h.length H w u') (m : augG v w h q) (c : ∀ x z, Rep G.K ρ h.length H x z → q x h → Q z H) : rIxL X.K u u' H Q ∨ rDIx u u' H Q := by
  obtain ⟨l, o, rfl, e, m⟩ := m
  rw [r.locInv.1]
  exact ixO_ok R e r' m c
/-! ### slices -/
theorem slS_ok {G : GE} {ρ : Nat → Addr} {h : PH} {H : Hp} {v : PV} {u : V} {lo hi : Option Int} {q : QV} {Q : VK} (eK : G.K = X.K) (R : HR G.K ρ h H) (r : Rep G.K ρ h.length H v u) (m : slS v lo hi h q) (c : Cov G (RV G) ρ h H q Q) :
    rSlA X.K u lo hi H Q ∨ rSlS u lo hi H Q ∨ rSlL X.K u lo hi H Q := by
  cases v with
  | tup xs =>
    obtain ⟨a, vs, rfl, sq, rs⟩ := r.tupInv
    have m' : q (.tup (cutP xs lo hi)) h := m
    refine .inl ⟨a, vs, rfl, eK ▸ sq, fun hw => ?_, fun _ p hp => c.newTup R (rs.cut lo hi) m' p hp⟩
    have e : cutP xs lo hi = xs := by
      unfold cutP bndP
      rw [rs.length, hw.1, hw.2, List.drop_zero, Nat.sub_zero, ← rs.length]
      exact List.take_length
    rw [e] at m'
    exact c.here R (.tup sq rs) m'
  | str z =>
    obtain ⟨e1, s1⟩ := r.strInv
    exact .inr (.inl ⟨z, e1, m.1, c.here R (.str _ (strOk_cut s1 lo hi)) m.2⟩)
  | loc l =>
    obtain ⟨xs, m1, m2⟩ := m
    obtain ⟨a, vs, rfl, sq, rs⟩ := itemsL_sq R m1 r
    exact .inr (.inr ⟨a, vs, rfl, eK ▸ sq, fun p hp => c.newLst R (rs.cut lo hi) m2 p hp⟩)
  | rol l =>
    obtain ⟨xs, m1, m2⟩ := m
    obtain ⟨a, vs, rfl, sq, rs⟩ := itemsL_sq R m1 r
    exact .inr (.inr ⟨a, vs, rfl, eK ▸ sq, fun p hp => c.newLst R (rs.cut lo hi) m2 p hp⟩)
  | _ => obtain ⟨xs, m1, m2⟩ := m; cases m1
/-! ### truth -/
theorem tru_of {G : GE} {ρ : Nat → Addr} {h : PH} {H : Hp} {v : PV} {u : V} {b : Bool} (eK : G.K = X.K) (R : HR G.K ρ h H) (r : Rep G.K ρ h.length H v u) (m : truS h v = some b) : TruV X.K u H b := by
  cases v with
  | non =>
    rw [r.nonInv]
    exact (Option.some.inj m).symm
  | bl k =>
    rw [r.blInv]
    exact (Option.some.inj m).symm
  | int i =>
    rw [r.intInv]
    exact (Option.some.inj m).symm
  | str x =>
    rw [r.strInv.1]
    simp only [truS] at m
    split at m
    · exact ⟨by assumption, (Option.some.inj m).symm⟩
    · cases m
  | tup xs =>
    obtain ⟨a, vs, rfl, sq, rs⟩ := r.tupInv
    refine .inr (.inl ⟨vs, eK ▸ sq, ?_⟩)
    have e := (Option.some.inj m).symm
    rw [e]
    cases rs <;> rfl
  | rol xs =>
    obtain ⟨a, vs, rfl, sq, rs⟩ := r.rolInv
    refine .inl ⟨vs, eK ▸ sq.sq, ?_⟩
    have e := (Option.some.inj m).symm
    rw [e]
    cases rs <;> rfl
  | loc l =>
    simp only [truS] at m
    rw [r.locInv.1]
    split at m
    · rename_i xs hx
      have e2 : getL h l = some xs := by unfold getL; rw [hx]
      obtain ⟨us, e1, rs⟩ := R.list e2
      refine .inl ⟨us, SqL.of e1, ?_⟩
      have e := (Option.some.inj m).symm
      rw [e]
      cases rs <;> rfl
    · rename_i kvs hx
      obtain ⟨us, e1, rs⟩ := R.dict hx
      refine .inr (.inr ⟨us, e1, ?_⟩)
      have e := (Option.some.inj m).symm
      rw [e]
      cases rs <;> rfl
    · cases m
  | xc k fs => cases m
end

end WD
end
section
set_option Elab.async false
set_option linter.all false
set_option maxRecDepth 100000
set_option autoImplicit false
set_option maxHeartbeats 4000000
/-! WOps3: built-in functions, methods, stores. -/
namespace WD
open PySem PySem.Spec PyProof.Rows L2
/-- the value at which a built-in function stands -/
def Bif.fn : Bif → Value
  | .len => .builtin "len"
  | .int => .type "int"
  | .str => .type "str"
  | .abs => .builtin "abs"
  | .min2 => .builtin "min"
  | .max2 => .builtin "max"
  | .isT _ => .builtin "isinstance"
  | .bool => .type "bool"
/-- the arguments as they are handed on -/
def Bif.more : Bif → List V
  | .isT t => [.ty t]
  | _ => []
section
variable {X : Cx}
theorem Reps.inv1 {K : PySem.W.Frag} {ρ : Nat → Addr} {n : Nat} {H : Hp} {v : PV} {us : List V} (r : Reps K ρ n H [v] us) : ∃ u, us = [u] ∧ Rep K ρ n H v u := by
  cases r with
  | cons a b =>
    cases b
    exact ⟨_, rfl, a⟩
theorem Reps.inv2 {K : PySem.W.Frag} {ρ : Nat → Addr} {n : Nat} {H : Hp} {v w : PV} {us : List V} (r : Reps K ρ n H [v, w] us) : ∃ u u', us = [u, u'] ∧ Rep K ρ n H v u ∧ Rep K ρ n H w u' := by
  cases r with
  | cons a b =>
    obtain ⟨u', rfl, h⟩ := b.inv1
    exact ⟨_, _, rfl, a, h⟩
theorem typ_rep {G : GE} {ρ : Nat → Addr} {h : PH} {H : Hp} {v : PV} {u : V} {t : String} {b : Bool} (R : HR G.K ρ h H) (r : Rep G.K ρ h.length H v u) (m : typB t v h = some b) : ∃ t', TyX G.K H u (.type t') ∧ PySem.W.kitOne G.K (.type t') (.type t) = some b := by
  cases v with
  | non => rw [r.nonInv]; exact ⟨_, .base .non, kit_ty m⟩
  | bl k => rw [r.blInv]; exact ⟨_, .base (.bl _), kit_ty m⟩
  | int i => rw [r.intInv]; exact ⟨_, .base (.int _), kit_ty m⟩
  | str x => rw [r.strInv.1]; exact ⟨_, .base (.str _), kit_ty m⟩
  | tup xs =>
    obtain ⟨a, vs, rfl, sq, rs⟩ := r.tupInv
    rcases sq with (sq | ⟨o, sq⟩) | ⟨o, its, n, e1, e2, _⟩
    · exact ⟨_, .base (.tup sq), kit_ty m⟩
    · exact ⟨_, .fTuple sq, kit_ty m⟩
    · exact ⟨_, .kTuple e1 e2, kit_ty m⟩
  | rol xs =>
    obtain ⟨a, vs, rfl, sq, rs⟩ := r.rolInv
    rcases sq.sq with (sq | ⟨o, sq⟩) | ⟨o, its, n, e1, e2, _⟩
    · exact ⟨_, .base (.lst sq), kit_ty m⟩
    · exact ⟨_, .base (.frz sq), kit_ty m⟩
    · exact ⟨_, .kList e1 e2, kit_ty m⟩
  | loc l =>
    rw [r.locInv.1]
    simp only [typB] at m
    split at m
    · rename_i xs hx
      have e2 : getL h l = some xs := by unfold getL; rw [hx]
      obtain ⟨us, e1, rs⟩ := R.list e2
      exact ⟨_, .base (.lst e1), kit_ty m⟩
    · rename_i kvs hx
      obtain ⟨us, e1, rs⟩ := R.dict hx
      exact ⟨_, .base (.dK e1), kit_ty m⟩
    · cases m
  | xc k fs => cases m
/-- a built-in function by its arguments -/
def CallOk (X : Cx) (f : Value) (more : List V) (m : List PV → PH → QV → Prop) : Prop :=
  ∃ r : List V → Hp → VK → Prop, CallR X f r ∧ ∀ (G : GE) (ρ : Nat → Addr) (h : PH) (H : Hp) (vs : List PV) (us : List V) (q : QV) (Q : VK), G.K = X.K → HR G.K ρ h H → Reps G.K ρ h.length H vs us → m vs h q → Cov G (RV G) ρ h H q Q → r (us ++ more) H Q
def rLenD : List V → Hp → VK → Prop := fun xs H Q => ∃ a kvs, xs = [V.ref a] ∧ H a = some (.dK kvs) ∧ Q (.int kvs.length) H
theorem len_rep {G : GE} {ρ : Nat → Addr} {h : PH} {H : Hp} {v : PV} {u : V} {n : Nat} (eK : G.K = X.K) (R : HR G.K ρ h H) (r : Rep G.K ρ h.length H v u) (m : lenP h v = some n) : LenV X.K u H n ∨ ∃ a kvs, u = .ref a ∧ H a = some (.dK kvs) ∧ kvs.length = n := by
  have seq : ∀ xs, items h v = some xs → xs.length = n → LenV X.K u H n ∨ ∃ a kvs, u = .ref a ∧ H a = some (.dK kvs) ∧ kvs.length = n := fun xs e e2 => by
    obtain ⟨a, ws, rfl, sq, rs⟩ := items_sq R e r
    rcases sq with sq | sq
    · exact .inl (.inl ⟨ws, eK ▸ sq, by rw [← e2]; exact rs.length.symm ▸ rfl⟩)
    · exact .inl (.inr ⟨ws, eK ▸ sq, by rw [← e2]; exact rs.length.symm ▸ rfl⟩)
  cases v with
  | str x =>
    rw [r.strInv.1]
    simp only [lenP] at m
    split at m
    · exact .inl ⟨by assumption, (Option.some.inj m).symm ▸ rfl⟩
    · cases m
  | tup xs => exact seq xs rfl (Option.some.inj m)
  | rol xs => exact seq xs rfl (Option.some.inj m)
  | loc l =>
    simp only [lenP] at m
    split at m
    · rename_i xs hx
      exact seq xs (by show getL h l = some xs; unfold getL; rw [hx]) (Option.some.inj m)
    · rename_i kvs hx
      obtain ⟨us, e1, rs⟩ := R.dict hx
      exact .inr ⟨_, us, r.locInv.1, e1, by rw [← rs.length]; exact Option.some.inj m⟩
    · cases m
  | _ => cases m
theorem bif_ok (hc : X.calm = true) (b : Bif) : CallOk X b.fn b.more (bifS b) := by
  cases b with
  | len =>
    refine ⟨_, call_len.or call_lenD, fun G ρ h H vs us q Q eK R r m c => ?_⟩
    obtain ⟨v, n, rfl, m1, m2⟩ := m
    obtain ⟨u, rfl, r1⟩ := r.inv1
    rcases len_rep eK R r1 m1 with z | ⟨a, kvs, e1, e2, e3⟩
    · exact .inl ⟨u, n, rfl, z, c.here R (.int _) m2⟩
    · subst e1 e3
      exact .inr ⟨a, kvs, rfl, e2, c.here R (.int _) m2⟩
  | int =>
    refine ⟨_, call_int1, fun G ρ h H vs us q Q eK R r m c => ?_⟩
    obtain ⟨v, n, rfl, m1, m2⟩ := m
    obtain ⟨u, rfl, r1⟩ := r.inv1
    cases v with
    | int i =>
      cases m1
      rw [r1.intInv]
      exact .inl ⟨_, rfl, c.here R (.int _) m2⟩
    | bl k =>
      cases m1
      rw [r1.blInv]
      exact .inr ⟨_, rfl, c.here R (.int _) m2⟩
    | _ => cases m1
  | bool =>
    refine ⟨_, call_bool1, fun G ρ h H vs us q Q eK R r m c => ?_⟩
    obtain ⟨v, n, rfl, m1, m2⟩ := m
    obtain ⟨u, rfl, r1⟩ := r.inv1
    cases v with
    | int i =>
      cases m1
      rw [r1.intInv]
      exact .inl ⟨_, rfl, c.here R (.bl _) m2⟩
    | bl k =>
      cases m1
      rw [r1.blInv]
      exact .inr ⟨_, rfl, c.here R (.bl _) m2⟩
    | _ => cases m1
  | str =>
    refine ⟨_, call_str_int.or SkE.call_str_str, fun G ρ h H vs us q Q eK R r m c => ?_⟩
    obtain ⟨v, x, rfl, m1, m2⟩ := m
    obtain ⟨u, rfl, r1⟩ := r.inv1
    cases v with
    | int i =>
      simp only [strP] at m1
      split at m1
      · cases m1
        rw [r1.intInv]
        exact .inl ⟨_, rfl, by assumption, c.here R (.str _ (strOk_int i)) m2⟩
      · cases m1
    | str z =>
      cases m1
      obtain ⟨e1, s1⟩ := r1.strInv
      rw [e1]
      exact .inr ⟨_, rfl, c.here R (.str _ s1) m2⟩
    | _ => cases m1
  | abs =>
    refine ⟨_, call_abs, fun G ρ h H vs us q Q eK R r m c => ?_⟩
    obtain ⟨i, rfl, m⟩ := m
    obtain ⟨u, rfl, r1⟩ := r.inv1
    rw [r1.intInv]
    exact ⟨_, rfl, c.here R (.int _) m⟩
  | min2 =>
    refine ⟨_, call_min2 hc, fun G ρ h H vs us q Q eK R r m c => ?_⟩
    obtain ⟨i, j, rfl, m⟩ := m
    obtain ⟨u, u', rfl, r1, r2⟩ := r.inv2
    rw [r1.intInv, r2.intInv]
    exact ⟨_, _, rfl, c.here R (.int _) m⟩
  | max2 =>
    refine ⟨_, call_max2 hc, fun G ρ h H vs us q Q eK R r m c => ?_⟩
    obtain ⟨i, j, rfl, m⟩ := m
    obtain ⟨u, u', rfl, r1, r2⟩ := r.inv2
    rw [r1.intInv, r2.intInv]
    exact ⟨_, _, rfl, c.here R (.int _) m⟩
  | isT t =>
    refine ⟨_, call_isi, fun G ρ h H vs us q Q eK R r m c => ?_⟩
    obtain ⟨v, b, rfl, m1, m2⟩ := m
    obtain ⟨u, rfl, r1⟩ := r.inv1
    obtain ⟨t', h1, h2⟩ := typ_rep R r1 m1
    exact ⟨u, .ty t, .type t', .type t, b, rfl, .ty t, eK ▸ h1, eK ▸ h2, c.here R (.bl _) m2⟩
/-! ### functions of a list's items -/
def Lif.fn : Lif → Value
  | .tuple => .type "tuple"
  | .len => .builtin "len"
  | .sum => .builtin "sum"
  | .max => .builtin "max"
  | .min => .builtin "min"
  | .all => .builtin "all"
  | .any => .builtin "any"
/-- what a list's value is: one that stands, or one just made (not tracked) -/
inductive LR (G : GE) (ρ : Nat → Addr) (n : Nat) (H : Hp) : LV → V → Prop
  | v {v : PV} {u : V} : Rep G.K ρ n H v u → LR G ρ n H (.v v) u
  | t {xs : List PV} {us : List V} {p : Addr} : H p = some (.lst us) → (∀ l, l < n → ρ l ≠ p) → Reps G.K ρ n H xs us → LR G ρ n H (.t xs) (.ref p)
theorem lvA_sq {G : GE} {ρ : Nat → Addr} {h : PH} {H : Hp} {v : LV} {u : V} {xs : List PV} (R : HR G.K ρ h H) (e : lvA h v = some xs) (r : LR G ρ h.length H v u) : ∃ a vs, u = .ref a ∧ (SqL G.K H a vs ∨ SqT G.K H a vs) ∧ Reps G.K ρ h.length H xs vs := by
  cases r with
  | v r => exact items_sq R e r
  | t h1 h2 h3 =>
    cases e
    exact ⟨_, _, rfl, .inl (SqL.of h1), h3⟩
theorem lvL_sq {G : GE} {ρ : Nat → Addr} {h : PH} {H : Hp} {v : LV} {u : V} {xs : List PV} (R : HR G.K ρ h H) (e : lvL h v = some xs) (r : LR G ρ h.length H v u) : ∃ a vs, u = .ref a ∧ SqL G.K H a vs ∧ Reps G.K ρ h.length H xs vs := by
  cases r with
  | v r => exact itemsL_sq R e r
  | t h1 h2 h3 =>
    cases e
    exact ⟨_, _, rfl, SqL.of h1, h3⟩
theorem lvM_sq {G : GE} {ρ : Nat → Addr} {h : PH} {H : Hp} {v : LV} {u : V} {xs : List PV} (R : HR G.K ρ h H) (e : lvM h v = some xs) (r : LR G ρ h.length H v u) : ∃ a vs, u = .ref a ∧ H a = some (.lst vs) ∧ Reps G.K ρ h.length H xs vs := by
  cases r with
  | @v v u r =>
    cases v with
    | loc l =>
      obtain ⟨us, h1, h2⟩ := R.list (show getL h l = some xs from e)
      exact ⟨_, us, r.locInv.1, h1, h2⟩
    | _ => cases e
  | t h1 h2 h3 =>
    cases e
    exact ⟨_, _, rfl, h1, h3⟩
theorem LR.ext {G : GE} {ρ ρ' : Nat → Addr} {h h' : PH} {H H' : Hp} {v : LV} {u : V} (R : HR G.K ρ h H) (E : Ext ρ h.length H ρ' h'.length H') (r : LR G ρ h.length H v u) : LR G ρ' h'.length H' v u := by
  cases r with
  | v r => exact .v (r.ext R E)
  | @t xs us p h1 h2 h3 =>
    refine .t (E.keep p _ h1 h2) (fun l hl z => ?_) (Reps.ext R E h3)
    by_cases q : l < h.length
    · rw [E.eq l q] at z
      exact h2 l q z
    · have := E.new l (Nat.le_of_not_lt q) hl
      rw [z, h1] at this
      cases this
theorem ints_rep {K : PySem.W.Frag} {ρ : Nat → Addr} {n : Nat} {H : Hp} : ∀ {xs : List PV} {us : List V} {ns : List Int}, intsOf xs = some ns → Reps K ρ n H xs us → us = ns.map V.int
  | [], us, ns, e, r => by cases e; cases r; rfl
  | .int i :: xs, us, ns, e, r => by
    simp only [intsOf, Option.map_eq_some_iff] at e
    obtain ⟨ms, e1, rfl⟩ := e
    cases r with
    | cons r1 r2 =>
      rw [r1.intInv, ints_rep e1 r2]
      rfl
  | .non :: _, _, _, e, _ | .bl _ :: _, _, _, e, _ | .str _ :: _, _, _, e, _ | .tup _ :: _, _, _, e, _ | .rol _ :: _, _, _, e, _ | .loc _ :: _, _, _, e, _ | .xc _ _ :: _, _, _, e, _ => by cases e
theorem strs_rep {K : PySem.W.Frag} {ρ : Nat → Addr} {n : Nat} {H : Hp} : ∀ {xs : List PV} {us : List V} {ns : List Str}, strsOf xs = some ns → Reps K ρ n H xs us → us = ns.map V.str ∧ ∀ z ∈ ns, PyData.strOk z = true
  | [], us, ns, e, r => by cases e; cases r; exact ⟨rfl, by simp⟩
  | .str i :: xs, us, ns, e, r => by
    simp only [strsOf, Option.map_eq_some_iff] at e
    obtain ⟨ms, e1, rfl⟩ := e
    cases r with
    | cons r1 r2 =>
      obtain ⟨z1, z2⟩ := strs_rep e1 r2
      rw [r1.strInv.1, z1]
      refine ⟨rfl, fun z hz => ?_⟩
      rcases List.mem_cons.mp hz with rfl | hz
      · exact r1.strInv.2
      · exact z2 z hz
  | .non :: _, _, _, e, _ | .bl _ :: _, _, _, e, _ | .int _ :: _, _, _, e, _ | .tup _ :: _, _, _, e, _ | .rol _ :: _, _, _, e, _ | .loc _ :: _, _, _, e, _ | .xc _ _ :: _, _, _, e, _ => by cases e
theorem reps_strs {K : PySem.W.Frag} {ρ : Nat → Addr} {n : Nat} {H : Hp} : ∀ {zs : List Str}, (∀ z ∈ zs, PyData.strOk z = true) → Reps K ρ n H (zs.map .str) (zs.map V.str)
  | [], _ => .nil
  | z :: zs, h => .cons (.str z (h z (by simp))) (reps_strs fun y hy => h y (by simp [hy]))
theorem reps_ints {K : PySem.W.Frag} {ρ : Nat → Addr} {n : Nat} {H : Hp} : ∀ ns : List Int, Reps K ρ n H (ns.map .int) (ns.map V.int)
  | [] => .nil
  | i :: r => .cons (.int i) (reps_ints r)
theorem bls_rep {K : PySem.W.Frag} {ρ : Nat → Addr} {n : Nat} {H : Hp} : ∀ {xs : List PV} {us : List V} {ns : List Bool}, blsOf xs = some ns → Reps K ρ n H xs us → us = ns.map V.bl
  | [], us, ns, e, r => by cases e; cases r; rfl
  | .bl i :: xs, us, ns, e, r => by
    simp only [blsOf, Option.map_eq_some_iff] at e
    obtain ⟨ms, e1, rfl⟩ := e
    cases r with
    | cons r1 r2 =>
      rw [r1.blInv, bls_rep e1 r2]
      rfl
  | .non :: _, _, _, e, _ | .int _ :: _, _, _, e, _ | .str _ :: _, _, _, e, _ | .tup _ :: _, _, _, e, _ | .rol _ :: _, _, _, e, _ | .loc _ :: _, _, _, e, _ | .xc _ _ :: _, _, _, e, _ => by cases e
/-- a function of a list's items -/
def LifOk (X : Cx) (f : Value) (b : Lif) : Prop :=
  ∃ r : List V → Hp → VK → Prop, CallR X f r ∧ ∀ (G : GE) (ρ : Nat → Addr) (h : PH) (H : Hp) (v : LV) (u : V) (xs : List PV) (q : QV) (Q : VK), G.K = X.K → HR G.K ρ h H → LR G ρ h.length H v u → lvB b h v = some xs → lifS b xs h q → Cov G (RV G) ρ h H q Q → r [u] H Q
theorem lif_ok (hc : X.calm = true) (b : Lif) : LifOk X b.fn b := by
  cases b with
  | tuple =>
    refine ⟨_, call_tuple_of, fun G ρ h H v u xs q Q eK R r e m c => ?_⟩
    obtain ⟨a, vs, rfl, sq, rs⟩ := lvA_sq R e r
    rcases sq with sq | sq
    · exact ⟨a, vs, rfl, .inl ⟨eK ▸ sq, fun p hp => c.newTup R rs m p hp⟩⟩
    · exact ⟨a, vs, rfl, .inr ⟨eK ▸ sq, c.here R (.tup sq rs) m⟩⟩
  | len =>
    refine ⟨_, call_len, fun G ρ h H v u xs q Q eK R r e m c => ?_⟩
    obtain ⟨a, vs, rfl, sq, rs⟩ := lvA_sq R e r
    have m' : q (.int xs.length) h := m
    rcases sq with sq | sq
    · exact ⟨.ref a, xs.length, rfl, .inl ⟨vs, eK ▸ sq, rs.length.symm ▸ rfl⟩, c.here R (.int _) m'⟩
    · exact ⟨.ref a, xs.length, rfl, .inr ⟨vs, eK ▸ sq, rs.length.symm ▸ rfl⟩, c.here R (.int _) m'⟩
  | sum =>
    refine ⟨_, cr_sum hc, fun G ρ h H v u xs q Q eK R r e m c => ?_⟩
    obtain ⟨a, vs, rfl, sq, rs⟩ := lvL_sq R e r
    obtain ⟨ns, m1, m2⟩ := m
    have z := ints_rep m1 rs
    subst z
    exact ⟨a, ns, rfl, eK ▸ sq, c.here R (.int _) m2⟩
  | max =>
    refine ⟨_, cr_max hc, fun G ρ h H v u xs q Q eK R r e m c => ?_⟩
    obtain ⟨a, vs, rfl, sq, rs⟩ := lvL_sq R e r
    obtain ⟨ns, m1, m2, m3⟩ := m
    have z := ints_rep m1 rs
    subst z
    exact ⟨a, ns, rfl, eK ▸ sq, m2, fun y h1 h2 => c.here R (.int _) (m3 y h1 h2)⟩
  | min =>
    refine ⟨_, cr_min hc, fun G ρ h H v u xs q Q eK R r e m c => ?_⟩
    obtain ⟨a, vs, rfl, sq, rs⟩ := lvL_sq R e r
    obtain ⟨ns, m1, m2, m3⟩ := m
    have z := ints_rep m1 rs
    subst z
    exact ⟨a, ns, rfl, eK ▸ sq, m2, fun y h1 h2 => c.here R (.int _) (m3 y h1 h2)⟩
  | all =>
    refine ⟨_, cr_all hc, fun G ρ h H v u xs q Q eK R r e m c => ?_⟩
    obtain ⟨a, vs, rfl, sq, rs⟩ := lvL_sq R e r
    obtain ⟨ns, m1, m2⟩ := m
    have z := bls_rep m1 rs
    subst z
    exact ⟨a, ns, rfl, eK ▸ sq, c.here R (.bl _) m2⟩
  | any =>
    refine ⟨_, cr_any hc, fun G ρ h H v u xs q Q eK R r e m c => ?_⟩
    obtain ⟨a, vs, rfl, sq, rs⟩ := lvL_sq R e r
    obtain ⟨ns, m1, m2⟩ := m
    have z := bls_rep m1 rs
    subst z
    exact ⟨a, ns, rfl, eK ▸ sq, c.here R (.bl _) m2⟩
/-! ### methods -/
def Mth.id : Mth → String
  | .append => "list.append"
  | .pop => "list.pop"
  | .popAt => "list.pop"
  | .insert => "list.insert"
  | .reverse => "list.reverse"
  | .get => "dict.get"
  | .getD => "dict.get"
def Mth.name : Mth → Str
  | .append => "append"
  | .pop => "pop"
  | .popAt => "pop"
  | .insert => "insert"
  | .reverse => "reverse"
  | .get => "get"
  | .getD => "get"
def Mth.ty (m : Mth) : String := if m.dict then "dict" else "list"
theorem mt_dget (hu : X.A.units + 1 < cLine) : MtR X "dict.get" (fun x xs H Q => ∃ a y o, x = .ref a ∧ xs = [y] ∧ DGet H a y o ∧ Q (o.getD .non) H) := by
  intro pins s σ H x xs v us Q I rx rs h
  obtain ⟨a, y, o, rfl, rfl, g, q⟩ := h
  cases rx
  obtain ⟨u, rfl, ru⟩ := vals1 rs
  exact d_get1 hu I g ru fun w' s' I' r' => ⟨_, H, I', r', q⟩
theorem mt_dgetD (hu : X.A.units + 1 < cLine) : MtR X "dict.get" (fun x xs H Q => ∃ a y z o, x = .ref a ∧ xs = [y, z] ∧ DGet H a y o ∧ Q (o.getD z) H) := by
  intro pins s σ H x xs v us Q I rx rs h
  obtain ⟨a, y, z, o, rfl, rfl, g, q⟩ := h
  cases rx
  obtain ⟨u, u', rfl, ru, ru'⟩ := vals2 rs
  exact d_get2 hu I g ru ru' fun w' s' I' r' => ⟨_, H, I', r', q⟩
/-- a tracked list written, as the layer asks it -/
theorem Cov.wrote {G : GE} {ρ : Nat → Addr} {h : PH} {H : Hp} {q : QV} {Q : VK} {l : Nat} {xs : List PV} {us : List V} {v : PV} {u : V} (c : Cov G (RV G) ρ h H q Q) (R : HR G.K ρ h H) (hl : l < h.length) (rs : Reps G.K ρ h.length H xs us) (r : Rep G.K ρ h.length H v u)
    (k : q v (h.set l (.lst xs))) : Q u (upd H (ρ l) (.lst us)) :=
  c ρ (h.set l (.lst xs)) _ v u (Ext.write' R hl) (R.write hl (.lst rs)) (r.ext R (Ext.write' R hl)) k
theorem ixP_seq {n k : Nat} {i : Int} (e : ixP n i = some k) : seqIndex? i n = some k ∧ k < n ∧ -(n : Int) ≤ i ∧ i < n := ixN_seq e
theorem mth_inv {m : Mth} {v : PV} {vs : List PV} {h : PH} {q : QV} (z : mthS m v vs h q) : ∃ l, v = .loc l ∧ ((m.dict = false ∧ ∃ xs, getL h l = some xs ∧ mthO m (.lst xs) vs l h q) ∨ (m.dict = true ∧ ∃ kvs, h[l]? = some (.dic kvs) ∧ mthO m (.dic kvs) vs l h q)) := by
  obtain ⟨l, o, rfl, e, z⟩ := z
  refine ⟨l, rfl, ?_⟩
  cases o with
  | lst xs =>
    refine .inl ⟨?_, xs, by unfold getL; rw [e], z⟩
    cases m <;> first | rfl | (exfalso; revert z; unfold mthO; intro z; exact z)
  | dic kvs =>
    refine .inr ⟨?_, kvs, e, z⟩
    cases m <;> first | rfl | (exfalso; revert z; unfold mthO; intro z; exact z)
theorem mth_ok (hu : X.A.units + 1 < cLine) (m : Mth) : ∃ r : V → List V → Hp → VK → Prop, MtR X m.id r ∧ ∀ (G : GE) (ρ : Nat → Addr) (h : PH) (H : Hp) (v : PV) (u : V) (vs : List PV) (us : List V) (q : QV) (Q : VK), G.K = X.K → HR G.K ρ h H → Rep G.K ρ h.length H v u → Reps G.K ρ h.length H vs us → mthS m v vs h q → Cov G (RV G) ρ h H q Q →
    r u us H Q := by
  cases m with
  | append =>
    refine ⟨rAppend, mt_append, fun G ρ h H v u vs us q Q eK R r rs m c => ?_⟩
    obtain ⟨l, rfl, ⟨_, xs, m1, m⟩ | ⟨m0, _⟩⟩ := mth_inv m
    · match vs, m with
      | [y], m =>
        obtain ⟨m2, m3⟩ := m
        obtain ⟨ws, h1, h2⟩ := R.list m1
        obtain ⟨z, rfl, rz⟩ := rs.inv1
        exact ⟨ρ l, ws, z, r.locInv.1, rfl, h1, by rw [← h2.length]; exact m2, c.wrote R (getL_lt m1) (h2.append (.cons rz .nil)) .non m3⟩
    · cases m0
  | pop =>
    refine ⟨rPop, mt_pop, fun G ρ h H v u vs us q Q eK R r rs m c => ?_⟩
    obtain ⟨l, rfl, ⟨_, xs, m1, m⟩ | ⟨m0, _⟩⟩ := mth_inv m
    · match vs, m with
      | [], m =>
        obtain ⟨y, m2, m3⟩ := m
        obtain ⟨ws, h1, h2⟩ := R.list m1
        cases rs
        obtain ⟨z, e1, e2⟩ := h2.get m2
        exact ⟨ρ l, ws, z, r.locInv.1, rfl, h1, by rw [← h2.length]; exact e1, c.wrote R (getL_lt m1) h2.dropLast e2 m3⟩
    · cases m0
  | popAt =>
    refine ⟨rPopAt, mt_popAt, fun G ρ h H v u vs us q Q eK R r rs m c => ?_⟩
    obtain ⟨l, rfl, ⟨_, xs, m1, m⟩ | ⟨m0, _⟩⟩ := mth_inv m
    · match vs, m with
      | [.int i], m =>
        obtain ⟨k, y, m0, m2, m3, m4⟩ := m
        obtain ⟨ws, h1, h2⟩ := R.list m1
        obtain ⟨z, rfl, rz⟩ := rs.inv1
        obtain ⟨x, e1, e2⟩ := h2.get m3
        obtain ⟨a1, a2, a3, a4⟩ := ixP_seq m2
        exact ⟨ρ l, ws, i, k, x, r.locInv.1, by rw [rz.intInv], h1, m0.1, m0.2, by rw [← h2.length]; exact a1, e1, c.wrote R (getL_lt m1) (h2.erase k) e2 m4⟩
    · cases m0
  | insert =>
    refine ⟨_, mt_insert, fun G ρ h H v u vs us q Q eK R r rs m c => ?_⟩
    obtain ⟨l, rfl, ⟨_, xs, m1, m⟩ | ⟨m0, _⟩⟩ := mth_inv m
    · match vs, m with
      | [.int i, y], m =>
        obtain ⟨m2, m3, m4, m5⟩ := m
        obtain ⟨ws, h1, h2⟩ := R.list m1
        obtain ⟨z, z', rfl, rz, rz'⟩ := rs.inv2
        refine ⟨ρ l, ws, i, z', r.locInv.1, by rw [rz.intInv], h1, by rw [← h2.length]; exact m2, m3, m4, c.wrote R (getL_lt m1) (us := ws.take i.toNat ++ [z'] ++ ws.drop i.toNat) ?_ .non m5⟩
        have e : xs.take i.toNat ++ y :: xs.drop i.toNat = xs.take i.toNat ++ [y] ++ xs.drop i.toNat := by simp
        rw [e]
        exact ((h2.take _).append (.cons rz' .nil)).append (h2.drop _)
    · cases m0
  | reverse =>
    refine ⟨rReverse, mt_reverse, fun G ρ h H v u vs us q Q eK R r rs m c => ?_⟩
    obtain ⟨l, rfl, ⟨_, xs, m1, m⟩ | ⟨m0, _⟩⟩ := mth_inv m
    · match vs, m with
      | [], m =>
        obtain ⟨ws, h1, h2⟩ := R.list m1
        cases rs
        exact ⟨ρ l, ws, r.locInv.1, rfl, h1, c.wrote R (getL_lt m1) h2.reverse .non m⟩
    · cases m0
  | get =>
    refine ⟨_, mt_dget hu, fun G ρ h H v u vs us q Q eK R r rs m c => ?_⟩
    obtain ⟨l, rfl, ⟨m0, _⟩ | ⟨_, kvs, m1, m⟩⟩ := mth_inv m
    · cases m0
    · match vs, m with
      | [y], m =>
        obtain ⟨k, ek, m2⟩ := m
        obtain ⟨z, rfl, rz⟩ := rs.inv1
        obtain ⟨o, g1, g2, g3⟩ := dget_rep R m1 k
        refine ⟨_, z, o, r.locInv.1, rfl, keyP_rep ek rz ▸ g1, ?_⟩
        cases e : dGet kvs k with
        | none =>
          rw [e] at g2 m2
          cases o with
          | none => exact c.here R .non m2
          | some _ => cases g2
        | some x =>
          obtain ⟨w, rfl, rw'⟩ := g3 x e
          rw [e] at m2
          exact c.here R rw' m2
  | getD =>
    refine ⟨_, mt_dgetD hu, fun G ρ h H v u vs us q Q eK R r rs m c => ?_⟩
    obtain ⟨l, rfl, ⟨m0, _⟩ | ⟨_, kvs, m1, m⟩⟩ := mth_inv m
    · cases m0
    · match vs, m with
      | [y, y2], m =>
        obtain ⟨k, ek, m2⟩ := m
        obtain ⟨z, z2, rfl, rz, rz2⟩ := rs.inv2
        obtain ⟨o, g1, g2, g3⟩ := dget_rep R m1 k
        refine ⟨_, z, z2, o, r.locInv.1, rfl, keyP_rep ek rz ▸ g1, ?_⟩
        cases e : dGet kvs k with
        | none =>
          rw [e] at g2 m2
          cases o with
          | none => exact c.here R rz2 m2
          | some _ => cases g2
        | some x =>
          obtain ⟨w, rfl, rw'⟩ := g3 x e
          rw [e] at m2
          exact c.here R rw' m2
theorem ext_ok : ∃ r : V → List V → Hp → VK → Prop, MtR X "list.extend" r ∧ ∀ (G : GE) (ρ : Nat → Addr) (h : PH) (H : Hp) (l : Nat) (w : LV) (u u' : V) (xs ys : List PV) (q : QV) (Q : VK), G.K = X.K → HR G.K ρ h H → Rep G.K ρ h.length H (.loc l) u → LR G ρ h.length H w u' → getL h l = some xs → lvM h w = some ys → xs.length + ys.length ≤ sizeLine → q .non (h.set l (.lst (xs ++ ys))) → Cov G (RV G) ρ h H q Q →
    r u [u'] H Q := by
  refine ⟨rExtend, mt_extend, fun G ρ h H l w u u' xs ys q Q eK R r r' m1 m2 m3 m4 c => ?_⟩
  obtain ⟨ws, h1, h2⟩ := R.list m1
  obtain ⟨b, zs, rfl, k1, k2⟩ := lvM_sq R m2 r'
  exact ⟨ρ l, b, ws, zs, r.locInv.1, rfl, h1, k1, by rw [← h2.length, ← k2.length]; exact m3, c.wrote R (getL_lt m1) (h2.append k2) .non m4⟩
/-! ### stores -/
theorem set_dic (hu : X.A.units + 1 < cLine) : PSet X (fun x y z H Q => rSetL x y z H Q ∨ ∃ a H', x = .ref a ∧ DPut H a y z H' ∧ Q H') := by
  intro pins s σ H o i v ov iv u Q I r1 r2 r3 hh
  rcases hh with hh | ⟨a, H', rfl, g, q⟩
  · exact set_list pins s σ H o i v ov iv u Q I r1 r2 r3 hh
  · cases r1
    exact d_setItem hu I g r2 r3 fun s' I' => ⟨H', I', q⟩
theorem setS_ok {G : GE} {ρ : Nat → Addr} {h : PH} {H : Hp} {v i w : PV} {u k z : V} {q : PH → Prop} {Q : Hp → Prop} (R : HR G.K ρ h H) (r : Rep G.K ρ h.length H v u) (ri : Rep G.K ρ h.length H i k) (rw' : Rep G.K ρ h.length H w z) (m : setS v i w h q)
    (c : ∀ h' H', Ext ρ h.length H ρ h'.length H' → HR G.K ρ h' H' → q h' → Q H') : rSetL u k z H Q ∨ ∃ a H', u = .ref a ∧ DPut H a k z H' ∧ Q H' := by
  obtain ⟨l, o, rfl, e, m⟩ := m
  cases o with
  | lst xs =>
    obtain ⟨j, p, rfl, m2, m3⟩ := m
    have m1 : getL h l = some xs := by unfold getL; rw [e]
    obtain ⟨ws, h1, h2⟩ := R.list m1
    exact .inl ⟨ρ l, ws, j, p, r.locInv.1, ri.intInv, h1, by rw [← h2.length]; exact m2, c _ _ (Ext.write' R (getL_lt m1)) (R.write (getL_lt m1) (.lst (Reps.set rw' p h2))) m3⟩
  | dic kvs =>
    obtain ⟨j, ek, m2, m3⟩ := m
    obtain ⟨ws, h1, h2⟩ := R.dict e
    have hl : l < h.length := (List.getElem?_eq_some_iff.mp e).1
    rw [keyP_rep ek ri]
    exact .inr ⟨ρ l, _, r.locInv.1, DPut.k h1 (by rw [← h2.length]; exact m2), c _ _ (Ext.write' R hl) (R.write hl (.dic (h2.put rw' j (keyP_ok ek ri)))) m3⟩
/-- in place -/
theorem aug_ok (o : Operator) : ∃ r : TIp, PIp X o r ∧ ∀ (G : GE) (ρ : Nat → Addr) (h : PH) (H : Hp) (v w : PV) (u u' : V) (q : QV) (Q : VK), G.K = X.K → HR G.K ρ h H → Rep G.K ρ h.length H v u → Rep G.K ρ h.length H w u' → augB o v w h q → Cov G (RV G) ρ h H q Q → r u u' H Q := by
  have no : (∀ v w h q, ¬ augB o v w h q) → ∃ r : TIp, PIp X o r ∧ ∀ (G : GE) (ρ : Nat → Addr) (h : PH) (H : Hp) (v w : PV) (u u' : V) (q : QV) (Q : VK), G.K = X.K → HR G.K ρ h H → Rep G.K ρ h.length H v u → Rep G.K ρ h.length H w u' → augB o v w h q → Cov G (RV G) ρ h H q Q → r u u' H Q := fun z =>
    ⟨fun _ _ _ _ => False, fun _ _ _ _ _ _ _ _ _ _ _ _ q => q.elim, fun G ρ h H v w u u' q Q _ _ _ _ m _ => z _ _ _ _ m⟩
  cases o with
  | Add =>
    refine ⟨fun x y H Q => ipI (fun i j => i + j) x y H Q ∨ (∃ i j, x = .str i ∧ y = .str j ∧ i.length + j.length ≤ sizeLine ∧ Q (.str (i ++ j)) H), fun pins s σ H x y v u Q I r1 r2 q => ?_, fun G ρ h H v w u u' q Q eK R r r' m c => ?_⟩
    · rcases q with q | q
      · exact ip_add pins s σ H x y v u Q I r1 r2 q
      · exact iop_add_str pins s σ H x y v u Q I r1 r2 q
    · cases v <;> cases w <;> try (exact (m : False).elim)
      · rw [r.intInv, r'.intInv]
        exact .inl ⟨_, _, rfl, rfl, c.here R (.int _) m⟩
      · obtain ⟨e1, s1⟩ := r.strInv
        obtain ⟨e2, s2⟩ := r'.strInv
        rw [e1, e2]
        exact .inr ⟨_, _, rfl, rfl, m.1, c.here R (.str _ (strOk_append s1 s2)) m.2⟩
  | Sub =>
    refine ⟨_, ip_sub, fun G ρ h H v w u u' q Q eK R r r' m c => ?_⟩
    cases v <;> cases w <;> try (exact (m : False).elim)
    rw [r.intInv, r'.intInv]
    exact ⟨_, _, rfl, rfl, c.here R (.int _) m⟩
  | _ => exact no fun v w h q m => by cases v <;> cases w <;> exact m
end
end WD
end
section
set_option Elab.async false
set_option linter.all false
set_option maxRecDepth 100000
set_option autoImplicit false
set_option maxHeartbeats 4000000
/-! WLoop: what a loop walks: lists, tuples, texts by one rule; ranges; enumerate. -/
namespace WD
open PySem PySem.Spec PyProof.Rows L2

/-- a list, a tuple or a text, whatever it is -/
def iSeq (K : PySem.W.Frag) (tl : TE) : TI := fun σ H R => tl σ H fun x H1 =>
  (∃ a, x = .ref a ∧ (∃ xs, SqL K H1 a xs) ∧ R (Itl K a) H1) ∨ (∃ a, x = .ref a ∧ (∃ xs, SqT K H1 a xs) ∧ R (Itt K a) H1) ∨ ∃ z, x = .str z ∧ R (Its z) H1
/-- an expression that gives this very value, for the rules' sake -/
theorem pi_seq {X : Cx} {tg e : Expr} {te : TE} (he : PE X e te) : PI X tg e (iSeq X.K te) := by
  refine ⟨fun pins s σ H R I h => ?_⟩
  -- the walk of a value that is known
  have fin : ∀ (u : Value) (s1 : Shared) (x : V) (H1 : Hp), Inv X pins σ H1 s1 → RelV x u →
      ((∃ a, x = .ref a ∧ (∃ xs, SqL X.K H1 a xs) ∧ R (Itl X.K a) H1) ∨ (∃ a, x = .ref a ∧ (∃ xs, SqT X.K H1 a xs) ∧ R (Itt X.K a) H1) ∨ ∃ z, x = .str z ∧ R (Its z) H1) →
      wpAny (model X.prog X.w) X.A (pyIter u) (PIE X pins σ tg R) X.xe s1 := by
    intro u s1 x H1 I1 r1 q1
    rcases q1 with ⟨a, rfl, ⟨xs, hq⟩, q⟩ | ⟨a, rfl, ⟨xs, hq⟩, q⟩ | ⟨z, rfl, q⟩
    · cases r1
      obtain ⟨its, rv, p, hz⟩ := I1.list hq
      refine wpAny_pyIter_list p.isList ?_
      refine ⟨s1.heap.objs.size, [s1.heap.objs.size], _, _, H1, rfl, I1.kept (t' := s1.toks) fun b o e => Heap.get?_push_of_some _ e, turn_list a _, ⟨_, Heap.get?_push_size _ rfl, rfl, rfl⟩, fun b hb => ?_, q⟩
      have e : b = s1.heap.objs.size := by simpa using hb
      subst e
      exact I1.fpOk (Nat.le_refl _) (I1.hok.fresh (Nat.le_refl _))
    · cases r1
      obtain ⟨its, rv, p, hz⟩ := I1.tuple hq
      refine wpAny_pyIter_tuple (show s1.heap.IsTuple a its.toArray from p) ?_
      refine ⟨s1.heap.objs.size, [s1.heap.objs.size], _, _, H1, rfl, I1.kept (t' := s1.toks) fun b o e => Heap.get?_push_of_some _ e, turn_tuple a _, ⟨_, Heap.get?_push_size _ rfl, rfl, rfl⟩, fun b hb => ?_, q⟩
      have e : b = s1.heap.objs.size := by simpa using hb
      subst e
      exact I1.fpOk (Nat.le_refl _) (I1.hok.fresh (Nat.le_refl _))
    · obtain ⟨t, rfl⟩ := r1
      cases ha : z.cps.all (· < 128)
      · exact wpAny_pyIter_wide ha (pi_one (tk := s1.toks) I1 _ (turn_str _ z t "str_iterator" (.inr rfl)) ⟨_, Heap.get?_push_size _ rfl, rfl, rfl⟩ q)
      · exact wpAny_pyIter_ascii ha (pi_one (tk := s1.toks) I1 _ (turn_str _ z t "str_ascii_iterator" (.inl rfl)) ⟨_, Heap.get?_push_size _ rfl, rfl, rfl⟩ q)
  exact thn (he.run pins s σ H _ I h) fun v s1 ⟨x, H1, I1, r1, q1⟩ => fin v s1 x H1 I1 r1 q1
/-! ### enumerate of a tuple -/
section
open PySem.Sem (wp)
set_option maxHeartbeats 4000000 in
theorem meets_enumerate_newT (l : Addr) (items : Array Value) :
    Meets (Builtin.«enumerate.__new__» ⟨[.type "enumerate", .ref l], []⟩) (fun _ R s => s.heap.IsTuple l items ∧
      R (.ok (.ret (.ref (s.heap.push { cls := .type "tuple_iterator", data := .fields #[.ref l, .int 0 0] }).objs.size)))
        { s with heap := (s.heap.push { cls := .type "tuple_iterator", data := .fields #[.ref l, .int 0 0] }).push { cls := .type "enumerate", data := .fields #[.none, .bool false, .ref s.heap.objs.size, rawInt 0, .none, .none] } }) :=
  .of_wp fun prog w A R s ⟨hL, h⟩ => by
    obtain ⟨hp, g, d, tk, os⟩ := s
    have hsub := sub_enumerate
    obtain ⟨ol, hl, hc, n, hd⟩ := id hL
    wp_walk using wpAny_loadPart' hl
    refine wpAny_stack_any fun st => wpAny_pure ?_
    split
    · rename_i c _ _ _ _ _
      cases (c == Value.type "enumerate")
      · wp_walk using wpAny_pyIter_tuple hL
        exact ⟨_, rfl, h⟩
      · wp_walk using wpAny_pyIter_tuple hL
        exact ⟨_, rfl, h⟩
    · wp_walk using wpAny_pyIter_tuple hL
      exact ⟨_, rfl, h⟩
end
section
variable {prog : Program} {w : World} {A : Around} {E : Value → Shared → Prop} {s : Shared}
theorem call_enumerate_tuple {l : Addr} {items : Array Value} {Q : Value → Shared → Prop} (hL : s.heap.IsTuple l items)
    (h : ∀ h', IsEnum h' (s.heap.objs.size + 1) s.heap.objs.size 0 .none → h'.IsTupleIter s.heap.objs.size l 0 → h'.objs.size = s.heap.objs.size + 2 →
      (∀ b o, s.heap.get? b = some o → h'.get? b = some o) → Q (.ref (s.heap.objs.size + 1)) { s with heap := h' }) :
    wpAny (model prog w) A (call (.type "enumerate") [.ref l]) Q E s := by
  refine callType_new F.called_enumerate (by decide) (F.typeCall_enumerate_1 _) (F.newCall_enumerate_1 _) (fun obj => F.args_object_init_2 obj _) F.entry_enumerate_new
    (meets_enumerate_newT l items) ⟨hL, ?_⟩
  have hz : (s.heap.push { cls := .type "tuple_iterator", data := .fields #[.ref l, .int 0 0] }).objs.size = s.heap.objs.size + 1 := Heap.size_push ..
  show _ ∧ _
  rw [hz]
  have he : IsEnum ((s.heap.push { cls := .type "tuple_iterator", data := .fields #[.ref l, .int 0 0] }).push
      { cls := .type "enumerate", data := .fields #[.none, .bool false, .ref s.heap.objs.size, rawInt 0, .none, .none] }) (s.heap.objs.size + 1) s.heap.objs.size 0 .none := by
    have := Heap.get?_push_size (s.heap.push { cls := .type "tuple_iterator", data := .fields #[.ref l, .int 0 0] })
      (o := { cls := .type "enumerate", data := .fields #[.none, .bool false, .ref s.heap.objs.size, rawInt 0, .none, .none] }) rfl
    rw [hz] at this; exact this
  refine ⟨⟨_, he, rfl⟩, h _ he ⟨_, Heap.get?_push_of_some _ (Heap.get?_push_size _ rfl), rfl, rfl⟩ (by rw [Heap.size_push, hz]) fun b o x => Heap.get?_push_of_some _ (Heap.get?_push_of_some _ x)⟩
/-- the items of a tuple, drawn one by one -/
theorem draws_tuple (hh : A.handled = none) (it l : Addr) (items : Array Value) (hne : it ≠ l) :
    Draws prog w A.in1 it [it, l] items.size (fun i x => items[i]? = some x) (fun i h => h.IsTupleIter it l i ∧ h.IsTuple l items) where
  live := fun i h st => let ⟨⟨o, ho, _⟩, _⟩ := st; ⟨o, ho⟩
  frame := fun i h h' st k => by
    obtain ⟨⟨o, ho, hc, hd⟩, ⟨ol, hol, r⟩⟩ := st
    exact ⟨⟨o, k it (by simp) o ho, hc, hd⟩, ⟨ol, k l (by simp) ol hol, r⟩⟩
  item := fun i s Q E hi st hQ => by
    obtain ⟨hit, hl⟩ := st
    refine RZ.nextOf_tuple_item hit hl (x := items[i]) (Array.getElem?_eq_getElem hi) fun h' hit' sb => ?_
    refine hQ items[i] h' s.toks (Array.getElem?_eq_getElem hi) ⟨hit', ?_⟩ sb
    obtain ⟨ol, hol, r⟩ := hl
    exact ⟨ol, (sb.2 l (Ne.symm hne)).trans hol, r⟩
  done := fun s Q E st hE => by
    obtain ⟨hit, hl⟩ := st
    exact RZ.nextOf_tuple_end hh hit hl (Array.getElem?_eq_none (Nat.le_refl _)) hE
end
/-- the tuple at a, each item in a new pair -/
def IteT (K : PySem.W.Frag) (a : Addr) : It :=
  ⟨fun i H => ∃ (xs : List V) (x : V), SqT K H a xs ∧ xs[i]? = some x, fun i H v H' => ∃ T x, v = .ref T ∧ H T = none ∧ H' = upd H T (.tup [.int (i : Nat), x]) ∧ ∀ xs, SqT K H a xs → xs[i]? = some x, fun i H => ∃ xs : List V, SqT K H a xs ∧ xs.length ≤ i⟩
theorem draws_end {prog : Program} {w : World} {A : Around} (hh : A.handled = none) (it l : Addr) (items : Array Value) (hne : it ≠ l) (i : Nat) (hi : items.size ≤ i) :
    Draws prog w A.in1 it [it, l] i (fun _ _ => False) (fun j h => j = i ∧ h.IsTupleIter it l i ∧ h.IsTuple l items) where
  live := fun j h st => let ⟨_, ⟨o, ho, _⟩, _⟩ := st; ⟨o, ho⟩
  frame := fun j h h' st k => by
    obtain ⟨e, ⟨o, ho, hc, hd⟩, ⟨ol, hol, r⟩⟩ := st
    exact ⟨e, ⟨o, k it (by simp) o ho, hc, hd⟩, ⟨ol, k l (by simp) ol hol, r⟩⟩
  item := fun j s Q E hj st hQ => absurd hj (by rw [st.1]; exact Nat.lt_irrefl _)
  done := fun s Q E st hE => by
    obtain ⟨_, hit, hl⟩ := st
    exact RZ.nextOf_tuple_end hh hit hl (Array.getElem?_eq_none hi) hE
theorem turn_enumT {P : Program} {w : World} {K : PySem.W.Frag} {elts : List Expr} {kk : Nat} {tpos : Pos} (a e it : Addr) :
    Turn P w K (.Tuple elts kk tpos) (IteT K a) [e, it] e (fun i h => (∃ old, IsEnum h e it ((i : Nat) : Int) old) ∧ h.IsTupleIter it a i ∧ e ≠ it) where
  mem := by simp
  obj := fun i h st b hb => by
    obtain ⟨⟨old, he⟩, ⟨o, ho, hc, hd⟩, _⟩ := st
    have e' : b = e ∨ b = it := by simpa using hb
    rcases e' with z | z
    · rw [z]; exact ⟨_, he, fun v q => nomatch q⟩
    · rw [z]; exact ⟨o, ho, fun v q => by rw [hd] at q; cases q⟩
  keep := fun i h h' st k => by
    obtain ⟨⟨old, he⟩, ⟨o, ho, hc, hd⟩, hne⟩ := st
    exact ⟨⟨old, k e (by simp) _ he⟩, ⟨o, k it (by simp) o ho, hc, hd⟩, hne⟩
  item := by
    intro X hP hw hK hc i pins s σ H E I hf st hg
    subst hP hw hK
    obtain ⟨⟨old, he⟩, hit, hne⟩ := st
    obtain ⟨xs, x, hq, hx⟩ := hg
    obtain ⟨its, rv, p, hz⟩ := I.tuple hq
    obtain ⟨u, hu, ru⟩ := rv.get hx
    have hel : e < s.heap.objs.size := Heap.lt_size he
    have hil : it < s.heap.objs.size := by obtain ⟨_, q, _⟩ := hit; exact Heap.lt_size q
    have na : it ≠ a ∧ e ≠ a := by
      obtain ⟨o, ho, hcl, _⟩ := p
      obtain ⟨oi, hoi, hci, _⟩ := hit
      refine ⟨fun z => ?_, fun z => ?_⟩
      · subst z
        rw [ho] at hoi
        cases hoi
        rw [hcl] at hci
        simp at hci
      · subst z
        have he' : s.heap.get? e = some _ := he
        rw [ho] at he'
        cases he'
        simp at hcl
    have hlt : i < its.toArray.size := by
      rw [List.size_toArray]
      exact (List.getElem?_eq_some_iff.mp hu).1
    refine wpAny_pyNext_enum_itemD (draws_tuple (I.ok.hd hc) it a its.toArray na.1) he ⟨hit, p⟩ hlt hne (by simp; exact ⟨hne, na.2⟩) fun x' h' tk hx' ho hit' hT hsz hk => ?_
    have ex : x' = u := by
      have := hx'
      simp only [List.getElem?_toArray] at this
      rw [hu] at this
      exact (Option.some.inj this).symm
    subst ex
    refine ⟨_, rfl, wpAny_letOwnedTupleGo_enum (s := { s with heap := h', toks := tk + 1 }) ho fun h'' he' sb => ?_⟩
    have hT2 : h''.get? s.heap.objs.size = some { cls := .type "tuple", data := .seq #[.int i tk, x'] } := (sb.2 _ (Nat.ne_of_gt hel)).trans hT
    have new : ObjOk X.prog X.w (upd H s.heap.objs.size (.tup [.int (i : Nat), x])) h'' s.heap.objs.size (.tup [.int (i : Nat), x]) :=
      ⟨by show 2 ≤ sizeLine; decide, [.int i tk, x'], .cons ⟨_, rfl⟩ (.cons ru .nil), ⟨_, hT2, rfl, _, rfl⟩⟩
    have I1 : Inv X pins σ (upd H s.heap.objs.size (.tup [.int (i : Nat), x])) { s with heap := h'', toks := tk + 1 } :=
      I.turnedNew (ch := [e, it]) (fun b ob hb q => (sb.2 b (fun z => hb (by simp [z]))).trans (hk b ob (fun z => hb (by simp [z])) (fun z => hb (by simp [z])) q)) hf (Nat.le_refl _) new
    refine ⟨.ref s.heap.objs.size, _, I1, rfl, ⟨_, x, rfl, I.hok.fresh (Nat.le_refl _), rfl, fun ys hy => by rw [I.tuple_inj hy hq]; exact hx⟩, ⟨⟨x', ?_⟩, ?_, hne⟩, fun b hb => ?_⟩
    · have e1 : ((i + 1 : Nat) : Int) = (i : Int) + 1 := by omega
      rw [e1]; exact he'
    · obtain ⟨⟨oi, hoi, hci⟩, _⟩ := hit'
      exact ⟨oi, (sb.2 it (Ne.symm hne)).trans hoi, hci⟩
    · have hb' : b < s.heap.objs.size := by
        have e' : b = e ∨ b = it := by simpa using hb
        rcases e' with z | z
        · rw [z]; exact hel
        · rw [z]; exact hil
      rw [upd_ne (Nat.ne_of_lt hb')]
      exact (hf b hb).1
  done := by
    intro X hP hw hK hc i pins s σ H E I hf st hg
    subst hP hw hK
    obtain ⟨⟨old, he⟩, hit, hne⟩ := st
    obtain ⟨xs, hq, hx⟩ := hg
    obtain ⟨its, rv, p, hz⟩ := I.tuple hq
    obtain ⟨f0, f1, f2, f3, f4, f5⟩ := hf it (by simp)
    have hl := rv.length
    have na : it ≠ a := by
      obtain ⟨o, ho, hcl, _⟩ := p
      obtain ⟨oi, hoi, hci, _⟩ := hit
      intro z
      subst z
      rw [ho] at hoi
      cases hoi
      rw [hcl] at hci
      simp at hci
    refine wpAny_pyNext_enum_endD (draws_end (I.ok.hd hc) it a its.toArray na i (by rw [List.size_toArray]; omega)) he ⟨rfl, hit, p⟩ fun h' eb => ⟨rfl, ?_⟩
    exact I.turned (t' := s.toks) (fun b o hb q => eb b o hb q) f0 f1 f3 f4 f5
  self := fun A i s Q E st h => let ⟨⟨_, he⟩, _⟩ := st; wpAny_pyIter_enum he h
def iEnumA (K : PySem.W.Frag) (ta : TA) : TI := fun σ H R => ta σ H fun vs H1 => ∃ a xs, vs = [.ref a] ∧ ((SqL K H1 a xs ∧ R (Ite K a) H1) ∨ (SqT K H1 a xs ∧ R (IteT K a) H1))
theorem pi_enumA {X : Cx} {e : Expr} {ta : TA} {p pos tpos : Pos} {elts : List Expr} {kk : Nat} (hg : Gl X "enumerate") (hm : X.mg "enumerate" = none) (ha : PA X [e] ta) (hs : starEach [e] X.env = [(false, eval e X.env)]) :
    PI X (.Tuple elts kk tpos) (.Call (.Name "enumerate" p) [e] [] pos) (iEnumA X.K ta) := by
  refine ⟨fun pins s σ H R I h => ?_⟩
  refine Call_ (ld_blt I hg hm boot_enumerate (PyProof.Rows.callWith_type1 (thn (ha.run pos pins s σ H _ I h) fun us s1 ⟨vs, H1, I1, r1, q1⟩ => ?_) hs rfl))
  obtain ⟨a, xs, ex, q⟩ := q1
  subst ex
  cases r1 with
  | cons r rr =>
    cases rr
    cases r
    have hle : ∀ {b : Addr}, b ∈ [s1.heap.objs.size + 1, s1.heap.objs.size] → s1.heap.objs.size ≤ b := fun {b} hb => by
      have e' : b = s1.heap.objs.size + 1 ∨ b = s1.heap.objs.size := by simpa using hb
      rcases e' with z | z
      · rw [z]; exact Nat.le_add_right _ _
      · rw [z]; exact Nat.le_refl _
    rcases q with ⟨hq, q⟩ | ⟨hq, q⟩
    · obtain ⟨its, rv, p', hz⟩ := I1.list hq
      refine call_enumerate_list p'.isList fun h' he hit hsz hk => wpAny_pyIter_enum he ?_
      have I2 : Inv X pins σ H1 { s1 with heap := h' } := I1.kept (t' := s1.toks) hk
      exact ⟨s1.heap.objs.size + 1, [s1.heap.objs.size + 1, s1.heap.objs.size], _, _, H1, rfl, I2, turn_enum a (s1.heap.objs.size + 1) s1.heap.objs.size, ⟨⟨.none, he⟩, hit, Nat.succ_ne_self _⟩, fun b hb => I1.fpOk (hle hb) (I1.hok.fresh (hle hb)), q⟩
    · obtain ⟨its, rv, p', hz⟩ := I1.tuple hq
      refine call_enumerate_tuple (show s1.heap.IsTuple a its.toArray from p') fun h' he hit hsz hk => wpAny_pyIter_enum he ?_
      have I2 : Inv X pins σ H1 { s1 with heap := h' } := I1.kept (t' := s1.toks) hk
      exact ⟨s1.heap.objs.size + 1, [s1.heap.objs.size + 1, s1.heap.objs.size], _, _, H1, rfl, I2, turn_enumT a (s1.heap.objs.size + 1) s1.heap.objs.size, ⟨⟨.none, he⟩, hit, Nat.succ_ne_self _⟩, fun b hb => I1.fpOk (hle hb) (I1.hok.fresh (hle hb)), q⟩
end WD
end
section
set_option Elab.async false
set_option linter.all false
set_option maxRecDepth 100000
set_option autoImplicit false
set_option maxHeartbeats 4000000
/-! WJud: the layer's judgements with pure meanings: expressions. -/
namespace WD
open PySem PySem.Spec PyProof.Rows L2

/-- a pure meaning as a reading -/
def up {α β : Type} (G : GE) (W : WX) (R : (Nat → Addr) → Nat → Hp → α → β → Prop) (m : QX → PSt → PH → (α → PH → Prop) → Prop) : L2.St → Hp → (β → Hp → Prop) → Prop :=
  fun σ H Q => ∃ ρ h ς q x, HR G.K ρ h H ∧ SR G.K ρ h.length H ς σ ∧ m x ς h q ∧ Cov G R ρ h H q Q ∧ CovX G ρ h H x σ W
/-- a list just made: it was not there, it is not tracked -/
def LX (G : GE) (H0 : Hp) (ρ : Nat → Addr) (n : Nat) (H : Hp) (xs : List PV) (u : V) : Prop := ∃ p us, u = .ref p ∧ H0 p = none ∧ H p = some (.lst us) ∧ (∀ l, l < n → ρ l ≠ p) ∧ Reps G.K ρ n H xs us
def upL (G : GE) (W : WX) (m : QX → PSt → PH → (List PV → PH → Prop) → Prop) : TE := fun σ H Q => up G W (LX G H) m σ H Q
structure Good (G : GE) (X : Cx) (W : WX) : Prop where
  eK : G.K = X.K
  calm : X.calm = true
  hu : X.A.units + 65 < cLine
  tk : Takes X W
abbrev RE (G : GE) (W : WX) (X : Cx) (e : Expr) (m : QX → PSt → PH → QV → Prop) : Prop := PE X e (up G W (RV G) m)
abbrev RA (G : GE) (W : WX) (X : Cx) (es : List Expr) (m : QX → PSt → PH → (List PV → PH → Prop) → Prop) : Prop := PA X es (up G W (RVs G) m)
abbrev RT (G : GE) (W : WX) (X : Cx) (e : Expr) (m : QX → PSt → PH → (Bool → PH → Prop) → Prop) : Prop := PT X e (up G W (REq Bool) m)
abbrev RL (G : GE) (W : WX) (X : Cx) (e : Expr) (m : QX → PSt → PH → (List PV → PH → Prop) → Prop) : Prop := PE X e (upL G W m)
abbrev RLa (G : GE) (W : WX) (X : Cx) (e : Expr) (m : QX → PSt → PH → (LV → PH → Prop) → Prop) : Prop := PE X e (up G W (LR G) m)
abbrev RO (G : GE) (W : WX) (X : Cx) (e : Option Expr) (m : QX → PSt → PH → (Option Int → PH → Prop) → Prop) : Prop := L2.PO X e (up G W (REq (Option Int)) m)

section
variable {α β α' β' : Type} {G : GE} {W : WX} {X : Cx} {R : (Nat → Addr) → Nat → Hp → α → β → Prop} {R' : (Nat → Addr) → Nat → Hp → α' → β' → Prop} {m : QX → PSt → PH → (α → PH → Prop) → Prop}
  {f : α → QX → PSt → PH → (α' → PH → Prop) → Prop} {σ : L2.St} {H : Hp} {T : β → Hp → Prop} {Q : β' → Hp → Prop}
theorem up_bind (hw : up G W R' (fun x ς h q => m x ς h fun v h1 => f v x ς h1 q) σ H Q)
    (step : ∀ (ρ : Nat → Addr) (h : PH) (H1 : Hp) (ς : PSt) (q : α' → PH → Prop) (x : QX) (v : α) (u : β), HR G.K ρ h H1 → SR G.K ρ h.length H1 ς σ → R ρ h.length H1 v u → f v x ς h q → Cov G R' ρ h H1 q Q → CovX G ρ h H1 x σ W → T u H1) : up G W R m σ H T := by
  obtain ⟨ρ, h, ς, q, x, a1, a2, a3, a4, a5⟩ := hw
  exact ⟨ρ, h, ς, fun v h1 => f v x ς h1 q, x, a1, a2, a3, fun ρ' h' H' v u E R1 r k => step ρ' h' H' ς q x v u R1 (a2.ext a1 E) r k (a4.at R1 E) (a5.at R1 E), a5⟩
/-- the wish about another relation -/
theorem up_mono (hw : up G W R m σ H T) {T' : β' → Hp → Prop} {R' : (Nat → Addr) → Nat → Hp → α → β' → Prop} (hT : ∀ ρ h H1 v u', R' ρ h H1 v u' → ∃ u, R ρ h H1 v u ∧ (T u H1 → T' u' H1)) : up G W R' m σ H T' := by
  obtain ⟨ρ, h, ς, q, x, a1, a2, a3, a4, a5⟩ := hw
  exact ⟨ρ, h, ς, q, x, a1, a2, a3, fun ρ' h' H' v u E R1 r k => by
    obtain ⟨u1, r1, z⟩ := hT _ _ _ _ _ r
    exact z (a4 ρ' h' H' v u1 E R1 r1 k), a5⟩
end
theorem PE.imp {X : Cx} {e : Expr} {t t' : TE} (h : PE X e t) (i : ∀ σ H Q, t' σ H Q → t σ H Q) : PE X e t' := ⟨fun pins s σ H Q I hw => h.run pins s σ H Q I (i σ H Q hw)⟩
theorem PT.imp {X : Cx} {e : Expr} {t t' : TT} (h : PT X e t) (i : ∀ σ H Q, t' σ H Q → t σ H Q) : PT X e t' := ⟨fun pins s σ H Q I hw => h.run pins s σ H Q I (i σ H Q hw)⟩
theorem PW.imp {X : Cx} {e : Expr} {t t' : TT} (h : PW X e t) (i : ∀ σ H Q, t' σ H Q → t σ H Q) : PW X e t' := ⟨fun wh pins s σ H Q I hw => h.run wh pins s σ H Q I (i σ H Q hw)⟩
theorem PA.imp {X : Cx} {es : List Expr} {t t' : TA} (h : PA X es t) (i : ∀ σ H Q, t' σ H Q → t σ H Q) : PA X es t' := ⟨fun pos pins s σ H Q I hw => h.run pos pins s σ H Q I (i σ H Q hw)⟩
theorem PO.imp {X : Cx} {e : Option Expr} {t t' : TO} (h : L2.PO X e t) (i : ∀ σ H Q, t' σ H Q → t σ H Q) : L2.PO X e t' := ⟨fun pins s σ H Q I hw => h.run pins s σ H Q I (i σ H Q hw)⟩
theorem PS.imp {X : Cx} {st : Stmt} {t t' : TS} (h : PS X st t) (i : ∀ D σ H, t' D σ H → t D σ H) : PS X st t' := ⟨fun pins s σ H D I hw => h.run pins s σ H D I (i D σ H hw)⟩
theorem PSs.imp {X : Cx} {st : List Stmt} {t t' : TS} (h : PSs X st t) (i : ∀ D σ H, t' D σ H → t D σ H) : PSs X st t' := ⟨fun pins s σ H D I hw => h.run pins s σ H D I (i D σ H hw)⟩
section
variable {G : GE} {W : WX} {X : Cx} {a b c e : Expr} {es : List Expr} {pos p : Pos} {ma mb mc : QX → PSt → PH → QV → Prop} {mes : QX → PSt → PH → (List PV → PH → Prop) → Prop} {ta tb tc : QX → PSt → PH → (Bool → PH → Prop) → Prop}
/-! ### names and constants -/
theorem re_var {i : Nat} {x : Str} (hN : X.N[i]? = some x) (hv : Vis X.env.scope x) (hd : (x == ("__debug__" : Str)) = false) (hcd : (x == ("__classdict__" : Str)) = false) : RE G W X (.Name x pos) (fun _ ς h q => ∃ v, ς[i]? = some (some v) ∧ q v h) :=
  PE.imp (pe_var hN hv hd hcd) fun σ H Q hw => by
    obtain ⟨ρ, h, ς, q, y, a1, a2, ⟨v, e1, k⟩, a4, a5⟩ := hw
    obtain ⟨u, e2, r⟩ := a2.get i v e1
    exact ⟨u, e2, a4.here a1 r k⟩
theorem re_c {v : PV} {u : V} (hp : PE X e (tC u)) (r : ∀ (ρ : Nat → Addr) (n : Nat) (H : Hp), Rep G.K ρ n H v u) : RE G W X e (fun _ _ h q => q v h) :=
  PE.imp hp fun σ H Q hw => by
    obtain ⟨ρ, h, ς, q, y, a1, a2, k, a4, a5⟩ := hw
    exact a4.here a1 (r _ _ _) k
/-! ### operations -/
theorem re_bin (g : Good G X W) (o : Operator) (ha : RE G W X a ma) (hb : RE G W X b mb) : RE G W X (.BinOp a o b pos) (fun x ς h q => ma x ς h fun v h1 => mb x ς h1 fun w h2 => binS o v w h2 q) := by
  obtain ⟨r, hr, hs⟩ := bin_ok (X := X) o
  refine PE.imp (pe_op hr ha hb) fun σ H Q hw => ?_
  refine up_bind (m := ma) (f := fun (v : PV) x ς h q => mb x ς h fun w h2 => binS o v w h2 q) hw fun ρ h H1 ς q x v u R S r1 k c cx => ?_
  exact ⟨ρ, h, ς, _, x, R, S, k, fun ρ' h' H' w u' E R' r2 k2 => hs G ρ' h' H' v w u u' q Q g.eK R' (r1.ext R E) r2 k2 (c.at R' E), cx⟩
theorem re_neg (ha : RE G W X a ma) : RE G W X (.UnaryOp .USub a pos) (fun x ς h q => ma x ς h fun v h1 => ∃ i, v = PV.int i ∧ q (PV.int (-i)) h1) := by
  refine PE.imp (pe_un un_neg ha) fun σ H Q hw => ?_
  refine up_bind (m := ma) (f := fun (v : PV) x ς h q => ∃ i, v = PV.int i ∧ q (PV.int (-i)) h) hw fun ρ h H1 ς q x v u R S r1 k c cx => ?_
  obtain ⟨i, rfl, k⟩ := k
  exact ⟨i, r1.intInv, c.here R (.int _) k⟩
theorem re_cmp (g : Good G X W) (o : CmpOp) (ha : RE G W X a ma) (hb : RE G W X b mb) (hm : behindInMarks o b = false) : RE G W X (.Compare a [o] [b] pos) (fun x ς h q => ma x ς h fun v h1 => mb x ς h1 fun w h2 => cmpS o v w h2 fun r => q (PV.bl r) h2) := by
  obtain ⟨r, hr, hs⟩ := cmp_ok (X := X) g.hu o
  refine PE.imp (pe_cmpR hr ha hb hm) fun σ H Q hw => ?_
  refine up_bind (m := ma) (f := fun (v : PV) x ς h q => mb x ς h fun w h2 => cmpS o v w h2 fun r => q (PV.bl r) h2) hw fun ρ h H1 ς q x v u R S r1 k c cx => ?_
  exact ⟨ρ, h, ς, _, x, R, S, k, fun ρ' h' H' w u' E R' r2 k2 => hs G ρ' h' H' v w u u' _ Q g.eK R' (r1.ext R E) r2 k2 fun d hd => (c.at R' E).here R' (.bl d) hd, cx⟩
theorem rt_cmp (g : Good G X W) (o : CmpOp) (ha : RE G W X a ma) (hb : RE G W X b mb) (hm : behindInMarks o b = false) : RT G W X (.Compare a [o] [b] pos) (fun x ς h q => ma x ς h fun v h1 => mb x ς h1 fun w h2 => cmpS o v w h2 fun r => q r h2) := by
  obtain ⟨r, hr, hs⟩ := cmp_ok (X := X) g.hu o
  refine PT.imp (pt_cmpR hr ha hb hm) fun σ H Q hw => ?_
  refine up_bind (m := ma) (f := fun (v : PV) x ς h q => mb x ς h fun w h2 => cmpS o v w h2 fun r => q r h2) hw fun ρ h H1 ς q x v u R S r1 k c cx => ?_
  exact ⟨ρ, h, ς, _, x, R, S, k, fun ρ' h' H' w u' E R' r2 k2 => hs G ρ' h' H' v w u u' _ _ g.eK R' (r1.ext R E) r2 k2 fun d hd => ⟨d, rfl, c ρ' h' H' d d E R' rfl hd⟩, cx⟩
theorem re_chn (g : Good G X W) (o o' : CmpOp) (ha : RE G W X a ma) (hb : RE G W X b mb) (hc : RE G W X c mc) (hm : behindInMarks o' c = false) :
    RE G W X (.Compare a [o, o'] [b, c] pos) (fun x ς h q => ma x ς h fun u h1 => mb x ς h1 fun v h2 => cmpS o u v h2 fun r => if r = true then mc x ς h2 fun w h3 => cmpS o' v w h3 fun r' => q (PV.bl r') h3 else q (PV.bl false) h2) := by
  obtain ⟨r, hr, hs⟩ := cmp_ok (X := X) g.hu o
  obtain ⟨r', hr', hs'⟩ := cmp_ok (X := X) g.hu o'
  refine PE.imp (pe_chain hr hr' ha hb hc hm) fun σ H Q hw => ?_
  refine up_bind (m := ma) (f := fun (u : PV) x ς h q => mb x ς h fun v h2 => cmpS o u v h2 fun r => if r = true then mc x ς h2 fun w h3 => cmpS o' v w h3 fun r' => q (PV.bl r') h3 else q (PV.bl false) h2) hw fun ρ h H1 ς q x v u R S r1 k cc cx => ?_
  refine ⟨ρ, h, ς, _, x, R, S, k, fun ρ' h' H' w u' E R' r2 k2 => hs G ρ' h' H' v w u u' _ _ g.eK R' (r1.ext R E) r2 k2 fun d hd => ⟨d, rfl, ?_⟩, cx⟩
  cases d with
  | true =>
    rw [if_pos rfl] at hd ⊢
    exact ⟨ρ', h', ς, _, x, R', S.ext R E, hd, fun ρ2 h2 H2 y u3 E2 R2 r3 k3 => hs' G ρ2 h2 H2 w y u' u3 _ Q g.eK R2 (r2.ext R' E2) r3 k3 fun d hd => ((cc.at R' E).at R2 E2).here R2 (.bl d) hd, cx.at R' E⟩
  | false =>
    rw [if_neg Bool.false_ne_true] at hd ⊢
    exact (cc.at R' E).here R' (.bl false) hd
theorem rt_chn (g : Good G X W) (o o' : CmpOp) (ha : RE G W X a ma) (hb : RE G W X b mb) (hc : RE G W X c mc) (hm : behindInMarks o' c = false) :
    RT G W X (.Compare a [o, o'] [b, c] pos) (fun x ς h q => ma x ς h fun u h1 => mb x ς h1 fun v h2 => cmpS o u v h2 fun r => if r = true then mc x ς h2 fun w h3 => cmpS o' v w h3 fun r' => q r' h3 else q false h2) := by
  obtain ⟨r, hr, hs⟩ := cmp_ok (X := X) g.hu o
  obtain ⟨r', hr', hs'⟩ := cmp_ok (X := X) g.hu o'
  refine PT.imp (pt_chain hr hr' ha hb hc hm) fun σ H Q hw => ?_
  refine up_bind (m := ma) (f := fun (u : PV) x ς h q => mb x ς h fun v h2 => cmpS o u v h2 fun r => if r = true then mc x ς h2 fun w h3 => cmpS o' v w h3 fun r' => q r' h3 else q false h2) hw fun ρ h H1 ς q x v u R S r1 k cc cx => ?_
  refine ⟨ρ, h, ς, _, x, R, S, k, fun ρ' h' H' w u' E R' r2 k2 => hs G ρ' h' H' v w u u' _ _ g.eK R' (r1.ext R E) r2 k2 fun d hd => ⟨d, rfl, ?_⟩, cx⟩
  cases d with
  | true =>
    rw [if_pos rfl] at hd ⊢
    exact ⟨ρ', h', ς, _, x, R', S.ext R E, hd, fun ρ2 h2 H2 y u3 E2 R2 r3 k3 => hs' G ρ2 h2 H2 w y u' u3 _ _ g.eK R2 (r2.ext R' E2) r3 k3 fun d hd => ⟨d, rfl, cc ρ2 h2 H2 d d (E.trans R' E2) R2 rfl hd⟩, cx.at R' E⟩
  | false =>
    rw [if_neg Bool.false_ne_true] at hd ⊢
    exact ⟨false, rfl, cc ρ' h' H' false false E R' rfl hd⟩
theorem re_and {rest : List Expr} (ha : RE G W X a ma) (hb : RE G W X (.BoolOp .And (b :: rest) pos) mb) : RE G W X (.BoolOp .And (a :: b :: rest) pos) (fun x ς h q => ma x ς h fun v h1 => ∃ r, v = PV.bl r ∧ if r = true then mb x ς h1 q else q (PV.bl false) h1) := by
  refine PE.imp (pe_and ha hb) fun σ H Q hw => ?_
  refine up_bind (m := ma) (f := fun (v : PV) x ς h q => ∃ r, v = PV.bl r ∧ if r = true then mb x ς h q else q (PV.bl false) h) hw fun ρ h H1 ς q x v u R S r1 k c cx => ?_
  obtain ⟨d, rfl, k⟩ := k
  refine ⟨d, r1.blInv, ?_⟩
  cases d with
  | true => rw [if_pos rfl] at k ⊢; exact ⟨ρ, h, ς, q, x, R, S, k, c, cx⟩
  | false => rw [if_neg Bool.false_ne_true] at k ⊢; exact c.here R (.bl _) k
theorem re_or {rest : List Expr} (ha : RE G W X a ma) (hb : RE G W X (.BoolOp .Or (b :: rest) pos) mb) : RE G W X (.BoolOp .Or (a :: b :: rest) pos) (fun x ς h q => ma x ς h fun v h1 => ∃ r, v = PV.bl r ∧ if r = true then q (PV.bl true) h1 else mb x ς h1 q) := by
  refine PE.imp (pe_or ha hb) fun σ H Q hw => ?_
  refine up_bind (m := ma) (f := fun (v : PV) x ς h q => ∃ r, v = PV.bl r ∧ if r = true then q (PV.bl true) h else mb x ς h q) hw fun ρ h H1 ς q x v u R S r1 k c cx => ?_
  obtain ⟨d, rfl, k⟩ := k
  refine ⟨d, r1.blInv, ?_⟩
  cases d with
  | false => rw [if_neg Bool.false_ne_true] at k ⊢; exact ⟨ρ, h, ς, q, x, R, S, k, c, cx⟩
  | true => rw [if_pos rfl] at k ⊢; exact c.here R (.bl _) k
theorem re_not (ha : RE G W X a ma) : RE G W X (.UnaryOp .Not a pos) (fun x ς h q => ma x ς h fun v h1 => ∃ r, v = PV.bl r ∧ q (PV.bl (!r)) h1) := by
  refine PE.imp (pe_not ha) fun σ H Q hw => ?_
  refine up_bind (m := ma) (f := fun (v : PV) x ς h q => ∃ r, v = PV.bl r ∧ q (PV.bl (!r)) h) hw fun ρ h H1 ς q x v u R S r1 k c cx => ?_
  obtain ⟨d, rfl, k⟩ := k
  exact ⟨d, r1.blInv, c.here R (.bl _) k⟩
theorem rt_not (ha : RT G W X a ta) : RT G W X (.UnaryOp .Not a pos) (fun x ς h q => ta x ς h fun r h1 => q (!r) h1) := by
  refine PT.imp (pt_not ha) fun σ H Q hw => ?_
  refine up_bind (m := ta) (f := fun (r : Bool) x ς h q => q (!r) h) hw fun ρ h H1 ς q x v u R S r1 k c cx => ?_
  cases r1
  exact c ρ h H1 _ _ Ext.refl R rfl k
abbrev RW (G : GE) (W : WX) (X : Cx) (e : Expr) (m : QX → PSt → PH → (Bool → PH → Prop) → Prop) : Prop := PW X e (up G W (REq Bool) m)
theorem rw_and {rest : List Expr} (ha : RT G W X a ta) (hb : RW G W X (.BoolOp .And (b :: rest) pos) tb) : RW G W X (.BoolOp .And (a :: b :: rest) pos) (fun x ς h q => ta x ς h fun r h1 => if r = true then tb x ς h1 q else q false h1) := by
  refine PW.imp (pw_and ha hb) fun σ H Q hw => ?_
  refine up_bind (m := ta) (f := fun (r : Bool) x ς h q => if r = true then tb x ς h q else q false h) hw fun ρ h H1 ς q x v u R S r1 k c cx => ?_
  cases r1
  cases v with
  | true => rw [if_pos rfl] at k ⊢; exact ⟨ρ, h, ς, q, x, R, S, k, c, cx⟩
  | false => rw [if_neg Bool.false_ne_true] at k ⊢; exact c ρ h H1 _ _ Ext.refl R rfl k
theorem rw_or {rest : List Expr} (ha : RT G W X a ta) (hb : RW G W X (.BoolOp .Or (b :: rest) pos) tb) : RW G W X (.BoolOp .Or (a :: b :: rest) pos) (fun x ς h q => ta x ς h fun r h1 => if r = true then q true h1 else tb x ς h1 q) := by
  refine PW.imp (pw_or ha hb) fun σ H Q hw => ?_
  refine up_bind (m := ta) (f := fun (r : Bool) x ς h q => if r = true then q true h else tb x ς h q) hw fun ρ h H1 ς q x v u R S r1 k c cx => ?_
  cases r1
  cases v with
  | false => rw [if_neg Bool.false_ne_true] at k ⊢; exact ⟨ρ, h, ς, q, x, R, S, k, c, cx⟩
  | true => rw [if_pos rfl] at k ⊢; exact c ρ h H1 _ _ Ext.refl R rfl k
theorem rt_truth (g : Good G X W) (ha : RE G W X a ma) (he : ∀ whole, isTrue a X.env whole = (do let v ← whole; standAt a.pos; holding [v] (truthy v))) : RT G W X a (fun x ς h q => ma x ς h fun v h1 => ∃ r, truS h1 v = some r ∧ q r h1) := by
  refine PT.imp (pt_truth ha he) fun σ H Q hw => ?_
  refine up_bind (m := ma) (f := fun (v : PV) x ς h q => ∃ r, truS h v = some r ∧ q r h) hw fun ρ h H1 ς q x v u R S r1 k c cx => ?_
  obtain ⟨d, e1, k⟩ := k
  exact ⟨d, tru_of g.eK R r1 e1, c ρ h H1 _ _ Ext.refl R rfl k⟩
theorem re_ifx (hc : RT G W X c tc) (ha : RE G W X a ma) (hb : RE G W X b mb) : RE G W X (.IfExp c a b pos) (fun x ς h q => tc x ς h fun r h1 => if r = true then ma x ς h1 q else mb x ς h1 q) := by
  refine PE.imp (pe_ifExp hc ha hb) fun σ H Q hw => ?_
  refine up_bind (m := tc) (f := fun (r : Bool) x ς h q => if r = true then ma x ς h q else mb x ς h q) hw fun ρ h H1 ς q x v u R S r1 k c cx => ?_
  cases r1
  cases v with
  | true => rw [if_pos rfl] at k ⊢; exact ⟨ρ, h, ς, q, x, R, S, k, c, cx⟩
  | false => rw [if_neg Bool.false_ne_true] at k ⊢; exact ⟨ρ, h, ς, q, x, R, S, k, c, cx⟩
/-! ### arguments -/
theorem ra_nil : RA G W X [] (fun _ _ h q => q [] h) := by
  refine PA.imp pa_nil fun σ H Q hw => ?_
  obtain ⟨ρ, h, ς, q, y, a1, a2, k, a4, a5⟩ := hw
  exact a4 ρ h H _ _ Ext.refl a1 .nil k
theorem ra_cons (ha : RE G W X a ma) (hr : RA G W X es mes) (hs : starEach (a :: es) X.env = (false, eval a X.env) :: starEach es X.env) : RA G W X (a :: es) (fun x ς h q => ma x ς h fun v h1 => mes x ς h1 fun vs h2 => q (v :: vs) h2) := by
  refine PA.imp (pa_cons ha hr hs) fun σ H Q hw => ?_
  refine up_bind (m := ma) (f := fun (v : PV) x ς h q => mes x ς h fun vs h2 => q (v :: vs) h2) hw fun ρ h H1 ς q x v u R S r1 k c cx => ?_
  exact ⟨ρ, h, ς, _, x, R, S, k, fun ρ' h' H' ws us E R' rs k2 => c ρ' h' H' _ _ E R' (.cons (r1.ext R E) rs) k2, cx⟩
theorem re_tup {k0 : Nat} (hs : RA G W X es mes) : RE G W X (.Tuple es k0 pos) (fun x ς h q => mes x ς h fun vs h1 => vs.length ≤ sizeLine ∧ q (PV.tup vs) h1) := by
  refine PE.imp (pe_tup hs) fun σ H Q hw => ?_
  refine up_bind (m := mes) (f := fun (vs : List PV) x ς h q => vs.length ≤ sizeLine ∧ q (PV.tup vs) h) hw fun ρ h H1 ς q x vs us R S rs k c cx => ?_
  exact ⟨by rw [← rs.length]; exact k.1, fun p hp => c.newTup R rs k.2 p hp⟩
theorem re_ix (g : Good G X W) (ha : RE G W X a ma) (hb : RE G W X b mb) (hs : PlainIx b) : RE G W X (.Subscript a b pos) (fun x ς h q => ma x ς h fun v h1 => mb x ς h1 fun w h2 => ixS v w h2 q) := by
  refine PE.imp (pe_ix (ix_seq.or (ix_dic (by have := g.hu; omega))) ha hb hs) fun σ H Q hw => ?_
  refine up_bind (m := ma) (f := fun (v : PV) x ς h q => mb x ς h fun w h2 => ixS v w h2 q) hw fun ρ h H1 ς q x v u R S r1 k c cx => ?_
  exact ⟨ρ, h, ς, _, x, R, S, k, fun ρ' h' H' w u' E R' r2 k2 => ixS_ok g.eK R' (r1.ext R E) r2 k2 fun y z ry ky => (c.at R' E).here R' ry ky, cx⟩
/-! ### a slice's parts -/
theorem ro_none : RO G W X none (fun _ _ h q => q none h) := by
  refine PO.imp po_none fun σ H Q hw => ?_
  obtain ⟨ρ, h, ς, q, y, a1, a2, k, a4, a5⟩ := hw
  exact a4 ρ h H _ _ Ext.refl a1 rfl k
theorem ro_some (ha : RE G W X a ma) : RO G W X (some a) (fun x ς h q => ma x ς h fun v h1 => ∃ i, v = PV.int i ∧ q (some i) h1) := by
  refine PO.imp (po_some ha) fun σ H Q hw => ?_
  refine up_bind (m := ma) (f := fun (v : PV) x ς h q => ∃ i, v = PV.int i ∧ q (some i) h) hw fun ρ h H1 ς q x v u R S r1 k c cx => ?_
  obtain ⟨i, rfl, k⟩ := k
  exact ⟨i, r1.intInv, c ρ h H1 _ _ Ext.refl R rfl k⟩
end
end WD
end
section
set_option Elab.async false
set_option linter.all false
set_option maxRecDepth 100000
set_option autoImplicit false
set_option maxHeartbeats 4000000
/-! WJud2: slices, calls, lists just made, methods. -/
namespace WD
open PySem PySem.Spec PyProof.Rows L2
/-- a def's promise by its pure meaning -/
def spOf (G : GE) (Φ : Phi) (f : Nat) : Sp := fun vs H Q E => ∃ ρ h args q x, HR G.K ρ h H ∧ Reps G.K ρ h.length H args vs ∧ Φ f args h q x ∧ Cov G (RV G) ρ h H q Q ∧
  ∀ ρ' h' H' e c d, Ext ρ h.length H ρ' h'.length H' → HR G.K ρ' h' H' → XR G ρ' h'.length H' e c d → x e h' → E c d H'
/-- a call with keywords: the def, how many positional values, the keywords, where each parameter's value stands -/
structure KwS where
  id : Nat
  n : Nat
  ks : List Str
  ix : List Nat
def gP (ix : List Nat) : List Value → List Value → List Value := fun us ws => ix.map fun i => (us ++ ws).getD i .none
def gPV (ix : List Nat) : List V → List V → List V := fun us ws => ix.map fun i => (us ++ ws).getD i .non
/-- a def of the module that may be called by its name -/
structure FnAt (G : GE) (Φ : Phi) (X : Cx) (x : Str) (id : Nat) (kw : List KwS) : Prop where
  ex : ∃ (f : Addr) (fd : FuncData) (ps : List Str) (k : Nat), X.mg x = some (.ref f) ∧ FnOk X.prog X.w X.K X.mg X.base (L2.CX X.prog X.w) k f fd ps (spOf G Φ id) ∧ Room k X.A ∧ PySem.W.keepIn X.K (.ref f) = true ∧ Binds X.K fd ps [] ∧ ∀ e ∈ kw, e.id = id → KBn X.K fd ps e.n e.ks (gP e.ix) (gPV e.ix)
section
variable {G : GE} {Φ : Phi} {W : WX} {X : Cx} {a b c e : Expr} {es : List Expr} {pos p : Pos} {ma mb mc : QX → PSt → PH → QV → Prop} {mes ml : QX → PSt → PH → (List PV → PH → Prop) → Prop} {mu mw : QX → PSt → PH → (LV → PH → Prop) → Prop}
  {lo hi : Option Expr} {mlo mhi : QX → PSt → PH → (Option Int → PH → Prop) → Prop}
theorem re_sl {p2 : Pos} (g : Good G X W) (ha : RE G W X a ma) (hl : RO G W X lo mlo) (hh : RO G W X hi mhi) : RE G W X (.Subscript a (.Slice lo hi none p2) pos) (fun x ς h q => ma x ς h fun v h1 => mlo x ς h1 fun l h2 => mhi x ς h2 fun u h3 => slS v l u h3 q) := by
  refine PE.imp (pe_slice (sl_tupA.or (sl_str.or sl_list)) ha hl hh) fun σ H Q hw => ?_
  refine up_bind (m := ma) (f := fun (v : PV) x ς h q => mlo x ς h fun l h2 => mhi x ς h2 fun u h3 => slS v l u h3 q) hw fun ρ h H1 ς q x v u R S r1 k c cx => ?_
  refine ⟨ρ, h, ς, _, x, R, S, k, fun ρ2 h2 H2 l l' E2 R2 r2 k2 => ?_, cx⟩
  cases r2
  refine ⟨ρ2, h2, ς, _, x, R2, S.ext R E2, k2, fun ρ3 h3 H3 y y' E3 R3 r3 k3 => ?_, cx.at R2 E2⟩
  cases r3
  exact slS_ok g.eK R3 ((r1.ext R E2).ext R2 E3) k3 ((c.at R2 E2).at R3 E3)
/-! ### calls of defs -/
theorem re_call {x : Str} {id : Nat} {kw : List KwS} (g : Good G X W) (F : FnAt G Φ X x id kw) (hg : Gl X x) (hs : RA G W X (e :: es) mes)
    (hdb : (x == ("__debug__" : Str)) = false) (he : starEach (e :: es) X.env = (false, eval e X.env) :: starEach es X.env) (hpl : ∀ pos, (backTo pos (starEach es X.env)).any (·.1) = false) :
    RE G W X (.Call (.Name x p) (e :: es) [] pos) (fun y ς h q => mes y ς h fun vs h1 => Φ id vs h1 q y) := by
  obtain ⟨f, fd, ps, k, h1, h2, h3, h4, h5, _⟩ := F.ex
  refine PE.imp (pe_callS h2 h3 hg h1 h4 h5 (fun σ => passAt g.tk σ) hs hdb he (hpl _)) fun σ H Q hw => ?_
  refine up_bind (m := mes) (f := fun (vs : List PV) y ς h q => Φ id vs h q y) hw fun ρ h H1 ς q y vs us R S rs k c cx => ?_
  exact ⟨ρ, h, vs, q, y, R, rs, k, c, fun ρ' h' H' e' k' d' E R' xr z => cx ρ' h' H' e' k' d' E R' xr z⟩
theorem re_call0 {x : Str} {id : Nat} {kw : List KwS} (g : Good G X W) (F : FnAt G Φ X x id kw) (hg : Gl X x) (hdb : (x == ("__debug__" : Str)) = false) :
    RE G W X (.Call (.Name x p) [] [] pos) (fun y ς h q => Φ id [] h q y) := by
  obtain ⟨f, fd, ps, k, h1, h2, h3, h4, h5, _⟩ := F.ex
  refine ⟨fun pins s σ H Q I hw => ?_⟩
  refine wpAny_Call_Name_kw (ld_glob I hg h1 ?_ hdb)
  refine PySem.W.callWith_K0 I.kIn h4 (run_fnS (us := []) (vs := []) (E := WE W) h2 h3 h5 (passAt g.tk σ) I .nil ?_)
  obtain ⟨ρ, h, ς, q, y, R, S, k, c, cx⟩ := hw
  exact ⟨ρ, h, [], q, y, R, .nil, k, c, fun ρ' h' H' e' k' d' E R' xr z => cx ρ' h' H' e' k' d' E R' xr z⟩
/-! ### calls of built-in functions -/
/-- a call of a known value by a name -/
theorem pe_callF {f : Value} {r : List V → Hp → VK → Prop} {t : TA} {x : Str} (hc : CallR X f r) (hf : (∃ id, f = .builtin id) ∨ ∃ T, f = .type T) (hg : Gl X x) (hm : X.mg x = none) (hv : bootBuiltins x = some f) (ha : PA X (e :: es) t) (hn : x ≠ "__name__") (hdb : (x == ("__debug__" : Str)) = false)
    (he : starEach (e :: es) X.env = (false, eval e X.env) :: starEach es X.env) (hpl : (backTo pos (starEach es X.env)).any (·.1) = false) : PE X (.Call (.Name x p) (e :: es) [] pos) (tCB r t) := by
  rcases hf with ⟨id, rfl⟩ | ⟨T, rfl⟩
  · exact pe_callB hc hg hm hv ha hn hdb he hpl
  · exact pe_callTy hc hg hm hv ha hn hdb he hpl
theorem Bif.kind (b : Bif) : (∃ id, b.fn = .builtin id) ∨ ∃ T, b.fn = .type T := by
  cases b <;> first | exact .inl ⟨_, rfl⟩ | exact .inr ⟨_, rfl⟩
theorem Lif.kind (b : Lif) : (∃ id, b.fn = .builtin id) ∨ ∃ T, b.fn = .type T := by
  cases b <;> first | exact .inl ⟨_, rfl⟩ | exact .inr ⟨_, rfl⟩
theorem re_bif {x : Str} (g : Good G X W) (bf : Bif) (hmore : bf.more = []) (hg : Gl X x) (hm : X.mg x = none) (hv : bootBuiltins x = some bf.fn) (hs : RA G W X (e :: es) mes) (hn : x ≠ "__name__") (hdb : (x == ("__debug__" : Str)) = false)
    (he : starEach (e :: es) X.env = (false, eval e X.env) :: starEach es X.env) (hpl : ∀ pos, (backTo pos (starEach es X.env)).any (·.1) = false) :
    RE G W X (.Call (.Name x p) (e :: es) [] pos) (fun y ς h q => mes y ς h fun vs h1 => bifS bf vs h1 q) := by
  obtain ⟨r, hr, hok⟩ := bif_ok g.calm bf
  refine PE.imp (pe_callF hr bf.kind hg hm hv hs hn hdb he (hpl _)) fun σ H Q hw => ?_
  refine up_bind (m := mes) (f := fun (vs : List PV) y ς h q => bifS bf vs h q) hw fun ρ h H1 ς q y vs us R S rs k c cx => ?_
  have := hok G ρ h H1 vs us q Q g.eK R rs k c
  rwa [hmore, List.append_nil] at this
theorem re_isT {x t : Str} {T : String} {pt : Pos} (g : Good G X W) (hx : x = "isinstance") (hg : Gl X x) (hm : X.mg x = none) (hgt : Gl X t) (hmt : X.mg t = none) (hvt : bootBuiltins t = some (.type T)) (hnt : t ≠ "__name__") (hdt : (t == ("__debug__" : Str)) = false) (ha : RE G W X a ma)
    (he : starEach [a, .Name t pt] X.env = (false, eval a X.env) :: starEach [.Name t pt] X.env) :
    RE G W X (.Call (.Name x p) [a, .Name t pt] [] pos) (fun y ς h q => ma y ς h fun v h1 => bifS (.isT T) [v] h1 q) := by
  subst hx
  obtain ⟨r, hr, hok⟩ := bif_ok g.calm (.isT T)
  have hT : PE X (.Name t pt) (tC (.ty T)) := pe_bltn hgt hmt hvt rfl hnt hdt
  refine PE.imp (pe_callF (f := .builtin "isinstance") hr (.inl ⟨_, rfl⟩) hg hm (by decide +kernel) (pa_cons ha (pa_cons hT pa_nil (by rfl)) he) (by decide) (by decide) he (by rfl)) fun σ H Q hw => ?_
  refine up_bind (m := ma) (f := fun (v : PV) y ς h q => bifS (.isT T) [v] h q) hw fun ρ h H1 ς q y v u R S r1 k c cx => ?_
  exact hok G ρ h H1 [v] [u] q Q g.eK R (.cons r1 .nil) k c
/-! ### lists to be read -/
theorem rla_e (ha : RE G W X a ma) : RLa G W X a (fun x ς h q => ma x ς h fun v h1 => q (.v v) h1) := by
  refine PE.imp ha fun σ H Q hw => ?_
  refine up_bind (m := ma) (f := fun (v : PV) x ς h q => q (LV.v v) h) hw fun ρ h H1 ς q x v u R S r1 k c cx => ?_
  exact c ρ h H1 _ _ Ext.refl R (.v r1) k
theorem rla_l (hl : RL G W X a ml) : RLa G W X a (fun x ς h q => ml x ς h fun xs h1 => q (.t xs) h1) := by
  refine PE.imp hl fun σ H Q hw => ?_
  refine up_bind (m := ml) (f := fun (xs : List PV) x ς h q => q (LV.t xs) h) hw fun ρ h H1 ς q x v u R S r1 k c cx => ?_
  obtain ⟨p, us, rfl, _, h2, h3, h4⟩ := r1
  exact c ρ h H1 _ _ Ext.refl R (.t h2 h3 h4) k
/-- a function of a list's items -/
theorem re_lif {x : Str} (g : Good G X W) (bf : Lif) (hg : Gl X x) (hm : X.mg x = none) (hv : bootBuiltins x = some bf.fn) (hl : RLa G W X a mu) (hn : x ≠ "__name__") (hdb : (x == ("__debug__" : Str)) = false)
    (he : starEach [a] X.env = (false, eval a X.env) :: starEach [] X.env) :
    RE G W X (.Call (.Name x p) [a] [] pos) (fun y ς h q => mu y ς h fun u h1 => ∃ xs, lvB bf h1 u = some xs ∧ lifS bf xs h1 q) := by
  obtain ⟨r, hr, hok⟩ := lif_ok g.calm bf
  refine PE.imp (pe_callF hr bf.kind hg hm hv (pa_cons hl pa_nil he) hn hdb he (by rfl)) fun σ H Q hw => ?_
  refine up_bind (m := mu) (f := fun (u : LV) y ς h q => ∃ xs, lvB bf h u = some xs ∧ lifS bf xs h q) hw fun ρ h H1 ς q y v u R S r1 k c cx => ?_
  obtain ⟨xs, k1, k2⟩ := k
  exact hok G ρ h H1 v u xs q Q g.eK R r1 k1 k2 c
/-! ### new lists -/
theorem re_new (hl : RL G W X a ml) : RE G W X a (fun x ς h q => ml x ς h fun xs h1 => q (.loc h1.length) (h1 ++ [.lst xs])) := by
  refine PE.imp hl fun σ H Q hw => ?_
  obtain ⟨ρ, h, ς, q, x, R, S, k, c, cx⟩ := hw
  refine ⟨ρ, h, ς, _, x, R, S, k, fun ρ' h' H' xs u E R' r k' => ?_, cx⟩
  obtain ⟨p, us, rfl, h1, h2, h3, h4⟩ := r
  refine c (ρadd ρ' h'.length p) (h' ++ [.lst xs]) H' (.loc h'.length) (.ref p) ?_ (R'.track h2 h3 (.lst h4)) ?_ k'
  · have := Ext.track E h1
    rwa [show (h' ++ [PO.lst xs]).length = h'.length + 1 by simp]
  · have e : V.ref p = V.ref (ρadd ρ' h'.length p h'.length) := by rw [ρadd_self]
    rw [e]
    exact .loc h'.length (by simp)
/-- what a rule that makes a list asks -/
theorem newL {ρ ρ0 : Nat → Addr} {h h0 : PH} {H H0 : Hp} {xs : List PV} {us : List V} {q : List PV → PH → Prop} {Q : VK} (R0 : HR G.K ρ0 h0 H0) (E : Ext ρ0 h0.length H0 ρ h.length H) (c : Cov G (LX G H0) ρ h H q Q) (R : HR G.K ρ h H) (rs : Reps G.K ρ h.length H xs us) (k : q xs h) (p : Addr) (hp : H p = none) : Q (.ref p) (upd H p (.lst us)) := by
  have nl : ∀ l, l < h.length → ρ l ≠ p := fun l hl z => by
    obtain ⟨o, e⟩ := R.there hl
    rw [z, hp] at e
    cases e
  refine c ρ h _ xs (.ref p) (Ext.fresh hp) (R.fresh hp) ⟨p, us, rfl, ?_, upd_same, nl, Reps.ext R (Ext.fresh hp) rs⟩ k
  cases e : H0 p with
  | none => rfl
  | some o =>
    by_cases z : ∃ l, l < h0.length ∧ ρ0 l = p
    · obtain ⟨l, hl, z⟩ := z
      exact absurd ((E.eq l hl).trans z) (nl l (Nat.lt_of_lt_of_le hl E.le))
    · have := E.keep p o e fun l hl z' => z ⟨l, hl, z'⟩
      rw [hp] at this
      cases this
theorem rl_disp (hs : RA G W X es mes) : RL G W X (.List es pos) (fun x ς h q => mes x ς h fun vs h1 => vs.length ≤ sizeLine ∧ q vs h1) := by
  refine PE.imp (pe_lst hs) fun σ H Q hw => ?_
  obtain ⟨ρ, h, ς, q, x, R, S, k, c, cx⟩ := hw
  refine ⟨ρ, h, ς, _, x, R, S, k, fun ρ' h' H' vs us E R' rs k' => ⟨by rw [← rs.length]; exact k'.1, fun p hp => ?_⟩, cx⟩
  exact newL R E (c.at R' E) R' rs k'.2 p hp
theorem rl_cat (ha : RLa G W X a mu) (hb : RLa G W X b mw) : RL G W X (.BinOp a .Add b pos) (fun x ς h q => mu x ς h fun u h1 => mw x ς h1 fun w h2 => ∃ xs ys, lvM h2 u = some xs ∧ lvM h2 w = some ys ∧ xs.length + ys.length ≤ sizeLine ∧ q (xs ++ ys) h2) := by
  refine PE.imp (pe_op op_cat ha hb) fun σ H Q hw => ?_
  obtain ⟨ρ, h, ς, q, x, R, S, k, c, cx⟩ := hw
  refine ⟨ρ, h, ς, _, x, R, S, k, fun ρ1 h1 H1 u u' E1 R1 r1 k1 => ?_, cx⟩
  refine ⟨ρ1, h1, ς, _, x, R1, S.ext R E1, k1, fun ρ2 h2 H2 w w' E2 R2 r2 k2 => ?_, cx.at R1 E1⟩
  obtain ⟨xs, ys, m1, m2, m3, m4⟩ := k2
  obtain ⟨p1, vs, rfl, a1, a2⟩ := lvM_sq R2 m1 (r1.ext R1 E2)
  obtain ⟨p2, ws, rfl, b1, b2⟩ := lvM_sq R2 m2 r2
  exact ⟨p1, p2, vs, ws, rfl, rfl, a1, b1, by rw [← a2.length, ← b2.length]; exact m3, fun p hp => newL R (E1.trans R1 E2) (c.at R2 (E1.trans R1 E2)) R2 (a2.append b2) m4 p hp⟩
theorem rl_rep (ha : RLa G W X a mu) (hb : RE G W X b mb) : RL G W X (.BinOp a .Mult b pos) (fun x ς h q => mu x ς h fun u h1 => mb x ς h1 fun w h2 => ∃ xs i, lvM h2 u = some xs ∧ w = .int i ∧ -(2 ^ 63) ≤ i ∧ i < 2 ^ 63 ∧ xs.length * i.toNat ≤ sizeLine ∧ q (List.replicate i.toNat xs).flatten h2) := by
  refine PE.imp (pe_op op_rep ha hb) fun σ H Q hw => ?_
  obtain ⟨ρ, h, ς, q, x, R, S, k, c, cx⟩ := hw
  refine ⟨ρ, h, ς, _, x, R, S, k, fun ρ1 h1 H1 u u' E1 R1 r1 k1 => ?_, cx⟩
  refine ⟨ρ1, h1, ς, _, x, R1, S.ext R E1, k1, fun ρ2 h2 H2 w w' E2 R2 r2 k2 => ?_, cx.at R1 E1⟩
  obtain ⟨xs, i, m1, rfl, m2, m3, m4, m5⟩ := k2
  obtain ⟨p1, vs, rfl, a1, a2⟩ := lvM_sq R2 m1 (r1.ext R1 E2)
  exact ⟨p1, i, vs, rfl, r2.intInv, a1, m2, m3, by rw [← a2.length]; exact m4, fun p hp => newL R (E1.trans R1 E2) (c.at R2 (E1.trans R1 E2)) R2 (a2.repl _) m5 p hp⟩
theorem rl_cut {p2 : Pos} (g : Good G X W) (ha : RLa G W X a mu) (hl : RO G W X lo mlo) (hh : RO G W X hi mhi) : RL G W X (.Subscript a (.Slice lo hi none p2) pos) (fun x ς h q => mu x ς h fun u h1 => mlo x ς h1 fun l h2 => mhi x ς h2 fun w h3 => ∃ xs, lvL h3 u = some xs ∧ q (cutP xs l w) h3) := by
  refine PE.imp (pe_slice sl_list ha hl hh) fun σ H Q hw => ?_
  obtain ⟨ρ, h, ς, q, x, R, S, k, c, cx⟩ := hw
  refine ⟨ρ, h, ς, _, x, R, S, k, fun ρ1 h1 H1 u u' E1 R1 r1 k1 => ?_, cx⟩
  refine ⟨ρ1, h1, ς, _, x, R1, S.ext R E1, k1, fun ρ2 h2 H2 l l' E2 R2 r2 k2 => ?_, cx.at R1 E1⟩
  cases r2
  refine ⟨ρ2, h2, ς, _, x, R2, (S.ext R E1).ext R1 E2, k2, fun ρ3 h3 H3 w w' E3 R3 r3 k3 => ?_, (cx.at R1 E1).at R2 E2⟩
  cases r3
  obtain ⟨xs, m1, m2⟩ := k3
  obtain ⟨p1, vs, rfl, a1, a2⟩ := lvL_sq R3 m1 ((r1.ext R1 E2).ext R2 E3)
  have E := (E1.trans R1 E2).trans R2 E3
  exact ⟨p1, vs, rfl, g.eK ▸ a1, fun p hp => newL R E (c.at R3 E) R3 (a2.cut _ _) m2 p hp⟩
theorem lvK_inv {ρ : Nat → Addr} {h : PH} {H : Hp} {v : LV} {u : V} {xs : List PV} (R : HR G.K ρ h H) (e : lvK h v = some xs) (r : LR G ρ h.length H v u) :
    lvA h v = some xs ∨ ∃ l kvs us, v = .v (.loc l) ∧ u = .ref (ρ l) ∧ xs = kvs.map (fun kv => kP kv.1) ∧ H (ρ l) = some (.dK us) ∧ RepD G.K ρ h.length H kvs us := by
  cases v with
  | t ys => exact .inl e
  | v v =>
    cases v with
    | loc l =>
      simp only [lvK] at e
      split at e
      · rename_i ys hx
        cases e
        refine .inl ?_
        show getL h l = _
        unfold getL
        rw [hx]
      · rename_i kvs hx
        cases e
        obtain ⟨us, h1, h2⟩ := R.dict hx
        cases r with
        | v r => exact .inr ⟨l, kvs, us, rfl, r.locInv.1, rfl, h1, h2⟩
      · cases e
    | _ => exact .inl e
theorem rl_list {x : Str} (g : Good G X W) (hx : x = "list") (hg : Gl X x) (hm : X.mg x = none) (ha : RLa G W X a mu) (he : starEach [a] X.env = (false, eval a X.env) :: starEach [] X.env) :
    RL G W X (.Call (.Name x p) [a] [] pos) (fun y ς h q => mu y ς h fun u h1 => ∃ xs, lvK h1 u = some xs ∧ q xs h1) := by
  subst hx
  refine PE.imp (pe_callF (f := .type "list") (call_list_of.or (call_listD g.calm)) (.inr ⟨_, rfl⟩) hg hm (by decide +kernel) (pa_cons ha pa_nil he) (by decide) (by decide) he (by rfl)) fun σ H Q hw => ?_
  obtain ⟨ρ, h, ς, q, y, R, S, k, c, cx⟩ := hw
  refine ⟨ρ, h, ς, _, y, R, S, k, fun ρ1 h1 H1 u u' E1 R1 r1 k1 => ?_, cx⟩
  obtain ⟨xs, m1, m2⟩ := k1
  rcases lvK_inv R1 m1 r1 with m1 | ⟨l, kvs, us, rfl, rfl, rfl, h1', h2'⟩
  · obtain ⟨a1, vs, rfl, sq, rs⟩ := lvA_sq R1 m1 r1
    exact .inl ⟨a1, vs, rfl, g.eK ▸ sq, fun p hp => newL R E1 (c.at R1 E1) R1 rs m2 p hp⟩
  · refine .inr ⟨_, us, rfl, .inl h1', fun p hp => newL R E1 (c.at R1 E1) R1 ?_ m2 p hp⟩
    exact RepD.keyReps h2'
theorem rl_sort {x : Str} (g : Good G X W) (hx : x = "sorted") (hg : Gl X x) (hm : X.mg x = none) (ha : RLa G W X a mu) (he : starEach [a] X.env = (false, eval a X.env) :: starEach [] X.env) :
    RL G W X (.Call (.Name x p) [a] [] pos) (fun y ς h q => mu y ς h fun u h1 => ∃ xs, lvL h1 u = some xs ∧ sortS xs h1 q) := by
  subst hx
  refine PE.imp (pe_callF (f := .builtin "sorted") (cr_sortedI.or cr_sortedS) (.inl ⟨_, rfl⟩) hg hm (by decide +kernel) (pa_cons ha pa_nil he) (by decide) (by decide) he (by rfl)) fun σ H Q hw => ?_
  obtain ⟨ρ, h, ς, q, y, R, S, k, c, cx⟩ := hw
  refine ⟨ρ, h, ς, _, y, R, S, k, fun ρ1 h1 H1 u u' E1 R1 r1 k1 => ?_, cx⟩
  obtain ⟨xs, m1, m2⟩ := k1
  obtain ⟨a1, vs, rfl, sq, rs⟩ := lvL_sq R1 m1 r1
  rcases m2 with ⟨ns, m2, m3⟩ | ⟨zs, m2, m3, m4⟩
  · have z := ints_rep m2 rs
    subst z
    exact .inl ⟨a1, ns, rfl, g.eK ▸ sq, fun ms p hp1 hp2 hp => newL R E1 (c.at R1 E1) R1 (reps_ints ms) (m3 ms hp1 hp2) p hp⟩
  · obtain ⟨z, zo⟩ := strs_rep m2 rs
    subst z
    exact .inr ⟨a1, zs, rfl, g.eK ▸ sq, m3, fun ys p hp1 hp2 hp => newL R E1 (c.at R1 E1) R1 (reps_strs fun y hy => zo y (hp1.mem_iff.mp hy)) (m4 ys hp1 hp2) p hp⟩
/-! ### ranges as values -/
theorem rangeL_eq : ∀ (n : Nat) (lo : Int), rangeL lo n = (List.range n).map fun i => PV.int (lo + (i : Nat))
  | 0, _ => rfl
  | n + 1, lo => by
    rw [rangeL, rangeL_eq n (lo + 1), List.range_succ_eq_map, List.map_cons, List.map_map]
    congr 1
    · simp
    · refine List.map_congr_left fun i _ => ?_
      show PV.int _ = PV.int _
      congr 1
      simp only [Nat.succ_eq_add_one]
      omega
theorem reps_range {ρ : Nat → Addr} {n : Nat} {H : Hp} {K : PySem.W.Frag} (a b : Int) : Reps K ρ n H (rangeL a (b - a).toNat) (rgV a b) := by
  rw [rangeL_eq]
  unfold rgV
  generalize List.range (b - a).toNat = l
  induction l with
  | nil => exact .nil
  | cons i r ih => exact .cons (.int _) ih
/-- the ends of a range as they are read -/
theorem rg_1 {x : Str} (hx : x = "range") (hg : Gl X x) (hm : X.mg x = none) (ha : RE G W X a ma) (na : starEach [a] X.env = (false, eval a X.env) :: starEach [] X.env) :
    PRg X (.Call (.Name x p) [a] [] pos) (fun σ H Q => up G W (REq (Int × Int)) (fun y ς h q => ma y ς h fun v h1 => ∃ i, v = PV.int i ∧ q (0, i) h1) σ H fun ij H1 => Q ij.1 ij.2 H1) := by
  subst hx
  intro pins s σ H Q I hw
  refine prg_1 hg hm ha na pins s σ H Q I ?_
  refine up_bind (m := ma) (f := fun (v : PV) y ς h q => ∃ i, v = PV.int i ∧ q ((0 : Int), i) h) hw fun ρ h H1 ς q y v u R S r1 k c cx => ?_
  obtain ⟨i, rfl, k⟩ := k
  exact ⟨i, r1.intInv, c ρ h H1 _ _ Ext.refl R rfl k⟩
theorem rg_2 {x : Str} (hx : x = "range") (hg : Gl X x) (hm : X.mg x = none) (ha : RE G W X a ma) (hb : RE G W X b mb) (na : starEach [a, b] X.env = (false, eval a X.env) :: starEach [b] X.env) (nb : starEach [b] X.env = (false, eval b X.env) :: starEach [] X.env) :
    PRg X (.Call (.Name x p) [a, b] [] pos) (fun σ H Q => up G W (REq (Int × Int)) (fun y ς h q => ma y ς h fun v h1 => ∃ i, v = PV.int i ∧ mb y ς h1 fun w h2 => ∃ j, w = PV.int j ∧ q (i, j) h2) σ H fun ij H1 => Q ij.1 ij.2 H1) := by
  subst hx
  intro pins s σ H Q I hw
  refine prg_2 hg hm ha hb na nb (by rw [nb]; rfl) pins s σ H Q I ?_
  refine up_bind (m := ma) (f := fun (v : PV) y ς h q => ∃ i, v = PV.int i ∧ mb y ς h fun w h2 => ∃ j, w = PV.int j ∧ q (i, j) h2) hw fun ρ h H1 ς q y v u R S r1 k c cx => ?_
  obtain ⟨i, rfl, k⟩ := k
  refine ⟨ρ, h, ς, _, y, R, S, k, fun ρ2 h2 H2 w u2 E2 R2 r2 k2 => ?_, cx⟩
  obtain ⟨j, rfl, k2⟩ := k2
  exact ⟨i, j, r1.intInv, r2.intInv, c ρ2 h2 H2 _ _ E2 R2 rfl k2⟩
theorem rl_rng {x : Str} {mr : QX → PSt → PH → (Int × Int → PH → Prop) → Prop} (g : Good G X W) (hx : x = "list") (hg : Gl X x) (hm : X.mg x = none) (hr : PRg X e (fun σ H Q => up G W (REq (Int × Int)) mr σ H fun ij H1 => Q ij.1 ij.2 H1)) (na : starEach [e] X.env = (false, eval e X.env) :: starEach [] X.env) :
    RL G W X (.Call (.Name x p) [e] [] pos) (fun y ς h q => mr y ς h fun ij h1 => RgOk ij.1 ij.2 ∧ q (rangeL ij.1 (ij.2 - ij.1).toNat) h1) := by
  subst hx
  refine PE.imp (pe_listRg g.calm hg hm hr na) fun σ H Q hw => ?_
  obtain ⟨ρ, h, ς, q, y, R, S, k, c, cx⟩ := hw
  refine ⟨ρ, h, ς, _, y, R, S, k, fun ρ1 h1 H1 ij ij' E1 R1 r1 k1 => ?_, cx⟩
  cases r1
  exact ⟨k1.1, fun p hp => newL R E1 (c.at R1 E1) R1 (reps_range _ _) k1.2 p hp⟩
theorem re_tupR {x : Str} {mr : QX → PSt → PH → (Int × Int → PH → Prop) → Prop} (g : Good G X W) (hx : x = "tuple") (hg : Gl X x) (hm : X.mg x = none) (hr : PRg X e (fun σ H Q => up G W (REq (Int × Int)) mr σ H fun ij H1 => Q ij.1 ij.2 H1)) (na : starEach [e] X.env = (false, eval e X.env) :: starEach [] X.env) :
    RE G W X (.Call (.Name x p) [e] [] pos) (fun y ς h q => mr y ς h fun ij h1 => RgOk ij.1 ij.2 ∧ q (.tup (rangeL ij.1 (ij.2 - ij.1).toNat)) h1) := by
  subst hx
  refine PE.imp (pe_tupRg g.calm hg hm hr na) fun σ H Q hw => ?_
  obtain ⟨ρ, h, ς, q, y, R, S, k, c, cx⟩ := hw
  refine ⟨ρ, h, ς, _, y, R, S, k, fun ρ1 h1 H1 ij ij' E1 R1 r1 k1 => ?_, cx⟩
  cases r1
  exact ⟨k1.1, fun p hp => (c.at R1 E1).newTup R1 (reps_range _ _) k1.2 p hp⟩
/-! ### dicts made -/
theorem dict_new {ρ0 ρ : Nat → Addr} {h0 h : PH} {H0 H : Hp} {q : QV} {Q : VK} {p : Addr} {ks : List (Key × PV)} {us : List (Key × V)} (R0 : HR G.K ρ0 h0 H0) (E : Ext ρ0 h0.length H0 ρ h.length H) (hp0 : H0 p = none) (c : Cov G (RV G) ρ0 h0 H0 q Q) (R : HR G.K ρ h H) (hp : H p = some (.dK us)) (nl : ∀ l, l < h.length → ρ l ≠ p) (r : RepD G.K ρ h.length H ks us) (k : q (.loc h.length) (h ++ [.dic ks])) : Q (.ref p) H :=
  Cov.trackNew R0 E hp0 c R hp nl (.dic r) k
theorem re_dic0 : RE G W X (.Dict [] [] pos) (fun _ _ h q => q (.loc h.length) (h ++ [.dic []])) := by
  refine PE.imp pe_dnewK fun σ H Q hw => ?_
  obtain ⟨ρ, h, ς, q, y, R, S, k, c, cx⟩ := hw
  intro p hp
  refine dict_new R (Ext.fresh hp) hp c (R.fresh hp) upd_same (fun l hl z => ?_) .nil k
  obtain ⟨o, e⟩ := R.there hl
  rw [z, hp] at e
  cases e
end
end WD
end
section
set_option Elab.async false
set_option linter.all false
set_option maxRecDepth 100000
set_option autoImplicit false
set_option maxHeartbeats 4000000
/-! WJud3: methods; what a loop walks; comprehensions. -/
namespace WD
open PySem PySem.Spec PyProof.Rows L2
section
variable {G : GE} {Φ : Phi} {W : WX} {X : Cx} {a b c e : Expr} {es : List Expr} {pos p apos cpos : Pos} {ma mb mc : QX → PSt → PH → QV → Prop} {mes ml : QX → PSt → PH → (List PV → PH → Prop) → Prop} {mu mw : QX → PSt → PH → (LV → PH → Prop) → Prop}
/-- the facts of a method of list -/
structure MthF (T id : String) (name : Str) : Prop where
  pa : PlainAttrs T
  slot : Slot T name id
  ty : typeOf (.builtin id) = pure (.type "method_descriptor")
theorem mth_facts (m : Mth) : MthF m.ty m.id m.name := by
  cases m with
  | append => exact ⟨PySem.F.plainAttrs_list, PySem.F.slot_list_append, PySem.F.type_list_append⟩
  | pop => exact ⟨PySem.F.plainAttrs_list, PySem.F.slot_list_pop, PySem.F.type_list_pop⟩
  | popAt => exact ⟨PySem.F.plainAttrs_list, PySem.F.slot_list_pop, PySem.F.type_list_pop⟩
  | insert => exact ⟨PySem.F.plainAttrs_list, PySem.F.slot_list_insert, PySem.F.type_list_insert⟩
  | reverse => exact ⟨PySem.F.plainAttrs_list, PySem.F.slot_list_reverse, PySem.F.type_list_reverse⟩
  | get => exact ⟨PySem.F.plainAttrs_dict, PySem.F.slot_dict_get, PySem.F.type_dict_get⟩
  | getD => exact ⟨PySem.F.plainAttrs_dict, PySem.F.slot_dict_get, PySem.F.type_dict_get⟩
theorem tyV_obj {m : Mth} {ρ : Nat → Addr} {h : PH} {H : Hp} {v : PV} {u : V} (g : Good G X W) (R : HR G.K ρ h H) (r : Rep G.K ρ h.length H v u) (k : isObj m h v) : tyV X.K m.ty u H := by
  obtain ⟨l, o, rfl, e, ek⟩ := k
  rw [r.locInv.1]
  cases o with
  | lst xs =>
    have ek' : m.dict = false := ek.symm
    obtain ⟨us, h1, h2⟩ := R.list (show getL h l = some xs by unfold getL; rw [e])
    unfold Mth.ty
    rw [ek']
    exact .inl ⟨rfl, us, SqL.of h1⟩
  | dic kvs =>
    have ek' : m.dict = true := ek.symm
    obtain ⟨us, h1, h2⟩ := R.dict e
    unfold Mth.ty
    rw [ek']
    exact .inr (.inr (.inl ⟨rfl, .inl ⟨us, h1⟩⟩))
theorem tyV_lst {ρ : Nat → Addr} {h : PH} {H : Hp} {v : PV} {u : V} (g : Good G X W) (R : HR G.K ρ h H) (r : Rep G.K ρ h.length H v u) (k : isLst h v) : tyV X.K "list" u H := by
  obtain ⟨l, xs, rfl, e⟩ := k
  obtain ⟨us, h1, h2⟩ := R.list e
  rw [r.locInv.1]
  exact .inl ⟨rfl, us, SqL.of h1⟩
theorem re_mth (g : Good G X W) (m : Mth) (ho : RE G W X a ma) (hs : RA G W X (e :: es) mes) (hbase : attributeBase a m.name X.env (eval a X.env) = eval a X.env)
    (hfew : ((backTo cpos (starEach (e :: es) X.env)).all (fun x => !x.1) && (backToKw cpos (keywordEach [] X.env)).all (fun x => x.1.isSome) && decide ((e :: es).length + ([] : List Keyword).length + (if ([] : List Keyword).isEmpty then 0 else 1) < 30)) = true)
    (hline : (apos.endLine == cpos.line) = true) (he : starEach (e :: es) X.env = (false, eval e X.env) :: starEach es X.env) (hpl : ∀ pos, (backTo pos (starEach es X.env)).any (·.1) = false) :
    RE G W X (.Call (.Attribute a m.name apos) (e :: es) [] cpos) (fun x ς h q => ma x ς h fun v h1 => isObj m h1 v ∧ mes x ς h1 fun vs h2 => mthS m v vs h2 q) := by
  obtain ⟨r, hr, hok⟩ := mth_ok (X := X) (by have := g.hu; omega) m
  refine PE.imp (pe_bm (mth_facts m).pa (mth_facts m).slot (mth_facts m).ty hr ho hs hbase hfew hline he (hpl _)) fun σ H Q hw => ?_
  refine up_bind (m := ma) (f := fun (v : PV) x ς h q => isObj m h v ∧ mes x ς h fun vs h2 => mthS m v vs h2 q) hw fun ρ h H1 ς q x v u R S r1 k c cx => ?_
  refine ⟨tyV_obj g R r1 k.1, ρ, h, ς, _, x, R, S, k.2, fun ρ' h' H' vs us E R' rs k2 => ?_, cx⟩
  exact hok G ρ' h' H' v u vs us q Q g.eK R' (r1.ext R E) rs k2 (c.at R' E)
theorem re_mth0 (g : Good G X W) (m : Mth) (ho : RE G W X a ma) (hbase : attributeBase a m.name X.env (eval a X.env) = eval a X.env) (hline : (apos.endLine == cpos.line) = true) :
    RE G W X (.Call (.Attribute a m.name apos) [] [] cpos) (fun x ς h q => ma x ς h fun v h1 => isObj m h1 v ∧ mthS m v [] h1 q) := by
  obtain ⟨r, hr, hok⟩ := mth_ok (X := X) (by have := g.hu; omega) m
  refine PE.imp (pe_bm0 (mth_facts m).pa (mth_facts m).slot (mth_facts m).ty hr ho hbase hline) fun σ H Q hw => ?_
  refine up_bind (m := ma) (f := fun (v : PV) x ς h q => isObj m h v ∧ mthS m v [] h q) hw fun ρ h H1 ς q x v u R S r1 k c cx => ?_
  exact ⟨tyV_obj g R r1 k.1, hok G ρ h H1 v u [] [] q Q g.eK R r1 .nil k.2 c⟩
theorem re_ext (g : Good G X W) (ho : RE G W X a ma) (hl : RLa G W X b mu) (hbase : attributeBase a "extend" X.env (eval a X.env) = eval a X.env)
    (hfew : ((backTo cpos (starEach [b] X.env)).all (fun x => !x.1) && (backToKw cpos (keywordEach [] X.env)).all (fun x => x.1.isSome) && decide ([b].length + ([] : List Keyword).length + (if ([] : List Keyword).isEmpty then 0 else 1) < 30)) = true)
    (hline : (apos.endLine == cpos.line) = true) (he : starEach [b] X.env = (false, eval b X.env) :: starEach [] X.env) :
    RE G W X (.Call (.Attribute a "extend" apos) [b] [] cpos) (fun x ς h q => ma x ς h fun v h1 => isLst h1 v ∧ mu x ς h1 fun u h2 => ∃ l xs ys, v = .loc l ∧ getL h2 l = some xs ∧ lvM h2 u = some ys ∧ xs.length + ys.length ≤ sizeLine ∧ q .non (h2.set l (.lst (xs ++ ys)))) := by
  obtain ⟨r, hr, hok⟩ := ext_ok (X := X)
  refine PE.imp (pe_bm PySem.F.plainAttrs_list PySem.F.slot_list_extend PySem.F.type_list_extend hr ho (pa_cons hl pa_nil he) hbase hfew hline he (by rfl)) fun σ H Q hw => ?_
  refine up_bind (m := ma) (f := fun (v : PV) x ς h q => isLst h v ∧ mu x ς h fun u h2 => ∃ l xs ys, v = PV.loc l ∧ getL h2 l = some xs ∧ lvM h2 u = some ys ∧ xs.length + ys.length ≤ sizeLine ∧ q PV.non (h2.set l (PO.lst (xs ++ ys)))) hw fun ρ h H1 ς q x v u R S r1 k c cx => ?_
  refine ⟨tyV_lst g R r1 k.1, ρ, h, ς, _, x, R, S, k.2, fun ρ' h' H' w w' E R' rs k2 => ?_, cx⟩
  obtain ⟨l, xs, ys, rfl, m1, m2, m3, m4⟩ := k2
  exact hok G ρ' h' H' l w u w' xs ys q Q g.eK R' (r1.ext R E) rs m1 m2 m3 m4 (c.at R' E)
/-! ### what a loop walks -/
/-- an iterator walks these items while gd holds -/
def ItOk (G : GE) (ρ0 : Nat → Addr) (n0 : Nat) (H0 : Hp) (J : It) (xs : List PV) (gd : PH → Prop) : Prop :=
  ∀ ρ h H i, Ext ρ0 n0 H0 ρ h.length H → HR G.K ρ h H → gd h →
    (∀ x, xs[i]? = some x → J.go i H ∧ ∀ u H', J.yld i H u H' → Ext ρ h.length H ρ h.length H' ∧ HR G.K ρ h H' ∧ Rep G.K ρ h.length H' x u) ∧ (xs.length ≤ i → J.stop i H)
abbrev MI := QX → PSt → PH → (List PV → (PH → Prop) → PH → Prop) → Prop
def upI (G : GE) (W : WX) (m : MI) : TI := fun σ H T => ∃ ρ h ς q x, HR G.K ρ h H ∧ SR G.K ρ h.length H ς σ ∧ m x ς h q ∧
  (∀ ρ' h' H' J xs gd, Ext ρ h.length H ρ' h'.length H' → HR G.K ρ' h' H' → ItOk G ρ' h'.length H' J xs gd → q xs gd h' → T J H') ∧ CovX G ρ h H x σ W
abbrev RI (G : GE) (W : WX) (X : Cx) (tg e : Expr) (m : MI) : Prop := PI X tg e (upI G W m)
theorem PI.imp {X : Cx} {tg e : Expr} {t t' : TI} (h : PI X tg e t) (i : ∀ σ H Q, t' σ H Q → t σ H Q) : PI X tg e t' := ⟨fun pins s σ H R I hw => h.run pins s σ H R I (i σ H R hw)⟩
/-- the walk of a sequence that stands -/
theorem ItOk.list {ρ : Nat → Addr} {n : Nat} {H : Hp} {v : PV} {xs : List PV} {aa : Addr} (g : G.K = X.K) (hv : ∀ (ρ' : Nat → Addr) (h' : PH) (H' : Hp), Ext ρ n H ρ' h'.length H' → HR G.K ρ' h' H' → items h' v = some xs → ∃ vs, SqL X.K H' aa vs ∧ Reps G.K ρ' h'.length H' xs vs) : ItOk G ρ n H (Itl X.K aa) xs (standsP v xs) := by
  intro ρ' h' H' i E R gd
  obtain ⟨vs, sq, rs⟩ := hv ρ' h' H' E R gd
  refine ⟨fun x hx => ?_, fun hi => ⟨vs, sq, by rw [← rs.length]; exact hi⟩⟩
  obtain ⟨u, e1, r1⟩ := rs.get hx
  refine ⟨⟨vs, u, sq, e1⟩, fun u' H2 y => ?_⟩
  obtain ⟨rfl, y⟩ := y
  have := y vs sq
  rw [e1] at this
  cases this
  exact ⟨Ext.refl, R, r1⟩
theorem ItOk.tup {ρ : Nat → Addr} {n : Nat} {H : Hp} {v : PV} {xs : List PV} {aa : Addr} (g : G.K = X.K) (hv : ∀ (ρ' : Nat → Addr) (h' : PH) (H' : Hp), Ext ρ n H ρ' h'.length H' → HR G.K ρ' h' H' → items h' v = some xs → ∃ vs, SqT X.K H' aa vs ∧ Reps G.K ρ' h'.length H' xs vs) : ItOk G ρ n H (Itt X.K aa) xs (standsP v xs) := by
  intro ρ' h' H' i E R gd
  obtain ⟨vs, sq, rs⟩ := hv ρ' h' H' E R gd
  refine ⟨fun x hx => ?_, fun hi => ⟨vs, sq, by rw [← rs.length]; exact hi⟩⟩
  obtain ⟨u, e1, r1⟩ := rs.get hx
  refine ⟨⟨vs, u, sq, e1⟩, fun u' H2 y => ?_⟩
  obtain ⟨rfl, y⟩ := y
  have := y vs sq
  rw [e1] at this
  cases this
  exact ⟨Ext.refl, R, r1⟩
theorem enumL_get : ∀ {xs : List PV} {k : Int} {i : Nat} {y : PV}, (enumL k xs)[i]? = some y → ∃ x, xs[i]? = some x ∧ y = .tup [.int (k + (i : Nat)), x]
  | [], k, i, y, e => by simp [enumL] at e
  | x :: r, k, 0, y, e => by
    simp [enumL] at e
    exact ⟨x, by simp, by rw [← e]; simp⟩
  | x :: r, k, i + 1, y, e => by
    simp only [enumL, List.getElem?_cons_succ] at e
    obtain ⟨z, h1, h2⟩ := enumL_get e
    refine ⟨z, by simpa using h1, ?_⟩
    rw [h2]
    have : k + 1 + (i : Int) = k + ((i + 1 : Nat) : Int) := by omega
    rw [this]
theorem enumL_length : ∀ (xs : List PV) (k : Int), (enumL k xs).length = xs.length
  | [], _ => rfl
  | _ :: r, k => by simp [enumL, enumL_length r]
/-- a new pair is laid for the turn -/
theorem pair_ext {ρ : Nat → Addr} {h : PH} {H : Hp} {T : Addr} {x : PV} {u : V} {i : Nat} (R : HR G.K ρ h H) (hT : H T = none) (r : Rep G.K ρ h.length H x u) :
    Ext ρ h.length H ρ h.length (upd H T (.tup [.int (i : Nat), u])) ∧ HR G.K ρ h (upd H T (.tup [.int (i : Nat), u])) ∧ Rep G.K ρ h.length (upd H T (.tup [.int (i : Nat), u])) (.tup [.int (0 + (i : Nat)), x]) (.ref T) := by
  have E : Ext ρ h.length H ρ h.length (upd H T (.tup [.int (i : Nat), u])) := Ext.fresh hT
  refine ⟨E, R.fresh hT, .tup (SqT.of upd_same) (.cons ?_ (.cons (r.ext R E) .nil))⟩
  rw [Int.zero_add]
  exact .int _
theorem ItOk.enumL {ρ : Nat → Addr} {n : Nat} {H : Hp} {v : PV} {xs : List PV} {aa : Addr} (g : G.K = X.K) (hv : ∀ (ρ' : Nat → Addr) (h' : PH) (H' : Hp), Ext ρ n H ρ' h'.length H' → HR G.K ρ' h' H' → items h' v = some xs → ∃ vs, SqL X.K H' aa vs ∧ Reps G.K ρ' h'.length H' xs vs) : ItOk G ρ n H (Ite X.K aa) (enumL 0 xs) (standsP v xs) := by
  intro ρ' h' H' i E R gd
  obtain ⟨vs, sq, rs⟩ := hv ρ' h' H' E R gd
  refine ⟨fun y hy => ?_, fun hi => ⟨vs, sq, by rw [← rs.length, ← enumL_length xs 0]; exact hi⟩⟩
  obtain ⟨x, hx, rfl⟩ := enumL_get hy
  obtain ⟨u, e1, r1⟩ := rs.get hx
  refine ⟨⟨vs, u, sq, e1⟩, fun u' H2 y => ?_⟩
  obtain ⟨T, z, rfl, hT, rfl, y⟩ := y
  have := y vs sq
  rw [e1] at this
  cases this
  exact pair_ext R hT r1
theorem ItOk.enumT {ρ : Nat → Addr} {n : Nat} {H : Hp} {v : PV} {xs : List PV} {aa : Addr} (g : G.K = X.K) (hv : ∀ (ρ' : Nat → Addr) (h' : PH) (H' : Hp), Ext ρ n H ρ' h'.length H' → HR G.K ρ' h' H' → items h' v = some xs → ∃ vs, SqT X.K H' aa vs ∧ Reps G.K ρ' h'.length H' xs vs) : ItOk G ρ n H (IteT X.K aa) (WD.enumL 0 xs) (standsP v xs) := by
  intro ρ' h' H' i E R gd
  obtain ⟨vs, sq, rs⟩ := hv ρ' h' H' E R gd
  refine ⟨fun y hy => ?_, fun hi => ⟨vs, sq, by rw [← rs.length, ← enumL_length xs 0]; exact hi⟩⟩
  obtain ⟨x, hx, rfl⟩ := enumL_get hy
  obtain ⟨u, e1, r1⟩ := rs.get hx
  refine ⟨⟨vs, u, sq, e1⟩, fun u' H2 y => ?_⟩
  obtain ⟨T, z, rfl, hT, rfl, y⟩ := y
  have := y vs sq
  rw [e1] at this
  cases this
  exact pair_ext R hT r1
/-- what stands for a value at later heaps -/
theorem items_later {ρ : Nat → Addr} {h : PH} {H : Hp} {v : PV} {u : V} {xs : List PV} (eK : G.K = X.K) (R : HR G.K ρ h H) (r : Rep G.K ρ h.length H v u) (e : items h v = some xs) :
    ∃ aa, u = .ref aa ∧ (((∃ vs, SqL X.K H aa vs) ∧ ∀ (ρ' : Nat → Addr) (h' : PH) (H' : Hp), Ext ρ h.length H ρ' h'.length H' → HR G.K ρ' h' H' → items h' v = some xs → ∃ vs, SqL X.K H' aa vs ∧ Reps G.K ρ' h'.length H' xs vs) ∨
      ((∃ vs, SqT X.K H aa vs) ∧ ∀ (ρ' : Nat → Addr) (h' : PH) (H' : Hp), Ext ρ h.length H ρ' h'.length H' → HR G.K ρ' h' H' → items h' v = some xs → ∃ vs, SqT X.K H' aa vs ∧ Reps G.K ρ' h'.length H' xs vs)) := by
  cases v with
  | tup ys =>
    have e1 : ys = xs := Option.some.inj e
    subst e1
    obtain ⟨a, vs, rfl, h2, h3⟩ := r.tupInv
    exact ⟨a, rfl, .inr ⟨⟨vs, eK ▸ h2⟩, fun ρ' h' H' E R' _ => ⟨vs, eK ▸ WD.SqT.ext R E h2, Reps.ext R E h3⟩⟩⟩
  | rol ys =>
    have e1 : ys = xs := Option.some.inj e
    subst e1
    obtain ⟨a, vs, rfl, h2, h3⟩ := r.rolInv
    exact ⟨a, rfl, .inl ⟨⟨vs, eK ▸ h2.sq⟩, fun ρ' h' H' E R' _ => ⟨vs, eK ▸ (SqF.ext R E h2).sq, Reps.ext R E h3⟩⟩⟩
  | loc l =>
    obtain ⟨rfl, hl⟩ := r.locInv
    obtain ⟨us, h1, h2⟩ := R.list (show getL h l = some xs from e)
    refine ⟨ρ l, rfl, .inl ⟨⟨us, SqL.of h1⟩, fun ρ' h' H' E R' e' => ?_⟩⟩
    obtain ⟨us', k1, k2⟩ := R'.list (show getL h' l = some xs from e')
    rw [E.eq l hl] at k1
    exact ⟨us', SqL.of k1, k2⟩
  | _ => cases e
/-- a list just made stands at later heaps -/
theorem temp_later {ρ : Nat → Addr} {h : PH} {H : Hp} {p : Addr} {us : List V} {xs : List PV} (R : HR G.K ρ h H) (h2 : H p = some (.lst us)) (h3 : ∀ l, l < h.length → ρ l ≠ p) (h4 : Reps G.K ρ h.length H xs us) :
    ∀ (ρ' : Nat → Addr) (h' : PH) (H' : Hp), Ext ρ h.length H ρ' h'.length H' → ∃ vs, SqL X.K H' p vs ∧ Reps G.K ρ' h'.length H' xs vs :=
  fun ρ' h' H' E => ⟨us, SqL.of (E.keep p _ h2 h3), Reps.ext R E h4⟩
theorem ItOk.any {ρ : Nat → Addr} {n : Nat} {H : Hp} {J : It} {xs ys : List PV} (o : ItOk G ρ n H J xs (standsP (.tup ys) ys)) : ItOk G ρ n H J xs (fun _ => True) :=
  fun ρ' h' H' i E R _ => o ρ' h' H' i E R rfl
theorem ri_e {tg : Expr} (g : Good G X W) (ha : RE G W X a ma) :
    RI G W X tg a (fun x ς h q => ma x ς h fun v h1 => (∃ xs, items h1 v = some xs ∧ q xs (standsP v xs) h1) ∨ ∃ z, v = .str z ∧ q (z.cps.toList.map fun c => .str ⟨#[c]⟩) (fun _ => True) h1) := by
  refine PI.imp (pi_seq ha) fun σ H T hw => ?_
  obtain ⟨ρ, h, ς, q, x, R, S, k, c, cx⟩ := hw
  refine ⟨ρ, h, ς, _, x, R, S, k, fun ρ1 h1 H1 v u E1 R1 r1 k1 => ?_, cx⟩
  rcases k1 with ⟨xs, k1, k2⟩ | ⟨z, rfl, k2⟩
  · obtain ⟨aa, rfl, hv⟩ := items_later g.eK R1 r1 k1
    rcases hv with ⟨h0, hv⟩ | ⟨h0, hv⟩
    · exact .inl ⟨aa, rfl, h0, c ρ1 h1 H1 _ xs _ E1 R1 (ItOk.list g.eK hv) k2⟩
    · exact .inr (.inl ⟨aa, rfl, h0, c ρ1 h1 H1 _ xs _ E1 R1 (ItOk.tup g.eK hv) k2⟩)
  · obtain ⟨e1, s1⟩ := r1.strInv
    refine .inr (.inr ⟨z, e1, c ρ1 h1 H1 _ _ _ E1 R1 (fun ρ' h' H' i E R' _ => ⟨fun y hy => ?_, fun hi => ?_⟩) k2⟩)
    · rw [List.getElem?_map] at hy
      obtain ⟨d, hd, rfl⟩ := Option.map_eq_some_iff.mp hy
      have hd' : z.cps[i]? = some d := by simpa using hd
      refine ⟨(Array.getElem?_eq_some_iff.mp hd').1, fun u H2 y => ?_⟩
      obtain ⟨rfl, d', e', rfl⟩ := y
      rw [hd'] at e'
      cases e'
      exact ⟨Ext.refl, R', .str _ (strOk_sign s1 hd)⟩
    · show z.cps.size ≤ i
      simpa using hi
theorem ri_l {tg : Expr} (g : Good G X W) (ha : RL G W X a ml) : RI G W X tg a (fun x ς h q => ml x ς h fun xs h1 => q xs (fun _ => True) h1) := by
  refine PI.imp (pi_list ha) fun σ H T hw => ?_
  obtain ⟨ρ, h, ς, q, x, R, S, k, c, cx⟩ := hw
  refine ⟨ρ, h, ς, _, x, R, S, k, fun ρ1 h1 H1 xs u E1 R1 r1 k1 => ?_, cx⟩
  obtain ⟨p, us, rfl, _, h2, h3, h4⟩ := r1
  refine ⟨p, rfl, ⟨us, SqL.of h2⟩, c ρ1 h1 H1 _ xs _ E1 R1 (ItOk.any (ys := xs) (ItOk.list (X := X) g.eK fun ρ' h' H' E _ _ => temp_later (X := X) R1 h2 h3 h4 ρ' h' H' E)) k1⟩
theorem rangeL_get : ∀ {n : Nat} {lo : Int} {i : Nat} {y : PV}, (rangeL lo n)[i]? = some y → i < n ∧ y = .int (lo + (i : Nat))
  | 0, lo, i, y, e => by simp [rangeL] at e
  | n + 1, lo, 0, y, e => by
    simp [rangeL] at e
    exact ⟨by omega, by rw [← e]; simp⟩
  | n + 1, lo, i + 1, y, e => by
    simp only [rangeL, List.getElem?_cons_succ] at e
    obtain ⟨h1, h2⟩ := rangeL_get e
    refine ⟨by omega, ?_⟩
    rw [h2]
    have : lo + 1 + (i : Int) = lo + ((i + 1 : Nat) : Int) := by omega
    rw [this]
theorem rangeL_length : ∀ (n : Nat) (lo : Int), (rangeL lo n).length = n
  | 0, _ => rfl
  | n + 1, lo => by simp [rangeL, rangeL_length n]
theorem rangeC_get : ∀ {n : Nat} {lo k : Int} {i : Nat} {y : PV}, (rangeC lo k n)[i]? = some y → i < n ∧ y = .int (lo + (i : Nat) * k)
  | 0, lo, k, i, y, e => by simp [rangeC] at e
  | n + 1, lo, k, 0, y, e => by
    simp [rangeC] at e
    exact ⟨by omega, by rw [← e]; simp⟩
  | n + 1, lo, k, i + 1, y, e => by
    simp only [rangeC, List.getElem?_cons_succ] at e
    obtain ⟨h1, h2⟩ := rangeC_get e
    refine ⟨by omega, ?_⟩
    rw [h2]
    have : lo + k + (i : Int) * k = lo + ((i + 1 : Nat) : Int) * k := by
      rw [Int.natCast_add, Int.add_mul]
      simp
      omega
    rw [this]
theorem rangeC_length : ∀ (n : Nat) (lo k : Int), (rangeC lo k n).length = n
  | 0, _, _ => rfl
  | n + 1, lo, k => by simp [rangeC, rangeC_length n]
theorem ItOk.range {ρ : Nat → Addr} {n : Nat} {H : Hp} {lo : Int} {m : Nat} : ItOk G ρ n H (Itr lo m) (rangeL lo m) (fun _ => True) := fun ρ' h' H' i E R _ => by
  refine ⟨fun x hx => ?_, fun hi => by rw [rangeL_length] at hi; exact hi⟩
  obtain ⟨h1, rfl⟩ := rangeL_get hx
  refine ⟨h1, fun u H2 y => ?_⟩
  obtain ⟨rfl, rfl⟩ := y
  exact ⟨Ext.refl, R, .int _⟩
theorem ItOk.rangeC {ρ : Nat → Addr} {n : Nat} {H : Hp} {lo k : Int} {m : Nat} : ItOk G ρ n H (Itc lo k m) (WD.rangeC lo k m) (fun _ => True) := fun ρ' h' H' i E R _ => by
  refine ⟨fun x hx => ?_, fun hi => by rw [rangeC_length] at hi; exact hi⟩
  obtain ⟨h1, rfl⟩ := rangeC_get hx
  refine ⟨h1, fun u H2 y => ?_⟩
  obtain ⟨rfl, rfl⟩ := y
  exact ⟨Ext.refl, R, .int _⟩
theorem ri_range1 {tg : Expr} {x : Str} (hx : x = "range") (hg : Gl X x) (hm : X.mg x = none) (ha : RE G W X a ma) (hs : starEach [a] X.env = [(false, eval a X.env)]) :
    RI G W X tg (.Call (.Name x p) [a] [] pos) (fun y ς h q => ma y ς h fun v h1 => ∃ j : Int, v = .int j ∧ -(2 ^ 62) ≤ j ∧ j < 2 ^ 62 ∧ q (rangeL 0 j.toNat) (fun _ => True) h1) := by
  subst hx
  refine PI.imp (pi_range1 hg hm (pa_cons ha pa_nil (by rw [hs]; rfl)) hs) fun σ H T hw => ?_
  obtain ⟨ρ, h, ς, q, x, R, S, k, c, cx⟩ := hw
  refine ⟨ρ, h, ς, _, x, R, S, k, fun ρ1 h1 H1 v u E1 R1 r1 k1 => ?_, cx⟩
  obtain ⟨j, rfl, k1, k2, k3⟩ := k1
  exact ⟨j, by rw [r1.intInv], k1, k2, c ρ1 h1 H1 _ _ _ E1 R1 .range k3⟩
theorem ri_range2 {tg : Expr} {x : Str} (hx : x = "range") (hg : Gl X x) (hm : X.mg x = none) (ha : RE G W X a ma) (hb : RE G W X b mb) (hs : starEach [a, b] X.env = [(false, eval a X.env), (false, eval b X.env)]) (hs2 : starEach [b] X.env = [(false, eval b X.env)]) :
    RI G W X tg (.Call (.Name x p) [a, b] [] pos) (fun y ς h q => ma y ς h fun v h1 => mb y ς h1 fun w h2 => ∃ i j : Int, v = .int i ∧ w = .int j ∧ (-(2 ^ 62) ≤ i ∧ i < 2 ^ 62 ∧ -(2 ^ 62) ≤ j ∧ j < 2 ^ 62) ∧ q (rangeL i (j - i).toNat) (fun _ => True) h2) := by
  subst hx
  refine PI.imp (pi_range2 hg hm (pa_cons ha (pa_cons hb pa_nil (by rw [hs2]; rfl)) (by rw [hs, hs2])) hs hs2) fun σ H T hw => ?_
  obtain ⟨ρ, h, ς, q, x, R, S, k, c, cx⟩ := hw
  refine ⟨ρ, h, ς, _, x, R, S, k, fun ρ1 h1 H1 v u E1 R1 r1 k1 => ?_, cx⟩
  refine ⟨ρ1, h1, ς, _, x, R1, S.ext R E1, k1, fun ρ2 h2 H2 w u' E2 R2 r2 k2 => ?_, cx.at R1 E1⟩
  obtain ⟨i, j, rfl, rfl, k1, k3⟩ := k2
  exact ⟨i, j, by rw [r1.intInv, r2.intInv], k1, c ρ2 h2 H2 _ _ _ (E1.trans R1 E2) R2 .range k3⟩
theorem ri_range3 {tg : Expr} {x : Str} (hx : x = "range") (hg : Gl X x) (hm : X.mg x = none) (ha : RE G W X a ma) (hb : RE G W X b mb) (hc : RE G W X c mc) (hs : starEach [a, b, c] X.env = [(false, eval a X.env), (false, eval b X.env), (false, eval c X.env)]) (hs2 : starEach [b, c] X.env = [(false, eval b X.env), (false, eval c X.env)]) (hs3 : starEach [c] X.env = [(false, eval c X.env)]) :
    RI G W X tg (.Call (.Name x p) [a, b, c] [] pos) (fun y ς h q => ma y ς h fun v h1 => mb y ς h1 fun w h2 => mc y ς h2 fun u h3 => ∃ (i j k : Int) (n : Nat), v = .int i ∧ w = .int j ∧ u = .int k ∧ RgC i j k n ∧ q (rangeC i k n) (fun _ => True) h3) := by
  subst hx
  refine PI.imp (pi_range3 hg hm (pa_cons ha (pa_cons hb (pa_cons hc pa_nil (by rw [hs3]; rfl)) (by rw [hs2, hs3])) (by rw [hs, hs2])) (by rw [hs, hs2]) (by rw [hs2]; rfl)) fun σ H T hw => ?_
  obtain ⟨ρ, h, ς, q, x, R, S, k, cv, cx⟩ := hw
  refine ⟨ρ, h, ς, _, x, R, S, k, fun ρ1 h1 H1 v u E1 R1 r1 k1 => ?_, cx⟩
  refine ⟨ρ1, h1, ς, _, x, R1, S.ext R E1, k1, fun ρ2 h2 H2 w u' E2 R2 r2 k2 => ?_, cx.at R1 E1⟩
  refine ⟨ρ2, h2, ς, _, x, R2, (S.ext R E1).ext R1 E2, k2, fun ρ3 h3 H3 w3 u3 E3 R3 r3 k3 => ?_, (cx.at R1 E1).at R2 E2⟩
  obtain ⟨i, j, k, n, rfl, rfl, rfl, k1, k3⟩ := k3
  exact ⟨i, j, k, n, by rw [r1.intInv, r2.intInv, r3.intInv], k1, cv ρ3 h3 H3 _ _ _ ((E1.trans R1 E2).trans R2 E3) R3 .rangeC k3⟩
theorem ri_enum_e {x : Str} {elts : List Expr} {kk : Nat} {tpos : Pos} (g : Good G X W) (hx : x = "enumerate") (hg : Gl X x) (hm : X.mg x = none) (ha : RE G W X a ma) (hs : starEach [a] X.env = [(false, eval a X.env)]) :
    RI G W X (.Tuple elts kk tpos) (.Call (.Name x p) [a] [] pos) (fun y ς h q => ma y ς h fun v h1 => ∃ xs, items h1 v = some xs ∧ q (enumL 0 xs) (standsP v xs) h1) := by
  subst hx
  refine PI.imp (pi_enumA hg hm (pa_cons ha pa_nil (by rw [hs]; rfl)) hs) fun σ H T hw => ?_
  obtain ⟨ρ, h, ς, q, x, R, S, k, c, cx⟩ := hw
  refine ⟨ρ, h, ς, _, x, R, S, k, fun ρ1 h1 H1 v u E1 R1 r1 k1 => ?_, cx⟩
  obtain ⟨xs, k1, k2⟩ := k1
  obtain ⟨aa, rfl, hv⟩ := items_later g.eK R1 r1 k1
  rcases hv with ⟨⟨vs, h0⟩, hv⟩ | ⟨⟨vs, h0⟩, hv⟩
  · exact ⟨aa, vs, rfl, .inl ⟨h0, c ρ1 h1 H1 _ _ _ E1 R1 (ItOk.enumL g.eK hv) k2⟩⟩
  · exact ⟨aa, vs, rfl, .inr ⟨h0, c ρ1 h1 H1 _ _ _ E1 R1 (ItOk.enumT g.eK hv) k2⟩⟩
theorem ri_enum_l {x : Str} {elts : List Expr} {kk : Nat} {tpos : Pos} (g : Good G X W) (hx : x = "enumerate") (hg : Gl X x) (hm : X.mg x = none) (ha : RL G W X a ml) (hs : starEach [a] X.env = [(false, eval a X.env)]) :
    RI G W X (.Tuple elts kk tpos) (.Call (.Name x p) [a] [] pos) (fun y ς h q => ml y ς h fun xs h1 => q (enumL 0 xs) (fun _ => True) h1) := by
  subst hx
  refine PI.imp (pi_enumA hg hm (pa_cons ha pa_nil (by rw [hs]; rfl)) hs) fun σ H T hw => ?_
  obtain ⟨ρ, h, ς, q, x, R, S, k, c, cx⟩ := hw
  refine ⟨ρ, h, ς, _, x, R, S, k, fun ρ1 h1 H1 xs u E1 R1 r1 k1 => ?_, cx⟩
  obtain ⟨p, us, rfl, _, h2, h3, h4⟩ := r1
  exact ⟨p, us, rfl, .inl ⟨SqL.of h2, c ρ1 h1 H1 _ _ _ E1 R1 (ItOk.any (ys := xs) (ItOk.enumL (X := X) g.eK fun ρ' h' H' E _ _ => temp_later (X := X) R1 h2 h3 h4 ρ' h' H' E)) k1⟩⟩
end
end WD
end
section
set_option Elab.async false
set_option linter.all false
set_option maxRecDepth 100000
set_option autoImplicit false
set_option maxHeartbeats 4000000
/-! WJud4: targets, comprehensions, statements, loops. -/
namespace WD
open PySem PySem.Spec PyProof.Rows L2
/-! ### targets -/
theorem wipe_set {σ : L2.St} {i : Nat} {v : V} : ∀ {vs : List Nat}, i ∈ vs → wipe (σ.set i (some v)) vs = wipe σ vs := by
  intro vs
  have key : ∀ (j : Nat) (ws : List Nat), (wipe (σ.set i (some v)) ws)[j]? = if j = i ∧ i ∉ ws then (σ.set i (some v))[j]? else (wipe σ ws)[j]? := by
    intro j ws
    induction ws with
    | nil =>
      unfold wipe
      by_cases q : j = i
      · subst q; simp
      · rw [if_neg (fun z => q z.1), List.getElem?_set_ne (Ne.symm q)]
    | cons w ws ih =>
      unfold wipe
      by_cases q : w = j
      · subst q
        have l1 : (wipe (σ.set i (some v)) ws).length = (wipe σ ws).length := by rw [wipe_length, wipe_length, List.length_set]
        by_cases z : w = i
        · subst z
          rw [if_neg (by simp)]
          by_cases hl : w < (wipe σ ws).length
          · rw [List.getElem?_set_self (by rw [l1]; exact hl), List.getElem?_set_self hl]
          · rw [List.getElem?_eq_none (by rw [List.length_set, l1]; omega), List.getElem?_eq_none (by rw [List.length_set]; omega)]
        · rw [if_neg (fun y => z y.1)]
          by_cases hl : w < (wipe σ ws).length
          · rw [List.getElem?_set_self (by rw [l1]; exact hl), List.getElem?_set_self hl]
          · rw [List.getElem?_eq_none (by rw [List.length_set, l1]; omega), List.getElem?_eq_none (by rw [List.length_set]; omega)]
      · rw [List.getElem?_set_ne q, List.getElem?_set_ne q, ih]
        by_cases z : j = i
        · subst z
          by_cases y : j ∈ ws
          · rw [if_neg (by simp [y]), if_neg (by simp [y])]
          · rw [if_pos ⟨rfl, y⟩, if_pos ⟨rfl, by simp [y]; exact fun e => q e.symm⟩]
        · rw [if_neg (fun y => z y.1), if_neg (fun y => z y.1)]
  intro hi
  apply List.ext_getElem?
  intro j
  rw [key j vs, if_neg (fun z => z.2 hi)]
/-- a target of slots among ws -/
def upG (G : GE) (ws : List Nat) (m : PV → PSt → (PSt → Prop) → Prop) : TG := fun u σ H T => ∃ ρ h v ς, ∃ q : PSt → Prop, HR G.K ρ h H ∧ SR G.K ρ h.length H ς σ ∧ Rep G.K ρ h.length H v u ∧ m v ς q ∧ ∀ ς' σ', SR G.K ρ h.length H ς' σ' → wipe σ' ws = wipe σ ws → q ς' → T σ' H
def upGs (G : GE) (ws : List Nat) (m : List PV → PSt → (PSt → Prop) → Prop) : TGs := fun us σ H T => ∃ ρ h vs ς, ∃ q : PSt → Prop, HR G.K ρ h H ∧ SR G.K ρ h.length H ς σ ∧ Reps G.K ρ h.length H vs us ∧ m vs ς q ∧ ∀ ς' σ', SR G.K ρ h.length H ς' σ' → wipe σ' ws = wipe σ ws → q ς' → T σ' H
theorem PG.imp {X : Cx} {e : Expr} {t t' : TG} (h : PG X e t) (i : ∀ v σ H Q, t' v σ H Q → t v σ H Q) : PG X e t' := ⟨fun pins s σ H v u Q I r hw => h.run pins s σ H v u Q I r (i v σ H Q hw)⟩
theorem PGs.imp {X : Cx} {e : List Expr} {t t' : TGs} (h : PGs X e t) (i : ∀ v σ H Q, t' v σ H Q → t v σ H Q) : PGs X e t' := ⟨fun pins s σ H v u Q I r hw => h.run pins s σ H v u Q I r (i v σ H Q hw)⟩
section
variable {G : GE} {Φ : Phi} {W : WX} {X : Cx} {pos p : Pos} {e : Expr} {es : List Expr} {ws : List Nat}
theorem rg_name {i : Nat} {x : Str} (hN : X.N.Nodup) (hi : X.N[i]? = some x) (hx : Loc X.env.scope x) (hf : X.fn x = true ∨ X.env.scope.names.lookup x = some .local) (hw : i ∈ ws) : PG X (.Name x pos) (upG G ws fun v ς q => q (ς.set i (some v))) :=
  PG.imp (pg_name hN hi hx hf) fun u σ H T hw' => by
    obtain ⟨ρ, h, v, ς, q, R, S, r, k, c⟩ := hw'
    exact c _ _ (S.set i r) (wipe_set hw) k
theorem rgs_nil : PGs X [] (upGs G ws fun vs ς q => vs = [] ∧ q ς) :=
  PGs.imp pgs_nil fun us σ H T hw => by
    obtain ⟨ρ, h, v, ς, q, R, S, r, ⟨rfl, k⟩, c⟩ := hw
    cases r
    exact ⟨rfl, c _ _ S rfl k⟩
theorem rgs_cons {m : PV → PSt → (PSt → Prop) → Prop} {ms : List PV → PSt → (PSt → Prop) → Prop} (h1 : PG X e (upG G ws m)) (h2 : PGs X es (upGs G ws ms)) (hs : (assignEach (e :: es) X.env).map (·.2) = assign e X.env :: (assignEach es X.env).map (·.2)) :
    PGs X (e :: es) (upGs G ws fun vs ς q => ∃ v r, vs = v :: r ∧ m v ς fun ς' => ms r ς' q) :=
  PGs.imp (pgs_cons h1 h2 hs) fun us σ H T hw => by
    obtain ⟨ρ, h, vs, ς, q, R, S, r, ⟨v, vr, rfl, k⟩, c⟩ := hw
    cases r with
    | cons r1 r2 => exact ⟨_, _, rfl, ρ, h, v, ς, _, R, S, r1, k, fun ς' σ' S' e' k' => ⟨ρ, h, vr, ς', q, R, S', r2, k', fun ς2 σ2 S2 e2 k2 => c ς2 σ2 S2 (e2.trans e') k2⟩⟩
theorem rg_tup {k : Nat} {ms : List PV → PSt → (PSt → Prop) → Prop} (g : Good G X W) (h : PGs X es (upGs G ws ms)) (hn : (assignEach es X.env).length = es.length) (hst : (assignEach es X.env).findIdx? (·.1) = none) (hlen : ∀ vs ς q, ms vs ς q → vs.length = es.length) :
    PG X (.Tuple es k pos) (upG G ws fun v ς q => ∃ xs, v = .tup xs ∧ ms xs ς q) :=
  PG.imp (pg_tup g.calm h hn hst) fun u σ H T hw => by
    obtain ⟨ρ, h, v, ς, q, R, S, r, ⟨xs, rfl, k⟩, c⟩ := hw
    obtain ⟨a, vs, rfl, sq, rs⟩ := r.tupInv
    exact ⟨a, vs, rfl, g.eK ▸ sq, by rw [← rs.length]; exact hlen _ _ _ k, ρ, h, xs, ς, q, R, S, rs, k, c⟩
/-! ### comprehensions -/
/-- the block's judgements, whatever the block -/
structure BlkR (G : GE) (X : Cx) (scope : Scope) (ws : List Nat) (tg elt : Expr) (ifs : List Expr) (mt : PV → PSt → (PSt → Prop) → Prop) (mc : QX → PSt → PH → (Bool → PH → Prop) → Prop) (me : QX → PSt → PH → QV → Prop) : Prop where
  tg : ∀ (s : Shared) (H : Hp) (C : Addr) (cl : List (Str × Addr)) (fp : List Addr), PG (X.blk s H scope (compEnvC scope cl C X.env) fp) tg (upG G ws mt)
  ifs : ∀ (s : Shared) (H : Hp) (C : Addr) (cl : List (Str × Addr)) (fp : List Addr), PTs (X.blk s H scope (compEnvC scope cl C X.env) fp) ifs (up G (fun _ _ _ _ => False) (REq Bool) mc)
  elt : ∀ (s : Shared) (H : Hp) (C : Addr) (cl : List (Str × Addr)) (fp : List Addr), PE (X.blk s H scope (compEnvC scope cl C X.env) fp) elt (up G (fun _ _ _ _ => False) (RV G) me)
end
mutual
theorem Rep.poke' {K : PySem.W.Frag} {ρ : Nat → Addr} {n : Nat} {H : Hp} {D : Addr} {o o' : HO} (ho : seqO o = true) (hD : H D = some o) : ∀ {v : PV} {u : V}, Rep K ρ n H v u → Rep K ρ n (upd H D o') v u
  | _, _, .non => .non
  | _, _, .bl b => .bl b
  | _, _, .int i => .int i
  | _, _, .str x e => .str x e
  | _, _, .tup s r => .tup (by
      rcases s with (s | ⟨_, s⟩) | s
      · exact .inl (.inl (by rw [upd_ne (ne_of s hD (by intro z; rw [← z] at ho; cases ho))]; exact s))
      · exact .inl (.inr ⟨_, by rw [upd_ne (ne_of s hD (by intro z; rw [← z] at ho; cases ho))]; exact s⟩)
      · exact .inr s) (Reps.poke' ho hD r)
  | _, _, .rol s r => .rol (by
      rcases s with ⟨_, s⟩ | s
      · exact .inl ⟨_, by rw [upd_ne (ne_of s hD (by intro z; rw [← z] at ho; cases ho))]; exact s⟩
      · exact .inr s) (Reps.poke' ho hD r)
  | _, _, .loc l hl => .loc l hl
theorem Reps.poke' {K : PySem.W.Frag} {ρ : Nat → Addr} {n : Nat} {H : Hp} {D : Addr} {o o' : HO} (ho : seqO o = true) (hD : H D = some o) : ∀ {xs : List PV} {ws : List V}, Reps K ρ n H xs ws → Reps K ρ n (upd H D o') xs ws
  | _, _, .nil => .nil
  | _, _, .cons r t => .cons (Rep.poke' ho hD r) (Reps.poke' ho hD t)
end
theorem Rep.poke {K : PySem.W.Frag} {ρ : Nat → Addr} {n : Nat} {H : Hp} {D : Addr} {us us' : List V} (hD : H D = some (.lst us)) {v : PV} {u : V} (r : Rep K ρ n H v u) : Rep K ρ n (upd H D (.lst us')) v u := r.poke' rfl hD
theorem Reps.poke {K : PySem.W.Frag} {ρ : Nat → Addr} {n : Nat} {H : Hp} {D : Addr} {us us' : List V} (hD : H D = some (.lst us)) {xs : List PV} {ws : List V} (r : Reps K ρ n H xs ws) : Reps K ρ n (upd H D (.lst us')) xs ws := r.poke' rfl hD
theorem RepD.poke' {K : PySem.W.Frag} {ρ : Nat → Addr} {n : Nat} {H : Hp} {D : Addr} {o o' : HO} (ho : seqO o = true) (hD : H D = some o) : ∀ {xs : List (Key × PV)} {ws : List (Key × V)}, RepD K ρ n H xs ws → RepD K ρ n (upd H D o') xs ws
  | _, _, .nil => .nil
  | _, _, .cons k r t => .cons k (Rep.poke' ho hD r) (RepD.poke' ho hD t)
theorem HR.poke' {K : PySem.W.Frag} {ρ : Nat → Addr} {h : PH} {H : Hp} {D : Addr} {o o' : HO} (R : HR K ρ h H) (ho : seqO o = true) (hD : H D = some o) (nl : ∀ l, l < h.length → ρ l ≠ D) : HR K ρ h (upd H D o') := by
  refine ⟨fun l o e => ?_, R.inj⟩
  have hl : l < h.length := (List.getElem?_eq_some_iff.mp e).1
  have q := R.obj l o e
  obtain ⟨o2, e2⟩ := R.there hl
  rw [upd_ne (nl l hl)]
  rw [e2] at q ⊢
  cases q with
  | lst r => exact .lst (r.poke' ho hD)
  | dic r => exact .dic (r.poke' ho hD)
theorem HR.poke {K : PySem.W.Frag} {ρ : Nat → Addr} {h : PH} {H : Hp} {D : Addr} {us us' : List V} (R : HR K ρ h H) (hD : H D = some (.lst us)) (nl : ∀ l, l < h.length → ρ l ≠ D) : HR K ρ h (upd H D (.lst us')) := R.poke' rfl hD nl
theorem SR.poke {K : PySem.W.Frag} {ρ : Nat → Addr} {n : Nat} {H : Hp} {D : Addr} {us us' : List V} {ς : PSt} {σ : L2.St} (S : SR K ρ n H ς σ) (hD : H D = some (.lst us)) : SR K ρ n (upd H D (.lst us')) ς σ :=
  ⟨S.len, fun i v e => let ⟨u, a, b⟩ := S.get i v e; ⟨u, a, b.poke hD⟩⟩
/-- from an earlier heap, in which D was not -/
theorem Ext.poke {ρ ρ' : Nat → Addr} {n n' : Nat} {H0 H : Hp} {D : Addr} {o' : HO} (hD : H0 D = none) (E0 : Ext ρ n H0 ρ' n' H) : Ext ρ n H0 ρ' n' (upd H D o') :=
  ⟨E0.le, E0.eq, fun a u e hn => by rw [upd_ne (ne_of_none e hD)]; exact E0.keep a u e hn, fun l h1 h2 => E0.new l h1 h2⟩
/-- what was not there stays untracked -/
theorem Ext.nl {ρ ρ' : Nat → Addr} {n n' : Nat} {H H' : Hp} {D : Addr} {o : HO} (hD : H D = some o) (nl : ∀ l, l < n → ρ l ≠ D) (E : Ext ρ n H ρ' n' H') : ∀ l, l < n' → ρ' l ≠ D := fun l hl z => by
  by_cases q : l < n
  · rw [E.eq l q] at z
    exact nl l q z
  · have := E.new l (Nat.le_of_not_lt q) hl
    rw [z, hD] at this
    cases this
theorem was_none {ρ0 ρ : Nat → Addr} {h0 h : PH} {H0 H : Hp} {p : Addr} {G : GE} (R0 : HR G.K ρ0 h0 H0) (E : Ext ρ0 h0.length H0 ρ h.length H) (R : HR G.K ρ h H) (hp : H p = none) : H0 p = none := by
  cases e : H0 p with
  | none => rfl
  | some o =>
    by_cases z : ∃ l, l < h0.length ∧ ρ0 l = p
    · obtain ⟨l, hl, z⟩ := z
      obtain ⟨o', e'⟩ := R.there (Nat.lt_of_lt_of_le hl E.le)
      rw [E.eq l hl, z, hp] at e'
      cases e'
    · have := E.keep p o e fun l hl z' => z ⟨l, hl, z'⟩
      rw [hp] at this
      cases this
section
variable {G : GE} {Φ : Phi} {W : WX} {X : Cx} {pos p : Pos} {e : Expr} {es : List Expr} {ws : List Nat}
/-- a comprehension's loop -/
theorem comp_core {own : List (Str × Nat)} {t : Tg} {mc : QX → PSt → PH → (Bool → PH → Prop) → Prop} {me : QX → PSt → PH → QV → Prop}
    {ρ0 : Nat → Addr} {h0 : PH} {H0 : Hp} {ς : PSt} {σ : L2.St} {J : It} {xs : List PV} {gd : PH → Prop} {q : List PV → PH → Prop} {Q : V → Hp → Prop} {D : Addr}
    (R0 : HR G.K ρ0 h0 H0) (S0 : SR G.K ρ0 h0.length H0 ς σ) (hJ : ItOk G ρ0 h0.length H0 J xs gd) (hD : H0 D = none)
    (k : compW gd t (wipeP ς (own.map (·.2))) (mc fun _ _ => False) (me fun _ _ => False) q xs [] h0)
    (fin : ∀ ρ h H vs us, Ext ρ0 h0.length H0 ρ h.length H → HR G.K ρ h H → H D = some (.lst us) → (∀ l, l < h.length → ρ l ≠ D) → Reps G.K ρ h.length H vs us → q vs h → Q (.ref D) H) :
    ∃ Wv : Nat → Nat → Hp → Prop, (∃ m, Wv 0 m (upd H0 D (.lst []))) ∧ ∀ i m H, Wv i m H →
      (J.stop i H ∧ Q (.ref D) H) ∨ (J.go i H ∧ ∃ Nx : Hp → Prop, (∀ H', Nx H' → ∃ m', m' < m ∧ Wv (i + 1) m' H') ∧ ∀ x H', J.yld i H x H' → upG G (own.map (·.2)) (setT t) x (wipe σ (own.map (·.2))) H' fun σ2 H2 => wipe σ2 (own.map (·.2)) = wipe σ (own.map (·.2)) ∧
        up G (fun _ _ _ _ => False) (REq Bool) mc σ2 H2 fun b H3 => if b = true then up G (fun _ _ _ _ => False) (RV G) me σ2 H3 fun y H4 => ∃ acc, H4 D = some (.lst acc) ∧ acc.length < sizeLine ∧ Nx (upd H4 D (.lst (acc ++ [y]))) else Nx H3) := by
  have nl0 : ∀ l, l < h0.length → ρ0 l ≠ D := fun l hl z => by
    obtain ⟨o, e⟩ := R0.there hl
    rw [z, hD] at e
    cases e
  have ww : ∀ (vs : List Nat), wipe (wipe σ vs) vs = wipe σ vs := by
    intro vs
    have key : ∀ (ws us : List Nat), (∀ w ∈ ws, w ∈ us) → ∀ τ : L2.St, wipe (wipe τ us) ws = wipe τ us := by
      intro ws
      induction ws with
      | nil => intro us _ τ; rfl
      | cons w ws ih =>
        intro us hs τ
        show (wipe (wipe τ us) ws).set w none = wipe τ us
        rw [ih us (fun x hx => hs x (List.mem_cons_of_mem _ hx)) τ]
        -- the slot is forgotten already
        have hw : ∀ (us : List Nat) (τ : L2.St), w ∈ us → (wipe τ us).set w none = wipe τ us := by
          intro us
          induction us with
          | nil => intro τ h; cases h
          | cons v us ih2 =>
            intro τ h
            unfold wipe
            by_cases q : v = w
            · subst q
              rw [List.set_set]
            · rw [List.set_comm _ _ q, ih2 τ (by
                rcases List.mem_cons.mp h with z | z
                · exact absurd z.symm q
                · exact z)]
        exact hw us τ (hs w List.mem_cons_self)
    exact key vs vs (fun _ h => h) σ
  -- what holds at turn i
  refine ⟨fun i m H => m = xs.length - i ∧ i ≤ xs.length ∧ ∃ ρ h vs us, Ext ρ0 h0.length H0 ρ h.length H ∧ HR G.K ρ h H ∧ H D = some (.lst us) ∧ (∀ l, l < h.length → ρ l ≠ D) ∧ Reps G.K ρ h.length H vs us ∧ SR G.K ρ h.length H (wipeP ς (own.map (·.2))) (wipe σ (own.map (·.2))) ∧
      compW gd t (wipeP ς (own.map (·.2))) (mc fun _ _ => False) (me fun _ _ => False) q (xs.drop i) vs h, ⟨xs.length, by simp, Nat.zero_le _, ρ0, h0, [], [], Ext.fresh hD, R0.fresh hD, upd_same, nl0, .nil, (S0.ext R0 (Ext.fresh hD)).wipe _, by simpa using k⟩, ?_⟩
  rintro i m H ⟨rfl, hi, ρ, h, vs, us, E, R, eD, nl, rs, S, k⟩
  by_cases hlt : i < xs.length
  · have hd : xs.drop i = xs[i] :: xs.drop (i + 1) := List.drop_eq_getElem_cons hlt
    rw [hd] at k
    obtain ⟨gh, k⟩ := k
    obtain ⟨hgo, hy⟩ := (hJ ρ h H i E R gh).1 xs[i] (List.getElem?_eq_getElem hlt)
    refine .inr ⟨hgo, fun H' => i + 1 ≤ xs.length ∧ ∃ ρ h vs us, Ext ρ0 h0.length H0 ρ h.length H' ∧ HR G.K ρ h H' ∧ H' D = some (.lst us) ∧ (∀ l, l < h.length → ρ l ≠ D) ∧ Reps G.K ρ h.length H' vs us ∧ SR G.K ρ h.length H' (wipeP ς (own.map (·.2))) (wipe σ (own.map (·.2))) ∧
      compW gd t (wipeP ς (own.map (·.2))) (mc fun _ _ => False) (me fun _ _ => False) q (xs.drop (i + 1)) vs h, fun H' ⟨z1, z2⟩ => ⟨xs.length - (i + 1), by omega, rfl, z1, z2⟩, fun u H' y => ?_⟩
    obtain ⟨E1, R1, r1⟩ := hy u H' y
    have S1 := S.ext R E1
    have rs1 := Reps.ext R E1 rs
    have eD1 : H' D = some (.lst us) := E1.keep D _ eD nl
    refine ⟨ρ, h, xs[i], wipeP ς (own.map (·.2)), _, R1, S1, r1, k, fun ς2 σ2 S2 e2 k2 => ⟨e2.trans (ww _), ?_⟩⟩
    refine ⟨ρ, h, ς2, _, fun _ _ => False, R1, S2, k2, fun ρ3 h3 H3 b b' E3 R3 eb k3 => ?_, CovX.none⟩
    have eb' : b = b' := eb
    subst eb'
    have nl3 := Ext.nl eD1 nl E3
    have eD3 : H3 D = some (.lst us) := E3.keep D _ eD1 nl
    cases b with
    | true =>
      simp only [if_true] at k3 ⊢
      refine ⟨ρ3, h3, ς2, _, fun _ _ => False, R3, S2.ext R1 E3, k3, fun ρ4 h4 H4 yv yu E4 R4 r4 k4 => ?_, CovX.none⟩
      have nl4 := Ext.nl eD3 nl3 E4
      have eD4 : H4 D = some (.lst us) := E4.keep D _ eD3 nl3
      have rs4 := Reps.ext R3 E4 (Reps.ext R1 E3 rs1)
      have S4 := (S1.ext R1 E3).ext R3 E4
      have E14 : Ext ρ0 h0.length H0 ρ4 h4.length H4 := ((E.trans R E1).trans R1 E3).trans R3 E4
      refine ⟨us, eD4, by rw [← rs4.length]; exact k4.1, hlt, ρ4, h4, vs ++ [yv], us ++ [yu], E14.poke hD, R4.poke eD4 nl4, upd_same, nl4, (rs4.poke eD4).append (.cons (r4.poke eD4) .nil), S4.poke eD4, k4.2⟩
    | false =>
      simp only [Bool.false_eq_true, if_false] at k3 ⊢
      exact ⟨hlt, ρ3, h3, vs, us, (E.trans R E1).trans R1 E3, R3, eD3, nl3, Reps.ext R1 E3 rs1, S1.ext R1 E3, k3⟩
  · have e : i = xs.length := by omega
    subst e
    rw [List.drop_length] at k
    obtain ⟨gh, k⟩ := k
    exact .inl ⟨(hJ ρ h H xs.length E R gh).2 (Nat.le_refl _), fin ρ h H vs us E R eD nl rs k⟩
theorem rl_comp {elt tg iter : Expr} {ifs : List Expr} {scope : Scope} {own : List (Str × Nat)} {t : Tg} {mi : MI} {mc : QX → PSt → PH → (Bool → PH → Prop) → Prop} {me : QX → PSt → PH → QV → Prop} (g : Good G X W) (hN : X.N.Nodup) (hi : RI G W X tg iter mi) (ok : BlkOk X.N X.env.scope scope own)
    (B : BlkR G X scope (own.map (·.2)) tg elt ifs (setT t) mc me) (hs : ∀ x, foldedSetIterable iter X.env x = pure x) :
    RL G W X (.ListComp elt [⟨tg, iter, ifs, 0⟩] scope pos) (fun x ς h q => mi x ς h fun xs gd h1 => compW gd t (wipeP ς (own.map (·.2))) (mc fun _ _ => False) (me fun _ _ => False) q xs [] h1) := by
  refine PE.imp (pe_lc (own := own) g.calm hN hi ok B.tg B.ifs B.elt hs) fun σ H Q hw => ?_
  obtain ⟨ρ, h, ς, q, x, R, S, k, c, cx⟩ := hw
  refine ⟨ρ, h, ς, _, x, R, S, k, fun ρ1 h1 H1 J xs gd E1 R1 hJ k1 D hD => ?_, cx⟩
  exact comp_core R1 (S.ext R E1) hJ hD k1 fun ρ2 h2 H2 vs us E2 R2 eD nl rs k2 => c ρ2 h2 H2 vs (.ref D) (E1.trans R1 E2) R2 ⟨D, us, rfl, was_none R (E1) R1 hD, eD, nl, rs⟩ k2
/-- x = [..], the list tracked -/
theorem rs_setLc_core {own : List (Str × Nat)} {t : Tg} {mi : MI} {mc : QX → PSt → PH → (Bool → PH → Prop) → Prop} {me : QX → PSt → PH → QV → Prop} {σ : L2.St} {H : Hp} {Q : VK}
    (hw : up G W (RV G) (fun x ς h q => mi x ς h fun xs gd h1 => compW gd t (wipeP ς (own.map (·.2))) (mc fun _ _ => False) (me fun _ _ => False) (fun vs h2 => q (.loc h2.length) (h2 ++ [.lst vs])) xs [] h1) σ H Q) :
    tLc (upI G W mi) (upG G (own.map (·.2)) (setT t)) (up G (fun _ _ _ _ => False) (REq Bool) mc) (up G (fun _ _ _ _ => False) (RV G) me) (own.map (·.2)) σ H Q := by
  obtain ⟨ρ, h, ς, q, x, R, S, k, c, cx⟩ := hw
  refine ⟨ρ, h, ς, _, x, R, S, k, fun ρ1 h1 H1 J xs gd E1 R1 hJ k1 D hD => ?_, cx⟩
  refine comp_core R1 (S.ext R E1) hJ hD k1 fun ρ2 h2 H2 vs us E2 R2 eD nl rs k2 => ?_
  have hE := E1.trans R1 E2
  refine c (ρadd ρ2 h2.length D) (h2 ++ [.lst vs]) H2 (.loc h2.length) (.ref D) ?_ (R2.track eD nl (.lst rs)) ?_ k2
  · have := Ext.track hE (was_none R E1 R1 hD)
    rwa [show (h2 ++ [PO.lst vs]).length = h2.length + 1 by simp]
  · have e : V.ref D = V.ref (ρadd ρ2 h2.length D h2.length) := by rw [ρadd_self]
    rw [e]
    exact .loc h2.length (by simp)
end
end WD
end
section
set_option Elab.async false
set_option linter.all false
set_option maxRecDepth 100000
set_option autoImplicit false
set_option maxHeartbeats 4000000
/-! WJud5: statements, loops. -/
namespace WD
open PySem PySem.Spec PyProof.Rows L2
abbrev MS := KS → PSt → PH → Prop
/-- what follows a statement is answered -/
structure CovS (G : GE) (ρ : Nat → Addr) (h : PH) (H : Hp) (κ : KS) (D : Ends) (W : WX) : Prop where
  nx : ∀ ρ' h' H' ς' σ', Ext ρ h.length H ρ' h'.length H' → HR G.K ρ' h' H' → SR G.K ρ' h'.length H' ς' σ' → κ.nx ς' h' → D.nx σ' H'
  rt : Cov G (RV G) ρ h H κ.rt D.rt
  bk : ∀ ρ' h' H' ς' σ', Ext ρ h.length H ρ' h'.length H' → HR G.K ρ' h' H' → SR G.K ρ' h'.length H' ς' σ' → κ.bk ς' h' → D.bk σ' H'
  ct : ∀ ρ' h' H' ς' σ', Ext ρ h.length H ρ' h'.length H' → HR G.K ρ' h' H' → SR G.K ρ' h'.length H' ς' σ' → κ.ct ς' h' → D.ct σ' H'
  ex : ∀ ρ' h' H' ς' σ' e c d, Ext ρ h.length H ρ' h'.length H' → HR G.K ρ' h' H' → SR G.K ρ' h'.length H' ς' σ' → XR G ρ' h'.length H' e c d → κ.ex e ς' h' → W c d σ' H'
section
variable {G : GE} {ρ ρ1 : Nat → Addr} {h h1 : PH} {H H1 : Hp} {κ : KS} {D : Ends} {W : WX} {ς : PSt} {σ : L2.St}
theorem CovS.at (c : CovS G ρ h H κ D W) (R1 : HR G.K ρ1 h1 H1) (E : Ext ρ h.length H ρ1 h1.length H1) : CovS G ρ1 h1 H1 κ D W :=
  ⟨fun ρ' h' H' ς' σ' E' => c.nx ρ' h' H' ς' σ' (E.trans R1 E'), c.rt.at R1 E, fun ρ' h' H' ς' σ' E' => c.bk ρ' h' H' ς' σ' (E.trans R1 E'), fun ρ' h' H' ς' σ' E' => c.ct ρ' h' H' ς' σ' (E.trans R1 E'), fun ρ' h' H' ς' σ' e k d E' => c.ex ρ' h' H' ς' σ' e k d (E.trans R1 E')⟩
/-- an expression's exceptions are the statement's -/
theorem CovS.cx (c : CovS G ρ h H κ D W) (R : HR G.K ρ h H) (S : SR G.K ρ h.length H ς σ) : CovX G ρ h H (fun e h => κ.ex e ς h) σ W :=
  fun ρ' h' H' e k d E R' x z => c.ex ρ' h' H' ς σ e k d E R' (S.ext R E) x z
end
def upS (G : GE) (W : WX) (m : MS) : TS := fun D σ H => ∃ ρ h ς κ, HR G.K ρ h H ∧ SR G.K ρ h.length H ς σ ∧ m κ ς h ∧ CovS G ρ h H κ D W
abbrev RS (G : GE) (W : WX) (X : Cx) (s : Stmt) (m : MS) : Prop := PS X s (upS G W m)
abbrev RSs (G : GE) (W : WX) (X : Cx) (s : List Stmt) (m : MS) : Prop := PSs X s (upS G W m)
section
variable {G : GE} {Φ : Phi} {W : WX} {X : Cx} {a b c e : Expr} {es : List Expr} {pos p : Pos} {ma mb mc : QX → PSt → PH → QV → Prop} {tc : QX → PSt → PH → (Bool → PH → Prop) → Prop} {m m' : MS} {st : Stmt} {sts : List Stmt}
/-- from a statement to its expression -/
theorem upS_e {me : QX → PSt → PH → QV → Prop} {k : KS → PSt → PV → PH → Prop} {σ : L2.St} {H : Hp} {D : Ends} {T : VK}
    (hw : upS G W (fun κ ς h => me (fun e h => κ.ex e ς h) ς h fun v h1 => k κ ς v h1) D σ H)
    (step : ∀ (ρ : Nat → Addr) (h : PH) (H1 : Hp) (ς : PSt) (κ : KS) (v : PV) (u : V), HR G.K ρ h H1 → SR G.K ρ h.length H1 ς σ → Rep G.K ρ h.length H1 v u → k κ ς v h → CovS G ρ h H1 κ D W → T u H1) : up G W (RV G) me σ H T := by
  obtain ⟨ρ, h, ς, κ, R, S, z, c⟩ := hw
  exact ⟨ρ, h, ς, _, _, R, S, z, fun ρ' h' H' v u E R' r k => step ρ' h' H' ς κ v u R' (S.ext R E) r k (c.at R' E), c.cx R S⟩
theorem rss_nil : RSs G W X [] (fun κ ς h => κ.nx ς h) := PSs.imp pss_nil fun D σ H hw => by
  obtain ⟨ρ, h, ς, κ, R, S, z, c⟩ := hw
  exact c.nx ρ h H ς σ Ext.refl R S z
theorem rss_cons (h1 : RS G W X st m) (h2 : RSs G W X sts m') : RSs G W X (st :: sts) (fun κ ς h => m { κ with nx := m' κ } ς h) := PSs.imp (pss_cons h1 h2) fun D σ H hw => by
  obtain ⟨ρ, h, ς, κ, R, S, z, c⟩ := hw
  exact ⟨ρ, h, ς, _, R, S, z, ⟨fun ρ' h' H' ς' σ' E R' S' k => ⟨ρ', h', ς', κ, R', S', k, c.at R' E⟩, c.rt, c.bk, c.ct, c.ex⟩⟩
theorem rs_pass : RS G W X (.Pass pos) (fun κ ς h => κ.nx ς h) := PS.imp ps_pass fun D σ H hw => by
  obtain ⟨ρ, h, ς, κ, R, S, z, c⟩ := hw
  exact c.nx ρ h H ς σ Ext.refl R S z
theorem rs_doc {x : Str} {j : Nat} {p1 p2 : Pos} : RS G W X (.Expr (.Constant (.str x) j p1) p2) (fun κ ς h => κ.nx ς h) := PS.imp ps_doc fun D σ H hw => by
  obtain ⟨ρ, h, ς, κ, R, S, z, c⟩ := hw
  exact c.nx ρ h H ς σ Ext.refl R S z
theorem rs_break : RS G W X (.Break pos) (fun κ ς h => κ.bk ς h) := PS.imp ps_break fun D σ H hw => by
  obtain ⟨ρ, h, ς, κ, R, S, z, c⟩ := hw
  exact c.bk ρ h H ς σ Ext.refl R S z
theorem rs_cont : RS G W X (.Continue pos) (fun κ ς h => κ.ct ς h) := PS.imp ps_continue fun D σ H hw => by
  obtain ⟨ρ, h, ς, κ, R, S, z, c⟩ := hw
  exact c.ct ρ h H ς σ Ext.refl R S z
theorem rs_expr (ha : RE G W X a ma) (hs : swapsWith a none pos.line X.env = pure false) : RS G W X (.Expr a pos) (fun κ ς h => ma (fun e h => κ.ex e ς h) ς h fun _ h1 => κ.nx ς h1) := PS.imp (ps_expr ha hs) fun D σ H hw => by
  refine upS_e (k := fun κ ς _ h => κ.nx ς h) hw fun ρ h H1 ς κ v u R S r z c => ?_
  exact c.nx ρ h H1 ς σ Ext.refl R S z
theorem rs_ret (ha : RE G W X a ma) : RS G W X (.Return (some a) pos) (fun κ ς h => ma (fun e h => κ.ex e ς h) ς h κ.rt) := PS.imp (ps_ret ha) fun D σ H hw => by
  refine upS_e (k := fun κ ς v h => κ.rt v h) hw fun ρ h H1 ς κ v u R S r z c => ?_
  exact c.rt.here R r z
theorem rs_retN : RS G W X (.Return none pos) (fun κ _ h => κ.rt .non h) := PS.imp ps_retN fun D σ H hw => by
  obtain ⟨ρ, h, ς, κ, R, S, z, c⟩ := hw
  exact c.rt.here R .non z
theorem rs_if (hc : RT G W X c tc) (h1 : RSs G W X sts m) {sts' : List Stmt} (h2 : RSs G W X sts' m') : RS G W X (.If c sts sts' pos) (fun κ ς h => tc (fun e h => κ.ex e ς h) ς h fun r h1 => if r = true then m κ ς h1 else m' κ ς h1) := PS.imp (ps_if hc h1 h2) fun D σ H hw => by
  obtain ⟨ρ, h, ς, κ, R, S, z, cv⟩ := hw
  refine ⟨ρ, h, ς, _, _, R, S, z, fun ρ' h' H' r r' E R' er k => ?_, cv.cx R S⟩
  have er' : r = r' := er
  subst er'
  cases r with
  | true =>
    simp only [if_true] at k ⊢
    exact ⟨ρ', h', ς, κ, R', S.ext R E, k, cv.at R' E⟩
  | false =>
    simp only [Bool.false_eq_true, if_false] at k ⊢
    exact ⟨ρ', h', ς, κ, R', S.ext R E, k, cv.at R' E⟩
/-! ### assignments -/
theorem rs_asg {tg : Expr} {t : Tg} {ws : List Nat} (ha : RE G W X a ma) (hg : PG X tg (upG G ws (setT t))) (hs : swapsWithSole [tg] a pos.line X.env = pure false) (hw : swappedStores [tg] a X.env = pure none) (h1 : (assignEach [tg] X.env).map (·.2) = [assign tg X.env]) :
    RS G W X (.Assign [tg] a pos) (fun κ ς h => ma (fun e h => κ.ex e ς h) ς h fun v h1 => setT t v ς fun ς' => κ.nx ς' h1) := PS.imp (ps_asg ha hg hs hw h1) fun D σ H hw => by
  refine upS_e (k := fun κ ς v h => setT t v ς fun ς' => κ.nx ς' h) hw fun ρ h H1 ς κ v u R S r z c => ?_
  exact ⟨ρ, h, v, ς, _, R, S, r, z, fun ς' σ' S' _ k => c.nx ρ h H1 ς' σ' Ext.refl R S' k⟩
theorem rs_set {i : Nat} {x : Str} {p' : Pos} (ha : RE G W X a ma) (hN : X.N.Nodup) (hi : X.N[i]? = some x) (hx : Loc X.env.scope x) (hf : X.fn x = true ∨ X.env.scope.names.lookup x = some .local) (hs : swapsWith a (some (.Name x p')) pos.line X.env = pure false) :
    RS G W X (.Assign [.Name x p'] a pos) (fun κ ς h => ma (fun e h => κ.ex e ς h) ς h fun v h1 => κ.nx (ς.set i (some v)) h1) := PS.imp (ps_set hN hi hx ha hs hf) fun D σ H hw => by
  refine upS_e (k := fun κ ς v h => κ.nx (ς.set i (some v)) h) hw fun ρ h H1 ς κ v u R S r z c => ?_
  exact c.nx ρ h H1 _ _ Ext.refl R (S.set i r) z
theorem rs_setLc {i : Nat} {y : Str} {py : Pos} {elt tg iter : Expr} {ifs : List Expr} {scope : Scope} {own : List (Str × Nat)} {t : Tg} {spos : Pos} {mi : MI} {mcc : QX → PSt → PH → (Bool → PH → Prop) → Prop} {me : QX → PSt → PH → QV → Prop} (g : Good G X W) (hN : X.N.Nodup) (hy : X.N[i]? = some y) (hyl : X.env.scope.names.lookup y = some .local)
    (hsw : swapsWith (.ListComp elt [⟨tg, iter, ifs, 0⟩] scope pos) (some (.Name y py)) spos.line X.env = pure true) (hi : RI G W X tg iter mi) (ok : BlkOk X.N X.env.scope scope own) (B : BlkR G X scope (own.map (·.2)) tg elt ifs (setT t) mcc me) (hs : ∀ x, foldedSetIterable iter X.env x = pure x) :
    RS G W X (.Assign [.Name y py] (.ListComp elt [⟨tg, iter, ifs, 0⟩] scope pos) spos) (fun κ ς h => mi (fun e h => κ.ex e ς h) ς h fun xs gd h1 => compW gd t (wipeP ς (own.map (·.2))) (mcc fun _ _ => False) (me fun _ _ => False) (fun vs h2 => κ.nx (ς.set i (some (.loc h2.length))) (h2 ++ [.lst vs])) xs [] h1) :=
  PS.imp (ps_setLc (own := own) g.calm hN hy hyl hsw hi ok B.tg B.ifs B.elt hs) fun D σ H hw => by
    refine rs_setLc_core ?_
    refine upS_e (me := fun x ς h q => mi x ς h fun xs gd h1 => compW gd t (wipeP ς (own.map (·.2))) (mcc fun _ _ => False) (me fun _ _ => False) (fun vs h2 => q (.loc h2.length) (h2 ++ [.lst vs])) xs [] h1) (k := fun κ ς v h => κ.nx (ς.set i (some v)) h) hw fun ρ h H1 ς κ v u R S r z c => ?_
    exact c.nx ρ h H1 _ _ Ext.refl R (S.set i r) z
theorem rs_par {i j : Nat} {x y : Str} {px py pt : Pos} {kt k2 : Nat} {pt2 : Pos} (g : Good G X W) (ha : RE G W X a ma) (hb : RE G W X b mb) (hN : X.N.Nodup) (hi : X.N[i]? = some x) (hj : X.N[j]? = some y) (hij : i ≠ j)
    (hx : X.env.scope.names.lookup x = some .local) (hy : X.env.scope.names.lookup y = some .local) (he : starEach [a, b] X.env = (false, eval a X.env) :: starEach [b] X.env) (he2 : starEach [b] X.env = (false, eval b X.env) :: starEach [] X.env)
    (hw : swappedStores [.Tuple [.Name x px, .Name y py] kt pt] (.Tuple [a, b] k2 pt2) X.env = pure (some [x, y])) (hs : swapsWithSole [.Tuple [.Name x px, .Name y py] kt pt] (.Tuple [a, b] k2 pt2) pos.line X.env = pure false) :
    RS G W X (.Assign [.Tuple [.Name x px, .Name y py] kt pt] (.Tuple [a, b] k2 pt2) pos) (fun κ ς h => ma (fun e h => κ.ex e ς h) ς h fun v h1 => mb (fun e h => κ.ex e ς h) ς h1 fun w h2 => κ.nx ((ς.set i (some v)).set j (some w)) h2) :=
  PS.imp (ps_par g.calm hN hi hj hij hx hy (pa_cons ha (pa_cons hb pa_nil he2) he) hw hs) fun D σ H hw => by
    obtain ⟨ρ, h, ς, κ, R, S, z, cv⟩ := hw
    refine ⟨ρ, h, ς, _, _, R, S, z, fun ρ1 h1 H1 v u E1 R1 r1 k1 => ?_, cv.cx R S⟩
    refine ⟨ρ1, h1, ς, _, _, R1, S.ext R E1, k1, fun ρ2 h2 H2 w u2 E2 R2 r2 k2 => ?_, (cv.at R1 E1).cx R1 (S.ext R E1)⟩
    exact ⟨u, u2, rfl, cv.nx ρ2 h2 H2 _ _ (E1.trans R1 E2) R2 ((((S.ext R E1).ext R1 E2).set i (r1.ext R1 E2)).set j r2) k2⟩
theorem rs_sub {o i : Expr} {p' : Pos} {mo mi : QX → PSt → PH → QV → Prop} (g : Good G X W) (ha : RE G W X a ma) (ho : RE G W X o mo) (hi : RE G W X i mi) (hs : swapsWithSole [.Subscript o i p'] a pos.line X.env = pure false) (hw : swappedStores [.Subscript o i p'] a X.env = pure none) (h1 : (assignEach [.Subscript o i p'] X.env).map (·.2) = [assign (.Subscript o i p') X.env])
    (hax : ∀ v, assign (.Subscript o i p') X.env v = (do
      let ov ← holding [v] (eval o X.env)
      let iv ← holding [v, ov] (eval i X.env)
      standAt p'
      holding [v, ov, iv] (setItem ov iv v)
      release [v, ov, iv] [])) :
    RS G W X (.Assign [.Subscript o i p'] a pos) (fun κ ς h => ma (fun e h => κ.ex e ς h) ς h fun w h1 => mo (fun e h => κ.ex e ς h) ς h1 fun v h2 => mi (fun e h => κ.ex e ς h) ς h2 fun k h3 => setS v k w h3 fun h4 => κ.nx ς h4) :=
  PS.imp (ps_asg ha (pg_sub ho hi (set_dic (by have := g.hu; omega)) hax) hs hw h1) fun D σ H hw => by
    obtain ⟨ρ, h, ς, κ, R, S, z, cv⟩ := hw
    refine ⟨ρ, h, ς, _, _, R, S, z, fun ρ1 h1 H1 w uw E1 R1 r1 k1 => ?_, cv.cx R S⟩
    have S1 := S.ext R E1
    refine ⟨ρ1, h1, ς, _, _, R1, S1, k1, fun ρ2 h2 H2 v u2 E2 R2 r2 k2 => ?_, (cv.at R1 E1).cx R1 S1⟩
    have S2 := S1.ext R1 E2
    refine ⟨ρ2, h2, ς, _, _, R2, S2, k2, fun ρ3 h3 H3 k u3 E3 R3 r3 k3 => ?_, ((cv.at R1 E1).at R2 E2).cx R2 S2⟩
    have E13 := (E1.trans R1 E2).trans R2 E3
    exact setS_ok R3 (r2.ext R2 E3) r3 ((r1.ext R1 E2).ext R2 E3) k3 fun h4 H4 E4 R4 k4 => cv.nx ρ3 h4 H4 ς σ (E13.trans R3 E4) R4 ((S2.ext R2 E3).ext R3 E4) k4
theorem rs_aug {i : Nat} {x : Str} {op : Operator} {p' : Pos} (g : Good G X W) (ha : RE G W X a ma) (hN : X.N.Nodup) (hi : X.N[i]? = some x) (hx : Loc X.env.scope x) (hf : X.fn x = true ∨ X.env.scope.names.lookup x = some .local) :
    RS G W X (.AugAssign (.Name x p') op a pos) (fun κ ς h => ∃ v, ς[i]? = some (some v) ∧ ma (fun e h => κ.ex e ς h) ς h fun w h1 => augB op v w h1 fun u h2 => κ.nx (ς.set i (some u)) h2) := by
  obtain ⟨r, hr, hok⟩ := aug_ok (X := X) op
  refine PS.imp (ps_aug hN hi hx ha hr hf) fun D σ H hw => ?_
  obtain ⟨ρ, h, ς, κ, R, S, ⟨v, e1, z⟩, cv⟩ := hw
  obtain ⟨u, e2, r0⟩ := S.get i v e1
  refine ⟨u, e2, ρ, h, ς, _, _, R, S, z, fun ρ1 h1 H1 w uw E1 R1 r1 k1 => ?_, cv.cx R S⟩
  refine hok G ρ1 h1 H1 v w u uw _ _ g.eK R1 (r0.ext R E1) r1 k1 fun ρ2 h2 H2 y uy E2 R2 r2 k2 => ?_
  exact cv.nx ρ2 h2 H2 _ _ (E1.trans R1 E2) R2 (((S.ext R E1).ext R1 E2).set i r2) k2
theorem rs_augS {o i : Expr} {op : Operator} {p' : Pos} {mo mi : QX → PSt → PH → QV → Prop} (g : Good G X W) (ha : RE G W X a ma) (ho : RE G W X o mo) (hi : RE G W X i mi)
    (hax : ∀ ov iv new, augStore i ov iv new = (do holding [new, ov, iv] (setItem ov iv new); release [new, ov, iv] []; pure .next)) :
    RS G W X (.AugAssign (.Subscript o i p') op a pos) (fun κ ς h => mo (fun e h => κ.ex e ς h) ς h fun v h1 => mi (fun e h => κ.ex e ς h) ς h1 fun k h2 => augG v k h2 fun u h3 => ma (fun e h => κ.ex e ς h) ς h3 fun w h4 => augB op u w h4 fun z h5 => setS v k z h5 fun h6 => κ.nx ς h6) := by
  obtain ⟨r, hr, hok⟩ := aug_ok (X := X) op
  refine PS.imp (ps_augS ho hi (get_dic (by have := g.hu; omega)) ha hr (set_dic (by have := g.hu; omega)) hax) fun D σ H hw => ?_
  obtain ⟨ρ, h, ς, κ, R, S, z, cv⟩ := hw
  refine ⟨ρ, h, ς, _, _, R, S, z, fun ρ1 h1 H1 v u1 E1 R1 r1 k1 => ?_, cv.cx R S⟩
  have S1 := S.ext R E1
  refine ⟨ρ1, h1, ς, _, _, R1, S1, k1, fun ρ2 h2 H2 k u2 E2 R2 r2 k2 => ?_, (cv.at R1 E1).cx R1 S1⟩
  have S2 := S1.ext R1 E2
  refine augG_ok g.eK R2 (r1.ext R1 E2) r2 k2 fun x z rx kx => ?_
  refine ⟨ρ2, h2, ς, _, _, R2, S2, kx, fun ρ4 h4 H4 w u4 E4 R4 r4 k4 => ?_, ((cv.at R1 E1).at R2 E2).cx R2 S2⟩
  refine hok G ρ4 h4 H4 x w z u4 _ _ g.eK R4 (rx.ext R2 E4) r4 k4 fun ρ5 h5 H5 y uy E5 R5 r5 k5 => ?_
  have E15 := ((E1.trans R1 E2).trans R2 E4).trans R4 E5
  exact setS_ok R5 (((r1.ext R1 E2).ext R2 E4).ext R4 E5) ((r2.ext R2 E4).ext R4 E5) r5 k5 fun h6 H6 E6 R6 k6 => cv.nx ρ5 h6 H6 ς σ (E15.trans R5 E6) R6 (((S2.ext R2 E4).ext R4 E5).ext R5 E6) k6
/-! ### loops -/
theorem rs_for {tg iter : Expr} {t : Tg} {ws : List Nat} {mi : MI} (g : Good G X W) (hp : PassesOwn (model X.prog X.w) X.A X.env X.xe) (hi : RI G W X tg iter mi) (hg : PG X tg (upG G ws (setT t))) (hb : RSs G W X sts m) (hs : ∀ x, foldedSetIterable iter X.env x = pure x) :
    RS G W X (.For tg iter sts [] pos) (fun κ ς h => mi (fun e h => κ.ex e ς h) ς h fun xs gd h1 => forW gd t m κ xs ς h1) := PS.imp (ps_for hp g.calm hi hg hb hs) fun D σ H hw => by
  obtain ⟨ρ, h, ς, κ, R, S, z, cv⟩ := hw
  refine ⟨ρ, h, ς, _, _, R, S, z, fun ρ1 h1 H1 J xs gd E1 R1 hJ k1 => ?_, cv.cx R S⟩
  have cv1 := cv.at R1 E1
  refine ⟨fun i n σ H => n = xs.length - i ∧ i ≤ xs.length ∧ ∃ ρ h ς, Ext ρ1 h1.length H1 ρ h.length H ∧ HR G.K ρ h H ∧ SR G.K ρ h.length H ς σ ∧ forW gd t m κ (xs.drop i) ς h, ⟨xs.length, by simp, Nat.zero_le _, ρ1, h1, ς, Ext.refl, R1, S.ext R E1, by simpa using k1⟩, ?_⟩
  rintro i n σ2 H2 ⟨rfl, hi, ρ2, h2, ς2, E2, R2, S2, k2⟩
  by_cases hlt : i < xs.length
  · have hd : xs.drop i = xs[i] :: xs.drop (i + 1) := List.drop_eq_getElem_cons hlt
    rw [hd] at k2
    obtain ⟨gh, k2⟩ := k2
    obtain ⟨hgo, hy⟩ := (hJ ρ2 h2 H2 i E2 R2 gh).1 xs[i] (List.getElem?_eq_getElem hlt)
    refine .inr ⟨hgo, fun σ' H' => i + 1 ≤ xs.length ∧ ∃ ρ h ς, Ext ρ1 h1.length H1 ρ h.length H' ∧ HR G.K ρ h H' ∧ SR G.K ρ h.length H' ς σ' ∧ forW gd t m κ (xs.drop (i + 1)) ς h, fun σ' H' ⟨z1, z2⟩ => ⟨xs.length - (i + 1), by omega, rfl, z1, z2⟩, fun u H' y => ?_⟩
    obtain ⟨E3, R3, r3⟩ := hy u H' y
    have E13 := E2.trans R2 E3
    refine ⟨ρ2, h2, xs[i], ς2, _, R3, S2.ext R2 E3, r3, k2, fun ς4 σ4 S4 _ k4 => ?_⟩
    refine ⟨ρ2, h2, ς4, _, R3, S4, k4, ?_⟩
    have cv3 := cv1.at R3 E13
    exact ⟨fun ρ' h' H' ς' σ' E' R' S' k => ⟨hlt, ρ', h', ς', E13.trans R3 E', R', S', k⟩, cv3.rt, fun ρ' h' H' ς' σ' E' R' S' k => cv3.nx ρ' h' H' ς' σ' E' R' S' k, fun ρ' h' H' ς' σ' E' R' S' k => ⟨hlt, ρ', h', ς', E13.trans R3 E', R', S', k⟩, cv3.ex⟩
  · have e : i = xs.length := by omega
    subst e
    rw [List.drop_length] at k2
    obtain ⟨gh, k2⟩ := k2
    exact .inl ⟨(hJ ρ2 h2 H2 xs.length E2 R2 gh).2 (Nat.le_refl _), cv1.nx ρ2 h2 H2 ς2 σ2 E2 R2 S2 k2⟩
theorem rs_while (g : Good G X W) (hp : PassesOwn (model X.prog X.w) X.A X.env X.xe) (hc : RT G W X c tc) (hb : RSs G W X sts m) :
    RS G W X (.While c sts [] pos) (fun κ ς h => ∃ n, whileW (fun ς h => tc (fun e h => κ.ex e ς h) ς h) m κ n ς h) := PS.imp (ps_while hp hc hb) fun D σ H hw => by
  obtain ⟨ρ, h, ς, κ, R, S, ⟨n0, z⟩, cv⟩ := hw
  refine ⟨fun n σ H2 => ∃ ρ2 h2 ς, Ext ρ h.length H ρ2 h2.length H2 ∧ HR G.K ρ2 h2 H2 ∧ SR G.K ρ2 h2.length H2 ς σ ∧ whileW (fun ς h => tc (fun e h => κ.ex e ς h) ς h) m κ n ς h2, ⟨n0, ρ, h, ς, Ext.refl, R, S, z⟩, ?_⟩
  rintro n σ2 H2 ⟨ρ2, h2, ς2, E2, R2, S2, k2⟩
  cases n with
  | zero => exact k2.elim
  | succ n =>
    have cv2 := cv.at R2 E2
    refine ⟨ρ2, h2, ς2, _, _, R2, S2, k2, fun ρ3 h3 H3 b b' E3 R3 eb k3 => ?_, cv2.cx R2 S2⟩
    have eb' : b = b' := eb
    subst eb'
    have S3 := S2.ext R2 E3
    have cv3 := cv2.at R3 E3
    have E13 := E2.trans R2 E3
    cases b with
    | true =>
      simp only [if_true] at k3 ⊢
      refine ⟨fun σ' H' => ∃ ρ2 h2 ς, Ext ρ h.length H ρ2 h2.length H' ∧ HR G.K ρ2 h2 H' ∧ SR G.K ρ2 h2.length H' ς σ' ∧ whileW (fun ς h => tc (fun e h => κ.ex e ς h) ς h) m κ n ς h2, fun σ' H' z => ⟨n, Nat.lt_succ_self _, z⟩, ?_⟩
      exact ⟨ρ3, h3, ς2, _, R3, S3, k3, ⟨fun ρ' h' H' ς' σ' E' R' S' k => ⟨ρ', h', ς', E13.trans R3 E', R', S', k⟩, cv3.rt, fun ρ' h' H' ς' σ' E' R' S' k => cv3.nx ρ' h' H' ς' σ' E' R' S' k, fun ρ' h' H' ς' σ' E' R' S' k => ⟨ρ', h', ς', E13.trans R3 E', R', S', k⟩, cv3.ex⟩⟩
    | false =>
      simp only [Bool.false_eq_true, if_false] at k3 ⊢
      exact cv3.nx ρ3 h3 H3 ς2 σ2 Ext.refl R3 S3 k3
end
end WD
end
section
set_option Elab.async false
set_option linter.all false
set_option maxRecDepth 100000
set_option autoImplicit false
set_option maxHeartbeats 4000000
/-! WJud6: dicts written out; calls with keywords; constants of the module. -/
namespace WD
open PySem PySem.Spec PyProof.Rows L2
abbrev ME := QX → PSt → PH → QV → Prop
def mPs : List (ME × ME) → QX → PSt → PH → (List (PV × PV) → PH → Prop) → Prop
  | [], x, ς, h, q => q [] h
  | (mk, mv) :: r, x, ς, h, q => mk x ς h fun y h1 => mv x ς h1 fun z h2 => mPs r x ς h2 fun kvs h3 => q ((y, z) :: kvs) h3
inductive RPs (G : GE) (ρ : Nat → Addr) (n : Nat) (H : Hp) : List (PV × PV) → List (V × V) → Prop
  | nil : RPs G ρ n H [] []
  | cons {k v : PV} {x y : V} {r : List (PV × PV)} {s : List (V × V)} : Rep G.K ρ n H k x → Rep G.K ρ n H v y → RPs G ρ n H r s → RPs G ρ n H ((k, v) :: r) ((x, y) :: s)
section
variable {G : GE} {Φ : Phi} {W : WX} {X : Cx} {pos : Pos}
def upPs (G : GE) (W : WX) (ms : List (ME × ME)) : List (TE × TE) := ms.map fun m => (up G W (RV G) m.1, up G W (RV G) m.2)
theorem pairs_up : ∀ (ms : List (ME × ME)) {ρ : Nat → Addr} {h : PH} {H : Hp} {ς : PSt} {σ : L2.St} {x : QX} {q : List (PV × PV) → PH → Prop} {Q : List (V × V) → Hp → Prop}, HR G.K ρ h H → SR G.K ρ h.length H ς σ → mPs ms x ς h q → Cov G (RPs G) ρ h H q Q → CovX G ρ h H x σ W → tPairs (upPs G W ms) σ H Q
  | [], ρ, h, H, ς, σ, x, q, Q, R, S, k, c, cx => c ρ h H [] [] Ext.refl R .nil k
  | (mk, mv) :: r, ρ, h, H, ς, σ, x, q, Q, R, S, k, c, cx => by
    refine ⟨ρ, h, ς, _, x, R, S, k, fun ρ1 h1 H1 y uy E1 R1 r1 k1 => ?_, cx⟩
    refine ⟨ρ1, h1, ς, _, x, R1, S.ext R E1, k1, fun ρ2 h2 H2 z uz E2 R2 r2 k2 => ?_, cx.at R1 E1⟩
    have E12 := E1.trans R1 E2
    refine pairs_up r R2 (S.ext R E12) k2 (fun ρ3 h3 H3 kvs ps E3 R3 r3 k3 => ?_) (cx.at R2 E12)
    exact c ρ3 h3 H3 _ _ (E12.trans R2 E3) R3 (.cons ((r1.ext R1 E2).ext R2 E3) (r2.ext R2 E3) r3) k3
theorem keysOf_rep {ρ : Nat → Addr} {n : Nat} {H : Hp} : ∀ {kvs : List (PV × PV)} {ps : List (V × V)} {ks : List (Key × PV)}, keysOf kvs = some ks → RPs G ρ n H kvs ps → ∃ us : List (Key × V), ps = us.map (fun kv => (kV kv.1, kv.2)) ∧ RepD G.K ρ n H ks us ∧ us.length = ks.length
  | [], ps, ks, e, r => by
    cases e
    cases r
    exact ⟨[], rfl, .nil, rfl⟩
  | (k, v) :: kvs, ps, ks, e, r => by
    simp only [keysOf] at e
    split at e
    · rename_i k' r' e1 e2
      cases e
      cases r with
      | cons a b t =>
        obtain ⟨us, h1, h2, h3⟩ := keysOf_rep e2 t
        refine ⟨(k', _) :: us, ?_, .cons (keyP_ok e1 a) b h2, by simp [h3]⟩
        rw [List.map_cons, h1, keyP_rep e1 a]
    · cases e
theorem re_dic {keys : List (Option Expr)} {values : List Expr} {ms : List (ME × ME)} (h : PPs X pos keys values (upPs G W ms)) (hall : keys.all (·.isSome) = true) (hl : keys.length = values.length) (h0 : keys ≠ []) (h15 : keys.length ≤ 15) :
    RE G W X (.Dict keys values pos) (fun x ς h q => mPs ms x ς h fun kvs h1 => ∃ ks, keysOf kvs = some ks ∧ ks.length ≤ 15 ∧ q (.loc h1.length) (h1 ++ [.dic (dMerge [] ks)])) := by
  refine PE.imp (pe_disp h hall hl h0 h15) fun σ H Q hw => ?_
  obtain ⟨ρ, h, ς, q, x, R, S, k, c, cx⟩ := hw
  intro p hp
  have E0 : Ext ρ h.length H ρ h.length (upd H p (.dK [])) := Ext.fresh hp
  have R0 : HR G.K ρ h (upd H p (.dK [])) := R.fresh hp
  have nl : ∀ l, l < h.length → ρ l ≠ p := fun l hl z => by
    obtain ⟨o, e⟩ := R.there hl
    rw [z, hp] at e
    cases e
  refine pairs_up ms R0 (S.ext R E0) k (fun ρ2 h2 H2 kvs ps E2 R2 r2 k2 => ?_) (cx.at R0 E0)
  obtain ⟨ks, e1, e2, e3⟩ := k2
  obtain ⟨us, rfl, rd, hn⟩ := keysOf_rep e1 r2
  have hp2 : H2 p = some (.dK []) := E2.keep p _ upd_same nl
  have nl2 := Ext.nl (o := .dK []) upd_same nl E2
  have E : Ext ρ h.length H ρ2 h2.length H2 := E0.trans R0 E2
  refine ⟨hp2, us, rfl, by rw [hn]; exact e2, ?_⟩
  refine dict_new R (Ext.poke hp E) hp c (R2.poke' rfl hp2 nl2) upd_same nl2 ?_ e3
  exact (rd.merge .nil).poke' rfl hp2
/-! ### calls with keywords -/
theorem vals_getD {vs : List V} {us : List Value} (r : Vals vs us) (i : Nat) : RelV (vs.getD i .non) (us.getD i .none) := by
  induction r generalizing i with
  | nil => rfl
  | cons a b ih =>
    cases i with
    | zero => exact a
    | succ i => exact ih i
theorem gP_rel (ix : List Nat) {vs : List V} {us : List Value} {zs : List V} {ws : List Value} (r : Vals vs us) (r' : Vals zs ws) : Vals (gPV ix vs zs) (gP ix us ws) := by
  have h := r.append r'
  unfold gPV gP
  induction ix with
  | nil => exact .nil
  | cons i ix ih => exact .cons (vals_getD h i) ih
theorem reps_pick {ρ : Nat → Addr} {n : Nat} {H : Hp} {xs : List PV} {us : List V} (r : Reps G.K ρ n H xs us) : ∀ {ix : List Nat} {ws : List PV}, ix.mapM (fun i => xs[i]?) = some ws → Reps G.K ρ n H ws (ix.map fun i => us.getD i .non)
  | [], ws, e => by
    have : ([] : List PV) = ws := by simpa using e
    subst this
    exact .nil
  | i :: ix, ws, e => by
    obtain ⟨y, zs, e1, e2, rfl⟩ := mapM_cons_some e
    obtain ⟨u, e3, r1⟩ := r.get e1
    refine .cons ?_ (reps_pick r e2)
    show Rep G.K ρ n H y (us.getD i V.non)
    rw [List.getD_eq_getElem?_getD, e3]
    exact r1
abbrev RK (G : GE) (W : WX) (X : Cx) (ks : List Keyword) (m : QX → PSt → PH → (List PV → PH → Prop) → Prop) : Prop := PK X ks (up G W (RVs G) m)
theorem PK.imp {ks : List Keyword} {t t' : TA} (h : PK X ks t) (i : ∀ σ H Q, t' σ H Q → t σ H Q) : PK X ks t' := ⟨fun pos pins s σ H Q I hw => h.run pos pins s σ H Q I (i σ H Q hw)⟩
theorem rk_nil : RK G W X [] (fun _ _ h q => q [] h) := by
  refine PK.imp pk_nil fun σ H Q hw => ?_
  obtain ⟨ρ, h, ς, q, y, a1, a2, k, a4, a5⟩ := hw
  exact a4 ρ h H _ _ Ext.refl a1 .nil k
theorem rk_cons {a : Expr} {ks : List Keyword} {nm : Option Str} {kp : Pos} {ma : ME} {mes : QX → PSt → PH → (List PV → PH → Prop) → Prop} (ha : RE G W X a ma) (hr : RK G W X ks mes) : RK G W X (⟨nm, a, kp⟩ :: ks) (fun x ς h q => ma x ς h fun v h1 => mes x ς h1 fun vs h2 => q (v :: vs) h2) := by
  refine PK.imp (pk_cons ha hr) fun σ H Q hw => ?_
  refine up_bind (m := ma) (f := fun (v : PV) x ς h q => mes x ς h fun vs h2 => q (v :: vs) h2) hw fun ρ h H1 ς q x v u R S r1 k c cx => ?_
  exact ⟨ρ, h, ς, _, x, R, S, k, fun ρ' h' H' ws us E R' rs k2 => c ρ' h' H' _ _ E R' (.cons (r1.ext R E) rs) k2, cx⟩
theorem run_fnNS {CX : CXT} {k n : Nat} {f : Addr} {fd : FuncData} {ps ks : List Str} {sp : Sp} {E : L2.St → XK} {g : List Value → List Value → List Value} {gV : List V → List V → List V} {pins : List (Addr × Obj)} {σ : L2.St} {H : Hp} {s : Shared} {Q : VK} {us ws : List Value} {vs zs : List V} (F : FnOk X.prog X.w X.K X.mg X.base CX k f fd ps sp) (hr : Room k X.A) (hb : KBn X.K fd ps n ks g gV) (hx : PassesAt CX X σ (E σ))
    (I : Inv X pins σ H s) (r : Vals vs us) (rz : Vals zs ws) (l1 : vs.length = n) (l2 : zs.length = ks.length) (h : sp (gV vs zs) H Q (E σ)) : wpAny (model X.prog X.w) X.A (call (.ref f) us (ks.zip ws)) (EP X pins σ Q) X.xe s := by
  have r2 := hb.rel r rz
  refine wpAny_call (codeAny_mono (F.run X.A X.stack s H ⟨us, ks.zip ws⟩ (g us ws) (gV vs zs) Q (E σ) hr I.env0 (hb.to s us ws I.kIn (r.length.symm.trans l1) (rz.length.symm.trans l2)) r2 h) fun r s' hq => ?_)
  cases r with
  | error e => exact hx pins H s e s' I hq
  | ok fl =>
    cases fl with
    | ret u => exact I.after hq
    | next => exact False.elim hq
    | brk => exact False.elim hq
    | cont => exact False.elim hq
theorem sp_pick {id : Nat} {ρ : Nat → Addr} {h : PH} {H : Hp} {σ : L2.St} {y : QX} {q : QV} {Q : VK} {vs zs ws : List PV} {us wz : List V} {ix : List Nat} (R : HR G.K ρ h H) (rs : Reps G.K ρ h.length H vs us) (rz : Reps G.K ρ h.length H zs wz) (e : ix.mapM (fun i => (vs ++ zs)[i]?) = some ws) (k : Φ id ws h q y) (c : Cov G (RV G) ρ h H q Q) (cx : CovX G ρ h H y σ W) : spOf G Φ id (gPV ix us wz) H Q (WE W σ) :=
  ⟨ρ, h, ws, q, y, R, reps_pick (rs.append rz) e, k, c, fun ρ' h' H' e' k' d' E R' xr z => cx ρ' h' H' e' k' d' E R' xr z⟩
theorem re_callk {x : Str} {id : Nat} {kw : List KwS} {e : KwS} {a : Expr} {es : List Expr} {kws : List Keyword} {p : Pos} {mes mks : QX → PSt → PH → (List PV → PH → Prop) → Prop} (g : Good G X W) (F : FnAt G Φ X x id kw) (he : e ∈ kw) (hid : e.id = id) (hg : Gl X x) (hs : RA G W X (a :: es) mes) (hk : RK G W X kws mks)
    (hdb : (x == ("__debug__" : Str)) = false) (hst : starEach (a :: es) X.env = (false, eval a X.env) :: starEach es X.env) (hall : (backToKw pos (keywordEach kws X.env)).all (·.1.isSome) = true) (hks : (backToKw pos (keywordEach kws X.env)).filterMap (·.1) = e.ks)
    (hpl : ((backTo pos (starEach (a :: es) X.env)).any (·.1) || (backToKw pos (keywordEach kws X.env)).any (·.1.isNone)) = false) :
    RE G W X (.Call (.Name x p) (a :: es) kws pos) (fun y ς h q => mes y ς h fun vs h1 => mks y ς h1 fun zs h2 => vs.length = e.n ∧ zs.length = e.ks.length ∧ ∃ ws, e.ix.mapM (fun i => (vs ++ zs)[i]?) = some ws ∧ Φ id ws h2 q y) := by
  obtain ⟨f, fd, ps, k, h1, h2, h3, h4, h5, h6⟩ := F.ex
  refine ⟨fun pins s σ H Q I hw => ?_⟩
  obtain ⟨ρ, h, ς, q, y, R, S, kk, c, cx⟩ := hw
  refine wpAny_Call_Name_kw (ld_glob I hg h1 ?_ hdb)
  refine PySem.W.callWith_KW (h₀ := X.base) I.ok.mod.kin h4 hall (thn (hs.run pos pins s σ H (fun us H1 => ∃ ρ1 h1 vs, Ext ρ h.length H ρ1 h1.length H1 ∧ HR G.K ρ1 h1 H1 ∧ Reps G.K ρ1 h1.length H1 vs us ∧ mks y ς h1 fun zs h2 => vs.length = e.n ∧ zs.length = e.ks.length ∧ ∃ ws, e.ix.mapM (fun i => (vs ++ zs)[i]?) = some ws ∧ Φ id ws h2 q y) I ⟨ρ, h, ς, _, y, R, S, kk, fun ρ1 h1 H1 vs us E1 R1 r1 k1 => ⟨ρ1, h1, vs, E1, R1, r1, k1⟩, cx⟩) fun us s1 ⟨vs, H1, I1, r, ρ1, hh1, pvs, E1, R1, r1, k1⟩ => ?_) hpl hst
  refine thn (hk.run pos pins s1 σ H1 (fun wz H2 => ∃ ρ2 h2 zs, Ext ρ1 hh1.length H1 ρ2 h2.length H2 ∧ HR G.K ρ2 h2 H2 ∧ Reps G.K ρ2 h2.length H2 zs wz ∧ pvs.length = e.n ∧ zs.length = e.ks.length ∧ ∃ ws, e.ix.mapM (fun i => (pvs ++ zs)[i]?) = some ws ∧ Φ id ws h2 q y) I1 ⟨ρ1, hh1, ς, _, y, R1, S.ext R E1, k1, fun ρ2 h2 H2 zs wz E2 R2 r2 k2 => ⟨ρ2, h2, zs, E2, R2, r2, k2⟩, cx.at R1 E1⟩) fun wz s2 ⟨zs, H2, I2, rz, ρ2, hh2, pzs, E2, R2, r2, l1, l2, ws, ee, k2⟩ => ⟨I2.kIn, ?_⟩
  rw [hks]
  have E12 := E1.trans R1 E2
  have r1' := Reps.ext R1 E2 r1
  exact run_fnNS (E := WE W) h2 h3 (h6 e he hid) (passAt g.tk σ) I2 r rz (by rw [← r1'.length]; exact l1) (by rw [← r2.length]; exact l2) (sp_pick R2 r1' r2 ee k2 (c.at R2 E12) (cx.at R2 E12))
theorem re_callk0 {x : Str} {id : Nat} {kw : List KwS} {e : KwS} {kws : List Keyword} {p : Pos} {mks : QX → PSt → PH → (List PV → PH → Prop) → Prop} (g : Good G X W) (F : FnAt G Φ X x id kw) (he : e ∈ kw) (hid : e.id = id) (hg : Gl X x) (hk : RK G W X kws mks)
    (hdb : (x == ("__debug__" : Str)) = false) (hall : (backToKw pos (keywordEach kws X.env)).all (·.1.isSome) = true) (hks : (backToKw pos (keywordEach kws X.env)).filterMap (·.1) = e.ks)
    (hpl : ((backTo pos (starEach [] X.env)).any (·.1) || (backToKw pos (keywordEach kws X.env)).any (·.1.isNone)) = false) :
    RE G W X (.Call (.Name x p) [] kws pos) (fun y ς h q => mks y ς h fun zs h2 => ([] : List PV).length = e.n ∧ zs.length = e.ks.length ∧ ∃ ws, e.ix.mapM (fun i => ([] ++ zs)[i]?) = some ws ∧ Φ id ws h2 q y) := by
  obtain ⟨f, fd, ps, k, h1, h2, h3, h4, h5, h6⟩ := F.ex
  refine ⟨fun pins s σ H Q I hw => ?_⟩
  obtain ⟨ρ, h, ς, q, y, R, S, kk, c, cx⟩ := hw
  refine wpAny_Call_Name_kw (ld_glob I hg h1 ?_ hdb)
  refine PySem.W.callWith_KW0 (h₀ := X.base) I.ok.mod.kin h4 hall ?_ hpl
  refine thn (hk.run pos pins s σ H (fun wz H2 => ∃ ρ2 h2 zs, Ext ρ h.length H ρ2 h2.length H2 ∧ HR G.K ρ2 h2 H2 ∧ Reps G.K ρ2 h2.length H2 zs wz ∧ ([] : List PV).length = e.n ∧ zs.length = e.ks.length ∧ ∃ ws, e.ix.mapM (fun i => ([] ++ zs)[i]?) = some ws ∧ Φ id ws h2 q y) I ⟨ρ, h, ς, _, y, R, S, kk, fun ρ2 h2 H2 zs wz E2 R2 r2 k2 => ⟨ρ2, h2, zs, E2, R2, r2, k2⟩, cx⟩) fun wz s2 ⟨zs, H2, I2, rz, ρ2, hh2, pzs, E2, R2, r2, l1, l2, ws, ee, k2⟩ => ⟨I2.kIn, ?_⟩
  rw [hks]
  exact run_fnNS (E := WE W) (us := []) (vs := []) h2 h3 (h6 e he hid) (passAt g.tk σ) I2 .nil rz l1 (by rw [← r2.length]; exact l2) (sp_pick R2 .nil r2 ee k2 (c.at R2 E2) (cx.at R2 E2))
/-! ### constants of the module -/
/-- a constant: its value -/
structure CstAt (G : GE) (X : Cx) (x : Str) (v : PV) : Prop where
  ex : ∃ u u', X.mg x = some u' ∧ RelV u u' ∧ ∀ (ρ : Nat → Addr) (n : Nat) (H : Hp), Rep G.K ρ n H v u
/-- a dict of text keys -/
structure DctAt (G : GE) (X : Cx) (x : Str) (ks : List Str) (xs : List PV) : Prop where
  ex : ∃ d es n, X.mg x = some (.ref d) ∧ KDict X.K X.w d es n ∧ (∀ z, ks.contains z = false → PySem.W.nsIn X.K d z = some none) ∧ (∀ z, ks.contains z = true → ∃ u, PySem.W.nsIn X.K d z = some (some u)) ∧
    ∀ z y, rodGet ks xs z = some y → ∃ u v, PySem.W.nsIn X.K d z = some (some u) ∧ RelV v u ∧ ∀ (ρ : Nat → Addr) (n : Nat) (H : Hp), Rep G.K ρ n H y v
theorem re_cst {x : Str} {v : PV} (F : CstAt G X x v) (hg : Gl X x) (hd : (x == ("__debug__" : Str)) = false) : RE G W X (.Name x pos) (fun _ _ h q => q v h) := by
  obtain ⟨u, u', h1, h2, h3⟩ := F.ex
  exact re_c (pe_glob hg h1 h2 hd) h3
section
variable {x : Str} {ks : List Str} {xs : List PV} {a : Expr} {ma : ME} {p : Pos}
def nOp (neg : Bool) : CmpOp := if neg then .NotIn else .In
def rKin (d : Addr) (K : PySem.W.Frag) (neg : Bool) : R2 := fun x y H Q => ∃ (z : Str) (r : Option Value), x = .str z ∧ y = .ref d ∧ PySem.W.nsIn K d z = some r ∧ Q (.bl (if neg then !r.isSome else r.isSome)) H
theorem op_kin {d : Addr} {es : Array DictEntry} {n : Nat} (D : KDict X.K X.w d es n) (neg : Bool) : OpR X (compareOp (nOp neg)) (rKin d X.K neg) := by
  cases neg with
  | true => exact op_notIn_kd D
  | false => exact op_in_kd D
theorem kin_ok {d : Addr} {neg : Bool} {z : Str} {Q : VK} {H : Hp} (h1 : ∀ z, ks.contains z = false → PySem.W.nsIn X.K d z = some none) (h2 : ∀ z, ks.contains z = true → ∃ u, PySem.W.nsIn X.K d z = some (some u)) (k : Q (.bl (if neg then !ks.contains z else ks.contains z)) H) : rKin d X.K neg (.str z) (.ref d) H Q := by
  cases e : ks.contains z with
  | true =>
    obtain ⟨u, e2⟩ := h2 z e
    rw [e] at k
    exact ⟨z, some u, rfl, rfl, e2, k⟩
  | false =>
    rw [e] at k
    exact ⟨z, none, rfl, rfl, h1 z e, k⟩
theorem re_cin (neg : Bool) (F : DctAt G X x ks xs) (hg : Gl X x) (hd : (x == ("__debug__" : Str)) = false) (ha : RE G W X a ma) (hm : behindInMarks (nOp neg) (.Name x p) = false) :
    RE G W X (.Compare a [nOp neg] [.Name x p] pos) (fun y ς h q => ma y ς h fun v h1 => ∃ z, v = PV.str z ∧ q (.bl (if neg then !ks.contains z else ks.contains z)) h1) := by
  obtain ⟨d, es, n, h1, h2, h3, h4, _⟩ := F.ex
  refine PE.imp (pe_cmpR (op_kin h2 neg) ha (pe_glob hg h1 (v := .ref d) rfl hd) hm) fun σ H Q hw => ?_
  refine up_bind (m := ma) (f := fun (v : PV) y ς h q => ∃ z, v = PV.str z ∧ q (PV.bl (if neg then !ks.contains z else ks.contains z)) h) hw fun ρ h H1 ς q y v u R S r1 k c cx => ?_
  obtain ⟨z, rfl, k⟩ := k
  rw [r1.strInv.1]
  exact kin_ok h3 h4 (c.here R (.bl _) k)
theorem rt_cin (neg : Bool) (F : DctAt G X x ks xs) (hg : Gl X x) (hd : (x == ("__debug__" : Str)) = false) (ha : RE G W X a ma) (hm : behindInMarks (nOp neg) (.Name x p) = false) :
    RT G W X (.Compare a [nOp neg] [.Name x p] pos) (fun y ς h q => ma y ς h fun v h1 => ∃ z, v = PV.str z ∧ q (if neg then !ks.contains z else ks.contains z) h1) := by
  obtain ⟨d, es, n, h1, h2, h3, h4, _⟩ := F.ex
  refine PT.imp (pt_cmpR (op_kin h2 neg) ha (pe_glob hg h1 (v := .ref d) rfl hd) hm) fun σ H Q hw => ?_
  refine up_bind (m := ma) (f := fun (v : PV) y ς h q => ∃ z, v = PV.str z ∧ q (if neg then !ks.contains z else ks.contains z) h) hw fun ρ h H1 ς q y v u R S r1 k c cx => ?_
  obtain ⟨z, rfl, k⟩ := k
  rw [r1.strInv.1]
  exact kin_ok (Q := fun v H => ∃ b, v = .bl b ∧ Q b H) h3 h4 ⟨_, rfl, c ρ h H1 _ _ Ext.refl R rfl k⟩
theorem re_cix (F : DctAt G X x ks xs) (hg : Gl X x) (hd : (x == ("__debug__" : Str)) = false) (ha : RE G W X a ma) (hs : PlainIx a) :
    RE G W X (.Subscript (.Name x p) a pos) (fun y ς h q => ma y ς h fun v h1 => ∃ z w, v = PV.str z ∧ rodGet ks xs z = some w ∧ q w h1) := by
  obtain ⟨d, es, n, h1, h2, h3, h4, h5⟩ := F.ex
  refine PE.imp (pe_ix ix_kdict (pe_glob hg h1 (v := .ref d) rfl hd) ha hs) fun σ H Q hw => ?_
  refine up_bind (m := ma) (f := fun (v : PV) y ς h q => ∃ z w, v = PV.str z ∧ rodGet ks xs z = some w ∧ q w h) hw fun ρ h H1 ς q y v u R S r1 k c cx => ?_
  obtain ⟨z, w, rfl, e, k⟩ := k
  obtain ⟨u1, v1, e1, e2, e3⟩ := h5 z w e
  exact ⟨d, z, v1, rfl, r1.strInv.1, ⟨es, n, u1, h2.at_, h2.lit, e1, e2⟩, c.here R (e3 _ _ _) k⟩
end
end
end WD
end
section
set_option Elab.async false
set_option linter.all false
set_option maxRecDepth 100000
set_option autoImplicit false
set_option maxHeartbeats 4000000
/-! WTr: from the syntax to the small language. -/
namespace WD
open PySem PySem.Spec PyProof.Rows L2
structure TEnv where
  N : List Str
  sc : Scope
  /-- the names of the block, if it is a comprehension's -/
  blk : Option (List (Str × NameKind))
  /-- the defs of the module -/
  gl : List (Str × Nat)
  /-- names that the module does not bind -/
  fr : List Str
  /-- the calls with keywords -/
  kw : List KwS
  /-- constants; dicts of text keys -/
  cs : List (Str × PV)
  cd : List (Str × List Str × List PV)
def TEnv.vis (T : TEnv) (x : Str) : Bool := match T.sc.names.lookup x with
  | some .local => true
  | some .cell => true
  | some .free => true
  | _ => false
def TEnv.loc (T : TEnv) (x : Str) : Bool := match T.sc.names.lookup x with
  | some .local => true
  | some .cell => true
  | _ => false
def TEnv.stor (T : TEnv) (x : Str) : Bool := match T.blk with
  | none => true
  | some ns => match ns.lookup x with
    | some .local => true
    | some .cell => true
    | _ => false
def TEnv.glob (T : TEnv) (x : Str) : Bool := match T.sc.names.lookup x with
  | some .globalImplicit => !(x == ("__debug__" : Str))
  | _ => false
/-- a name that means the built-in -/
def TEnv.blt (T : TEnv) (x : Str) : Bool := T.glob x && T.fr.contains x
def ixName : List Str → Str → Option Nat
  | [], _ => none
  | y :: r, x => if y = x then some 0 else (ixName r x).map (· + 1)
theorem ixName_get : ∀ {N : List Str} {x : Str} {i : Nat}, ixName N x = some i → N[i]? = some x
  | [], _, _, e => by cases e
  | y :: r, x, i, e => by
    unfold ixName at e
    split at e
    · rename_i h
      cases e
      simp [h]
    · obtain ⟨j, h1, h2⟩ := Option.map_eq_some_iff.mp e
      have h2' : j + 1 = i := h2
      subst h2'
      simpa using ixName_get h1
def badName (x : Str) : Bool := (x == ("__debug__" : Str)) || (x == ("__classdict__" : Str))
def strOkL (x : Str) : Bool := x.cps.toList.all fun c => decide (c < 0x110000)
theorem strOk_ofL {x : Str} (h : strOkL x = true) : PyData.strOk x = true := by
  rw [strOk_iff]
  intro c hc
  have := List.all_eq_true.mp h c hc
  exact of_decide_eq_true this
abbrev Tr := Ex ⊕ Lx
def asE : Tr → Ex
  | .inl e => e
  | .inr l => .new l
def asLa : Tr → La
  | .inl e => .e e
  | .inr l => .l l
def isSl : Expr → Bool
  | .Slice .. => true
  | _ => false
def isStar : Expr → Bool
  | .Starred .. => true
  | _ => false
def trEs (f : Expr → Option Tr) : List Expr → Option Exs
  | [] => some .nil
  | e :: r => if isStar e then none else do
    let a ← f e
    let b ← trEs f r
    some (.cons (asE a) b)
def trAnd (f : Expr → Option Tr) : List Expr → Option Ex
  | [] => none
  | [a] => (f a).map asE
  | a :: r => do
    let x ← f a
    let y ← trAnd f r
    some (.and (asE x) y)
def trOr (f : Expr → Option Tr) : List Expr → Option Ex
  | [] => none
  | [a] => (f a).map asE
  | a :: r => do
    let x ← f a
    let y ← trOr f r
    some (.or (asE x) y)
def trO (f : Expr → Option Tr) : Option Expr → Option OEx
  | none => some .no
  | some e => (f e).map fun r => .some (asE r)
def trPs (f : Expr → Option Tr) : List (Option Expr) → List Expr → Option Prs
  | [], [] => some .nil
  | some k :: ks, v :: vs => do
    let a ← f k
    let b ← f v
    let r ← trPs f ks vs
    some (.cons (asE a) (asE b) r)
  | _, _ => none
def trKs (f : Expr → Option Tr) : List Keyword → Option Exs
  | [] => some .nil
  | k :: r => do
    let a ← f k.value
    let b ← trKs f r
    some (.cons (asE a) b)
def kwNames : List Keyword → Option (List Str)
  | [] => some []
  | k :: r => match k.arg, kwNames r with
    | some x, some xs => some (x :: xs)
    | _, _ => none
/-- a target of slots -/
def trTs (f : Expr → Option Tg) : List Expr → Option (List Tg)
  | [] => some []
  | e :: r => if isStar e then none else do
    let a ← f e
    let b ← trTs f r
    some (a :: b)
def trTg (T : TEnv) : Nat → Expr → Option Tg
  | 0, _ => none
  | n + 1, e => match e with
    | .Name x _ => if T.loc x && T.stor x then (ixName T.N x).map .slot else none
    | .Tuple es _ _ => (trTs (trTg T n) es).map .tup
    | _ => none
mutual
def slotsT : Tg → List Nat
  | .slot i => [i]
  | .tup ts => slotsTs ts
def slotsTs : List Tg → List Nat
  | [] => []
  | t :: ts => slotsT t ++ slotsTs ts
end
/-- built-in functions by name and number of arguments -/
def bifTab : List (Str × Nat × Bif) := [("len", 1, .len), ("int", 1, .int), ("str", 1, .str), ("abs", 1, .abs), ("bool", 1, .bool), ("min", 2, .min2), ("max", 2, .max2)]
def lifTab : List (Str × Lif) := [("tuple", .tuple), ("len", .len), ("sum", .sum), ("max", .max), ("min", .min), ("all", .all), ("any", .any)]
def tyTab : List (Str × String) := [("int", "int"), ("bool", "bool"), ("str", "str"), ("tuple", "tuple"), ("list", "list"), ("dict", "dict")]
def bifAt (x : Str) (k : Nat) : Option Bif := (bifTab.find? fun p => decide (p.1 = x) && decide (p.2.1 = k)).map (·.2.2)
def lifAt (x : Str) : Option Lif := (lifTab.find? fun p => decide (p.1 = x)).map (·.2)
def tyAt (x : Str) : Option String := (tyTab.find? fun p => decide (p.1 = x)).map (·.2)
/-- what a loop walks -/
def trI (T : TEnv) (f : Expr → Option Tr) (tg : Expr) (e : Expr) : Option Wk := match e with
  | .Call (.Name x _) [a] [] _ =>
    if T.blt x && decide (x = "range") then if isStar a then none else (f a).map fun r => .range1 (asE r)
    else if T.blt x && decide (x = "enumerate") then (match tg with
      | .Tuple _ _ _ => if isStar a then none else (f a).map fun r => .enum (asLa r)
      | _ => none)
    else (f e).map fun r => .la (asLa r)
  | .Call (.Name x _) [a, b] [] _ =>
    if T.blt x && decide (x = "range") then if isStar a || isStar b then none else do
      let r ← f a
      let s ← f b
      some (.range2 (asE r) (asE s))
    else (f e).map fun r => .la (asLa r)
  | .Call (.Name x _) [a, b, c] [] _ =>
    if T.blt x && decide (x = "range") then if isStar a || isStar b || isStar c then none else do
      let r ← f a
      let s ← f b
      let t ← f c
      some (.range3 (asE r) (asE s) (asE t))
    else (f e).map fun r => .la (asLa r)
  | .Set .. => none
  | _ => (f e).map fun r => .la (asLa r)
/-- a dict of the module -/
def dctAt (T : TEnv) : Expr → Option (Str × List Str × List PV)
  | .Name x _ => if !T.vis x && T.glob x then (T.cd.lookup x).map fun r => (x, r) else none
  | _ => none
def inOp : CmpOp → Option Bool
  | .In => some false
  | .NotIn => some true
  | _ => none
def trCmp1 (T : TEnv) (f : Expr → Option Tr) (a : Expr) (o : CmpOp) (b : Expr) : Option Tr :=
  if behindInMarks o b then none else match inOp o, dctAt T b with
  | some neg, some r => (f a).map fun x => .inl (.cin neg r.2.1 (asE x))
  | _, _ => do
    let x ← f a
    let y ← f b
    some (.inl (.cmp o (asE x) (asE y)))
def trIx (T : TEnv) (f : Expr → Option Tr) (a i : Expr) : Option Tr := match dctAt T a with
  | some r => (f i).map fun y => .inl (.cix r.2.1 r.2.2 (asE y))
  | none => do
    let x ← f a
    let y ← f i
    some (.inl (.ix (asE x) (asE y)))
/-- the ends of a range -/
def rngOf (T : TEnv) (f : Expr → Option Tr) : Expr → Option (OEx × OEx)
  | .Call (.Name r _) [b] [] _ => if T.blt r && decide (r = "range") && !isStar b then (f b).map fun y => (.no, .some (asE y)) else none
  | .Call (.Name r _) [b, c] [] _ => if T.blt r && decide (r = "range") && !isStar b && !isStar c then do
      let y ← f b
      let z ← f c
      some (.some (asE y), .some (asE z))
    else none
  | _ => none
/-- a built-in function of one argument -/
def tr1 (T : TEnv) (f : Expr → Option Tr) (x : Str) (a : Expr) : Option Tr :=
  if isStar a then none else match rngOf T f a with
  | some (lo, hi) => if decide (x = "list") then some (.inr (.rng lo hi)) else if decide (x = "tuple") then some (.inl (.tupR lo hi)) else none
  | none => do
    let r ← f a
    if decide (x = "list") then some (.inr (.list (asLa r)))
    else if decide (x = "sorted") then some (.inr (.sort (asLa r)))
    else match r, bifAt x 1, lifAt x with
      | .inl e, some b, _ => some (.inl (.bif b (.cons e .nil)))
      | _, _, some b => some (.inl (.lif b (asLa r)))
      | _, _, _ => none
/-- a call with keywords -/
def trKw (T : TEnv) (f : Expr → Option Tr) (x : Str) (args : List Expr) (kws : List Keyword) : Option Tr :=
  match (if T.glob x then T.gl.lookup x else none), kwNames kws with
  | some id, some nm => (match T.kw.find? (fun e => decide (e.id = id) && decide (e.n = args.length) && decide (e.ks = nm)) with
    | some e => do
      let r ← trEs f args
      let s ← trKs f kws
      some (.inl (.callk id e.n e.ks.length r s e.ix))
    | none => none)
  | _, _ => none
/-- the block of a comprehension -/
def TEnv.block (T : TEnv) (scope : Scope) : TEnv := { T with sc := relS scope T.sc, blk := some scope.names }
def ownOf (T : TEnv) (scope : Scope) : List (Str × Nat) := scope.names.filterMap fun y => match y.2 with
  | .local => (ixName T.N y.1).map fun i => (y.1, i)
  | .cell => (ixName T.N y.1).map fun i => (y.1, i)
  | _ => none
def mthAt (m : Str) (k : Nat) : Option Mth :=
  if m = "append" then (if k = 1 then some .append else none)
  else if m = "pop" then (if k = 0 then some .pop else if k = 1 then some .popAt else none)
  else if m = "insert" then (if k = 2 then some .insert else none)
  else if m = "reverse" then (if k = 0 then some .reverse else none)
  else if m = "get" then (if k = 1 then some .get else if k = 2 then some .getD else none)
  else none
/-- what is no call of super() -/
def noSuper : Expr → Bool
  | .Call (.Name _ _) [] [] _ => false
  | _ => true
/-- what is neither a test nor a compare -/
def plainX : Expr → Bool
  | .BoolOp .. => false
  | .UnaryOp .Not _ _ => false
  | .Compare .. => false
  | _ => true
def isTest : Ex → Bool
  | .and _ _ => true
  | .or _ _ => true
  | .not _ => true
  | .cmp _ _ _ => true
  | .chn _ _ _ _ _ => true
  | .cin _ _ _ => true
  | _ => false
def trB (f : TEnv → Expr → Option Tr) (T : TEnv) (e : Expr) : Option Tr := match e with
    | .Name x _ => if T.vis x then (if !badName x then (ixName T.N x).map fun i => .inl (.var i) else none) else if T.glob x then (T.cs.lookup x).map fun v => .inl (.cst v x) else none
    | .Dict keys values _ => if keys.length ≤ 15 then (trPs (f T) keys values).map fun r => .inl (.dic r) else none
    | .Constant (.int i) _ _ => some (.inl (.int i))
    | .Constant (.bool b) _ _ => some (.inl (.bl b))
    | .Constant .none _ _ => some (.inl .non)
    | .Constant (.str x) _ _ => if strOkL x then some (.inl (.str x)) else none
    | .Tuple es _ _ => (trEs (f T) es).map fun r => .inl (.tup r)
    | .List es _ => (trEs (f T) es).map fun r => .inr (.disp r)
    | .BinOp a o b _ => do
      let x ← f T a
      let y ← f T b
      match o, x, y with
      | .Add, .inr _, _ => some (.inr (.cat (asLa x) (asLa y)))
      | .Add, _, .inr _ => some (.inr (.cat (asLa x) (asLa y)))
      | .Mult, .inr _, _ => some (.inr (.rep (asLa x) (asE y)))
      | _, _, _ => some (.inl (.bin o (asE x) (asE y)))
    | .UnaryOp .USub a _ => (f T a).map fun r => .inl (.neg (asE r))
    | .UnaryOp .Not a _ => (f T a).map fun r => .inl (.not (asE r))
    | .Compare a [o] [b] _ => trCmp1 T (f T) a o b
    | .Compare a [o, o'] [b, c] _ => if behindInMarks o' c then none else do
      let x ← f T a
      let y ← f T b
      let z ← f T c
      some (.inl (.chn o o' (asE x) (asE y) (asE z)))
    | .BoolOp .And es _ => (trAnd (f T) es).map .inl
    | .BoolOp .Or es _ => (trOr (f T) es).map .inl
    | .IfExp c a b _ => do
      let z ← f T c
      let x ← f T a
      let y ← f T b
      some (.inl (.ifx (asE z) (asE x) (asE y)))
    | .Subscript a i _ => (match i with
      | .Slice lo hi none _ => do
        let x ← f T a
        let l ← trO (f T) lo
        let u ← trO (f T) hi
        match x with
        | .inl x => some (.inl (.sl x l u))
        | .inr x => some (.inr (.cut (.l x) l u))
      | .Slice _ _ (some _) _ => none
      | _ => trIx T (f T) a i)
    | .Call (.Name x _) args [] _ => (match (if T.glob x then T.gl.lookup x else none) with
      | some id => (trEs (f T) args).map fun r => .inl (.call id r)
      | none => if T.blt x then (match args with
        | [a] => tr1 T (f T) x a
        | [a, b] => if isStar a || isStar b then none else
          (match decide (x = "isinstance"), b with
          | true, .Name t _ => if T.blt t then do
              let r ← f T a
              let ty ← tyAt t
              some (.inl (.bif (.isT ty) (.cons (asE r) .nil)))
            else none
          | _, _ => do
            let g ← bifAt x 2
            let r ← f T a
            let s ← f T b
            some (.inl (.bif g (.cons (asE r) (.cons (asE s) .nil)))))
        | _ => none) else none)
    | .Call (.Name x _) args (k :: kws) _ => trKw T (f T) x args (k :: kws)
    | .Call (.Attribute o m apos) args [] cpos => if !noSuper o || !(apos.endLine == cpos.line) then none else do
      let r ← f T o
      match args with
      | [] => do
        let g ← mthAt m 0
        some (.inl (.mth g (asE r) .nil))
      | [a] => if isStar a then none else
        if decide (m = "extend") then do
          let s ← f T a
          some (.inl (.ext (asE r) (asLa s)))
        else do
          let g ← mthAt m 1
          let s ← f T a
          some (.inl (.mth g (asE r) (.cons (asE s) .nil)))
      | [a, b] => if isStar a || isStar b then none else do
        let g ← mthAt m 2
        let s ← f T a
        let t ← f T b
        some (.inl (.mth g (asE r) (.cons (asE s) (.cons (asE t) .nil))))
      | _ => none
    | .ListComp elt [⟨tg, iter, ifs, 0⟩] scope _ =>
      if blkC T.N T.sc scope (ownOf T scope) then do
        let it ← trI T (f T) tg iter
        let t ← trTg (T.block scope) 4 tg
        if (slotsT t).all fun i => (ownOf T scope).any fun p => p.2 == i then do
          let x ← f (T.block scope) elt
          match ifs with
          | [] => some (.inr (.comp ((ownOf T scope).map (·.2)) (asE x) t it .no))
          | [c] => do
            let y ← f (T.block scope) c
            some (.inr (.comp ((ownOf T scope).map (·.2)) (asE x) t it (.some (asE y))))
          | _ => none
        else none
      else none
    | _ => none
def trX : Nat → TEnv → Expr → Option Tr
  | 0, _, _ => none
  | n + 1, T, e => match trB (trX n) T e with
    | some r => if plainX e && isTest (asE r) then none else some r
    | none => none
/-! ### statements -/
/-- the stores of a written pair, as the machine decides them -/
def swP (look : Str → Option NameKind) (targets : List Expr) (value : Expr) : Option (Option (List Str)) :=
  match targets, value with
  | [.Tuple ts _ _], .Tuple vs _ _ =>
    if !(ts.length == 2 || ts.length == 3) || vs.length != ts.length then some none
    else if vs.any fun | .Starred .. => true | _ => false then some none
    else
      let line := (ts.head?.map (·.pos.line)).getD 0
      let names := ts.filterMap fun
        | .Name id pos => if look id == some .local && pos.line == line then some id else none
        | _ => none
      if names.length != ts.length || names.eraseDups.length != names.length then some none
      else if vs.all (foldedForSure 8) then some none
      else if vs.all (constantsAlone 8) then none
      else some (some names)
  | [.List _ _], .Tuple _ _ _ => none
  | _, _ => some none
def isComp : Expr → Bool
  | .ListComp .. => true
  | .SetComp .. => true
  | .DictComp .. => true
  | _ => false
def trSs (f : Stmt → Option Sm) : List Stmt → Option Sms
  | [] => some .nil
  | s :: r => do
    let a ← f s
    let b ← trSs f r
    some (.cons a b)
/-- a comprehension's own names hold this one -/
def compOwn (t : Str) : Expr → Bool
  | .ListComp _ _ s _ => s.names.any fun (n, k) => n == t && (k == .local || k == .cell)
  | _ => true
def trS : Nat → TEnv → Stmt → Option Sm
  | 0, _, _ => none
  | n + 1, T, s => match s with
    | .Expr e _ => (match e with
      | .Constant (.str _) _ _ => some (.ct .pass)
      | _ => if isComp e then none else (trX 60 T e).map fun r => .expr (asE r))
    | .Assign [t] e _ => (match t with
      | .Name x _ => if T.loc x && T.stor x then do
          let i ← ixName T.N x
          let r ← trX 60 T e
          if isComp e && compOwn x e then none else some (.set (.slot i) (asE r))
        else none
      | .Tuple ts _ _ => (match swP (fun x => T.sc.names.lookup x) [t] e with
        | some none => if isComp e then none else do
          let tg ← trTg T 4 t
          let r ← trX 60 T e
          some (.set tg (asE r))
        | some (some names) => (match ts, e with
          | [.Name x _, .Name y _], .Tuple [a, b] _ _ => if isStar a || isStar b then none else do
            let i ← ixName T.N x
            let j ← ixName T.N y
            let r ← trX 60 T a
            let s ← trX 60 T b
            if decide (i = j) || !(decide (names = [x, y]) && decide (T.sc.names.lookup x = some .local) && decide (T.sc.names.lookup y = some .local)) then none else some (.par i j (asE r) (asE s))
          | _, _ => none)
        | none => none)
      | .Subscript o i _ => if isSl i || isComp e then none else do
        let x ← trX 60 T o
        let y ← trX 60 T i
        let r ← trX 60 T e
        some (.sub (asE x) (asE y) (asE r))
      | _ => none)
    | .AugAssign t op e _ => (match t with
      | .Name x _ => if T.loc x && T.stor x then do
          let i ← ixName T.N x
          let r ← trX 60 T e
          some (.aug i op (asE r))
        else none
      | .Subscript o i _ => if isSl i then none else do
        let x ← trX 60 T o
        let y ← trX 60 T i
        let r ← trX 60 T e
        some (.augS (asE x) (asE y) op (asE r))
      | _ => none)
    | .Return (some e) _ => (trX 60 T e).map fun r => .ret (asE r)
    | .Return none _ => some .retN
    | .If c a b _ => do
      let x ← trX 60 T c
      let y ← trSs (trS n T) a
      let z ← trSs (trS n T) b
      some (.ifs (asE x) y z)
    | .For t it b [] _ => do
      let w ← trI T (trX 60 T) t it
      let tg ← trTg T 4 t
      let y ← trSs (trS n T) b
      some (.fors tg w y)
    | .While c b [] _ => do
      let x ← trX 60 T c
      let y ← trSs (trS n T) b
      some (.whil (asE x) y)
    | .Pass _ => some (.ct .pass)
    | .Break _ => some (.ct .brk)
    | .Continue _ => some (.ct .cnt)
    | _ => none
end WD
end
section
set_option Elab.async false
set_option linter.all false
set_option maxRecDepth 100000
set_option autoImplicit false
set_option maxHeartbeats 4000000
/-! WSound: the translation means what the layer says: expressions. -/
namespace WD
open PySem PySem.Spec PyProof.Rows L2
structure Ctx (G : GE) (Φ : Phi) (T : TEnv) (X : Cx) (W : WX) : Prop where
  good : Good G X W
  hN : X.N = T.N
  nd : X.N.Nodup
  sc : X.env.scope = T.sc
  st : ∀ x, T.stor x = true → T.loc x = true → X.fn x = true ∨ X.env.scope.names.lookup x = some .local
  fns : ∀ x id, T.gl.lookup x = some id → FnAt G Φ X x id T.kw
  free : ∀ x, x ∈ T.fr → X.mg x = none
  cst : ∀ x v, T.cs.lookup x = some v → CstAt G X x v
  dct : ∀ x r, T.cd.lookup x = some r → DctAt G X x r.1 r.2
section
variable {G : GE} {Φ : Phi} {T : TEnv} {X : Cx} {W : WX}
theorem Ctx.vis (c : Ctx G Φ T X W) {x : Str} (h : T.vis x = true) : Vis X.env.scope x := by
  unfold TEnv.vis at h
  unfold Vis
  rw [c.sc]
  split at h
  · exact .inl (by assumption)
  · exact .inr (.inl (by assumption))
  · exact .inr (.inr (by assumption))
  · cases h
theorem Ctx.loc (c : Ctx G Φ T X W) {x : Str} (h : T.loc x = true) : L2.Loc X.env.scope x := by
  unfold TEnv.loc at h
  unfold L2.Loc
  rw [c.sc]
  split at h
  · exact .inl (by assumption)
  · exact .inr (by assumption)
  · cases h
theorem Ctx.glob (c : Ctx G Φ T X W) {x : Str} (h : T.glob x = true) : Gl X x ∧ (x == ("__debug__" : Str)) = false := by
  unfold TEnv.glob at h
  unfold Gl
  show X.env.scope.names.lookup x = _ ∧ _
  rw [c.sc]
  split at h
  · exact ⟨by assumption, by simpa using h⟩
  · cases h
theorem Ctx.blt (c : Ctx G Φ T X W) {x : Str} (h : T.blt x = true) : Gl X x ∧ X.mg x = none ∧ (x == ("__debug__" : Str)) = false := by
  unfold TEnv.blt at h
  rw [Bool.and_eq_true] at h
  obtain ⟨h1, h2⟩ := h
  exact ⟨(c.glob h1).1, c.free x (by simpa using h2), (c.glob h1).2⟩
theorem Ctx.ix (c : Ctx G Φ T X W) {x : Str} {i : Nat} (h : ixName T.N x = some i) : X.N[i]? = some x := by
  rw [c.hN]; exact ixName_get h
/-- the block of a comprehension -/
theorem Ctx.block (c : Ctx G Φ T X W) (scope : Scope) (s : Shared) (H : Hp) (C : Addr) (cl : List (Str × Addr)) (fp : List Addr) : Ctx G Φ (T.block scope) (X.blk s H scope (compEnvC scope cl C X.env) fp) (fun _ _ _ _ => False) where
  good := ⟨c.good.eK, c.good.calm, c.good.hu, takes0⟩
  hN := c.hN
  nd := c.nd
  sc := by
    show relS scope X.env.scope = relS scope T.sc
    rw [c.sc]
  st := fun x h1 h2 => by
    have h1' : (match scope.names.lookup x with | some NameKind.local => true | some NameKind.cell => true | _ => false) = true := h1
    split at h1'
    · rename_i e
      refine .inr ?_
      show (relS scope X.env.scope).names.lookup x = some .local
      exact lookup_relS_keep (by decide) e
    · rename_i e
      refine .inl ?_
      show (scope.names.lookup x == some .cell) = true
      rw [e]
      rfl
    · cases h1'
  fns := fun x id e => ⟨(c.fns x id e).ex⟩
  free := fun x hx => c.free x hx
  cst := fun x v e => ⟨(c.cst x v e).ex⟩
  dct := fun x r e => ⟨(c.dct x r e).ex⟩
/-! ### the syntax' own conditions -/
theorem star_cons {e : Expr} {es : List Expr} {env : Env} (h : isStar e = false) : starEach (e :: es) env = (false, eval e env) :: starEach es env := by
  cases e <;> first | rfl | (cases h)
def noStars : List Expr → Bool
  | [] => true
  | e :: r => !isStar e && noStars r
theorem plain_args {env : Env} {pos : Pos} : ∀ {es : List Expr}, noStars es = true → (backTo pos (starEach es env)).any (·.1) = false
  | [], _ => rfl
  | e :: r, h => by
    simp only [noStars, Bool.and_eq_true, Bool.not_eq_true'] at h
    rw [star_cons h.1]
    show (false || (backTo pos (starEach r env)).any (·.1)) = false
    rw [plain_args h.2]
    rfl
theorem plain_all {env : Env} {pos : Pos} : ∀ {es : List Expr}, noStars es = true → (backTo pos (starEach es env)).all (fun x => !x.1) = true
  | [], _ => rfl
  | e :: r, h => by
    simp only [noStars, Bool.and_eq_true, Bool.not_eq_true'] at h
    rw [star_cons h.1]
    show (!false && (backTo pos (starEach r env)).all (fun x => !x.1)) = true
    rw [plain_all h.2]
    rfl
theorem trEs_stars {f : Expr → Option Tr} : ∀ {es : List Expr} {r : Exs}, trEs f es = some r → noStars es = true
  | [], _, _ => rfl
  | e :: es, r, h => by
    unfold trEs at h
    split at h
    · cases h
    · rename_i hs
      simp only [Option.bind_eq_bind, Option.bind_eq_some_iff] at h
      obtain ⟨a, h1, b, h2, h3⟩ := h
      simp only [noStars, Bool.and_eq_true, Bool.not_eq_true']
      exact ⟨by simpa using hs, trEs_stars h2⟩
theorem plainIx {i : Expr} (h : ∀ lo hi st p, i ≠ .Slice lo hi st p) : PlainIx i := by
  intro o v
  cases i <;> first | rfl | exact absurd rfl (h _ _ _ _)
theorem super_no {o : Expr} {m : Str} {env : Env} (h : noSuper o = true) : attributeBase o m env (eval o env) = eval o env := by
  unfold attributeBase
  split
  · cases h
  · rfl
theorem fold_no {e : Expr} {env : Env} (h : ∀ a b c, e ≠ .Set a b c) : ∀ x, foldedSetIterable e env x = pure x := by
  intro x
  unfold foldedSetIterable
  split
  · exact absurd rfl (h _ _ _)
  · rfl
theorem swap_no {e : Expr} {t : Option Expr} {l : Nat} {env : Env} (h : isComp e = false) : swapsWith e t l env = pure false := by
  unfold swapsWith
  cases e <;> first | rfl | cases h
/-! ### what a translation means -/
def Judg (G : GE) (Φ : Phi) (W : WX) (X : Cx) (e : Expr) : Tr → Prop
  | .inl m => RE G W X e (wE Φ m)
  | .inr l => RL G W X e (wL Φ l)
theorem Judg.e {e : Expr} {r : Tr} (h : Judg G Φ W X e r) : RE G W X e (wE Φ (asE r)) := by
  cases r with
  | inl m => exact h
  | inr l => exact re_new h
theorem Judg.la {e : Expr} {r : Tr} (h : Judg G Φ W X e r) : RLa G W X e (wLa Φ (asLa r)) := by
  cases r with
  | inl m => exact rla_e h
  | inr l => exact rla_l h
/-- what the induction gives -/
def IH (n : Nat) : Prop := ∀ (T : TEnv) (e : Expr) (r : Tr), trX n T e = some r → ∀ (G : GE) (Φ : Phi) (X : Cx) (W : WX), Ctx G Φ T X W → Judg G Φ W X e r
def IHT (n : Nat) : Prop := ∀ (T : TEnv) (e : Expr) (r : Tr), trX n T e = some r → ∀ (G : GE) (Φ : Phi) (X : Cx) (W : WX), Ctx G Φ T X W → RT G W X e (wT Φ (asE r))
theorem es_ok {n : Nat} (ih : IH n) (c : Ctx G Φ T X W) : ∀ {es : List Expr} {r : Exs}, trEs (trX n T) es = some r → RA G W X es (wEs Φ r)
  | [], r, h => by
    cases h
    exact ra_nil
  | e :: es, r, h => by
    unfold trEs at h
    split at h
    · cases h
    · rename_i hs
      simp only [Option.bind_eq_bind, Option.bind_eq_some_iff] at h
      obtain ⟨a, h1, b, h2, h3⟩ := h
      cases h3
      exact ra_cons (ih T e a h1 G Φ X W c).e (es_ok ih c h2) (star_cons (by simpa using hs))
theorem ps_ok {n : Nat} (ih : IH n) (c : Ctx G Φ T X W) {pos : Pos} : ∀ {ks : List (Option Expr)} {vs : List Expr} {r : Prs}, trPs (trX n T) ks vs = some r →
    ∃ ms : List (ME × ME), PPs X pos ks vs (upPs G W ms) ∧ ks.all (·.isSome) = true ∧ ks.length = vs.length ∧ wPs Φ r = mPs ms
  | [], [], r, h => by
    cases h
    exact ⟨[], pps_nil, rfl, rfl, by funext x ς h q; rfl⟩
  | some k :: ks, v :: vs, r, h => by
    simp only [trPs, Option.bind_eq_bind, Option.bind_eq_some_iff] at h
    obtain ⟨a, h1, b, h2, d, h3, h4⟩ := h
    cases h4
    obtain ⟨ms, g1, g2, g3, g4⟩ := ps_ok ih c (pos := pos) h3
    refine ⟨(wE Φ (asE a), wE Φ (asE b)) :: ms, pps_cons (ih T k a h1 G Φ X W c).e (ih T v b h2 G Φ X W c).e g1, by simp [g2], by simp [g3], ?_⟩
    funext x ς h q
    show (wE Φ (asE a) x ς h fun y h1 => wE Φ (asE b) x ς h1 fun z h2 => wPs Φ d x ς h2 fun kvs h3 => q ((y, z) :: kvs) h3) = _
    rw [g4]
    rfl
  | [], _ :: _, _, h => by cases h
  | none :: _, _, _, h => by cases h
  | some _ :: _, [], _, h => by cases h
theorem ks_ok {n : Nat} (ih : IH n) (c : Ctx G Φ T X W) : ∀ {ks : List Keyword} {r : Exs}, trKs (trX n T) ks = some r → RK G W X ks (wEs Φ r)
  | [], r, h => by
    cases h
    exact rk_nil
  | ⟨nm, e, p⟩ :: ks, r, h => by
    simp only [trKs, Option.bind_eq_bind, Option.bind_eq_some_iff] at h
    obtain ⟨a, h1, b, h2, h3⟩ := h
    cases h3
    exact rk_cons (ih T e a h1 G Φ X W c).e (ks_ok ih c h2)
theorem kw_facts {pos : Pos} {env : Env} : ∀ {ks : List Keyword} {nm : List Str}, kwNames ks = some nm → (backToKw pos (keywordEach ks env)).all (·.1.isSome) = true ∧ (backToKw pos (keywordEach ks env)).filterMap (·.1) = nm ∧ (backToKw pos (keywordEach ks env)).any (·.1.isNone) = false
  | [], nm, h => by
    cases h
    exact ⟨rfl, rfl, rfl⟩
  | ⟨none, e, p⟩ :: ks, nm, h => by cases h
  | ⟨some x, e, p⟩ :: ks, nm, h => by
    simp only [kwNames] at h
    cases hk : kwNames ks with
    | none => rw [hk] at h; cases h
    | some xs =>
      rw [hk] at h
      cases h
      obtain ⟨a1, a2, a3⟩ := kw_facts (pos := pos) (env := env) hk
      refine ⟨?_, ?_, ?_⟩
      · show (true && (backToKw pos (keywordEach ks env)).all (·.1.isSome)) = true
        rw [a1]; rfl
      · show x :: (backToKw pos (keywordEach ks env)).filterMap (·.1) = _
        rw [a2]
      · show (false || (backToKw pos (keywordEach ks env)).any (·.1.isNone)) = false
        rw [a3]; rfl
theorem dctAt_inv {e : Expr} {r : Str × List Str × List PV} (c : Ctx G Φ T X W) (h : dctAt T e = some r) : ∃ p, e = .Name r.1 p ∧ Gl X r.1 ∧ (r.1 == ("__debug__" : Str)) = false ∧ DctAt G X r.1 r.2.1 r.2.2 := by
  unfold dctAt at h
  split at h
  · rename_i x p
    split at h
    · rename_i hx
      obtain ⟨d, h1, h2⟩ := Option.map_eq_some_iff.mp h
      subst h2
      rw [Bool.and_eq_true] at hx
      obtain ⟨g1, g2⟩ := c.glob hx.2
      exact ⟨p, rfl, g1, g2, c.dct _ _ h1⟩
    · cases h
  · cases h
theorem inOp_eq {o : CmpOp} {neg : Bool} (h : inOp o = some neg) : o = nOp neg := by
  cases o <;> first | (cases h; done) | (cases h; rfl)
theorem o_ok {n : Nat} (ih : IH n) (c : Ctx G Φ T X W) {e : Option Expr} {r : OEx} (h : trO (trX n T) e = some r) : RO G W X e (wO Φ r) := by
  cases e with
  | none =>
    cases h
    exact ro_none
  | some e =>
    obtain ⟨a, h1, h2⟩ := Option.map_eq_some_iff.mp h
    cases h2
    exact ro_some (ih T e a h1 G Φ X W c).e
theorem and_ok {n : Nat} (ih : IH n) (c : Ctx G Φ T X W) {pos : Pos} : ∀ {es : List Expr} {m : Ex}, trAnd (trX n T) es = some m → RE G W X (.BoolOp .And es pos) (wE Φ m)
  | [], _, h => by cases h
  | [a], m, h => by
    obtain ⟨r, h1, h2⟩ := Option.map_eq_some_iff.mp (show (trX n T a).map asE = some m from h)
    cases h2
    exact pe_one (ih T a r h1 G Φ X W c).e
  | a :: b :: es, m, h => by
    simp only [trAnd, Option.bind_eq_bind, Option.bind_eq_some_iff] at h
    obtain ⟨x, h1, y, h2, h3⟩ := h
    cases h3
    exact re_and (ih T a x h1 G Φ X W c).e (and_ok ih c h2)
theorem or_ok {n : Nat} (ih : IH n) (c : Ctx G Φ T X W) {pos : Pos} : ∀ {es : List Expr} {m : Ex}, trOr (trX n T) es = some m → RE G W X (.BoolOp .Or es pos) (wE Φ m)
  | [], _, h => by cases h
  | [a], m, h => by
    obtain ⟨r, h1, h2⟩ := Option.map_eq_some_iff.mp (show (trX n T a).map asE = some m from h)
    cases h2
    exact pe_one (ih T a r h1 G Φ X W c).e
  | a :: b :: es, m, h => by
    simp only [trOr, Option.bind_eq_bind, Option.bind_eq_some_iff] at h
    obtain ⟨x, h1, y, h2, h3⟩ := h
    cases h3
    exact re_or (ih T a x h1 G Φ X W c).e (or_ok ih c h2)
theorem andT_ok {n : Nat} (ih : IHT n) (c : Ctx G Φ T X W) {pos : Pos} : ∀ {es : List Expr} {m : Ex}, trAnd (trX n T) es = some m → RW G W X (.BoolOp .And es pos) (wT Φ m)
  | [], _, h => by cases h
  | [a], m, h => by
    obtain ⟨r, h1, h2⟩ := Option.map_eq_some_iff.mp (show (trX n T a).map asE = some m from h)
    cases h2
    exact pw_and1 (ih T a r h1 G Φ X W c)
  | a :: b :: es, m, h => by
    simp only [trAnd, Option.bind_eq_bind, Option.bind_eq_some_iff] at h
    obtain ⟨x, h1, y, h2, h3⟩ := h
    cases h3
    exact rw_and (ih T a x h1 G Φ X W c) (andT_ok ih c h2)
theorem orT_ok {n : Nat} (ih : IHT n) (c : Ctx G Φ T X W) {pos : Pos} : ∀ {es : List Expr} {m : Ex}, trOr (trX n T) es = some m → RW G W X (.BoolOp .Or es pos) (wT Φ m)
  | [], _, h => by cases h
  | [a], m, h => by
    obtain ⟨r, h1, h2⟩ := Option.map_eq_some_iff.mp (show (trX n T a).map asE = some m from h)
    cases h2
    exact pw_or1 (ih T a r h1 G Φ X W c)
  | a :: b :: es, m, h => by
    simp only [trOr, Option.bind_eq_bind, Option.bind_eq_some_iff] at h
    obtain ⟨x, h1, y, h2, h3⟩ := h
    cases h3
    exact rw_or (ih T a x h1 G Φ X W c) (orT_ok ih c h2)
/-! ### targets -/
mutual
theorem setT_some : ∀ {t : Tg} {v : PV} {ς : PSt} {q : PSt → Prop}, setT t v ς q → ∃ ς', q ς'
  | .slot i, v, ς, q, h => ⟨_, h⟩
  | .tup ts, v, ς, q, h => by
    obtain ⟨xs, rfl, z⟩ := (show ∃ xs, v = .tup xs ∧ setTs ts xs ς q from h)
    exact (setTs_some z).2
theorem setTs_some : ∀ {ts : List Tg} {vs : List PV} {ς : PSt} {q : PSt → Prop}, setTs ts vs ς q → vs.length = ts.length ∧ ∃ ς', q ς'
  | [], vs, ς, q, h => by
    have h' : vs = [] ∧ q ς := h
    rw [h'.1]
    exact ⟨rfl, ς, h'.2⟩
  | t :: ts, vs, ς, q, h => by
    obtain ⟨v, r, rfl, z⟩ := (show ∃ v r, vs = v :: r ∧ setT t v ς fun ς' => setTs ts r ς' q from h)
    obtain ⟨ς', z⟩ := setT_some z
    obtain ⟨h1, h2⟩ := setTs_some z
    exact ⟨by simp [h1], h2⟩
end
theorem star_asg {e : Expr} {es : List Expr} {env : Env} (h : isStar e = false) : assignEach (e :: es) env = (false, assign e env) :: assignEach es env := by
  cases e <;> first | rfl | (cases h)
theorem asg_len {env : Env} : ∀ {es : List Expr}, noStars es = true → (assignEach es env).length = es.length
  | [], _ => rfl
  | e :: r, h => by
    simp only [noStars, Bool.and_eq_true, Bool.not_eq_true'] at h
    rw [star_asg h.1, List.length_cons, asg_len h.2, List.length_cons]
theorem asg_idx {env : Env} : ∀ {es : List Expr}, noStars es = true → (assignEach es env).findIdx? (·.1) = none
  | [], _ => rfl
  | e :: r, h => by
    simp only [noStars, Bool.and_eq_true, Bool.not_eq_true'] at h
    rw [star_asg h.1, List.findIdx?_cons]
    simp [asg_idx h.2]
theorem trTs_stars {f : Expr → Option Tg} : ∀ {es : List Expr} {r : List Tg}, trTs f es = some r → noStars es = true ∧ r.length = es.length
  | [], _, h => by cases h; exact ⟨rfl, rfl⟩
  | e :: es, r, h => by
    unfold trTs at h
    split at h
    · cases h
    · rename_i hs
      simp only [Option.bind_eq_bind, Option.bind_eq_some_iff] at h
      obtain ⟨a, h1, b, h2, h3⟩ := h
      cases h3
      obtain ⟨z1, z2⟩ := trTs_stars h2
      simp only [noStars, Bool.and_eq_true, Bool.not_eq_true', List.length_cons]
      exact ⟨⟨by simpa using hs, z1⟩, by rw [z2]⟩
theorem tgs_ok {n : Nat} {ws : List Nat} (ih : ∀ {e : Expr} {t : Tg}, trTg T n e = some t → (∀ i, i ∈ slotsT t → i ∈ ws) → PG X e (upG G ws (setT t))) : ∀ {es : List Expr} {ts : List Tg}, trTs (trTg T n) es = some ts → (∀ i, i ∈ slotsTs ts → i ∈ ws) → PGs X es (upGs G ws (setTs ts))
  | [], ts, h, hw => by
    cases h
    exact rgs_nil
  | e :: es, ts, h, hw => by
    unfold trTs at h
    split at h
    · cases h
    · rename_i hs
      simp only [Option.bind_eq_bind, Option.bind_eq_some_iff] at h
      obtain ⟨a, h1, b, h2, h3⟩ := h
      cases h3
      have w1 : ∀ i, i ∈ slotsT a → i ∈ ws := fun i hi => hw i (by simp [slotsTs, hi])
      have w2 : ∀ i, i ∈ slotsTs b → i ∈ ws := fun i hi => hw i (by simp [slotsTs, hi])
      exact rgs_cons (ih h1 w1) (tgs_ok ih h2 w2) (by rw [star_asg (by simpa using hs)]; rfl)
theorem tg_ok (c : Ctx G Φ T X W) {ws : List Nat} : ∀ {n : Nat} {e : Expr} {t : Tg}, trTg T n e = some t → (∀ i, i ∈ slotsT t → i ∈ ws) → PG X e (upG G ws (setT t))
  | 0, _, _, h, _ => by cases h
  | n + 1, e, t, h, hw => by
    unfold trTg at h
    split at h
    · split at h
      · rename_i x p hx
        obtain ⟨i, h1, h2⟩ := Option.map_eq_some_iff.mp h
        subst h2
        rw [Bool.and_eq_true] at hx
        exact rg_name c.nd (c.ix h1) (c.loc hx.1) (c.st _ hx.2 hx.1) (hw i (by simp [slotsT]))
      · cases h
    · obtain ⟨ts, h1, h2⟩ := Option.map_eq_some_iff.mp h
      subst h2
      obtain ⟨z1, z2⟩ := trTs_stars h1
      refine rg_tup c.good (tgs_ok (fun h hw => tg_ok c h hw) h1 fun i hi => hw i (by simpa [slotsT] using hi)) (asg_len z1) (asg_idx z1) fun vs ς q z => ?_
      rw [(setTs_some z).1, z2]
    · cases h
/-! ### what a loop walks -/
theorem i_ok {n : Nat} (ih : IH n) (c : Ctx G Φ T X W) {tg e : Expr} {w : Wk} (h : trI T (trX n T) tg e = some w) : RI G W X tg e (wI Φ w) := by
  have gen : ∀ {w}, ((trX n T e).map fun r => Wk.la (asLa r)) = some w → RI G W X tg e (wI Φ w) := by
    intro w h
    obtain ⟨r, h1, h2⟩ := Option.map_eq_some_iff.mp h
    subst h2
    have j := ih T e r h1 G Φ X W c
    cases r with
    | inl m => exact ri_e c.good j
    | inr l => exact ri_l c.good j
  unfold trI at h
  split at h
  · split at h
    · rename_i hx
      rw [Bool.and_eq_true] at hx
      obtain ⟨g1, g2, _⟩ := c.blt hx.1
      split at h
      · cases h
      · rename_i hs
        obtain ⟨r, h1, h2⟩ := Option.map_eq_some_iff.mp h
        subst h2
        exact ri_range1 (of_decide_eq_true hx.2) g1 g2 (ih T _ r h1 G Φ X W c).e (star_cons (by simpa using hs))
    · split at h
      · rename_i hx
        rw [Bool.and_eq_true] at hx
        obtain ⟨g1, g2, _⟩ := c.blt hx.1
        split at h
        · split at h
          · cases h
          · rename_i hs
            obtain ⟨r, h1, h2⟩ := Option.map_eq_some_iff.mp h
            subst h2
            have j := ih T _ r h1 G Φ X W c
            cases r with
            | inl m => exact ri_enum_e c.good (of_decide_eq_true hx.2) g1 g2 j (star_cons (by simpa using hs))
            | inr l => exact ri_enum_l c.good (of_decide_eq_true hx.2) g1 g2 j (star_cons (by simpa using hs))
        · cases h
      · exact gen h
  · split at h
    · rename_i hx
      rw [Bool.and_eq_true] at hx
      obtain ⟨g1, g2, _⟩ := c.blt hx.1
      split at h
      · cases h
      · rename_i hs
        simp only [Option.bind_eq_bind, Option.bind_eq_some_iff] at h
        obtain ⟨a, h1, b, h2, h3⟩ := h
        cases h3
        simp only [Bool.or_eq_true, not_or, Bool.not_eq_true] at hs
        exact ri_range2 (of_decide_eq_true hx.2) g1 g2 (ih T _ a h1 G Φ X W c).e (ih T _ b h2 G Φ X W c).e (by rw [star_cons hs.1, star_cons hs.2]; rfl) (star_cons hs.2)
    · exact gen h
  · split at h
    · rename_i hx
      rw [Bool.and_eq_true] at hx
      obtain ⟨g1, g2, _⟩ := c.blt hx.1
      split at h
      · cases h
      · rename_i hs
        simp only [Option.bind_eq_bind, Option.bind_eq_some_iff] at h
        obtain ⟨a, h1, b, h2, d, h3, h4⟩ := h
        cases h4
        simp only [Bool.or_eq_true, not_or, Bool.not_eq_true] at hs
        exact ri_range3 (of_decide_eq_true hx.2) g1 g2 (ih T _ a h1 G Φ X W c).e (ih T _ b h2 G Φ X W c).e (ih T _ d h3 G Φ X W c).e (by rw [star_cons hs.1.1, star_cons hs.1.2, star_cons hs.2]; rfl) (by rw [star_cons hs.1.2, star_cons hs.2]; rfl) (star_cons hs.2)
    · exact gen h
  · cases h
  · exact gen h
theorem fold_trI {n : Nat} {tg e : Expr} {w : Wk} (h : trI T (trX n T) tg e = some w) : ∀ x, foldedSetIterable e X.env x = pure x := by
  apply fold_no
  intro a b d hh
  subst hh
  cases h
end
end WD
end
section
set_option Elab.async false
set_option linter.all false
set_option maxRecDepth 100000
set_option autoImplicit false
set_option maxHeartbeats 8000000
/-! WSound2: the translation means what the layer says: all expressions. -/
namespace WD
open PySem PySem.Spec PyProof.Rows L2
section
variable {G : GE} {Φ : Phi} {T : TEnv} {X : Cx} {W : WX}
theorem bifAt_ok {x : Str} {k : Nat} {b : Bif} (h : bifAt x k = some b) : b.more = [] ∧ bootBuiltins x = some b.fn ∧ x ≠ "__name__" ∧ (x == ("__debug__" : Str)) = false := by
  unfold bifAt at h
  obtain ⟨p, h1, h2⟩ := Option.map_eq_some_iff.mp h
  subst h2
  have m := List.mem_of_find?_eq_some h1
  have e := List.find?_some h1
  simp only [Bool.and_eq_true, decide_eq_true_eq] at e
  rw [← e.1]
  unfold bifTab at m
  simp only [List.mem_cons, List.not_mem_nil, or_false] at m
  rcases m with rfl | rfl | rfl | rfl | rfl | rfl | rfl <;> exact ⟨rfl, by decide +kernel, by decide +kernel, by decide +kernel⟩
theorem lifAt_ok {x : Str} {b : Lif} (h : lifAt x = some b) : bootBuiltins x = some b.fn ∧ x ≠ "__name__" ∧ (x == ("__debug__" : Str)) = false := by
  unfold lifAt at h
  obtain ⟨p, h1, h2⟩ := Option.map_eq_some_iff.mp h
  subst h2
  have m := List.mem_of_find?_eq_some h1
  have e := List.find?_some h1
  simp only [decide_eq_true_eq] at e
  rw [← e]
  unfold lifTab at m
  simp only [List.mem_cons, List.not_mem_nil, or_false] at m
  rcases m with rfl | rfl | rfl | rfl | rfl | rfl | rfl <;> exact ⟨by decide +kernel, by decide +kernel, by decide +kernel⟩
theorem tyAt_ok {x : Str} {t : String} (h : tyAt x = some t) : bootBuiltins x = some (.type t) ∧ x ≠ "__name__" ∧ (x == ("__debug__" : Str)) = false := by
  unfold tyAt at h
  obtain ⟨p, h1, h2⟩ := Option.map_eq_some_iff.mp h
  subst h2
  have m := List.mem_of_find?_eq_some h1
  have e := List.find?_some h1
  simp only [decide_eq_true_eq] at e
  rw [← e]
  unfold tyTab at m
  simp only [List.mem_cons, List.not_mem_nil, or_false] at m
  rcases m with rfl | rfl | rfl | rfl | rfl | rfl <;> exact ⟨by decide +kernel, by decide +kernel, by decide +kernel⟩
theorem mthAt_ok {m : Str} {k : Nat} {f : Mth} (h : mthAt m k = some f) : m = f.name := by
  unfold mthAt at h
  repeat' split at h
  all_goals first | (cases h; assumption) | cases h
theorem own_mem {N : List Str} {scope : Scope} : True := trivial
theorem call_ok {n : Nat} (ih : IH n) (c : Ctx G Φ T X W) {x : Str} {id : Nat} {args : List Expr} {r : Exs} {p pos : Pos} (hg : T.glob x = true) (hl : T.gl.lookup x = some id) (h : trEs (trX n T) args = some r) :
    RE G W X (.Call (.Name x p) args [] pos) (wE Φ (.call id r)) := by
  obtain ⟨g1, g2⟩ := c.glob hg
  have F := c.fns x id hl
  have ns := trEs_stars h
  have hs := es_ok ih c h
  cases args with
  | nil =>
    cases h
    exact re_call0 c.good F g1 g2
  | cons a as =>
    simp only [noStars, Bool.and_eq_true, Bool.not_eq_true'] at ns
    exact re_call c.good F g1 hs g2 (star_cons ns.1) (fun _ => plain_args ns.2)
theorem rng_ok {n : Nat} (ih : IH n) (c : Ctx G Φ T X W) {e : Expr} {lo hi : OEx} (h : rngOf T (trX n T) e = some (lo, hi)) :
    PRg X e (fun σ H Q => up G W (REq (Int × Int)) (fun x ς h q => wO Φ lo x ς h fun i h1 => wO Φ hi x ς h1 fun j h2 => q (oI 0 i, oI 0 j) h2) σ H fun ij H1 => Q ij.1 ij.2 H1) := by
  unfold rngOf at h
  split at h
  · rename_i r p b p2
    split at h
    · rename_i hx
      simp only [Bool.and_eq_true, Bool.not_eq_true', decide_eq_true_eq] at hx
      obtain ⟨y, h1, h2⟩ := Option.map_eq_some_iff.mp h
      cases h2
      obtain ⟨g1, g2, _⟩ := c.blt hx.1.1
      have := rg_1 (W := W) (p := p) (pos := p2) hx.1.2 g1 g2 (ih T b y h1 G Φ X W c).e (star_cons hx.2)
      intro pins s σ H Q I hw
      refine this pins s σ H Q I ?_
      obtain ⟨ρ, h, ς, q, x, R, S, k, cv, cx⟩ := hw
      exact ⟨ρ, h, ς, q, x, R, S, k, cv, cx⟩
    · cases h
  · rename_i r p b d p2
    split at h
    · rename_i hx
      simp only [Bool.and_eq_true, Bool.not_eq_true', decide_eq_true_eq] at hx
      simp only [Option.bind_eq_bind, Option.bind_eq_some_iff] at h
      obtain ⟨y, h1, z, h2, h3⟩ := h
      cases h3
      obtain ⟨g1, g2, _⟩ := c.blt hx.1.1.1
      have := rg_2 (W := W) (p := p) (pos := p2) hx.1.1.2 g1 g2 (ih T b y h1 G Φ X W c).e (ih T d z h2 G Φ X W c).e (star_cons hx.1.2) (star_cons hx.2)
      intro pins s σ H Q I hw
      refine this pins s σ H Q I ?_
      obtain ⟨ρ, h, ς, q, x, R, S, k, cv, cx⟩ := hw
      exact ⟨ρ, h, ς, q, x, R, S, k, cv, cx⟩
    · cases h
  · cases h
theorem bi1_ok {n : Nat} (ih : IH n) (c : Ctx G Φ T X W) {x : Str} {a : Expr} {r : Tr} {p pos : Pos} (hg : T.blt x = true)
    (h : tr1 T (trX n T) x a = some r) : Judg G Φ W X (.Call (.Name x p) [a] [] pos) r := by
  obtain ⟨g1, g2, g3⟩ := c.blt hg
  unfold tr1 at h
  split at h
  · cases h
  · rename_i hs
    have hs' : starEach [a] X.env = (false, eval a X.env) :: starEach [] X.env := star_cons (by simpa using hs)
    split at h
    · rename_i lo hi hr
      have rg := rng_ok ih c hr
      split at h
      · rename_i hx
        cases h
        refine PE.imp (rl_rng c.good (of_decide_eq_true hx) g1 g2 rg hs') fun σ H Q hw => ?_
        obtain ⟨ρ, h, ς, q, x, R, S, k, cv, cx⟩ := hw
        exact ⟨ρ, h, ς, q, x, R, S, k, cv, cx⟩
      · split at h
        · rename_i hx
          cases h
          refine PE.imp (re_tupR c.good (of_decide_eq_true hx) g1 g2 rg hs') fun σ H Q hw => ?_
          obtain ⟨ρ, h, ς, q, x, R, S, k, cv, cx⟩ := hw
          exact ⟨ρ, h, ς, q, x, R, S, k, cv, cx⟩
        · cases h
    · simp only [Option.bind_eq_bind, Option.bind_eq_some_iff] at h
      obtain ⟨ra, h1, h2⟩ := h
      have j := ih T a ra h1 G Φ X W c
      split at h2
      · rename_i hx
        cases h2
        exact rl_list c.good (of_decide_eq_true hx) g1 g2 j.la hs'
      · split at h2
        · rename_i hx
          cases h2
          exact rl_sort c.good (of_decide_eq_true hx) g1 g2 j.la hs'
        · split at h2
          · have hb := ‹bifAt x 1 = some _›
            cases h2
            obtain ⟨z1, z2, z3, z4⟩ := bifAt_ok hb
            exact re_bif c.good _ z1 g1 g2 z2 (ra_cons j ra_nil hs') z3 z4 hs' (fun _ => rfl)
          · have hl := ‹lifAt x = some _›
            cases h2
            obtain ⟨z2, z3, z4⟩ := lifAt_ok hl
            exact re_lif c.good _ g1 g2 z2 j.la z3 z4 hs'
          · cases h2
/-- calls with keywords -/
theorem kw_ok {n : Nat} (ih : IH n) (c : Ctx G Φ T X W) {x : Str} {args : List Expr} {kws : List Keyword} {r : Tr} {p pos : Pos} (h : trKw T (trX n T) x args kws = some r) : Judg G Φ W X (.Call (.Name x p) args kws pos) r := by
  unfold trKw at h
  split at h
  · rename_i id nm hid hnm
    split at h
    · rename_i e he
      simp only [Option.bind_eq_bind, Option.bind_eq_some_iff] at h
      obtain ⟨r1, h1, r2, h2, h3⟩ := h
      cases h3
      split at hid
      · rename_i hgl
        obtain ⟨g1, g2⟩ := c.glob hgl
        have hm := List.mem_of_find?_eq_some he
        have hp := List.find?_some he
        simp only [Bool.and_eq_true, decide_eq_true_eq] at hp
        obtain ⟨⟨e1, e2⟩, e3⟩ := hp
        obtain ⟨k1, k2, k3⟩ := kw_facts (pos := pos) (env := X.env) hnm
        have F := c.fns x id hid
        have ns := trEs_stars h1
        have hs := es_ok ih c h1
        have hk := ks_ok ih c h2
        cases args with
        | nil =>
          cases h1
          exact re_callk0 c.good F hm e1 g1 hk g2 k1 (by rw [e3]; exact k2) (by rw [k3]; rfl)
        | cons a as =>
          simp only [noStars, Bool.and_eq_true, Bool.not_eq_true'] at ns
          exact re_callk c.good F hm e1 g1 hs hk g2 (star_cons ns.1) k1 (by rw [e3]; exact k2) (by rw [k3, plain_args (by simp [noStars, ns.1, ns.2])]; rfl)
      · cases hid
    · cases h
  · cases h
theorem cmp1_ok {n : Nat} (ih : IH n) (c : Ctx G Φ T X W) {a b : Expr} {o : CmpOp} {r : Tr} {pos : Pos} (h : trCmp1 T (trX n T) a o b = some r) : Judg G Φ W X (.Compare a [o] [b] pos) r ∧ RT G W X (.Compare a [o] [b] pos) (wT Φ (asE r)) := by
  unfold trCmp1 at h
  split at h
  · cases h
  · rename_i hm
    have hm' : behindInMarks o b = false := by simpa using hm
    split at h
    · rename_i neg d ho hd
      obtain ⟨x, h1, h2⟩ := Option.map_eq_some_iff.mp h
      subst h2
      obtain ⟨p, rfl, g1, g2, F⟩ := dctAt_inv c hd
      have eo := inOp_eq ho
      subst eo
      have j := (ih T a x h1 G Φ X W c).e
      exact ⟨re_cin neg F g1 g2 j hm', rt_cin neg F g1 g2 j hm'⟩
    · simp only [Option.bind_eq_bind, Option.bind_eq_some_iff] at h
      obtain ⟨x, h1, y, h2, h3⟩ := h
      cases h3
      exact ⟨re_cmp c.good _ (ih T _ x h1 G Φ X W c).e (ih T _ y h2 G Φ X W c).e hm', rt_cmp c.good _ (ih T _ x h1 G Φ X W c).e (ih T _ y h2 G Φ X W c).e hm'⟩
theorem ix_ok {n : Nat} (ih : IH n) (c : Ctx G Φ T X W) {a i : Expr} {r : Tr} {pos : Pos} (hs : PlainIx i) (h : trIx T (trX n T) a i = some r) : Judg G Φ W X (.Subscript a i pos) r := by
  unfold trIx at h
  split at h
  · rename_i d hd
    obtain ⟨x, h1, h2⟩ := Option.map_eq_some_iff.mp h
    subst h2
    obtain ⟨p, rfl, g1, g2, F⟩ := dctAt_inv c hd
    exact re_cix F g1 g2 (ih T i x h1 G Φ X W c).e hs
  · simp only [Option.bind_eq_bind, Option.bind_eq_some_iff] at h
    obtain ⟨x, h1, y, h2, h3⟩ := h
    cases h3
    exact re_ix c.good (ih T a x h1 G Φ X W c).e (ih T i y h2 G Φ X W c).e hs
theorem few {args : List Expr} {env : Env} {cpos : Pos} (h : noStars args = true) (hl : args.length < 30) : ((backTo cpos (starEach args env)).all (fun x => !x.1) && (backToKw cpos (keywordEach [] env)).all (fun x => x.1.isSome) && decide (args.length + ([] : List Keyword).length + (if ([] : List Keyword).isEmpty then 0 else 1) < 30)) = true := by
  rw [plain_all h]
  show (true && true && decide (args.length + 0 + 0 < 30)) = true
  simpa using hl
theorem mth1_ok {n : Nat} (ih : IH n) (c : Ctx G Φ T X W) {o : Expr} {m : Str} {args : List Expr} {ro : Tr} {r : Exs} {f : Mth} {apos cpos : Pos} (ho : trX n T o = some ro) (hns : noSuper o = true) (hline : (apos.endLine == cpos.line) = true) (hm : mthAt m args.length = some f) (h : trEs (trX n T) args = some r) (hl : args.length < 30) :
    RE G W X (.Call (.Attribute o m apos) args [] cpos) (wE Φ (.mth f (asE ro) r)) := by
  have e := mthAt_ok hm
  subst e
  have ns := trEs_stars h
  have hs := es_ok ih c h
  have jo := (ih T o ro ho G Φ X W c).e
  cases args with
  | nil =>
    cases h
    exact re_mth0 c.good f jo (super_no hns) hline
  | cons a as =>
    have ns' := ns
    simp only [noStars, Bool.and_eq_true, Bool.not_eq_true'] at ns
    exact re_mth c.good f jo hs (super_no hns) (few ns' hl) hline (star_cons ns.1) (fun _ => plain_args ns.2)
theorem comp_ok {n : Nat} (ih : IH n) (iht : IHT n) (c : Ctx G Φ T X W) {elt tg iter : Expr} {ifs : List Expr} {scope : Scope} {it : Wk} {t : Tg} {x : Tr} {cd : OEx}
    (hb : blkC T.N T.sc scope (ownOf T scope) = true) (h1 : trI T (trX n T) tg iter = some it) (h2 : trTg (T.block scope) 4 tg = some t) (h3 : ((slotsT t).all fun i => (ownOf T scope).any fun p => p.2 == i) = true) (h4 : trX n (T.block scope) elt = some x)
    (h5 : (ifs = [] ∧ cd = .no) ∨ ∃ cnd y, ifs = [cnd] ∧ trX n (T.block scope) cnd = some y ∧ cd = .some (asE y)) :
    (∃ own : List (Str × Nat), own = ownOf T scope ∧ BlkOk X.N X.env.scope scope own ∧ BlkR G X scope (own.map (·.2)) tg elt ifs (setT t) (wC Φ cd) (wE Φ (asE x))) := by
  refine ⟨_, rfl, by rw [c.hN, c.sc]; exact blkOk_by hb, ⟨?_, ?_, ?_⟩⟩
  · intro s H C cl fp
    refine tg_ok (c.block scope s H C cl fp) h2 fun i hi => ?_
    obtain ⟨p, q1, q2⟩ := List.any_eq_true.mp (List.all_eq_true.mp h3 i hi)
    exact List.mem_map.mpr ⟨p, q1, by simpa using q2⟩
  · intro s H C cl fp
    rcases h5 with ⟨rfl, rfl⟩ | ⟨cnd, y, rfl, hy, rfl⟩
    · refine ⟨fun pins s σ H Q I hw => pts_nil.run pins s σ H Q I ?_⟩
      obtain ⟨ρ, h, ς, q, x, R, S, k, cv, cx⟩ := hw
      exact cv ρ h H true true Ext.refl R rfl k
    · exact pts_one (iht (T.block scope) cnd y hy G Φ _ _ (c.block scope s H C cl fp))
  · intro s H C cl fp
    exact (ih (T.block scope) elt x h4 G Φ _ _ (c.block scope s H C cl fp)).e
theorem tr_inv {n : Nat} {e : Expr} {r : Tr} (h : trX (n + 1) T e = some r) : trB (trX n) T e = some r ∧ (plainX e = true → isTest (asE r) = false) := by
  unfold trX at h
  split at h
  · rename_i r' h1
    split at h
    · cases h
    · rename_i h2
      cases h
      refine ⟨h1, fun hp => ?_⟩
      rw [hp, Bool.true_and] at h2
      simpa using h2
  · cases h
theorem x_ok {n : Nat} (ih : IH n) (iht : IHT n) : IH (n + 1) := by
  intro T e r h G Φ X W c
  replace h := (tr_inv h).1
  unfold trB at h
  split at h
  · -- name
    split at h
    · rename_i hv
      split at h
      · rename_i hx
        obtain ⟨i, h1, h2⟩ := Option.map_eq_some_iff.mp h
        subst h2
        simp only [badName, Bool.not_eq_true', Bool.or_eq_false_iff] at hx
        exact re_var (c.ix h1) (c.vis hv) hx.1 hx.2
      · cases h
    · split at h
      · rename_i hg
        obtain ⟨v, h1, h2⟩ := Option.map_eq_some_iff.mp h
        subst h2
        obtain ⟨g1, g2⟩ := c.glob hg
        exact re_cst (c.cst _ v h1) g1 g2
      · cases h
  · -- dicts
    split at h
    · rename_i hl
      obtain ⟨r, h1, h2⟩ := Option.map_eq_some_iff.mp h
      subst h2
      rename_i keys values pos
      obtain ⟨ms, g1, g2, g3, g4⟩ := ps_ok ih c (pos := pos) h1
      cases keys with
      | nil =>
        cases values with
        | nil =>
          cases h1
          refine PE.imp (re_dic0 (G := G) (W := W)) fun σ H Q hw => ?_
          obtain ⟨ρ, h, ς, q, x, R, S, k, cv, cx⟩ := hw
          obtain ⟨ks, e1, e2, k⟩ := k
          cases e1
          exact ⟨ρ, h, ς, q, x, R, S, k, cv, cx⟩
        | cons v vs => cases g3
      | cons k ks =>
        refine PE.imp (re_dic g1 g2 g3 (by simp) hl) fun σ H Q hw => ?_
        obtain ⟨ρ, h, ς, q, x, R, S, k, cv, cx⟩ := hw
        exact ⟨ρ, h, ς, q, x, R, S, g4 ▸ k, cv, cx⟩
    · cases h
  · cases h; exact re_c pe_int (fun _ _ _ => .int _)
  · cases h; exact re_c pe_bl (fun _ _ _ => .bl _)
  · cases h; exact re_c pe_non (fun _ _ _ => .non)
  · split at h
    · rename_i hx
      cases h
      exact re_c pe_str (fun _ _ _ => .str _ (strOk_ofL hx))
    · cases h
  · obtain ⟨es, h1, h2⟩ := Option.map_eq_some_iff.mp h
    subst h2
    exact re_tup (es_ok ih c h1)
  · obtain ⟨es, h1, h2⟩ := Option.map_eq_some_iff.mp h
    subst h2
    exact rl_disp (es_ok ih c h1)
  · -- binary operations
    simp only [Option.bind_eq_bind, Option.bind_eq_some_iff] at h
    obtain ⟨x, h1, y, h2, h3⟩ := h
    have jx := ih T _ x h1 G Φ X W c
    have jy := ih T _ y h2 G Φ X W c
    split at h3
    · cases h3; exact rl_cat jx.la jy.la
    · cases h3; exact rl_cat jx.la jy.la
    · cases h3; exact rl_rep jx.la jy.e
    · cases h3; exact re_bin c.good _ jx.e jy.e
  · obtain ⟨x, h1, h2⟩ := Option.map_eq_some_iff.mp h
    subst h2
    exact re_neg (ih T _ x h1 G Φ X W c).e
  · obtain ⟨x, h1, h2⟩ := Option.map_eq_some_iff.mp h
    subst h2
    exact re_not (ih T _ x h1 G Φ X W c).e
  · exact (cmp1_ok ih c h).1
  · split at h
    · cases h
    · rename_i hm
      simp only [Option.bind_eq_bind, Option.bind_eq_some_iff] at h
      obtain ⟨x, h1, y, h2, z, h3, h4⟩ := h
      cases h4
      exact re_chn c.good _ _ (ih T _ x h1 G Φ X W c).e (ih T _ y h2 G Φ X W c).e (ih T _ z h3 G Φ X W c).e (by simpa using hm)
  · obtain ⟨m, h1, h2⟩ := Option.map_eq_some_iff.mp h
    subst h2
    exact and_ok ih c h1
  · obtain ⟨m, h1, h2⟩ := Option.map_eq_some_iff.mp h
    subst h2
    exact or_ok ih c h1
  · simp only [Option.bind_eq_bind, Option.bind_eq_some_iff] at h
    obtain ⟨z, h1, x, h2, y, h3, h4⟩ := h
    cases h4
    exact re_ifx (iht T _ z h1 G Φ X W c) (ih T _ x h2 G Φ X W c).e (ih T _ y h3 G Φ X W c).e
  · -- subscripts
    split at h
    · simp only [Option.bind_eq_bind, Option.bind_eq_some_iff] at h
      obtain ⟨x, h1, l, h2, u, h3, h4⟩ := h
      have jx := ih T _ x h1 G Φ X W c
      cases x with
      | inl m =>
        cases h4
        exact re_sl c.good jx (o_ok ih c h2) (o_ok ih c h3)
      | inr m =>
        cases h4
        exact rl_cut c.good (rla_l jx) (o_ok ih c h2) (o_ok ih c h3)
    · cases h
    · rename_i k1 k2
      refine ix_ok ih c (plainIx fun lo hi st p z => ?_) h
      cases st with
      | none => exact k1 _ _ _ z
      | some st => exact k2 _ _ _ _ z
  · -- calls by name
    split at h
    · rename_i hx
      obtain ⟨es, h1, h2⟩ := Option.map_eq_some_iff.mp h
      subst h2
      split at hx
      · rename_i hg
        exact call_ok ih c hg hx h1
      · cases hx
    · split at h
      · rename_i hb
        split at h
        · exact bi1_ok ih c hb h
        · split at h
          · cases h
          · rename_i hs
            simp only [Bool.or_eq_true, not_or, Bool.not_eq_true] at hs
            obtain ⟨g1, g2, g3⟩ := c.blt hb
            split at h
            · split at h
              · rename_i hx _ hbt
                simp only [Option.bind_eq_bind, Option.bind_eq_some_iff] at h
                obtain ⟨ra, h1, ty, h2, h3⟩ := h
                cases h3
                obtain ⟨k1, k2, k3⟩ := c.blt hbt
                obtain ⟨z1, z2, z3⟩ := tyAt_ok h2
                exact re_isT c.good (of_decide_eq_true (by assumption)) g1 g2 k1 k2 z1 z2 z3 (ih T _ ra h1 G Φ X W c).e (star_cons hs.1)
              · cases h
            · simp only [Option.bind_eq_bind, Option.bind_eq_some_iff] at h
              obtain ⟨f, h0, ra, h1, rb, h2, h3⟩ := h
              cases h3
              obtain ⟨z1, z2, z3, z4⟩ := bifAt_ok h0
              exact re_bif c.good _ z1 g1 g2 z2 (ra_cons (ih T _ ra h1 G Φ X W c).e (ra_cons (ih T _ rb h2 G Φ X W c).e ra_nil (star_cons hs.2)) (star_cons hs.1)) z3 z4 (star_cons hs.1) (fun _ => by rw [star_cons hs.2]; rfl)
        · cases h
      · cases h
  · exact kw_ok ih c h
  · -- methods
    split at h
    · cases h
    · rename_i hq
      simp only [Bool.or_eq_true, not_or, Bool.not_eq_true, Bool.not_eq_false'] at hq
      obtain ⟨q1, q2⟩ := hq
      simp only [Option.bind_eq_bind, Option.bind_eq_some_iff] at h
      obtain ⟨ro, h0, h⟩ := h
      split at h
      · simp only [Option.bind_eq_some_iff] at h
        obtain ⟨f, h1, h2⟩ := h
        cases h2
        exact mth1_ok ih c h0 (by simpa using q1) (by simpa using q2) h1 (r := .nil) rfl (by decide)
      · split at h
        · cases h
        · rename_i hs
          split at h
          · rename_i hx
            simp only [Option.bind_eq_some_iff] at h
            obtain ⟨s, h1, h2⟩ := h
            cases h2
            have hx' := of_decide_eq_true hx
            subst hx'
            have ns : ∀ y, isStar y = false → noStars [y] = true := fun y hy => by simp [noStars, hy]
            exact re_ext c.good (ih T _ ro h0 G Φ X W c).e (ih T _ s h1 G Φ X W c).la (super_no (by simpa using q1)) (few (ns _ (by simpa using hs)) (by simp)) (by simpa using q2) (star_cons (by simpa using hs))
          · simp only [Option.bind_eq_some_iff] at h
            obtain ⟨f, h1, s, h2, h3⟩ := h
            cases h3
            refine mth1_ok ih c h0 (by simpa using q1) (by simpa using q2) h1 (r := .cons (asE s) .nil) ?_ (by simp)
            unfold trEs
            rw [if_neg hs, h2]
            rfl
      · split at h
        · cases h
        · rename_i hs
          simp only [Option.bind_eq_some_iff] at h
          obtain ⟨f, h1, s, h2, t, h3, h4⟩ := h
          cases h4
          simp only [Bool.or_eq_true, not_or] at hs
          refine mth1_ok ih c h0 (by simpa using q1) (by simpa using q2) h1 (r := .cons (asE s) (.cons (asE t) .nil)) ?_ (by simp)
          unfold trEs
          rw [if_neg hs.1, h2]
          unfold trEs
          rw [if_neg hs.2, h3]
          rfl
      · cases h
  · -- comprehensions
    split at h
    · rename_i hb
      simp only [Option.bind_eq_bind, Option.bind_eq_some_iff] at h
      obtain ⟨it, h1, t, h2, h⟩ := h
      split at h
      · rename_i h3
        simp only [Option.bind_eq_bind, Option.bind_eq_some_iff] at h
        obtain ⟨x, h4, h⟩ := h
        split at h
        · cases h
          obtain ⟨own, rfl, ok, B⟩ := comp_ok (G := G) (Φ := Φ) (ifs := []) (cd := .no) ih iht c hb h1 h2 h3 h4 (.inl ⟨rfl, rfl⟩)
          exact rl_comp c.good c.nd (i_ok ih c h1) ok B (fold_trI h1)
        · simp only [Option.bind_eq_some_iff] at h
          obtain ⟨y, h5, h6⟩ := h
          cases h6
          obtain ⟨own, rfl, ok, B⟩ := comp_ok (G := G) (Φ := Φ) (cd := .some (asE y)) ih iht c hb h1 h2 h3 h4 (.inr ⟨_, y, rfl, h5, rfl⟩)
          exact rl_comp c.good c.nd (i_ok ih c h1) ok B (fold_trI h1)
        · cases h
      · cases h
    · cases h
  · cases h
/-! ### tests -/
def plainB : Ex → Bool
  | .var _ => true
  | .bl _ => true
  | .ix _ _ => true
  | .call _ _ => true
  | .bif _ _ => true
  | .lif _ _ => true
  | _ => false
theorem wT_e {m : Ex} {x : QX} {ς : PSt} {h : PH} {q : Bool → PH → Prop} (hm : plainB m = true) (k : wT Φ m x ς h q) : wE Φ m x ς h (fun v h1 => ∃ r, truS h1 v = some r ∧ q r h1) := by
  cases m with
  | bl b => exact ⟨b, rfl, k⟩
  | var i => exact k
  | ix a b => exact k
  | call f es => exact k
  | «bif» f es => exact k
  | lif f l => exact k
  | _ => cases hm
theorem rt_plain {e : Expr} {m : Ex} (c : Ctx G Φ T X W) (hm : plainB m = true) (j : RE G W X e (wE Φ m)) (he : ∀ whole, isTrue e X.env whole = (do let v ← whole; standAt e.pos; holding [v] (truthy v))) : RT G W X e (wT Φ m) :=
  PT.imp (rt_truth c.good j he) fun σ H Q hw => by
    obtain ⟨ρ, h, ς, q, x, R, S, k, cv, cx⟩ := hw
    exact ⟨ρ, h, ς, q, x, R, S, wT_e hm k, cv, cx⟩
theorem rt_no {e : Expr} {m : Ex} (hm : ∀ x ς h q, ¬ wT Φ m x ς h q) : RT G W X e (wT Φ m) :=
  ⟨fun pins s σ H Q I hw => by
    obtain ⟨ρ, h, ς, q, x, R, S, k, cv, cx⟩ := hw
    exact (hm _ _ _ _ k).elim⟩
theorem noT {m : Ex} (h1 : plainB m = false) (h2 : isTest m = false) : ∀ x ς h q, ¬ wT Φ m x ς h q := by
  intro x ς h q k
  cases m <;> first | exact k | (simp only [plainB] at h1; cases h1; done) | (simp only [isTest] at h2; cases h2; done)
theorem ifx_tr {n : Nat} {a b d : Expr} {p : Pos} {r : Tr} (h : trX (n + 1) T (.IfExp a b d p) = some r) : ∃ x y z, asE r = .ifx x y z := by
  replace h := (tr_inv h).1
  unfold trB at h
  simp only [Option.bind_eq_bind, Option.bind_eq_some_iff] at h
  obtain ⟨z, h1, x, h2, y, h3, h4⟩ := h
  cases h4
  exact ⟨_, _, _, rfl⟩
theorem cmpT_ok {n : Nat} (ih : IH n) (c : Ctx G Φ T X W) {a : Expr} {os : List CmpOp} {bs : List Expr} {pos : Pos} {r : Tr} (h : trB (trX n) T (.Compare a os bs pos) = some r) : RT G W X (.Compare a os bs pos) (wT Φ (asE r)) := by
  match os, bs, h with
  | [o], [b], h =>
    exact (cmp1_ok ih c h).2
  | [o, o'], [b, d], h =>
    change (if behindInMarks o' d then none else do
      let x ← trX n T a
      let y ← trX n T b
      let z ← trX n T d
      some (Sum.inl (.chn o o' (asE x) (asE y) (asE z)))) = some r at h
    split at h
    · cases h
    · rename_i hm
      simp only [Option.bind_eq_bind, Option.bind_eq_some_iff] at h
      obtain ⟨x, h1, y, h2, z, h3, h4⟩ := h
      cases h4
      exact rt_chn c.good _ _ (ih T _ x h1 G Φ X W c).e (ih T _ y h2 G Φ X W c).e (ih T _ z h3 G Φ X W c).e (by simpa using hm)
  | [], _, h => cases h
  | [_], [], h => cases h
  | [_], _ :: _ :: _, h => cases h
  | [_, _], [], h => cases h
  | [_, _], [_], h => cases h
  | [_, _], _ :: _ :: _ :: _, h => cases h
  | _ :: _ :: _ :: _, _, h => cases h
theorem x_okT {n : Nat} (ih : IH n) (iht : IHT n) : IHT (n + 1) := by
  intro T e r h G Φ X W c
  have j := (x_ok ih iht T e r h G Φ X W c).e
  have gen : plainX e = true → (∀ whole, isTrue e X.env whole = (do let v ← whole; standAt e.pos; holding [v] (truthy v))) → RT G W X e (wT Φ (asE r)) := by
    intro hp he
    have ht := (tr_inv h).2 hp
    cases hb : plainB (asE r) with
    | true => exact rt_plain c hb j he
    | false => exact rt_no (noT hb ht)
  cases e with
  | BoolOp op es pos =>
    replace h := (tr_inv h).1
    unfold trB at h
    cases op with
    | And =>
      obtain ⟨m, h1, h2⟩ := Option.map_eq_some_iff.mp h
      subst h2
      exact (andT_ok iht c h1).pt
    | Or =>
      obtain ⟨m, h1, h2⟩ := Option.map_eq_some_iff.mp h
      subst h2
      exact (orT_ok iht c h1).pt
  | UnaryOp op a pos =>
    cases op with
    | Not =>
      replace h := (tr_inv h).1
      unfold trB at h
      obtain ⟨x, h1, h2⟩ := Option.map_eq_some_iff.mp h
      subst h2
      exact rt_not (iht T _ x h1 G Φ X W c)
    | _ => exact gen rfl fun _ => rfl
  | IfExp a b d p =>
    obtain ⟨x, y, z, e⟩ := ifx_tr h
    rw [e]
    exact rt_no fun x ς h q k => k
  | Compare a os bs pos =>
    replace h := (tr_inv h).1
    exact cmpT_ok ih c h
  | _ => exact gen rfl fun _ => rfl
theorem tr_sound : ∀ n, IH n ∧ IHT n
  | 0 => ⟨(by intro T e r h; cases h), (by intro T e r h; cases h)⟩
  | n + 1 => ⟨x_ok (tr_sound n).1 (tr_sound n).2, x_okT (tr_sound n).1 (tr_sound n).2⟩
end
end WD
end
section
set_option Elab.async false
set_option linter.all false
set_option maxRecDepth 100000
set_option autoImplicit false
set_option maxHeartbeats 8000000
/-! WSound3: the translation means what the layer says: statements. -/
namespace WD
open PySem PySem.Spec PyProof.Rows L2
structure SCtx (G : GE) (Φ : Phi) (T : TEnv) (X : Cx) (W : WX) : Prop where
  c : Ctx G Φ T X W
  kind : X.env.scope.kind = .function
  pass : PassesOwn (model X.prog X.w) X.A X.env X.xe
section
variable {G : GE} {Φ : Phi} {T : TEnv} {X : Cx} {W : WX}
theorem SCtx.bk (c : SCtx G Φ T X W) : X.env.blockKind = .function := by
  unfold Env.blockKind
  rw [c.kind]
  rfl
theorem swP_ok (c : SCtx G Φ T X W) {ts : List Expr} {e : Expr} {r : Option (List Str)} (h : swP (fun x => T.sc.names.lookup x) ts e = some r) : swappedStores ts e X.env = pure r := by
  have hk : ∀ x, X.env.kindOf x = T.sc.names.lookup x := fun x => by rw [← c.c.sc]; rfl
  unfold swP at h
  split at h
  · rename_i ts k p vs k2 p2
    unfold swappedStores
    simp only [hk, c.bk]
    split at h
    · rename_i z
      cases h
      have z' : (!(ts.length == 2 || ts.length == 3) || vs.length != ts.length || ScopeKind.function != ScopeKind.function) = true := by rw [z]; rfl
      rw [if_pos z']
    · rename_i z
      have z' : ¬ (!(ts.length == 2 || ts.length == 3) || vs.length != ts.length || ScopeKind.function != ScopeKind.function) = true := by
        intro w
        apply z
        rw [Bool.or_eq_true] at w
        rcases w with w | w
        · exact w
        · cases w
      rw [if_neg z']
      split at h
      · rename_i z
        cases h
        exact if_pos z
      · rename_i z
        refine (if_neg z).trans ?_
        dsimp only at h
        split at h
        · rename_i z
          cases h
          exact if_pos z
        · rename_i z
          refine (if_neg z).trans ?_
          split at h
          · rename_i z
            cases h
            exact if_pos z
          · rename_i z
            refine (if_neg z).trans ?_
            split at h
            · cases h
            · rename_i z
              refine (if_neg z).trans ?_
              cases h
              rfl
  · cases h
  · rename_i k1 k2
    cases h
    unfold swappedStores
    split
    · rename_i q
      split at q
      · exact (k1 _ _ _ _ _ _ rfl rfl).elim
      · exact (k2 _ _ _ _ _ rfl rfl).elim
      · cases q
    · rfl
theorem comp_inv {n : Nat} {elt : Expr} {gs : List Comprehension} {scope : Scope} {pos : Pos} {r : Tr} (c : Ctx G Φ T X W) (h : trX (n + 1) T (.ListComp elt gs scope pos) = some r) :
    ∃ tg iter ifs t it cd x, gs = [⟨tg, iter, ifs, 0⟩] ∧ r = .inr (.comp ((ownOf T scope).map (·.2)) x t it cd) ∧ RI G W X tg iter (wI Φ it) ∧ BlkOk X.N X.env.scope scope (ownOf T scope) ∧ BlkR G X scope ((ownOf T scope).map (·.2)) tg elt ifs (setT t) (wC Φ cd) (wE Φ x) ∧ ∀ y, foldedSetIterable iter X.env y = pure y := by
  replace h := (tr_inv h).1
  have ih := (tr_sound n).1
  have iht := (tr_sound n).2
  rcases gs with _ | ⟨⟨tg, iter, ifs, (_ | _) | _⟩, _ | ⟨g2, gs⟩⟩
  · cases h
  · change (if blkC T.N T.sc scope (ownOf T scope) then do
        let it ← trI T (trX n T) tg iter
        let t ← trTg (T.block scope) 4 tg
        if (slotsT t).all fun i => (ownOf T scope).any fun p => p.2 == i then do
          let x ← trX n (T.block scope) elt
          match ifs with
          | [] => some (Sum.inr (.comp ((ownOf T scope).map (·.2)) (asE x) t it .no))
          | [c] => do
            let y ← trX n (T.block scope) c
            some (.inr (.comp ((ownOf T scope).map (·.2)) (asE x) t it (.some (asE y))))
          | _ => none
        else none
      else none) = some r at h
    split at h
    · rename_i hb
      simp only [Option.bind_eq_bind, Option.bind_eq_some_iff] at h
      obtain ⟨it, h1, t, h2, h⟩ := h
      split at h
      · rename_i h3
        simp only [Option.bind_eq_bind, Option.bind_eq_some_iff] at h
        obtain ⟨x, h4, h⟩ := h
        split at h
        · cases h
          obtain ⟨own, rfl, ok, B⟩ := comp_ok (G := G) (Φ := Φ) (ifs := []) (cd := .no) ih iht c hb h1 h2 h3 h4 (.inl ⟨rfl, rfl⟩)
          exact ⟨_, _, _, _, _, _, _, rfl, rfl, i_ok ih c h1, ok, B, fold_trI h1⟩
        · simp only [Option.bind_eq_some_iff] at h
          obtain ⟨y, h5, h6⟩ := h
          cases h6
          obtain ⟨own, rfl, ok, B⟩ := comp_ok (G := G) (Φ := Φ) (cd := .some (asE y)) ih iht c hb h1 h2 h3 h4 (.inr ⟨_, y, rfl, h5, rfl⟩)
          exact ⟨_, _, _, _, _, _, _, rfl, rfl, i_ok ih c h1, ok, B, fold_trI h1⟩
        · cases h
      · cases h
    · cases h
  all_goals cases h
theorem swap_name {elt : Expr} {gs : List Comprehension} {scope : Scope} {pos py : Pos} {y : Str} {l : Nat} {env : Env} : ∃ b : Bool, swapsWith (.ListComp elt gs scope pos) (some (.Name y py)) l env = pure b ∧ (b = true → env.kindOf y = some .local) := by
  refine ⟨_, rfl, fun h => ?_⟩
  simp only [Bool.and_eq_true, beq_iff_eq] at h
  exact h.1.1.2
theorem swap_sole {e t : Expr} {l : Nat} {env : Env} (h : isComp e = false) : swapsWithSole [t] e l env = pure false := by
  unfold swapsWithSole
  exact swap_no h
/-- what the induction gives -/
def IHS (n : Nat) : Prop := ∀ (T : TEnv) (s : Stmt) (r : Sm), trS n T s = some r → ∀ (G : GE) (Φ : Phi) (X : Cx) (W : WX), SCtx G Φ T X W → RS G W X s (wS Φ r)
theorem ss_ok {n : Nat} (ih : IHS n) (c : SCtx G Φ T X W) : ∀ {ss : List Stmt} {r : Sms}, trSs (trS n T) ss = some r → RSs G W X ss (wSs Φ r)
  | [], r, h => by
    cases h
    exact rss_nil
  | s :: ss, r, h => by
    unfold trSs at h
    simp only [Option.bind_eq_bind, Option.bind_eq_some_iff] at h
    obtain ⟨a, h1, b, h2, h3⟩ := h
    cases h3
    show RSs G W X (s :: ss) (fun κ ς h => wS Φ a { κ with nx := wSs Φ b κ } ς h)
    exact rss_cons (ih T s a h1 G Φ X W c) (ss_ok ih c h2)
theorem xe (c : SCtx G Φ T X W) {e : Expr} {r : Tr} (h : trX 60 T e = some r) : RE G W X e (wE Φ (asE r)) := ((tr_sound 60).1 T e r h G Φ X W c.c).e
theorem xt (c : SCtx G Φ T X W) {e : Expr} {r : Tr} (h : trX 60 T e = some r) : RT G W X e (wT Φ (asE r)) := (tr_sound 60).2 T e r h G Φ X W c.c
theorem set_ok (c : SCtx G Φ T X W) {x : Str} {e : Expr} {i : Nat} {r : Tr} {p pos : Pos} (hl : T.loc x = true) (hs : T.stor x = true) (hi : ixName T.N x = some i) (h : trX 60 T e = some r) : RS G W X (.Assign [.Name x p] e pos) (wS Φ (.set (.slot i) (asE r))) := by
  have plain : swapsWith e (some (.Name x p)) pos.line X.env = pure false → RS G W X (.Assign [.Name x p] e pos) (wS Φ (.set (.slot i) (asE r))) := fun hw =>
    rs_set (xe c h) c.c.nd (c.c.ix hi) (c.c.loc hl) (c.c.st _ hs hl) hw
  by_cases hc : isComp e = true
  · cases e with
    | ListComp elt gs scope ps =>
      obtain ⟨b, hb, hk⟩ := swap_name (elt := elt) (gs := gs) (scope := scope) (pos := ps) (py := p) (y := x) (l := pos.line) (env := X.env)
      cases b with
      | false => exact plain hb
      | true =>
        obtain ⟨tg, iter, ifs, t, it, cd, z, rfl, rfl, k1, k2, k3, k4⟩ := comp_inv c.c h
        exact rs_setLc c.c.good c.c.nd (c.c.ix hi) (hk rfl) hb k1 k2 k3 k4
    | SetComp _ _ _ _ => exact absurd (tr_inv h).1 (by intro z; cases z)
    | DictComp _ _ _ _ _ => exact absurd (tr_inv h).1 (by intro z; cases z)
    | _ => cases hc
  · exact plain (swap_no (by simpa using hc))
theorem notSl {i : Expr} (h : isSl i = false) : ∀ a b d p, i ≠ .Slice a b d p := by
  intro a b d p z
  subst z
  cases h
theorem par_ok (c : SCtx G Φ T X W) {x y : Str} {a b : Expr} {i j : Nat} {r s : Tr} {px py pt pt2 pos : Pos} {kt k2 : Nat} {names : List Str} (hw : swP (fun x => T.sc.names.lookup x) [.Tuple [.Name x px, .Name y py] kt pt] (.Tuple [a, b] k2 pt2) = some (some names))
    (hs : (isStar a || isStar b) = false) (hi : ixName T.N x = some i) (hj : ixName T.N y = some j) (ha : trX 60 T a = some r) (hb : trX 60 T b = some s) (hij : i ≠ j) (hn : names = [x, y]) (k1 : T.sc.names.lookup x = some .local) (k2' : T.sc.names.lookup y = some .local) : RS G W X (.Assign [.Tuple [.Name x px, .Name y py] kt pt] (.Tuple [a, b] k2 pt2) pos) (wS Φ (.par i j (asE r) (asE s))) := by
  have h0 := swP_ok c hw
  rw [Bool.or_eq_false_iff] at hs
  subst hn
  exact rs_par c.c.good (xe c ha) (xe c hb) c.c.nd (c.c.ix hi) (c.c.ix hj) hij (by rw [c.c.sc]; exact k1) (by rw [c.c.sc]; exact k2') (star_cons hs.1) (star_cons hs.2) h0 (swap_sole rfl)
theorem s_ok {n : Nat} (ih : IHS n) : IHS (n + 1) := by
  intro T s r h G Φ X W c
  unfold trS at h
  split at h
  · -- expression statements
    split at h
    · cases h; exact rs_doc
    · split at h
      · cases h
      · rename_i hc
        obtain ⟨x, h1, h2⟩ := Option.map_eq_some_iff.mp h
        subst h2
        exact rs_expr (xe c h1) (swap_no (by simpa using hc))
  · -- assignments
    split at h
    · split at h
      · rename_i hl
        rw [Bool.and_eq_true] at hl
        simp only [Option.bind_eq_bind, Option.bind_eq_some_iff] at h
        obtain ⟨i, h1, x, h2, h3⟩ := h
        split at h3
        · cases h3
        · cases h3
          exact set_ok c hl.1 hl.2 h1 h2
      · cases h
    · split at h
      · rename_i hw
        split at h
        · cases h
        · rename_i hc
          simp only [Option.bind_eq_bind, Option.bind_eq_some_iff] at h
          obtain ⟨t, h1, x, h2, h3⟩ := h
          cases h3
          exact rs_asg (ws := slotsT t) (xe c h2) (tg_ok c.c h1 fun i hi => hi) (swap_sole (by simpa using hc)) (swP_ok c hw) rfl
      · rename_i hw
        split at h
        · split at h
          · cases h
          · rename_i hs
            simp only [Option.bind_eq_bind, Option.bind_eq_some_iff] at h
            obtain ⟨i, h1, j, h2, x, h3, y, h4, h5⟩ := h
            split at h5
            · cases h5
            · rename_i hij
              cases h5
              simp only [Bool.or_eq_true, not_or, Bool.not_eq_true, decide_eq_false_iff_not, Bool.not_eq_false', Bool.and_eq_true, decide_eq_true_eq] at hij
              exact par_ok c hw (by simpa using hs) h1 h2 h3 h4 hij.1 hij.2.1.1 hij.2.1.2 hij.2.2
        · cases h
      · cases h
    · split at h
      · cases h
      · rename_i hq
        simp only [Option.bind_eq_bind, Option.bind_eq_some_iff] at h
        obtain ⟨x, h1, y, h2, z, h3, h4⟩ := h
        cases h4
        simp only [Bool.or_eq_true, not_or, Bool.not_eq_true] at hq
        refine rs_sub c.c.good (xe c h3) (xe c h1) (xe c h2) (swap_sole hq.2) ?_ rfl ?_
        · unfold swappedStores
          rfl
        · intro v
          have hn := notSl hq.1
          unfold assign
          split <;> first | rfl | (exact absurd rfl (hn _ _ _ _))
    · cases h
  · -- augmented
    split at h
    · split at h
      · rename_i hl
        rw [Bool.and_eq_true] at hl
        simp only [Option.bind_eq_bind, Option.bind_eq_some_iff] at h
        obtain ⟨i, h1, x, h2, h3⟩ := h
        cases h3
        exact rs_aug c.c.good (xe c h2) c.c.nd (c.c.ix h1) (c.c.loc hl.1) (c.c.st _ hl.2 hl.1)
      · cases h
    · split at h
      · cases h
      · rename_i hq
        simp only [Option.bind_eq_bind, Option.bind_eq_some_iff] at h
        obtain ⟨x, h1, y, h2, z, h3, h4⟩ := h
        cases h4
        refine rs_augS c.c.good (xe c h3) (xe c h1) (xe c h2) fun ov iv new => ?_
        have hn := notSl (by simpa using hq)
        unfold augStore
        split <;> first | rfl | (exact absurd rfl (hn _ _ _ _))
    · cases h
  · obtain ⟨x, h1, h2⟩ := Option.map_eq_some_iff.mp h
    subst h2
    exact rs_ret (xe c h1)
  · cases h
    exact rs_retN
  · simp only [Option.bind_eq_bind, Option.bind_eq_some_iff] at h
    obtain ⟨x, h1, y, h2, z, h3, h4⟩ := h
    cases h4
    exact rs_if (xt c h1) (ss_ok ih c h2) (ss_ok ih c h3)
  · simp only [Option.bind_eq_bind, Option.bind_eq_some_iff] at h
    obtain ⟨w, h1, t, h2, y, h3, h4⟩ := h
    cases h4
    exact rs_for (ws := slotsT t) c.c.good c.pass (i_ok (tr_sound 60).1 c.c h1) (tg_ok c.c h2 fun i hi => hi) (ss_ok ih c h3) (fold_trI h1)
  · simp only [Option.bind_eq_bind, Option.bind_eq_some_iff] at h
    obtain ⟨x, h1, y, h2, h3⟩ := h
    cases h3
    exact rs_while c.c.good c.pass (xt c h1) (ss_ok ih c h2)
  · cases h
    exact rs_pass
  · cases h
    exact rs_break
  · cases h
    exact rs_cont
  · cases h
theorem trS_sound : ∀ n, IHS n
  | 0 => by intro T s r h; cases h
  | n + 1 => s_ok (trS_sound n)
end
end WD
end
section
set_option Elab.async false
set_option linter.all false
set_option maxRecDepth 100000
set_option autoImplicit false
set_option maxHeartbeats 8000000
/-! WAll: all defs of a row keep what their translation means; the head. -/
namespace WD
open PySem PySem.Spec PyProof.Rows L2
structure DE where
  name : Str
  st : Stmt
  N : List Str
  ps : List Str
  fn : Fn
def tabOf (ds : List (Nat × DE)) : Tab := fun id => (ds.lookup id).map (·.fn)
def glOf (ds : List (Nat × DE)) : List (Str × Nat) := ds.map fun p => (p.2.name, p.1)
/-- what is said of the module beside its defs: names that it does not bind, calls with keywords, constants, dicts of text keys -/
structure MEn where
  fr : List Str
  kw : List KwS
  cs : List (Str × PV)
  cd : List (Str × List Str × List PV)
abbrev FnP (K : PySem.W.Frag) (d : DE) (f : Addr) (fd : FuncData) : Prop := FunD K d.name d.name (defArgs d.st) (defBody d.st) (defScope d.st) [] [] f fd
structure DOk (ds : List (Nat × DE)) (me : MEn) (id : Nat) (d : DE) : Prop where
  sc : FnScope d.N d.ps (defScope d.st)
  tr : trSs (trS 40 ⟨d.N, defScope d.st, none, glOf ds, me.fr, me.kw, me.cs, me.cd⟩) (defBody d.st) = some d.fn.body
  pn : d.fn.ps = d.ps.length
  nn : d.fn.ns = d.N.length
  bind : ∀ (kV doc pm : Value) (an : Option Addr) (cdv ct : Value) (us : List Value), us.length = d.ps.length → bindArgs (PySem.W.fnOf d.name d.name (defArgs d.st) (defBody d.st) (defScope d.st) .none kV doc pm an cdv ct) ⟨us, []⟩ = pure (d.ps.zip us)
  kbind : ∀ e ∈ me.kw, e.id = id → ∀ (kV doc pm : Value) (an : Option Addr) (cdv ct : Value) (us ws : List Value), us.length = e.n → ws.length = e.ks.length → bindArgs (PySem.W.fnOf d.name d.name (defArgs d.st) (defBody d.st) (defScope d.st) .none kV doc pm an cdv ct) ⟨us, e.ks.zip ws⟩ = pure (d.ps.zip (gP e.ix us ws))
  tab : tabOf ds id = some d.fn
/-- the same for defs that no call names by keywords -/
theorem no_kbind {me : MEn} {id : Nat} (h : (me.kw.any fun e => decide (e.id = id)) = false) {P : KwS → Prop} : ∀ e ∈ me.kw, e.id = id → P e := fun e he hi => by
  have := List.any_eq_false.mp h e he
  simp [hi] at this
theorem FunD.kbn {K : PySem.W.Frag} {x : Str} {params : Arguments} {body : List Stmt} {scope : Scope} {kws : List (Str × V)} {f : Addr} {fd : FuncData} {ps : List Str} {n : Nat} {ks : List Str} {ix : List Nat} (F : FunD K x x params body scope [] kws f fd)
    (h : ∀ (kV doc pm : Value) (an : Option Addr) (cdv ct : Value) (us ws : List Value), us.length = n → ws.length = ks.length → bindArgs (PySem.W.fnOf x x params body scope .none kV doc pm an cdv ct) ⟨us, ks.zip ws⟩ = pure (ps.zip (gP ix us ws))) : KBn K fd ps n ks (gP ix) (gPV ix) := by
  obtain ⟨oc, od, dV, kV, doc, pm, an, cdv, ct, osl, rfl, lk, hcd, hD, hK⟩ := F.ex
  rcases hD with ⟨_, rfl⟩ | ⟨e, _⟩
  · exact ⟨fun s us ws _ l1 l2 => .of_eq (h kV doc pm an cdv ct us ws l1 l2), fun r1 r2 => gP_rel ix r1 r2⟩
  · exact absurd rfl e
theorem spOf0 {G : GE} {T : Tab} {f : Nat} {vs : List V} {H : Hp} {Q : VK} {E : XK} (h : spOf G (den T 0) f vs H Q E) : False := by
  obtain ⟨ρ, h, args, q, x, R, r, z, _⟩ := h
  exact den_zero z
theorem lookup_gl {x : Str} {id : Nat} : ∀ {ds : List (Nat × DE)}, (glOf ds).lookup x = some id → ∃ d, (id, d) ∈ ds ∧ d.name = x
  | [], h => by cases h
  | p :: ds, h => by
    unfold glOf at h
    rw [List.map_cons, List.lookup_cons] at h
    split at h
    · rename_i e
      cases h
      exact ⟨p.2, by simp, (eq_of_beq e).symm⟩
    · obtain ⟨d, h1, h2⟩ := lookup_gl h
      exact ⟨d, List.mem_cons_of_mem _ h1, h2⟩
section
variable {ds : List (Nat × DE)} {me : MEn} {P : Program} {w : World} {K : PySem.W.Frag} {mg : Str → Option Value} {base : Heap} {cls : Nat → Option (Addr × List Str)}
theorem reps_map {K : PySem.W.Frag} {ρ : Nat → Addr} {n : Nat} {H : Hp} : ∀ {xs : List PV} {us : List V}, Reps K ρ n H xs us → ∀ (i : Nat) (v : PV), (xs.map some)[i]? = some (some v) → ∃ u, (us.map some)[i]? = some (some u) ∧ Rep K ρ n H v u
  | _, _, .nil, i, v, e => by simp at e
  | _, _, .cons r t, 0, v, e => by
    simp at e
    subst e
    exact ⟨_, by simp, r⟩
  | _, _, .cons r t, i + 1, v, e => by
    simp only [List.map_cons, List.getElem?_cons_succ] at e ⊢
    exact reps_map t i v e
theorem fn_all (ok : ∀ p ∈ ds, DOk ds me p.1 p.2) (facts : ∀ p ∈ ds, ∃ f fd, FnP K p.2 f fd ∧ mg p.2.name = some (.ref f)) (frk : ∀ x ∈ me.fr, mg x = none)
    (csk : ∀ x v, me.cs.lookup x = some v → ∃ u u', mg x = some u' ∧ RelV u u' ∧ ∀ (ρ : Nat → Addr) (n : Nat) (H : Hp), Rep K ρ n H v u)
    (cdk : ∀ x r, me.cd.lookup x = some r → ∃ d es n, mg x = some (.ref d) ∧ KDict K w d es n ∧ (∀ z, r.1.contains z = false → PySem.W.nsIn K d z = some none) ∧ (∀ z, r.1.contains z = true → ∃ u, PySem.W.nsIn K d z = some (some u)) ∧
      ∀ z y, rodGet r.1 r.2 z = some y → ∃ u v, PySem.W.nsIn K d z = some (some u) ∧ RelV v u ∧ ∀ (ρ : Nat → Addr) (n : Nat) (H : Hp), Rep K ρ n H y v) :
    ∀ (n : Nat) (p : Nat × DE), p ∈ ds → ∀ f fd, FnP K p.2 f fd → FnOk P w K mg base (L2.CX P w) n f fd p.2.ps (spOf ⟨K, cls⟩ (den (tabOf ds) n) p.1)
  | 0, p, hp, f, fd, F => ⟨fun vs H Q E h => (spOf0 h).elim, fun A outer s H args us vs Q E hr e0 hb r h => (spOf0 h).elim⟩
  | n + 1, p, hp, f, fd, F => by
    have k := ok p hp
    have len : ∀ vs H Q E, spOf ⟨K, cls⟩ (den (tabOf ds) (n + 1)) p.1 vs H Q E → vs.length = p.2.ps.length := by
      intro vs H Q E h
      obtain ⟨ρ, h, args, q, x, R, r, z, _⟩ := h
      rw [den_succ] at z
      obtain ⟨F', e, l, _⟩ := z
      rw [k.tab] at e
      cases e
      rw [← r.length, l, k.pn]
    refine F.ok k.sc len fun cdv A outer s H vs Q E hr h => ⟨upS ⟨K, cls⟩ (fun c d _ H => E c d H) (wSs (den (tabOf ds) n) p.2.fn.body), ?_, ?_⟩
    · refine ss_ok (trS_sound 40) ⟨⟨⟨rfl, rfl, ?_, takes_of rfl rfl rfl rfl⟩, rfl, k.sc.nd, rfl, fun _ _ _ => .inl rfl, ?_, frk, fun x v e => ⟨csk x v e⟩, fun x r e => ⟨cdk x r e⟩⟩, k.sc.kind, passes_of rfl⟩ k.tr
      · have := hr.un
        show (A.deeper (envOfC p.2.name (defScope p.2.st) s.heap.objs.size f cdv)).units + 65 < cLine
        omega
      · intro x id e
        obtain ⟨d, h1, h2⟩ := lookup_gl e
        obtain ⟨f', fd', F', g⟩ := facts (id, d) h1
        exact ⟨f', fd', d.ps, n, by rw [← h2]; exact g, fn_all ok facts frk csk cdk n (id, d) h1 f' fd' F', hr, F'.kp, FunD.bindsN F' ((ok (id, d) h1).bind), fun e he hi => FunD.kbn F' ((ok (id, d) h1).kbind e he hi)⟩
    · have l := len _ _ _ _ h
      obtain ⟨ρ, h, args, q, x, R, r, z, cv, cx⟩ := h
      rw [den_succ] at z
      obtain ⟨F', e, l', z⟩ := z
      rw [k.tab] at e
      cases e
      refine ⟨ρ, h, _, _, R, ⟨?_, ?_⟩, z, ⟨?_, cv, fun _ _ _ _ _ _ _ _ z => z.elim, fun _ _ _ _ _ _ _ _ z => z.elim, ?_⟩⟩
      · unfold L2.start
        simp only [List.length_append, List.length_map, List.length_replicate]
        rw [r.length, k.nn, k.pn, l]
      · intro i v e
        unfold L2.start
        by_cases hi : i < args.length
        · rw [List.getElem?_append_left (by simpa using hi)] at e
          rw [List.getElem?_append_left (by rw [List.length_map, ← r.length]; exact hi)]
          exact reps_map r i v e
        · rw [List.getElem?_append_right (by simp; omega)] at e
          rw [List.getElem?_replicate] at e
          split at e <;> cases e
      · intro ρ' h' H' ς' σ' E' R' S' z'
        exact cv ρ' h' H' .non .non E' R' .non z'
      · intro ρ' h' H' ς' σ' e c d E' R' S' X' z'
        exact cx ρ' h' H' e c d E' R' X' z'
/-! ### the head -/
def dOf (d : DE) : He.DefD := ⟨(d.name, none), d.name, d.name, defArgs d.st, defBody d.st, defScope d.st, [], []⟩
def fnsOf (ds : List (Nat × DE)) : List He.DefD := ds.map fun p => dOf p.2
def fasOf (ds : List (Nat × DE)) (fr : List Str) : List He.Fa := (ds.map fun p => He.Fa.glo p.2.name) ++ fr.map He.Fa.free
/-- the law by its pure meaning -/
def PureLaw (ds : List (Nat × DE)) (n id : Nat) : Prop := ∀ ns : List Int, ns.length ≤ 63 → (∀ k ∈ ns, Builtin.Int.intBits k ≤ 1048576) → den (tabOf ds) n id [.rol (ns.map .int)] [] (fun v _ => v = .bl true) (fun _ _ => False)
theorem ints_map {K : PySem.W.Frag} {ρ : Nat → Addr} {n : Nat} {H : Hp} : ∀ ns : List Int, Reps K ρ n H (ns.map .int) (ns.map V.int)
  | [] => .nil
  | i :: r => .cons (.int i) (ints_map r)
/-! ### constants, as they stand in the written part -/
mutual
def repB (K : PySem.W.Frag) : PV → Value → Bool
  | .non, u => (match u with | .none => true | _ => false)
  | .bl b, u => (match u with | .bool c => b == c | _ => false)
  | .int i, u => (match u with | .int j _ => decide (i = j) | _ => false)
  | .str x, u => (match u with | .str y _ => decide (x = y) && PyData.strOk x | _ => false)
  | .tup xs, u => (match u with
    | .ref a => (match K.lookup a with
      | some ⟨.type c, _, .seq its _, _⟩ => decide (c = "tuple") && (decide (its.size ≤ sizeLine) && repsB K xs its.toList)
      | _ => false)
    | _ => false)
  | .rol _, _ => false
  | .loc _, _ => false
  | .xc _ _, _ => false
def repsB (K : PySem.W.Frag) : List PV → List Value → Bool
  | [], us => us.isEmpty
  | x :: xs, us => (match us with
    | [] => false
    | u :: r => repB K x u && repsB K xs r)
end
mutual
theorem repB_ok {K : PySem.W.Frag} : ∀ (v : PV) (u : Value), repB K v u = true → ∃ w, RelV w u ∧ ∀ (ρ : Nat → Addr) (n : Nat) (H : Hp), Rep K ρ n H v w
  | .non, u, h => by
    unfold repB at h
    split at h
    · exact ⟨.non, rfl, fun _ _ _ => .non⟩
    · cases h
  | .bl b, u, h => by
    unfold repB at h
    split at h
    · rename_i c
      exact ⟨.bl b, by rw [eq_of_beq h]; rfl, fun _ _ _ => .bl b⟩
    · cases h
  | .int i, u, h => by
    unfold repB at h
    split at h
    · rename_i j t
      exact ⟨.int i, ⟨t, by rw [of_decide_eq_true h]⟩, fun _ _ _ => .int i⟩
    · cases h
  | .str x, u, h => by
    unfold repB at h
    split at h
    · rename_i y t
      rw [Bool.and_eq_true] at h
      exact ⟨.str x, ⟨t, by rw [of_decide_eq_true h.1]⟩, fun _ _ _ => .str x h.2⟩
    · cases h
  | .tup xs, u, h => by
    unfold repB at h
    split at h
    · rename_i a
      split at h
      · rename_i c dd its n sl q
        simp only [Bool.and_eq_true, decide_eq_true_eq] at h
        obtain ⟨h1, h2, h3⟩ := h
        obtain ⟨ws, r1, r2⟩ := repsB_ok xs its.toList h3
        refine ⟨.ref a, rfl, fun ρ m H => .tup (vs := ws) (.inr ⟨_, its, n, q, congrArg Value.type h1, rfl, h2, r1⟩) (r2 ρ m H)⟩
      · cases h
    · cases h
  | .rol _, _, h => by unfold repB at h; cases h
  | .loc _, _, h => by unfold repB at h; cases h
  | .xc _ _, _, h => by unfold repB at h; cases h
theorem repsB_ok {K : PySem.W.Frag} : ∀ (xs : List PV) (us : List Value), repsB K xs us = true → ∃ ws, Vals ws us ∧ ∀ (ρ : Nat → Addr) (n : Nat) (H : Hp), Reps K ρ n H xs ws
  | [], us, h => by
    unfold repsB at h
    have : us = [] := by simpa using h
    subst this
    exact ⟨[], .nil, fun _ _ _ => .nil⟩
  | x :: xs, us, h => by
    unfold repsB at h
    split at h
    · cases h
    · rename_i u r
      rw [Bool.and_eq_true] at h
      obtain ⟨w, a1, a2⟩ := repB_ok x u h.1
      obtain ⟨ws, b1, b2⟩ := repsB_ok xs r h.2
      exact ⟨w :: ws, .cons a1 b1, fun ρ n H => .cons (a2 ρ n H) (b2 ρ n H)⟩
end
def csB (cs : List (Str × PV)) (K : PySem.W.Frag) : Bool := cs.all fun p => match PySem.W.nsIn K mainGlobals p.1 with
  | some (some u) => repB K p.2 u
  | _ => false
def cdB (cd : List (Str × List Str × List PV)) (K : PySem.W.Frag) : Bool := cd.all fun p => He.eqO (PySem.W.nsIn K mainGlobals p.1) (some (some (.ref (He.ga K p.1)))) && (decide (p.2.1.length = p.2.2.length) && (p.2.1.zip p.2.2).all fun q => match PySem.W.nsIn K (He.ga K p.1) q.1 with
  | some (some u) => repB K q.2 u
  | _ => false)
def exOf (me : MEn) (K : PySem.W.Frag) : Bool := csB me.cs K && cdB me.cd K
def tsOf (me : MEn) : List He.Tab := me.cd.map fun p => (fun K => He.ga K p.1, p.2.1)
theorem lookup_mem' {β : Type} {x : Str} {v : β} : ∀ {l : List (Str × β)}, l.lookup x = some v → (x, v) ∈ l
  | [], h => by cases h
  | (y, u) :: r, h => by
    rw [List.lookup_cons] at h
    split at h
    · rename_i e
      cases h
      rw [eq_of_beq e]
      exact List.mem_cons_self
    · exact List.mem_cons_of_mem _ (lookup_mem' h)
theorem csB_ok {cs : List (Str × PV)} {h : Heap} (X : K.In h) (G : h.Ns mainGlobals mg) (c : csB cs K = true) : ∀ x v, cs.lookup x = some v → ∃ u u', mg x = some u' ∧ RelV u u' ∧ ∀ (ρ : Nat → Addr) (n : Nat) (H : Hp), Rep K ρ n H v u := by
  intro x v e
  have h1 := List.all_eq_true.mp c (x, v) (lookup_mem' e)
  have h2 : (match PySem.W.nsIn K mainGlobals x with | some (some u) => repB K v u | _ => false) = true := h1
  split at h2
  · rename_i u q
    obtain ⟨w, a1, a2⟩ := repB_ok v u h2
    exact ⟨w, u, PySem.W.mg_of X G q, a1, a2⟩
  · cases h2
theorem rodGet_mem {z : Str} {y : PV} : ∀ {ks : List Str} {xs : List PV}, rodGet ks xs z = some y → (z, y) ∈ ks.zip xs
  | [], _, h => by simp [rodGet] at h
  | _ :: _, [], h => by simp [rodGet] at h
  | k :: ks, x :: xs, h => by
    unfold rodGet at h
    split at h
    · rename_i e
      cases h
      rw [e]
      exact List.mem_cons_self
    · exact List.mem_cons_of_mem _ (rodGet_mem h)
theorem zip_mem {z : Str} : ∀ {ks : List Str} {xs : List PV}, ks.length = xs.length → ks.contains z = true → ∃ y, (z, y) ∈ ks.zip xs
  | [], _, _, h => by simp at h
  | k :: ks, [], e, _ => by simp at e
  | k :: ks, x :: xs, e, h => by
    by_cases q : k = z
    · exact ⟨x, by rw [q]; exact List.mem_cons_self⟩
    · have : ks.contains z = true := by
        rw [List.contains_cons] at h
        simpa [Ne.symm q] using h
      obtain ⟨y, hy⟩ := zip_mem (ks := ks) (xs := xs) (by simpa using e) this
      exact ⟨y, List.mem_cons_of_mem _ hy⟩
theorem keys_none {Q : Params} {z : Str} : ∀ {l : List DictEntry} {ks : List Str}, l.map He.keyOf = He.keysIn Q ks → ks.contains z = false → l.find? (·.key.isStr z) = none ∧ l.any (·.refKey) = false
  | [], _, _, _ => ⟨rfl, rfl⟩
  | e :: r, [], h, _ => by cases h
  | e :: r, k :: ks, h, hz => by
    have h1 : He.keyOf e :: r.map He.keyOf = some (k, PyData.keyHash Q k) :: He.keysIn Q ks := h
    injection h1 with h2 h3
    rw [List.contains_cons, Bool.or_eq_false_iff] at hz
    obtain ⟨a1, a2⟩ := keys_none h3 hz.2
    unfold He.keyOf at h2
    split at h2
    · rename_i x t q
      have h4 := Option.some.inj h2
      obtain ⟨h5, h6⟩ := Prod.mk.inj h4
      refine ⟨?_, ?_⟩
      · rw [List.find?_cons, a1, q]
        have : (Value.str x t).isStr z = false := by
          show (x == z) = false
          rw [h5]
          have := hz.1
          rw [beq_eq_false_iff_ne] at this ⊢
          exact fun y => this y.symm
        rw [this]
      · rw [List.any_cons, a2, Bool.or_false]
        unfold DictEntry.refKey
        rw [q]
    · cases h2
theorem cdB_ok {cd : List (Str × List Str × List PV)} {h : Heap} (X : K.In h) (G : h.Ns mainGlobals mg) (c : cdB cd K = true) (t : ∀ p ∈ cd, He.dicW K (He.ga K p.1) = some (He.keysIn w.params p.2.1)) :
    ∀ x r, cd.lookup x = some r → ∃ d es n, mg x = some (.ref d) ∧ KDict K w d es n ∧ (∀ z, r.1.contains z = false → PySem.W.nsIn K d z = some none) ∧ (∀ z, r.1.contains z = true → ∃ u, PySem.W.nsIn K d z = some (some u)) ∧
      ∀ z y, rodGet r.1 r.2 z = some y → ∃ u v, PySem.W.nsIn K d z = some (some u) ∧ RelV v u ∧ ∀ (ρ : Nat → Addr) (n : Nat) (H : Hp), Rep K ρ n H y v := by
  intro x r e
  have hm := lookup_mem' e
  have h1 := List.all_eq_true.mp c (x, r) hm
  have t1 := t (x, r) hm
  simp only [Bool.and_eq_true, decide_eq_true_eq] at h1
  obtain ⟨c1, c2, c3⟩ := h1
  obtain ⟨es, n, D⟩ := He.dicW_ok t1
  have get : ∀ z y, (z, y) ∈ r.1.zip r.2 → ∃ u v, PySem.W.nsIn K (He.ga K x) z = some (some u) ∧ RelV v u ∧ ∀ (ρ : Nat → Addr) (n : Nat) (H : Hp), Rep K ρ n H y v := by
    intro z y hz
    have h2 := List.all_eq_true.mp c3 (z, y) hz
    have h3 : (match PySem.W.nsIn K (He.ga K x) z with | some (some u) => repB K y u | _ => false) = true := h2
    split at h3
    · rename_i u q
      obtain ⟨v, a1, a2⟩ := repB_ok y u h3
      exact ⟨u, v, q, a1, a2⟩
    · cases h3
  refine ⟨He.ga K x, es, n, PySem.W.mg_of X G (He.eqO_ok c1), D, fun z hz => ?_, fun z hz => ?_, fun z y hz => get z y (rodGet_mem hz)⟩
  · have hk : es.toList.map He.keyOf = He.keysIn w.params r.1 := by
      unfold He.dicW at t1
      rw [D.at_] at t1
      dsimp only at t1
      split at t1
      · exact Option.some.inj t1
      · cases t1
    obtain ⟨a1, a2⟩ := keys_none hk hz
    unfold PySem.W.nsIn
    rw [D.at_]
    dsimp only
    rw [a1, a2]
    rfl
  · obtain ⟨y, hy⟩ := zip_mem c2 hz
    obtain ⟨u, v, a1, _⟩ := get z y hy
    exact ⟨u, a1⟩
theorem head_facts {h : Heap} {f : Addr} {n id : Nat} {d : DE} (ok : ∀ p ∈ ds, DOk ds me p.1 p.2) (hd : (id, d) ∈ ds) (hps : d.ps = [("script" : Str)]) (pure_ : PureLaw ds n id)
    (X : K.In h) (G : h.Ns mainGlobals mg) (hfa : mg d.name = some (.ref f)) (cx : He.SaysX (fasOf ds me.fr) (fnsOf ds) (tsOf me) [] (exOf me) w h K) :
    ∃ (fd : FuncData) (sp : Sp), (∀ (s : Shared) (v : Value), BindsTo s fd ⟨[v], []⟩ [(("script" : Str), v)]) ∧
      (∀ (H : Hp) (a : Addr) (ns : List Int), ns.length ≤ 63 → (∀ k ∈ ns, Builtin.Int.intBits k ≤ 1048576) → L2.Only H → SqL K H a (ns.map V.int) → sp [.ref a] H (fun v _ => v = .bl true) fun _ _ _ => False) ∧
      ∀ base : Heap, K.In base → base.Ns mainGlobals mg → FnOk P w K mg base (L2.CX P w) n f fd [("script" : Str)] sp := by
  have c : He.SaysD (fasOf ds me.fr) (fnsOf ds) K := cx.t.d
  have facts : ∀ p ∈ ds, ∃ f fd, FnP K p.2 f fd ∧ mg p.2.name = some (.ref f) := by
    intro p hp
    obtain ⟨fd, F⟩ := He.SaysD.defs c (d := dOf p.2) (List.mem_map.mpr ⟨p, hp, rfl⟩)
    have g := He.glo_ok X G (He.SaysD.facts c (f := .glo p.2.name) (List.mem_append.mpr (.inl (List.mem_map.mpr ⟨p, hp, rfl⟩))))
    exact ⟨_, fd, F, g⟩
  have frk : ∀ x ∈ me.fr, mg x = none := fun x hx => He.free_ok X G (He.SaysD.facts c (f := .free x) (List.mem_append.mpr (.inr (List.mem_map.mpr ⟨x, hx, rfl⟩))))
  have hex : exOf me K = true := cx.more
  unfold exOf at hex
  rw [Bool.and_eq_true] at hex
  have csk := csB_ok X G hex.1
  have cdk := cdB_ok (w := w) X G hex.2 fun p hp => by
    have e : (tsOf me).map (fun t => He.dicW K (t.1 K)) = (tsOf me).map fun t => some (He.keysIn w.params t.2) := congrArg (fun z : He.AlT => z.2) cx.t
    unfold tsOf at e
    rw [List.map_map, List.map_map] at e
    exact List.map_inj_left.mp e p hp
  obtain ⟨f', fd, F, g⟩ := facts (id, d) hd
  have e : f' = f := by
    have := g.symm.trans hfa
    cases this
    rfl
  subst e
  refine ⟨fd, spOf ⟨K, fun _ => none⟩ (den (tabOf ds) n) id, fun s v => ?_, fun H a ns hl hk hO hS => ?_, fun base _ _ => ?_⟩
  · have b := FunD.bindsA F ((ok (id, d) hd).bind) s [v] (by rw [hps]; rfl)
    rw [hps] at b
    exact b
  · refine ⟨fun _ => 0, [], [.rol (ns.map .int)], _, _, ⟨fun l o e => by simp at e, fun l l' h1 => by simp at h1⟩, .cons (.rol ?_ (ints_map ns)) .nil, pure_ ns hl hk, ?_, fun _ _ _ _ _ _ _ _ _ z => z.elim⟩
    · rcases hS with (s | ⟨o, s⟩) | s
      · exfalso
        rcases hO a with q | ⟨o, xs, q⟩
        · rw [q] at s; cases s
        · rw [q] at s; cases s
      · exact .inl ⟨o, s⟩
      · exact .inr (.inr s)
    · intro ρ' h' H' v u E R r z
      have z' : v = .bl true := z
      subst z'
      cases r
      rfl
  · have := fn_all (P := P) (w := w) (base := base) (cls := fun _ => none) ok facts frk csk cdk n (id, d) hd f' fd F
    rw [hps] at this
    exact this
end
/-- the law's end: what may leave a call is told by the world -/
theorem walk_ofW {l : PySem.W.OpenLaw} {n k : Nat} {q : Program} {loose : List Str} {XP : (Str → Option Value) → Heap → Prop} {YP : World → Heap → Prop} {d : DefRec} {x : Str}
    (hn : l.most = some n) (hn2 : n ≤ sizeLine) (hdf : d.params.defaults = []) (hr : Room k callerA)
    (F : ∀ (w : World) (mg : Str → Option Value) (fa : Addr) (h : Heap), YP w h → h.Ns mainGlobals mg → mg d.name = some (.ref fa) →
      ∃ (K : PySem.W.Frag) (fd : FuncData) (sp : Sp), K.In h ∧ (∀ (s : Shared) (u : Value), BindsTo s fd ⟨[u], []⟩ [(x, u)]) ∧
        (∀ (H : Hp) (a : Addr) (ns : List Int), ns.length ≤ n → (∀ k ∈ ns, Builtin.Int.intBits k ≤ 1048576) → L2.Only H → SqL K H a (ns.map V.int) → sp [.ref a] H (fun v _ => v = .bl true) fun _ _ _ => False) ∧
        ∀ base : Heap, K.In base → base.Ns mainGlobals mg → FnOk l.prog w K mg base (L2.CX l.prog w) k fa fd [x] sp) :
    PySem.W.WalkO q loose XP YP l.row.toRowW d [] (fun f vs => PySem.call f vs) := by
  refine Att.attach_callB hn hdf fun w s₀ s₁ mg mb fa o pm cd doc a vs ns G Y ho hd hcd hmg hobj hints hlen hbits hg => ?_
  obtain ⟨K, fd, sp, KX, hb, hsp, hF⟩ := F w mg fa _ Y G.T.g hmg
  exact law_call KX G.T.g G.T.b G.T.builtins G.T.nolimit hg hobj hints (Nat.le_trans hlen hn2) hr hF hb (fun H hO hS => hsp H a ns hlen hbits hO hS) fun H e s' ⟨_, _, _, _, _, _, _, _, _, _, _, _, z⟩ => z
end WD
end
section
set_option Elab.async false
set_option linter.all false
set_option maxRecDepth 100000
set_option autoImplicit false
set_option maxHeartbeats 8000000
/-! WPure: plain lemmas for the laws' plain meaning. -/
namespace WD
open PySem PySem.Spec PyProof.Rows L2
theorem getL_set {h : PH} {l : Nat} {xs ys : List PV} (e : getL h l = some ys) : getL (h.set l (.lst xs)) l = some xs := by
  have := getL_lt e
  unfold getL
  rw [List.getElem?_set_self this]
theorem getL_set_ne {h : PH} {l k : Nat} {o : PO} (e : l ≠ k) : getL (h.set l o) k = getL h k := by
  unfold getL
  rw [List.getElem?_set_ne e]
theorem getL_new {h : PH} {xs : List PV} : getL (h ++ [.lst xs]) h.length = some xs := by
  unfold getL
  simp
theorem getL_app {h : PH} {l : Nat} {o : PO} {xs : List PV} (e : getL h l = some xs) : getL (h ++ [o]) l = some xs := by
  have := getL_lt e
  unfold getL at e ⊢
  rw [List.getElem?_append_left this]
  exact e
/-- what stood still stands, but for the locations of W -/
def Fr (S : List Nat) (h h' : PH) : Prop := h.length ≤ h'.length ∧ ∀ l, l < h.length → l ∉ S → h'[l]? = h[l]?
theorem Fr.refl {S : List Nat} {h : PH} : Fr S h h := ⟨Nat.le_refl _, fun _ _ _ => rfl⟩
theorem Fr.trans {S : List Nat} {h h1 h2 : PH} (a : Fr S h h1) (b : Fr S h1 h2) : Fr S h h2 :=
  ⟨Nat.le_trans a.1 b.1, fun l hl hn => (b.2 l (Nat.lt_of_lt_of_le hl a.1) hn).trans (a.2 l hl hn)⟩
theorem Fr.mono {S S' : List Nat} {h h1 : PH} (a : Fr S h h1) (m : ∀ l, l ∈ S → l ∈ S') : Fr S' h h1 := ⟨a.1, fun l hl hn => a.2 l hl fun z => hn (m l z)⟩
theorem Fr.app {S : List Nat} {h : PH} {o : PO} : Fr S h (h ++ [o]) := ⟨by simp, fun l hl _ => List.getElem?_append_left hl⟩
theorem Fr.set {S : List Nat} {h : PH} {l : Nat} {o : PO} (m : l ∈ S) : Fr S h (h.set l o) := ⟨by simp, fun k _ hn => List.getElem?_set_ne fun z => hn (by rw [← z]; exact m)⟩
/-- a place that was not there may be written -/
theorem Fr.setNew {S : List Nat} {h h1 : PH} {l : Nat} {o : PO} (a : Fr S h h1) (m : h.length ≤ l) : Fr S h (h1.set l o) := ⟨by simpa using a.1, fun k hk hn => by rw [List.getElem?_set_ne (by omega)]; exact a.2 k hk hn⟩
theorem Fr.get {S : List Nat} {h h1 : PH} {l : Nat} {xs : List PV} (a : Fr S h h1) (e : getL h l = some xs) (hn : l ∉ S) : getL h1 l = some xs := by
  have := getL_lt e
  unfold getL at e ⊢
  rw [a.2 l this hn]
  exact e
theorem Fr.drop {S S' : List Nat} {h h1 h2 : PH} (a : Fr S h h1) (b : Fr S' h1 h2) (m : ∀ l, l ∈ S' → l ∈ S ∨ h.length ≤ l) : Fr S h h2 :=
  ⟨Nat.le_trans a.1 b.1, fun l hl hn => (b.2 l (Nat.lt_of_lt_of_le hl a.1) fun z => (m l z).elim hn fun y => absurd hl (by omega)).trans (a.2 l hl hn)⟩
/-- a def is called -/
theorem den_call {T : Tab} {n f : Nat} {vs : List PV} {h : PH} {q : QV} {x : QX} {F : Fn} (e : T f = some F) (l : vs.length = F.ps)
    (k : wSs (den T n) F.body { nx := fun _ h' => q .non h', rt := q, ex := fun e _ h' => x e h' } (vs.map some ++ List.replicate (F.ns - F.ps) none) h) : den T (n + 1) f vs h q x := by
  rw [den_succ]
  exact ⟨F, e, l, k⟩
theorem mulX {i j : Int} (h1 : -(2 ^ 64) < i ∧ i < 2 ^ 64) (h2 : -(2 ^ 64) < j ∧ j < 2 ^ 64) : CMulX i j := by
  have a := intBits_le_64 h1.1 h1.2
  have b := intBits_le_64 h2.1 h2.2
  unfold CMulX
  omega
theorem ite_t {b : Bool} {p q : Prop} (h : b = true) (k : p) : if b = true then p else q := by rw [if_pos h]; exact k
theorem ite_f {b : Bool} {p q : Prop} (h : b = false) (k : q) : if b = true then p else q := by rw [if_neg (by rw [h]; exact Bool.false_ne_true)]; exact k
theorem ite_b {b : Bool} {p q : Prop} (k1 : b = true → p) (k2 : b = false → q) : if b = true then p else q := by
  cases h : b with
  | true => exact ite_t rfl (k1 h)
  | false => exact ite_f rfl (k2 h)
end WD
end
section
set_option Elab.async false
set_option linter.all false
set_option maxRecDepth 100000
set_option autoImplicit false
set_option maxHeartbeats 8000000
/-! WPure2: loops by invariants, objects of the heap, encodings, sizes. -/
namespace WD
open PySem PySem.Spec PyProof.Rows L2
/-! ### loops -/
theorem for_from {g : PH → Prop} {t : Tg} {body : KS → PSt → PH → Prop} {κ : KS} (I : Nat → PSt → PH → Prop) {ys : List PV} (hg : ∀ i ς h, I i ς h → g h)
    (step : ∀ (i : Nat) (x : PV) (ς : PSt) (h : PH) (k : PSt → PH → Prop), ys[i]? = some x → I i ς h → (∀ ς' h', I (i + 1) ς' h' → k ς' h') → setT t x ς fun ς' => body { κ with nx := k, ct := k, bk := κ.nx } ς' h)
    (fin : ∀ ς h, I ys.length ς h → κ.nx ς h) : ∀ (xs : List PV) (i : Nat), (∀ j x, xs[j]? = some x → ys[i + j]? = some x) → i + xs.length = ys.length → ∀ ς h, I i ς h → forW g t body κ xs ς h
  | [], i, _, e, ς, h, z => ⟨hg i ς h z, fin ς h ((show i = ys.length by simpa using e) ▸ z)⟩
  | x :: r, i, hx, e, ς, h, z => by
    refine ⟨hg i ς h z, step i x ς h _ (by simpa using hx 0 x (by simp)) z fun ς' h' z' => ?_⟩
    exact for_from I hg step fin r (i + 1) (fun j y hy => by
      have := hx (j + 1) y (by simpa using hy)
      rw [show i + 1 + j = i + (j + 1) by omega]
      exact this) (by simp at e; omega) ς' h' z'
/-- a loop by an invariant -/
theorem for_inv {g : PH → Prop} {t : Tg} {body : KS → PSt → PH → Prop} {κ : KS} {xs : List PV} {ς : PSt} {h : PH} (I : Nat → PSt → PH → Prop) (h0 : I 0 ς h) (hg : ∀ i ς h, I i ς h → g h)
    (step : ∀ (i : Nat) (x : PV) (ς : PSt) (h : PH) (k : PSt → PH → Prop), xs[i]? = some x → I i ς h → (∀ ς' h', I (i + 1) ς' h' → k ς' h') → setT t x ς fun ς' => body { κ with nx := k, ct := k, bk := κ.nx } ς' h)
    (fin : ∀ ς h, I xs.length ς h → κ.nx ς h) : forW g t body κ xs ς h := for_from I hg step fin xs 0 (fun j x e => by simpa using e) (by simp) ς h h0
theorem cmp_from {g : PH → Prop} {t : Tg} {ς : PSt} {cond : PSt → PH → (Bool → PH → Prop) → Prop} {elt : PSt → PH → QV → Prop} {q : List PV → PH → Prop} (I : Nat → List PV → PH → Prop) {ys : List PV} (hg : ∀ i acc h, I i acc h → g h)
    (step : ∀ (i : Nat) (x : PV) (acc : List PV) (h : PH) (k : List PV → PH → Prop), ys[i]? = some x → I i acc h → (∀ acc' h', I (i + 1) acc' h' → k acc' h') → setT t x ς fun ς' => cond ς' h fun b h1 => if b = true then elt ς' h1 fun y h2 => acc.length < sizeLine ∧ k (acc ++ [y]) h2 else k acc h1)
    (fin : ∀ acc h, I ys.length acc h → q acc h) : ∀ (xs : List PV) (i : Nat), (∀ j x, xs[j]? = some x → ys[i + j]? = some x) → i + xs.length = ys.length → ∀ acc h, I i acc h → compW g t ς cond elt q xs acc h
  | [], i, _, e, acc, h, z => ⟨hg i acc h z, fin acc h ((show i = ys.length by simpa using e) ▸ z)⟩
  | x :: r, i, hx, e, acc, h, z => by
    refine ⟨hg i acc h z, step i x acc h (fun acc h => compW g t ς cond elt q r acc h) (by simpa using hx 0 x (by simp)) z fun acc' h' z' => ?_⟩
    exact cmp_from I hg step fin r (i + 1) (fun j y hy => by
      have := hx (j + 1) y (by simpa using hy)
      rw [show i + 1 + j = i + (j + 1) by omega]
      exact this) (by simp at e; omega) acc' h' z'
/-- a comprehension by an invariant -/
theorem cmp_inv {g : PH → Prop} {t : Tg} {ς : PSt} {cond : PSt → PH → (Bool → PH → Prop) → Prop} {elt : PSt → PH → QV → Prop} {q : List PV → PH → Prop} {xs : List PV} {h : PH} (I : Nat → List PV → PH → Prop) (h0 : I 0 [] h) (hg : ∀ i acc h, I i acc h → g h)
    (step : ∀ (i : Nat) (x : PV) (acc : List PV) (h : PH) (k : List PV → PH → Prop), xs[i]? = some x → I i acc h → (∀ acc' h', I (i + 1) acc' h' → k acc' h') → setT t x ς fun ς' => cond ς' h fun b h1 => if b = true then elt ς' h1 fun y h2 => acc.length < sizeLine ∧ k (acc ++ [y]) h2 else k acc h1)
    (fin : ∀ acc h, I xs.length acc h → q acc h) : compW g t ς cond elt q xs [] h := cmp_from I hg step fin xs 0 (fun j x e => by simpa using e) (by simp) [] h h0
mutual
theorem setT_mono : ∀ {t : Tg} {v : PV} {ς : PSt} {q q' : PSt → Prop}, setT t v ς q → (∀ ς', q ς' → q' ς') → setT t v ς q'
  | .slot _, _, _, _, _, z, i => i _ z
  | .tup _, _, _, _, _, ⟨xs, e, z⟩, i => ⟨xs, e, setTs_mono z i⟩
theorem setTs_mono : ∀ {ts : List Tg} {vs : List PV} {ς : PSt} {q q' : PSt → Prop}, setTs ts vs ς q → (∀ ς', q ς' → q' ς') → setTs ts vs ς q'
  | [], _, _, _, _, ⟨e, z⟩, i => ⟨e, i _ z⟩
  | _ :: _, _, _, _, _, ⟨v, r, e, z⟩, i => ⟨v, r, e, setT_mono z fun _ z' => setTs_mono z' i⟩
end
/-- no condition -/
theorem yes_t {p q : Prop} (k : p) : if true = true then p else q := by rw [if_pos rfl]; exact k
/-! ### objects of the heap -/
theorem gL {h : PH} {l : Nat} {xs : List PV} (e : h[l]? = some (.lst xs)) : getL h l = some xs := by unfold getL; rw [e]
theorem at_lt {h : PH} {l : Nat} {o : PO} (e : h[l]? = some o) : l < h.length := (List.getElem?_eq_some_iff.mp e).1
theorem at_new {h : PH} {o : PO} : (h ++ [o])[h.length]? = some o := by simp
theorem at_app {h : PH} {l : Nat} {o p : PO} (e : h[l]? = some o) : (h ++ [p])[l]? = some o := by rw [List.getElem?_append_left (at_lt e)]; exact e
theorem at_set {h : PH} {l : Nat} {o p : PO} (e : h[l]? = some o) : (h.set l p)[l]? = some p := List.getElem?_set_self (at_lt e)
theorem at_ne {h : PH} {l k : Nat} {o p : PO} (e : h[l]? = some o) (n : k ≠ l) : (h.set k p)[l]? = some o := by rw [List.getElem?_set_ne n]; exact e
theorem Fr.at {S : List Nat} {h h1 : PH} {l : Nat} {o : PO} (a : Fr S h h1) (e : h[l]? = some o) (hn : l ∉ S) : h1[l]? = some o := by rw [a.2 l (at_lt e) hn]; exact e
theorem Fr.le {S : List Nat} {h h1 : PH} (a : Fr S h h1) : h.length ≤ h1.length := a.1
/-- what is written stood not at the start -/
theorem Fr.new {h h1 : PH} {l : Nat} {o : PO} {S : List Nat} (a : Fr S h h1) (m : h.length ≤ l ∨ l ∈ S) : Fr S h (h1.set l o) := by
  rcases m with m | m
  · exact a.setNew m
  · exact a.trans (Fr.set m)
/-! ### sizes, places -/
theorem sz {n : Nat} (h : n ≤ 10000000) : n ≤ sizeLine := by rw [sizeLine_eq]; omega
theorem szl {n : Nat} (h : n < 10000000) : n < sizeLine := by rw [sizeLine_eq]; omega
abbrev ni (i : Nat) : PV := .int (i : Int)
theorem ixP_nat {i n : Nat} (h : i < n) : ixP n (i : Int) = some i := by
  unfold ixP
  rw [if_pos (by omega), if_pos (by omega)]
  simp
theorem ixP_int {i : Int} {n : Nat} (h : 0 ≤ i) (h2 : i < n) : ixP n i = some i.toNat := by
  unfold ixP
  rw [if_pos h, if_pos h2]
theorem ixP_at {i : Int} {n k : Nat} (h : i = (k : Int)) (h2 : k < n) : ixP n i = some k := by rw [h]; exact ixP_nat h2
theorem getD_at {α : Type} {xs : List α} {i : Nat} {d : α} (h : i < xs.length) : xs[i]? = some (xs.getD i d) := by
  rw [List.getD_eq_getElem?_getD, List.getElem?_eq_getElem h]
  rfl
theorem getD_mem {α : Type} {xs : List α} {i : Nat} {d : α} (h : i < xs.length) : xs.getD i d ∈ xs := List.mem_of_getElem? (getD_at h)
theorem len_loc {h : PH} {l : Nat} {xs : List PV} (e : h[l]? = some (.lst xs)) : lenP h (.loc l) = some xs.length := by simp [lenP, e]
theorem mp_get {α β : Type} {f : α → β} {xs : List α} {i : Nat} {x : α} (h : xs[i]? = some x) : (xs.map f)[i]? = some (f x) := by simp [h]
theorem mp_inv {α β : Type} {f : α → β} {xs : List α} {i : Nat} {y : β} (h : (xs.map f)[i]? = some y) : ∃ x, xs[i]? = some x ∧ f x = y := by
  rw [List.getElem?_map] at h
  exact Option.map_eq_some_iff.mp h
theorem get_lt {α : Type} {xs : List α} {i : Nat} {x : α} (h : xs[i]? = some x) : i < xs.length := (List.getElem?_eq_some_iff.mp h).1
theorem range_get {n i : Nat} {lo : Int} {x : PV} (h : (rangeL lo n)[i]? = some x) : i < n ∧ x = .int (lo + i) := rangeL_get h
theorem toNat_nat (n : Nat) : ((n : Int)).toNat = n := Int.toNat_natCast n
theorem cutP_from {α : Type} {xs : List α} {k : Nat} : cutP xs (some (k : Int)) none = xs.drop k := by
  unfold cutP bndP
  rw [HT.sIx_nat, HT.sIx_none]
  by_cases h : k ≤ xs.length
  · rw [Nat.min_eq_left h, List.take_of_length_le (by simp)]
  · rw [Nat.min_eq_right (by omega), List.drop_length, List.drop_of_length_le (by omega)]
    simp
theorem cutP_to {α : Type} {xs : List α} {k : Nat} : cutP xs none (some (k : Int)) = xs.take k := by
  unfold cutP bndP
  rw [HT.sIx_nat, HT.sIx_none, List.drop_zero, Nat.sub_zero]
  by_cases h : k ≤ xs.length
  · rw [Nat.min_eq_left h]
  · rw [Nat.min_eq_right (by omega), List.take_length, List.take_of_length_le (by omega)]
theorem mul_ok {i j : Int} {a b : Nat} (ha : i.natAbs < 2 ^ a) (hb : j.natAbs < 2 ^ b) (h : a + b ≤ 1000000) : CMulX i j := by
  have x := intBits_le ha
  have y := intBits_le hb
  unfold CMulX
  omega
theorem div_ok {i j : Int} (h : 0 < j) (h2 : j < 2 ^ 62) : CDivW i j := wide_div h (b := 62) (by omega) (by decide) (by decide)
theorem strNe {a b : Str} (h : a ≠ b) : decide (PV.str a = PV.str b) = false := decide_eq_false fun z => h (by injection z)
theorem strEq {a b : Str} (h : decide (PV.str a = PV.str b) = true) : a = b := by
  have := of_decide_eq_true h
  injection this
theorem strNe' {a b : Str} (h : decide (PV.str a = PV.str b) = false) : a ≠ b := fun e => of_decide_eq_false h (by rw [e])
theorem intEq {a b : Int} (h : decide (PV.int a = PV.int b) = true) : a = b := by
  have := of_decide_eq_true h
  injection this
theorem intNe {a b : Int} (h : decide (PV.int a = PV.int b) = false) : a ≠ b := fun e => of_decide_eq_false h (by rw [e])
theorem intsOf_map (ns : List Int) : intsOf (ns.map .int) = some ns := by
  induction ns with
  | nil => rfl
  | cons a r ih => simp [intsOf, ih]
theorem strsOf_map (ns : List Str) : strsOf (ns.map .str) = some ns := by
  induction ns with
  | nil => rfl
  | cons a r ih => simp [strsOf, ih]
/-- an item of a tuple -/
theorem ix_of {α : Type} {enc : α → PV} {xs : List α} {r : Nat} {h : PH} {q : QV} (hr : r < xs.length) (k : ∀ x, x ∈ xs → q (enc x) h) : ixS (.tup (xs.map enc)) (ni r) h q :=
  ⟨_, _, _, _, rfl, rfl, ixP_nat (by simpa using hr), mp_get (List.getElem?_eq_getElem hr), k _ (List.getElem_mem hr)⟩
/-! ### data -/
theorem mapM_ok {α β : Type} {f : α → Option β} {g : α → β} : ∀ {xs : List α}, (∀ x, x ∈ xs → f x = some (g x)) → xs.mapM f = some (xs.map g)
  | [], _ => rfl
  | x :: xs, h => by
    rw [List.mapM_cons, h x (by simp), mapM_ok fun y hy => h y (by simp [hy])]
    rfl
theorem mapM_map {α β γ : Type} {f : β → Option γ} {e : α → β} {g : α → γ} {xs : List α} (h : ∀ x, x ∈ xs → f (e x) = some (g x)) : (xs.map e).mapM f = some (xs.map g) := by
  induction xs with
  | nil => rfl
  | cons x xs ih =>
    rw [List.map_cons, List.mapM_cons, h x (by simp), ih fun y hy => h y (by simp [hy])]
    rfl
/-! ### dicts -/
theorem dGet_put {α : Type} (kvs : List (Key × α)) (k j : Key) (y : α) : dGet (dPut kvs k y) j = if j = k then some y else dGet kvs j := by
  have map : ∀ l : List (Key × α), dGet (l.map fun kv => if kv.1 = k then (kv.1, y) else kv) j = (dGet l j).map fun x => if j = k then y else x := by
    intro l
    induction l with
    | nil => rfl
    | cons p r ih =>
      rw [List.map_cons]
      by_cases e : p.1 = k
      · rw [if_pos e]
        by_cases e2 : p.1 = j
        · rw [dGet_pos (p := (p.1, y)) e2, dGet_pos e2, Option.map_some, if_pos (e2.symm.trans e)]
        · rw [dGet_neg (p := (p.1, y)) e2, dGet_neg e2, ih]
      · rw [if_neg e]
        by_cases e2 : p.1 = j
        · rw [dGet_pos e2, dGet_pos e2, Option.map_some, if_neg fun z => e (e2.trans z)]
        · rw [dGet_neg e2, dGet_neg e2, ih]
  have any : ∀ l : List (Key × α), (l.any fun kv => decide (kv.1 = k)) = (dGet l k).isSome := by
    intro l
    induction l with
    | nil => rfl
    | cons p r ih =>
      rw [List.any_cons]
      by_cases e : p.1 = k
      · rw [dGet_pos e, decide_eq_true e]; rfl
      · rw [dGet_neg e, decide_eq_false e, Bool.false_or, ih]
  have snoc : ∀ l : List (Key × α), dGet l k = none → dGet (l ++ [(k, y)]) j = if j = k then some y else dGet l j := by
    intro l
    induction l with
    | nil =>
      intro _
      by_cases e : k = j
      · rw [if_pos e.symm]; exact dGet_pos (p := (k, y)) e
      · rw [if_neg fun z => e z.symm]; exact dGet_neg (p := (k, y)) e
    | cons p r ih =>
      intro hn
      have hk : ¬ p.1 = k := fun z => by rw [dGet_pos z] at hn; cases hn
      rw [dGet_neg hk] at hn
      rw [List.cons_append]
      by_cases e : p.1 = j
      · rw [dGet_pos e, dGet_pos e, if_neg fun z => hk (e.trans z)]
      · rw [dGet_neg e, dGet_neg e, ih hn]
  unfold dPut
  by_cases a : (kvs.any fun kv => decide (kv.1 = k)) = true
  · rw [if_pos a, map]
    rw [any] at a
    by_cases e : j = k
    · obtain ⟨x, hx⟩ := Option.isSome_iff_exists.mp a
      rw [if_pos e, e, hx, Option.map_some, if_pos rfl]
    · rw [if_neg e]
      cases dGet kvs j with
      | none => rfl
      | some x => rw [Option.map_some, if_neg e]
  · rw [if_neg a]
    refine snoc kvs ?_
    rw [any] at a
    cases q : dGet kvs k with
    | none => rfl
    | some x => rw [q] at a; exact (a rfl).elim
theorem dPut_len {α : Type} (kvs : List (Key × α)) (k : Key) (v : α) : (dPut kvs k v).length ≤ kvs.length + 1 := by
  unfold dPut
  split
  · rw [List.length_map]; omega
  · rw [List.length_append]; simp
theorem dPut_mem {α : Type} {kvs : List (Key × α)} {k : Key} {v : α} {p : Key × α} (h : p ∈ dPut kvs k v) : p.1 = k ∨ p.1 ∈ kvs.map (·.1) := by
  unfold dPut at h
  split at h
  · obtain ⟨q, h1, h2⟩ := List.mem_map.mp h
    split at h2
    · rename_i e
      exact .inl (by rw [← h2]; exact e)
    · exact .inr (List.mem_map.mpr ⟨q, h1, by rw [h2]⟩)
  · rcases List.mem_append.mp h with h | h
    · exact .inr (List.mem_map.mpr ⟨p, h, rfl⟩)
    · exact .inl (by simp at h; rw [h])
theorem dGet_mem {α : Type} {kvs : List (Key × α)} {p : Key × α} (h : p ∈ kvs) : ∃ v, dGet kvs p.1 = some v := by
  induction kvs with
  | nil => cases h
  | cons q r ih =>
    by_cases e : q.1 = p.1
    · exact ⟨q.2, dGet_pos e⟩
    · rcases List.mem_cons.mp h with h | h
      · exact absurd (by rw [h]) e
      · obtain ⟨v, hv⟩ := ih h
        exact ⟨v, by rw [dGet_neg e]; exact hv⟩
theorem take_at {α : Type} {xs : List α} {i : Nat} {x : α} (e : xs[i]? = some x) : xs.take (i + 1) = xs.take i ++ [x] := by
  rw [List.take_add_one, e]
  rfl
/-- a comprehension that leaves the heap -/
theorem cmp_map {α : Type} {Φ : Phi} {X : QX} {g : PH → Prop} {t : Tg} {ς : PSt} {e : Ex} {q : List PV → PH → Prop} {enc f : α → PV} {xs : List α} {h : PH} (hg : g h)
    (he : ∀ (i : Nat) (x : α) (Q : QV), xs[i]? = some x → Q (f x) h → setT t (enc x) ς fun ς' => wE Φ e X ς' h Q) (hl : xs.length < 10000000) (k : q (xs.map f) h) : compW g t ς (wC Φ .no X) (wE Φ e X) q (xs.map enc) [] h := by
  refine cmp_inv (fun i acc h' => h' = h ∧ acc = (xs.take i).map f) ⟨rfl, by simp⟩ (fun i acc h' hi => hi.1 ▸ hg) ?_ ?_
  · rintro i y acc h' kk hy ⟨rfl, rfl⟩ hk
    obtain ⟨x, hx, rfl⟩ := mp_inv hy
    refine setT_mono (he i x (fun y h2 => ((xs.take i).map f).length < sizeLine ∧ kk ((xs.take i).map f ++ [y]) h2) hx ⟨szl (by simp; omega), hk _ _ ⟨rfl, by rw [take_at hx]; simp⟩⟩) fun ς' z => yes_t (q := kk ((xs.take i).map f) h') z
  · rintro acc h' ⟨rfl, rfl⟩
    simpa using k
/-- a comprehension by an invariant, no condition -/
theorem cmp_inv0 {Φ : Phi} {X : QX} {g : PH → Prop} {t : Tg} {ς : PSt} {elt : PSt → PH → QV → Prop} {q : List PV → PH → Prop} {xs : List PV} {h : PH} (I : Nat → List PV → PH → Prop) (h0 : I 0 [] h) (hg : ∀ i acc h, I i acc h → g h)
    (step : ∀ (i : Nat) (x : PV) (acc : List PV) (h : PH) (k : List PV → PH → Prop), xs[i]? = some x → I i acc h → (∀ acc' h', I (i + 1) acc' h' → k acc' h') → setT t x ς fun ς' => elt ς' h fun y h2 => acc.length < sizeLine ∧ k (acc ++ [y]) h2)
    (fin : ∀ acc h, I xs.length acc h → q acc h) : compW g t ς (wC Φ .no X) elt q xs [] h :=
  cmp_inv I h0 hg (fun i x acc h k e z i2 => setT_mono (step i x acc h k e z i2) fun ς' z => yes_t (q := k acc h) z) fin
/-- a loop by what is left -/
theorem for_ind {α : Type} {g : PH → Prop} {t : Tg} {body : KS → PSt → PH → Prop} {κ : KS} {enc : α → PV} (P : List α → PSt → PH → Prop) (hg : ∀ ys ς h, P ys ς h → g h) (nil : ∀ ς h, P [] ς h → κ.nx ς h)
    (cons : ∀ (y : α) (ys : List α) (ς : PSt) (h : PH) (k : PSt → PH → Prop), P (y :: ys) ς h → (∀ ς' h', P ys ς' h' → k ς' h') → setT t (enc y) ς fun ς' => body { κ with nx := k, ct := k, bk := κ.nx } ς' h) : ∀ (ys : List α) (ς : PSt) (h : PH), P ys ς h → forW g t body κ (ys.map enc) ς h
  | [], ς, h, z => ⟨hg _ ς h z, nil ς h z⟩
  | y :: ys, ς, h, z => ⟨hg _ ς h z, cons y ys ς h _ z fun ς' h' z' => for_ind P hg nil cons ys ς' h' z'⟩
end WD
end
section
set_option Elab.async false
set_option linter.all false
set_option maxRecDepth 100000
set_option autoImplicit false
set_option maxHeartbeats 8000000
/-! WMono: a weaker wish is granted, too. -/
namespace WD
open PySem PySem.Spec PyProof.Rows L2
def MonoP (Φ : Phi) : Prop := ∀ f vs h (q q' : QV) (x x' : QX), (∀ v h, q v h → q' v h) → (∀ v h, x v h → x' v h) → Φ f vs h q x → Φ f vs h q' x'
section
variable {h : PH} {q q' : QV} {b b' : Bool → Prop}
theorem binS_mono {o : Operator} {v w : PV} (i : ∀ v h, q v h → q' v h) (k : binS o v w h q) : binS o v w h q' := by
  unfold binS at k ⊢
  split at k
  all_goals first
    | exact k.elim
    | exact i _ _ k
    | exact ⟨k.1, i _ _ k.2⟩
    | exact ⟨k.1, k.2.1, k.2.2.1, i _ _ k.2.2.2⟩
    | (obtain ⟨xs, ys, k1, k2, k3, k4⟩ := k; exact ⟨xs, ys, k1, k2, k3, i _ _ k4⟩)
theorem eqS_mono {v w : PV} (i : ∀ c, b c → b' c) (k : eqS h v w b) : eqS h v w b' := by
  rcases k with ⟨k1, k2⟩ | ⟨d, e, k1, k2, k3⟩
  · exact .inl ⟨k1, i _ k2⟩
  · exact .inr ⟨d, e, k1, k2, i _ k3⟩
theorem inS_mono {v w : PV} (i : ∀ c, b c → b' c) (k : inS h v w b) : inS h v w b' := by
  unfold inS at k ⊢
  split at k
  · obtain ⟨y, k1, k2⟩ := k; exact ⟨y, k1, i _ k2⟩
  · obtain ⟨o, k1, k2⟩ := k
    refine ⟨o, k1, ?_⟩
    cases o with
    | lst xs => obtain ⟨d, es, a1, a2, a3⟩ := k2; exact ⟨d, es, a1, a2, i _ a3⟩
    | dic kvs => obtain ⟨d, a1, a3⟩ := k2; exact ⟨d, a1, i _ a3⟩
  · obtain ⟨d, xs, es, k1, k2, k3, k4⟩ := k
    exact ⟨d, xs, es, k1, k2, k3, i _ k4⟩
theorem cmpS_mono {o : CmpOp} {v w : PV} (i : ∀ c, b c → b' c) (k : cmpS o v w h b) : cmpS o v w h b' := by
  cases o with
  | Eq => exact eqS_mono i k
  | NotEq => exact eqS_mono (fun c => i _) k
  | Lt => obtain ⟨x, y, k1, k2, k3⟩ := k; exact ⟨x, y, k1, k2, i _ k3⟩
  | LtE => obtain ⟨x, y, k1, k2, k3⟩ := k; exact ⟨x, y, k1, k2, i _ k3⟩
  | Gt => obtain ⟨x, y, k1, k2, k3⟩ := k; exact ⟨x, y, k1, k2, i _ k3⟩
  | GtE => obtain ⟨x, y, k1, k2, k3⟩ := k; exact ⟨x, y, k1, k2, i _ k3⟩
  | Is =>
    rcases k with ⟨k1, k2⟩ | ⟨x, y, k1, k2, k3⟩
    · exact .inl ⟨k1, i _ k2⟩
    · exact .inr ⟨x, y, k1, k2, i _ k3⟩
  | IsNot =>
    rcases k with ⟨k1, k2⟩ | ⟨x, y, k1, k2, k3⟩
    · exact .inl ⟨k1, i _ k2⟩
    · exact .inr ⟨x, y, k1, k2, i _ k3⟩
  | In => exact inS_mono i k
  | NotIn => exact inS_mono (fun c => i _) k
theorem ixO_mono {o : PO} {w : PV} (i : ∀ v h, q v h → q' v h) (k : ixO o w h q) : ixO o w h q' := by
  cases o with
  | lst xs => obtain ⟨a, j, x, k1, k2, k3, k4⟩ := k; exact ⟨a, j, x, k1, k2, k3, i _ _ k4⟩
  | dic kvs => obtain ⟨a, j, k1, k2, k3⟩ := k; exact ⟨a, j, k1, k2, i _ _ k3⟩
theorem ixS_mono {v w : PV} (i : ∀ v h, q v h → q' v h) (k : ixS v w h q) : ixS v w h q' := by
  unfold ixS at k ⊢
  split at k
  · obtain ⟨a, j, x, k1, k2, k3, k4, k5⟩ := k; exact ⟨a, j, x, k1, k2, k3, k4, i _ _ k5⟩
  · obtain ⟨o, k1, k2⟩ := k; exact ⟨o, k1, ixO_mono i k2⟩
  · obtain ⟨a, xs, j, x, k1, k2, k3, k4, k5⟩ := k; exact ⟨a, xs, j, x, k1, k2, k3, k4, i _ _ k5⟩
theorem augG_mono {v w : PV} (i : ∀ v h, q v h → q' v h) (k : augG v w h q) : augG v w h q' := by
  obtain ⟨l, o, k1, k2, k3⟩ := k
  exact ⟨l, o, k1, k2, ixO_mono i k3⟩
theorem slS_mono {v : PV} {lo hi : Option Int} (i : ∀ v h, q v h → q' v h) (k : slS v lo hi h q) : slS v lo hi h q' := by
  unfold slS at k ⊢
  split at k
  · exact i _ _ k
  · exact ⟨k.1, i _ _ k.2⟩
  · obtain ⟨xs, k1, k2⟩ := k; exact ⟨xs, k1, i _ _ k2⟩
theorem bifS_mono {f : Bif} {vs : List PV} (i : ∀ v h, q v h → q' v h) (k : bifS f vs h q) : bifS f vs h q' := by
  cases f with
  | abs => obtain ⟨a, k1, k2⟩ := k; exact ⟨a, k1, i _ _ k2⟩
  | min2 => obtain ⟨a, c, k1, k2⟩ := k; exact ⟨a, c, k1, i _ _ k2⟩
  | max2 => obtain ⟨a, c, k1, k2⟩ := k; exact ⟨a, c, k1, i _ _ k2⟩
  | _ => obtain ⟨a, c, k1, k2, k3⟩ := k; exact ⟨a, c, k1, k2, i _ _ k3⟩
theorem lifS_mono {f : Lif} {xs : List PV} (i : ∀ v h, q v h → q' v h) (k : lifS f xs h q) : lifS f xs h q' := by
  cases f with
  | tuple => exact i _ _ k
  | len => exact i _ _ k
  | max => obtain ⟨a, k1, k2, k3⟩ := k; exact ⟨a, k1, k2, fun m z1 z2 => i _ _ (k3 m z1 z2)⟩
  | min => obtain ⟨a, k1, k2, k3⟩ := k; exact ⟨a, k1, k2, fun m z1 z2 => i _ _ (k3 m z1 z2)⟩
  | _ => obtain ⟨a, k1, k2⟩ := k; exact ⟨a, k1, i _ _ k2⟩
theorem mthS_mono {m : Mth} {v : PV} {vs : List PV} (i : ∀ v h, q v h → q' v h) (k : mthS m v vs h q) : mthS m v vs h q' := by
  obtain ⟨l, o, k1, k2, k3⟩ := k
  refine ⟨l, o, k1, k2, ?_⟩
  unfold mthO at k3 ⊢
  split at k3
  all_goals first
    | exact k3.elim
    | exact i _ _ k3
    | exact ⟨k3.1, i _ _ k3.2⟩
    | exact ⟨k3.1, k3.2.1, k3.2.2.1, i _ _ k3.2.2.2⟩
    | (obtain ⟨y, a1, a2⟩ := k3; exact ⟨y, a1, i _ _ a2⟩)
    | (obtain ⟨y, z, a1, a2, a3, a4⟩ := k3; exact ⟨y, z, a1, a2, a3, i _ _ a4⟩)
theorem setS_mono {v w z : PV} {p p' : PH → Prop} (i : ∀ h, p h → p' h) (k : setS v w z h p) : setS v w z h p' := by
  obtain ⟨l, o, k1, k2, k3⟩ := k
  refine ⟨l, o, k1, k2, ?_⟩
  cases o with
  | lst xs => obtain ⟨a, j, a1, a2, a3⟩ := k3; exact ⟨a, j, a1, a2, i _ a3⟩
  | dic kvs => obtain ⟨a, a1, a2, a3⟩ := k3; exact ⟨a, a1, a2, i _ a3⟩
theorem augB_mono {o : Operator} {v w : PV} (i : ∀ v h, q v h → q' v h) (k : augB o v w h q) : augB o v w h q' := by
  unfold augB at k ⊢
  split at k
  all_goals first
    | exact k.elim
    | exact i _ _ k
    | exact ⟨k.1, i _ _ k.2⟩
theorem sortS_mono {xs : List PV} {p p' : List PV → PH → Prop} (i : ∀ v h, p v h → p' v h) (k : sortS xs h p) : sortS xs h p' := by
  rcases k with ⟨ns, k1, k2⟩ | ⟨ns, k1, k2, k3⟩
  · exact .inl ⟨ns, k1, fun m a c => i _ _ (k2 m a c)⟩
  · exact .inr ⟨ns, k1, k2, fun m a c => i _ _ (k3 m a c)⟩
theorem ite_mono {r : Bool} {p p' s s' : Prop} (i : p → p') (j : s → s') (k : if r = true then p else s) : if r = true then p' else s' := by
  cases r with
  | true => rw [if_pos rfl] at k ⊢; exact i k
  | false => rw [if_neg Bool.false_ne_true] at k ⊢; exact j k
theorem compW_mono {g : PH → Prop} {t : Tg} {ς : PSt} {cond : PSt → PH → (Bool → PH → Prop) → Prop} {elt : PSt → PH → QV → Prop} {p p' : List PV → PH → Prop} (i : ∀ v h, p v h → p' v h)
    (mc : ∀ ς h (a a' : Bool → PH → Prop), (∀ b h, a b h → a' b h) → cond ς h a → cond ς h a') (me : ∀ ς h (a a' : QV), (∀ v h, a v h → a' v h) → elt ς h a → elt ς h a') : ∀ (xs acc : List PV) (h : PH), compW g t ς cond elt p xs acc h → compW g t ς cond elt p' xs acc h
  | [], acc, h, ⟨k1, k2⟩ => ⟨k1, i _ _ k2⟩
  | x :: r, acc, h, ⟨k1, k2⟩ => ⟨k1, setT_mono k2 fun ς' z => mc _ _ _ _ (fun b h1 z1 => ite_mono (fun z2 => me _ _ _ _ (fun y h2 z3 => ⟨z3.1, compW_mono i mc me r _ _ z3.2⟩) z2) (fun z2 => compW_mono i mc me r _ _ z2) z1) z⟩
end
section
variable {Φ : Phi} (M : MonoP Φ)
include M
mutual
theorem wE_mono : ∀ (e : Ex) {x x' : QX} {ς : PSt} {h : PH} {q q' : QV}, (∀ v h, x v h → x' v h) → (∀ v h, q v h → q' v h) → wE Φ e x ς h q → wE Φ e x' ς h q'
  | .var _, _, _, _, _, _, _, _, i, ⟨v, e, k⟩ => ⟨v, e, i _ _ k⟩
  | .non, _, _, _, _, _, _, _, i, k => i _ _ k
  | .bl _, _, _, _, _, _, _, _, i, k => i _ _ k
  | .int _, _, _, _, _, _, _, _, i, k => i _ _ k
  | .str _, _, _, _, _, _, _, _, i, k => i _ _ k
  | .cst _ _, _, _, _, _, _, _, _, i, k => i _ _ k
  | .tup es, _, _, _, _, _, _, j, i, k => wEs_mono es j (fun _ _ z => ⟨z.1, i _ _ z.2⟩) k
  | .bin _ a b, _, _, _, _, _, _, j, i, k => wE_mono a j (fun _ _ z => wE_mono b j (fun _ _ z => binS_mono i z) z) k
  | .neg a, _, _, _, _, _, _, j, i, k => wE_mono a j (fun _ _ ⟨n, e, z⟩ => ⟨n, e, i _ _ z⟩) k
  | .cmp _ a b, _, _, _, _, _, _, j, i, k => wE_mono a j (fun _ _ z => wE_mono b j (fun _ _ z => cmpS_mono (fun _ => i _ _) z) z) k
  | .chn _ _ a b c, _, _, _, _, _, _, j, i, k => wE_mono a j (fun _ _ z => wE_mono b j (fun _ _ z => cmpS_mono (fun _ z => ite_mono (fun z => wE_mono c j (fun _ _ z => cmpS_mono (fun _ => i _ _) z) z) (i _ _) z) z) z) k
  | .and a b, _, _, _, _, _, _, j, i, k => wE_mono a j (fun _ _ ⟨r, e, z⟩ => ⟨r, e, ite_mono (fun z => wE_mono b j i z) (i _ _) z⟩) k
  | .or a b, _, _, _, _, _, _, j, i, k => wE_mono a j (fun _ _ ⟨r, e, z⟩ => ⟨r, e, ite_mono (i _ _) (fun z => wE_mono b j i z) z⟩) k
  | .not a, _, _, _, _, _, _, j, i, k => wE_mono a j (fun _ _ ⟨r, e, z⟩ => ⟨r, e, i _ _ z⟩) k
  | .ifx c a b, _, _, _, _, _, _, j, i, k => wT_mono c j (fun _ _ z => ite_mono (fun z => wE_mono a j i z) (fun z => wE_mono b j i z) z) k
  | .ix a b, _, _, _, _, _, _, j, i, k => wE_mono a j (fun _ _ z => wE_mono b j (fun _ _ z => ixS_mono i z) z) k
  | .sl a lo hi, _, _, _, _, _, _, j, i, k => wE_mono a j (fun _ _ z => wO_mono lo j (fun _ _ z => wO_mono hi j (fun _ _ z => slS_mono i z) z) z) k
  | .call _ es, _, _, _, _, _, _, j, i, k => wEs_mono es j (fun _ _ z => M _ _ _ _ _ _ _ i j z) k
  | .bif _ es, _, _, _, _, _, _, j, i, k => wEs_mono es j (fun _ _ z => bifS_mono i z) k
  | .lif _ l, _, _, _, _, _, _, j, i, k => wLa_mono l j (fun _ _ ⟨xs, e, z⟩ => ⟨xs, e, lifS_mono i z⟩) k
  | .mth _ a es, _, _, _, _, _, _, j, i, k => wE_mono a j (fun _ _ z => ⟨z.1, wEs_mono es j (fun _ _ z => mthS_mono i z) z.2⟩) k
  | .ext a l, _, _, _, _, _, _, j, i, k => wE_mono a j (fun _ _ z => ⟨z.1, wLa_mono l j (fun _ _ ⟨l, xs, ys, e1, e2, e3, e4, z⟩ => ⟨l, xs, ys, e1, e2, e3, e4, i _ _ z⟩) z.2⟩) k
  | .new l, _, _, _, _, _, _, j, i, k => wL_mono l j (fun _ _ z => i _ _ z) k
  | .dic ps, _, _, _, _, _, _, j, i, k => wPs_mono ps j (fun _ _ ⟨ks, e1, e2, z⟩ => ⟨ks, e1, e2, i _ _ z⟩) k
  | .callk _ _ _ es ks _, _, _, _, _, _, _, j, i, k => wEs_mono es j (fun _ _ z => wEs_mono ks j (fun _ _ ⟨e1, e2, ws, e3, z⟩ => ⟨e1, e2, ws, e3, M _ _ _ _ _ _ _ i j z⟩) z) k
  | .tupR a b, _, _, _, _, _, _, j, i, k => wO_mono a j (fun _ _ z => wO_mono b j (fun _ _ z => ⟨z.1, i _ _ z.2⟩) z) k
  | .cin _ _ a, _, _, _, _, _, _, j, i, k => wE_mono a j (fun _ _ ⟨y, e, z⟩ => ⟨y, e, i _ _ z⟩) k
  | .cix _ _ a, _, _, _, _, _, _, j, i, k => wE_mono a j (fun _ _ ⟨y, w, e, e2, z⟩ => ⟨y, w, e, e2, i _ _ z⟩) k
theorem wPs_mono : ∀ (ps : Prs) {x x' : QX} {ς : PSt} {h : PH} {q q' : List (PV × PV) → PH → Prop}, (∀ v h, x v h → x' v h) → (∀ v h, q v h → q' v h) → wPs Φ ps x ς h q → wPs Φ ps x' ς h q'
  | .nil, _, _, _, _, _, _, _, i, k => i _ _ k
  | .cons a b r, _, _, _, _, _, _, j, i, k => wE_mono a j (fun _ _ z => wE_mono b j (fun _ _ z => wPs_mono r j (fun _ _ z => i _ _ z) z) z) k
theorem wEs_mono : ∀ (es : Exs) {x x' : QX} {ς : PSt} {h : PH} {q q' : List PV → PH → Prop}, (∀ v h, x v h → x' v h) → (∀ v h, q v h → q' v h) → wEs Φ es x ς h q → wEs Φ es x' ς h q'
  | .nil, _, _, _, _, _, _, _, i, k => i _ _ k
  | .cons e es, _, _, _, _, _, _, j, i, k => wE_mono e j (fun _ _ z => wEs_mono es j (fun _ _ z => i _ _ z) z) k
theorem wO_mono : ∀ (o : OEx) {x x' : QX} {ς : PSt} {h : PH} {q q' : Option Int → PH → Prop}, (∀ v h, x v h → x' v h) → (∀ v h, q v h → q' v h) → wO Φ o x ς h q → wO Φ o x' ς h q'
  | .no, _, _, _, _, _, _, _, i, k => i _ _ k
  | .some e, _, _, _, _, _, _, j, i, k => wE_mono e j (fun _ _ ⟨n, e, z⟩ => ⟨n, e, i _ _ z⟩) k
theorem wT_mono : ∀ (e : Ex) {x x' : QX} {ς : PSt} {h : PH} {q q' : Bool → PH → Prop}, (∀ v h, x v h → x' v h) → (∀ v h, q v h → q' v h) → wT Φ e x ς h q → wT Φ e x' ς h q'
  | .and a b, _, _, _, _, _, _, j, i, k => wT_mono a j (fun _ _ z => ite_mono (fun z => wT_mono b j i z) (i _ _) z) k
  | .or a b, _, _, _, _, _, _, j, i, k => wT_mono a j (fun _ _ z => ite_mono (i _ _) (fun z => wT_mono b j i z) z) k
  | .not a, _, _, _, _, _, _, j, i, k => wT_mono a j (fun _ _ z => i _ _ z) k
  | .cmp _ a b, _, _, _, _, _, _, j, i, k => wE_mono a j (fun _ _ z => wE_mono b j (fun _ _ z => cmpS_mono (fun _ => i _ _) z) z) k
  | .chn _ _ a b c, _, _, _, _, _, _, j, i, k => wE_mono a j (fun _ _ z => wE_mono b j (fun _ _ z => cmpS_mono (fun _ z => ite_mono (fun z => wE_mono c j (fun _ _ z => cmpS_mono (fun _ => i _ _) z) z) (i _ _) z) z) z) k
  | .var _, _, _, _, _, _, _, _, i, ⟨v, e, r, e2, k⟩ => ⟨v, e, r, e2, i _ _ k⟩
  | .bl _, _, _, _, _, _, _, _, i, k => i _ _ k
  | .cin _ _ a, _, _, _, _, _, _, j, i, k => wE_mono a j (fun _ _ ⟨y, e, z⟩ => ⟨y, e, i _ _ z⟩) k
  | .ix a b, _, _, _, _, _, _, j, i, k => wE_mono a j (fun _ _ z => wE_mono b j (fun _ _ z => ixS_mono (fun _ _ ⟨r, e, z⟩ => ⟨r, e, i _ _ z⟩) z) z) k
  | .call _ es, _, _, _, _, _, _, j, i, k => wEs_mono es j (fun _ _ z => M _ _ _ _ _ _ _ (fun _ _ ⟨r, e, z⟩ => ⟨r, e, i _ _ z⟩) j z) k
  | .bif _ es, _, _, _, _, _, _, j, i, k => wEs_mono es j (fun _ _ z => bifS_mono (fun _ _ ⟨r, e, z⟩ => ⟨r, e, i _ _ z⟩) z) k
  | .lif _ l, _, _, _, _, _, _, j, i, k => wLa_mono l j (fun _ _ ⟨xs, e, z⟩ => ⟨xs, e, lifS_mono (fun _ _ ⟨r, e, z⟩ => ⟨r, e, i _ _ z⟩) z⟩) k
  | .non, _, _, _, _, _, _, _, _, k => k
  | .int _, _, _, _, _, _, _, _, _, k => k
  | .str _, _, _, _, _, _, _, _, _, k => k
  | .cst _ _, _, _, _, _, _, _, _, _, k => k
  | .tup _, _, _, _, _, _, _, _, _, k => k
  | .bin _ _ _, _, _, _, _, _, _, _, _, k => k
  | .neg _, _, _, _, _, _, _, _, _, k => k
  | .ifx _ _ _, _, _, _, _, _, _, _, _, k => k
  | .sl _ _ _, _, _, _, _, _, _, _, _, k => k
  | .mth _ _ _, _, _, _, _, _, _, _, _, k => k
  | .ext _ _, _, _, _, _, _, _, _, _, k => k
  | .new _, _, _, _, _, _, _, _, _, k => k
  | .dic _, _, _, _, _, _, _, _, _, k => k
  | .callk _ _ _ _ _ _, _, _, _, _, _, _, _, _, k => k
  | .tupR _ _, _, _, _, _, _, _, _, _, k => k
  | .cix _ _ _, _, _, _, _, _, _, _, _, k => k
theorem wL_mono : ∀ (l : Lx) {x x' : QX} {ς : PSt} {h : PH} {q q' : List PV → PH → Prop}, (∀ v h, x v h → x' v h) → (∀ v h, q v h → q' v h) → wL Φ l x ς h q → wL Φ l x' ς h q'
  | .disp es, _, _, _, _, _, _, j, i, k => wEs_mono es j (fun _ _ z => ⟨z.1, i _ _ z.2⟩) k
  | .cat a b, _, _, _, _, _, _, j, i, k => wLa_mono a j (fun _ _ z => wLa_mono b j (fun _ _ ⟨xs, ys, e1, e2, e3, z⟩ => ⟨xs, ys, e1, e2, e3, i _ _ z⟩) z) k
  | .rep a n, _, _, _, _, _, _, j, i, k => wLa_mono a j (fun _ _ z => wE_mono n j (fun _ _ ⟨xs, m, e1, e2, e3, e4, e5, z⟩ => ⟨xs, m, e1, e2, e3, e4, e5, i _ _ z⟩) z) k
  | .comp own elt t it cond, x, x', ς, h, q, q', j, i, k =>
    wI_mono it (q := fun xs g h1 => compW g t (wipeP ς own) (wC Φ cond fun _ _ => False) (wE Φ elt fun _ _ => False) q xs [] h1) (q' := fun xs g h1 => compW g t (wipeP ς own) (wC Φ cond fun _ _ => False) (wE Φ elt fun _ _ => False) q' xs [] h1) j
      (fun xs g h1 z => compW_mono (cond := wC Φ cond fun _ _ => False) (elt := wE Φ elt fun _ _ => False) i (fun ς h a a' ia c => wC_mono cond (fun _ _ z => z) ia c) (fun ς h a a' ia c => wE_mono elt (fun _ _ z => z) ia c) xs [] h1 z) k
  | .cut a lo hi, _, _, _, _, _, _, j, i, k => wLa_mono a j (fun _ _ z => wO_mono lo j (fun _ _ z => wO_mono hi j (fun _ _ ⟨xs, e, z⟩ => ⟨xs, e, i _ _ z⟩) z) z) k
  | .list a, _, _, _, _, _, _, j, i, k => wLa_mono a j (fun _ _ ⟨xs, e, z⟩ => ⟨xs, e, i _ _ z⟩) k
  | .sort a, _, _, _, _, _, _, j, i, k => wLa_mono a j (fun _ _ ⟨xs, e, z⟩ => ⟨xs, e, sortS_mono i z⟩) k
  | .rng a b, _, _, _, _, _, _, j, i, k => wO_mono a j (fun _ _ z => wO_mono b j (fun _ _ z => ⟨z.1, i _ _ z.2⟩) z) k
theorem wLa_mono : ∀ (l : La) {x x' : QX} {ς : PSt} {h : PH} {q q' : LV → PH → Prop}, (∀ v h, x v h → x' v h) → (∀ v h, q v h → q' v h) → wLa Φ l x ς h q → wLa Φ l x' ς h q'
  | .e e, _, _, _, _, _, _, j, i, k => wE_mono e j (fun _ _ z => i _ _ z) k
  | .l l, _, _, _, _, _, _, j, i, k => wL_mono l j (fun _ _ z => i _ _ z) k
theorem wC_mono : ∀ (o : OEx) {x x' : QX} {ς : PSt} {h : PH} {q q' : Bool → PH → Prop}, (∀ v h, x v h → x' v h) → (∀ v h, q v h → q' v h) → wC Φ o x ς h q → wC Φ o x' ς h q'
  | .no, _, _, _, _, _, _, _, i, k => i _ _ k
  | .some e, _, _, _, _, _, _, j, i, k => wT_mono e j i k
theorem wI_mono : ∀ (w : Wk) {x x' : QX} {ς : PSt} {h : PH} {q q' : List PV → (PH → Prop) → PH → Prop}, (∀ v h, x v h → x' v h) → (∀ v g h, q v g h → q' v g h) → wI Φ w x ς h q → wI Φ w x' ς h q'
  | .la (.e e), _, _, _, _, _, _, j, i, k => wE_mono e j (fun _ _ z => z.elim (fun ⟨xs, e, z⟩ => .inl ⟨xs, e, i _ _ _ z⟩) (fun ⟨y, e, z⟩ => .inr ⟨y, e, i _ _ _ z⟩)) k
  | .la (.l l), _, _, _, _, _, _, j, i, k => wL_mono l j (fun _ _ z => i _ _ _ z) k
  | .range1 a, _, _, _, _, _, _, j, i, k => wE_mono a j (fun _ _ ⟨n, e1, e2, e3, z⟩ => ⟨n, e1, e2, e3, i _ _ _ z⟩) k
  | .range2 a b, _, _, _, _, _, _, j, i, k => wE_mono a j (fun _ _ z => wE_mono b j (fun _ _ ⟨n, m, e1, e2, e3, z⟩ => ⟨n, m, e1, e2, e3, i _ _ _ z⟩) z) k
  | .range3 a b c, _, _, _, _, _, _, j, i, k => wE_mono a j (fun _ _ z => wE_mono b j (fun _ _ z => wE_mono c j (fun _ _ ⟨n, m, o, p, e1, e2, e3, e4, z⟩ => ⟨n, m, o, p, e1, e2, e3, e4, i _ _ _ z⟩) z) z) k
  | .enum (.e e), _, _, _, _, _, _, j, i, k => wE_mono e j (fun _ _ ⟨xs, e, z⟩ => ⟨xs, e, i _ _ _ z⟩) k
  | .enum (.l l), _, _, _, _, _, _, j, i, k => wL_mono l j (fun _ _ z => i _ _ _ z) k
  | .zip _ _, _, _, _, _, _, _, _, _, k => k
  | .rev _, _, _, _, _, _, _, _, _, k => k
end
structure KLe (κ κ' : KS) : Prop where
  nx : ∀ ς h, κ.nx ς h → κ'.nx ς h
  rt : ∀ v h, κ.rt v h → κ'.rt v h
  ex : ∀ e ς h, κ.ex e ς h → κ'.ex e ς h
  bk : ∀ ς h, κ.bk ς h → κ'.bk ς h
  ct : ∀ ς h, κ.ct ς h → κ'.ct ς h
omit M in
theorem forW_mono {g : PH → Prop} {t : Tg} {body : KS → PSt → PH → Prop} (mb : ∀ κ κ' ς h, KLe κ κ' → body κ ς h → body κ' ς h) {κ κ' : KS} (l : KLe κ κ') : ∀ (xs : List PV) (ς : PSt) (h : PH), forW g t body κ xs ς h → forW g t body κ' xs ς h
  | [], ς, h, ⟨k1, k2⟩ => ⟨k1, l.nx _ _ k2⟩
  | x :: r, ς, h, ⟨k1, k2⟩ => ⟨k1, setT_mono k2 fun ς' z => mb { κ with nx := forW g t body κ r, ct := forW g t body κ r, bk := κ.nx } { κ' with nx := forW g t body κ' r, ct := forW g t body κ' r, bk := κ'.nx } _ _ ⟨fun ς h z => forW_mono mb l r ς h z, l.rt, l.ex, l.nx, fun ς h z => forW_mono mb l r ς h z⟩ z⟩
omit M in
theorem whileW_mono {c : PSt → PH → (Bool → PH → Prop) → Prop} {c' : PSt → PH → (Bool → PH → Prop) → Prop} (mc : ∀ ς h q q', (∀ v h, q v h → q' v h) → c ς h q → c' ς h q') {body : KS → PSt → PH → Prop} (mb : ∀ κ κ' ς h, KLe κ κ' → body κ ς h → body κ' ς h) {κ κ' : KS} (l : KLe κ κ') : ∀ (n : Nat) (ς : PSt) (h : PH), whileW c body κ n ς h → whileW c' body κ' n ς h
  | 0, _, _, k => k
  | n + 1, ς, h, k => mc _ _ _ _ (fun b h1 z => ite_mono (fun z => mb { κ with nx := whileW c body κ n, ct := whileW c body κ n, bk := κ.nx } { κ' with nx := whileW c' body κ' n, ct := whileW c' body κ' n, bk := κ'.nx } _ _ ⟨fun ς h z => whileW_mono mc mb l n ς h z, l.rt, l.ex, l.nx, fun ς h z => whileW_mono mc mb l n ς h z⟩ z) (l.nx _ _) z) k
mutual
theorem wS_mono : ∀ (s : Sm) {κ κ' : KS} {ς : PSt} {h : PH}, KLe κ κ' → wS Φ s κ ς h → wS Φ s κ' ς h
  | .ct .pass, _, _, _, _, l, k => l.nx _ _ k
  | .ct .brk, _, _, _, _, l, k => l.bk _ _ k
  | .ct .cnt, _, _, _, _, l, k => l.ct _ _ k
  | .expr e, _, _, _, _, l, k => wE_mono M e (fun _ _ => l.ex _ _ _) (fun _ _ z => l.nx _ _ z) k
  | .set t e, _, _, _, _, l, k => wE_mono M e (fun _ _ => l.ex _ _ _) (fun _ _ z => setT_mono z fun _ => l.nx _ _) k
  | .par _ _ a b, _, _, _, _, l, k => wE_mono M a (fun _ _ => l.ex _ _ _) (fun _ _ z => wE_mono M b (fun _ _ => l.ex _ _ _) (fun _ _ => l.nx _ _) z) k
  | .sub o i e, _, _, _, _, l, k => wE_mono M e (fun _ _ => l.ex _ _ _) (fun _ _ z => wE_mono M o (fun _ _ => l.ex _ _ _) (fun _ _ z => wE_mono M i (fun _ _ => l.ex _ _ _) (fun _ _ z => setS_mono (fun _ => l.nx _ _) z) z) z) k
  | .aug _ _ e, _, _, _, _, l, ⟨v, e1, k⟩ => ⟨v, e1, wE_mono M e (fun _ _ => l.ex _ _ _) (fun _ _ z => augB_mono (fun _ _ => l.nx _ _) z) k⟩
  | .augS o i _ e, _, _, _, _, l, k => wE_mono M o (fun _ _ => l.ex _ _ _) (fun _ _ z => wE_mono M i (fun _ _ => l.ex _ _ _) (fun _ _ z => augG_mono (fun _ _ z => wE_mono M e (fun _ _ => l.ex _ _ _) (fun _ _ z => augB_mono (fun _ _ z => setS_mono (fun _ => l.nx _ _) z) z) z) z) z) k
  | .ret e, _, _, _, _, l, k => wE_mono M e (fun _ _ => l.ex _ _ _) l.rt k
  | .retN, _, _, _, _, l, k => l.rt _ _ k
  | .ifs c a b, _, _, _, _, l, k => wT_mono M c (fun _ _ => l.ex _ _ _) (fun _ _ z => ite_mono (fun z => wSs_mono a l z) (fun z => wSs_mono b l z) z) k
  | .fors t it b, κ, κ', ς, h, l, k => wI_mono M it (q := fun xs g h1 => forW g t (wSs Φ b) κ xs ς h1) (q' := fun xs g h1 => forW g t (wSs Φ b) κ' xs ς h1) (fun _ _ => l.ex _ _ _) (fun xs g h1 z => forW_mono (body := wSs Φ b) (fun κ κ' ς h l' z => wSs_mono b l' z) l xs ς h1 z) k
  | .whil c b, κ, κ', ς, h, l, ⟨n, k⟩ => ⟨n, whileW_mono (c := fun ς h => wT Φ c (fun e h => κ.ex e ς h) ς h) (c' := fun ς h => wT Φ c (fun e h => κ'.ex e ς h) ς h) (body := wSs Φ b) (fun ς h q q' i z => wT_mono M c (fun _ _ => l.ex _ _ _) i z) (fun κ κ' ς h l' z => wSs_mono b l' z) l n ς h k⟩
theorem wSs_mono : ∀ (s : Sms) {κ κ' : KS} {ς : PSt} {h : PH}, KLe κ κ' → wSs Φ s κ ς h → wSs Φ s κ' ς h
  | .nil, _, _, _, _, l, k => l.nx _ _ k
  | .cons s r, κ, κ', _, _, l, k => wS_mono s (κ := { κ with nx := wSs Φ r κ }) (κ' := { κ' with nx := wSs Φ r κ' }) ⟨fun ς h z => wSs_mono r l z, l.rt, l.ex, l.bk, l.ct⟩ k
end
end
theorem den_mono (T : Tab) : ∀ n, MonoP (den T n)
  | 0 => fun f vs h q q' x x' i j k => (den_zero k).elim
  | n + 1 => fun f vs h q q' x x' i j k => by
    rw [den_succ] at k ⊢
    obtain ⟨F, e, l, k⟩ := k
    exact ⟨F, e, l, wSs_mono (den_mono T n) F.body (κ := { nx := fun _ h' => q .non h', rt := q, ex := fun e _ h' => x e h' }) (κ' := { nx := fun _ h' => q' .non h', rt := q', ex := fun e _ h' => x' e h' }) ⟨fun _ h => i _ h, i, fun e _ h => j e h, fun _ _ z => z, fun _ _ z => z⟩ k⟩
/-! ### cuts -/
section
variable {T : Tab} {n : Nat}
/-- what is behind a statement, said by itself -/
theorem cut_nx {s : Sm} {κ : KS} {ς : PSt} {h : PH} (P : PSt → PH → Prop) (k : wS (den T n) s { κ with nx := P } ς h) (i : ∀ ς h, P ς h → κ.nx ς h) : wS (den T n) s κ ς h :=
  wS_mono (den_mono T n) s (κ := { κ with nx := P }) (κ' := κ) ⟨i, fun _ _ z => z, fun _ _ _ z => z, fun _ _ z => z, fun _ _ z => z⟩ k
/-- a test's outcome, said by itself -/
theorem cut_t {e : Ex} {x : QX} {ς : PSt} {h : PH} {q : Bool → PH → Prop} (P : Bool → PH → Prop) (k : wT (den T n) e x ς h P) (i : ∀ b h, P b h → q b h) : wT (den T n) e x ς h q := wT_mono (den_mono T n) e (fun _ _ z => z) i k
/-- a value, said by itself -/
theorem cut_e {e : Ex} {x : QX} {ς : PSt} {h : PH} {q : QV} (P : QV) (k : wE (den T n) e x ς h P) (i : ∀ v h, P v h → q v h) : wE (den T n) e x ς h q := wE_mono (den_mono T n) e (fun _ _ z => z) i k
theorem den_cut {f : Nat} {vs : List PV} {h : PH} {q : QV} {x : QX} (P : QV) (k : den T n f vs h P x) (i : ∀ v h, P v h → q v h) : den T n f vs h q x := den_mono T n f vs h P q x x i (fun _ _ z => z) k
end
end WD
end
section
set_option Elab.async false
set_option maxRecDepth 100000
set_option maxHeartbeats 40000000
set_option linter.all false
namespace WD
open PySem PySem.Spec PyProof.Rows L2
/-- operands_of(script, value) 138: slots 0=script 1=value 2=word 3=operands -/
def ir_p_operands_of : Fn := ⟨2, 4,
  (.cons (.set (.tup [(.slot 2), (.slot 3)]) (.ix (.ix (.var 0) (.int 0)) (.var 1)))
  (.cons (.ret (.ifx (.cmp .Eq (.var 2) (.str "in")) (.tup .nil) (.var 3)))
  .nil))⟩
/-- needed_for(script, values) 139: slots 0=script 1=values 2=needed 3=value 4=operand -/
def ir_p_needed_for : Fn := ⟨2, 5,
  (.cons (.set (.slot 2) (.new (.rep (.l (.disp (.cons (.bl false) .nil))) (.bif .len (.cons (.ix (.var 0) (.int 0)) .nil)))))
  (.cons (.fors (.slot 3) (.la (.e (.var 1)))
    (.cons (.sub (.var 2) (.var 3) (.bl true))
    .nil))
  (.cons (.fors (.slot 3) (.range3 (.bin .Sub (.bif .len (.cons (.ix (.var 0) (.int 0)) .nil)) (.int 1)) (.neg (.int 1)) (.neg (.int 1)))
    (.cons (.ifs (.ix (.var 2) (.var 3))
      (.cons (.fors (.slot 4) (.la (.e (.call 138 (.cons (.var 0) (.cons (.var 3) .nil)))))
        (.cons (.sub (.var 2) (.var 4) (.bl true))
        .nil))
      .nil)
      .nil)
    .nil))
  (.cons (.ret (.lif .tuple (.l (.comp [3] (.var 3) (.slot 3) (.range1 (.bif .len (.cons (.ix (.var 0) (.int 0)) .nil))) (.some (.ix (.var 2) (.var 3)))))))
  .nil))))⟩
/-- needed_values(script) 140: slots 0=script -/
def ir_p_needed_values : Fn := ⟨1, 1,
  (.cons (.ret (.call 139 (.cons (.var 0) (.cons (.ix (.var 0) (.int 2)) .nil))))
  .nil)⟩
/-- shortened_script(script) 141: slots 0=script 1=needed 2=places 3=at 4=values 5=value 6=weights 7=word 8=operands 9=out 10=operand -/
def ir_p_shortened_script : Fn := ⟨1, 11,
  (.cons (.set (.slot 1) (.call 140 (.cons (.var 0) .nil)))
  (.cons (.set (.slot 2) (.dic .nil))
  (.cons (.fors (.slot 3) (.range1 (.bif .len (.cons (.var 1) .nil)))
    (.cons (.sub (.var 2) (.ix (.var 1) (.var 3)) (.var 3))
    .nil))
  (.cons (.set (.slot 4) (.new (.disp .nil)))
  (.cons (.fors (.slot 5) (.la (.e (.var 1)))
    (.cons (.set (.tup [(.slot 7), (.slot 8)]) (.ix (.ix (.var 0) (.int 0)) (.var 5)))
    (.cons (.ifs (.cmp .NotEq (.var 7) (.str "in"))
      (.cons (.set (.slot 8) (.lif .tuple (.l (.comp [10] (.ix (.var 2) (.var 10)) (.slot 10) (.la (.e (.var 8))) .no))))
      .nil)
      .nil)
    (.cons (.expr (.mth .append (.var 4) (.cons (.tup (.cons (.var 7) (.cons (.var 8) .nil))) .nil)))
    .nil))))
  (.cons (.set (.slot 6) (.lif .tuple (.l (.comp [5] (.ix (.ix (.var 0) (.int 1)) (.var 5)) (.slot 5) (.la (.e (.var 1))) .no))))
  (.cons (.ret (.tup (.cons (.lif .tuple (.e (.var 4))) (.cons (.var 6) (.cons (.lif .tuple (.l (.comp [9] (.ix (.var 2) (.var 9)) (.slot 9) (.la (.e (.ix (.var 0) (.int 2)))) .no))) .nil)))))
  .nil)))))))⟩
/-- _law_spring(script) 1000: slots 0=script 1=water 2=k 3=cell -/
def ir_f_law_spring : Fn := ⟨1, 4,
  (.cons (.set (.slot 1) (.int 71023))
  (.cons (.fors (.tup [(.slot 2), (.slot 3)]) (.enum (.e (.var 0)))
    (.cons (.set (.slot 1) (.bin .Mod (.bin .Add (.bin .Add (.bin .Add (.bin .Mult (.var 1) (.int 7046029254386353)) (.bin .Mod (.bif .int (.cons (.var 3) .nil)) (.int 2305843009213693921))) (.bin .Mult (.int 5) (.var 2))) (.int 9)) (.int 2305843009213693921)))
    .nil))
  (.cons (.ret (.new (.disp (.cons (.var 1) (.cons (.int 0) .nil)))))
  .nil)))⟩
/-- _law_flow(spring, many) 1001: slots 0=spring 1=many -/
def ir_f_law_flow : Fn := ⟨2, 2,
  (.cons (.augS (.var 0) (.int 1) .Add (.int 1))
  (.cons (.sub (.var 0) (.int 0) (.bin .Mod (.bin .Add (.bin .Add (.bin .Mult (.bif .int (.cons (.ix (.var 0) (.int 0)) .nil)) (.int 2549297995355413924)) (.bin .Mult (.ix (.var 0) (.int 1)) (.int 48673))) (.int 6074001001)) (.int 2305843009213693921)))
  (.cons (.ret (.bin .Mod (.bin .FloorDiv (.bif .int (.cons (.ix (.var 0) (.int 0)) .nil)) (.int 524309)) (.var 1)))
  .nil)))⟩
/-- _law_letters(spring, k) 1002: slots 0=spring 1=k 2=manner -/
def ir_f_law_letters : Fn := ⟨2, 3,
  (.cons (.set (.slot 2) (.call 1001 (.cons (.var 0) (.cons (.int 3) .nil))))
  (.cons (.ifs (.cmp .Eq (.var 2) (.int 0))
    (.cons (.ret (.bin .Add (.str "m") (.bif .str (.cons (.var 1) .nil))))
    .nil)
    .nil)
  (.cons (.ifs (.cmp .Eq (.var 2) (.int 1))
    (.cons (.ret (.bin .Add (.str "guard") (.bif .str (.cons (.var 1) .nil))))
    .nil)
    .nil)
  (.cons (.ret (.bin .Add (.bin .Add (.str "v") (.bif .str (.cons (.bin .Add (.int 100000) (.var 1)) .nil))) (.str "e")))
  .nil))))⟩
/-- _law_work(spring) 1003: slots 0=spring 1=works -/
def ir_f_law_work : Fn := ⟨1, 2,
  (.cons (.set (.slot 1) (.tup (.cons (.tup (.cons (.str "p") (.cons (.int 1) .nil))) (.cons (.tup (.cons (.str "pp") (.cons (.int 2) .nil))) (.cons (.tup (.cons (.str "add") (.cons (.int 2) .nil))) (.cons (.tup (.cons (.str "repea") (.cons (.int 3) .nil))) (.cons (.tup (.cons (.str "mul") (.cons (.int 2) .nil))) (.cons (.tup (.cons (.str "u1234567") (.cons (.int 1) .nil))) (.cons (.tup (.cons (.str "sub") (.cons (.int 2) .nil))) (.cons (.tup (.cons (.str "w") (.cons (.int 3) .nil))) .nil))))))))))
  (.cons (.ret (.ix (.var 1) (.call 1001 (.cons (.var 0) (.cons (.bif .len (.cons (.var 1) .nil)) .nil)))))
  .nil))⟩
/-- _law_next(spring, values, parts, reach) 1004: slots 0=spring 1=values 2=parts 3=reach 4=k 5=low 6=picks 7=slot 8=total 9=fresh 10=word 11=many 12=at 13=value -/
def ir_f_law_next : Fn := ⟨4, 14,
  (.cons (.set (.slot 4) (.bif .len (.cons (.var 1) .nil)))
  (.cons (.set (.tup [(.slot 10), (.slot 11)]) (.call 1003 (.cons (.var 0) .nil)))
  (.cons (.set (.slot 5) (.bif .max2 (.cons (.int 0) (.cons (.bin .Sub (.var 4) (.var 3)) .nil))))
  (.cons (.set (.slot 6) (.new (.disp .nil)))
  (.cons (.fors (.slot 7) (.range1 (.var 11))
    (.cons (.ifs (.and (.cmp .Gt (.var 7) (.int 0)) (.cmp .Eq (.call 1001 (.cons (.var 0) (.cons (.int 6) .nil))) (.int 0)))
      (.cons (.expr (.mth .append (.var 6) (.cons (.ix (.var 6) (.int 0)) .nil)))
      .nil)
      (.cons (.expr (.mth .append (.var 6) (.cons (.bin .Add (.var 5) (.call 1001 (.cons (.var 0) (.cons (.bin .Sub (.var 4) (.var 5)) .nil)))) .nil)))
      .nil))
    .nil))
  (.cons (.set (.slot 8) (.bin .Add (.int 1) (.lif .sum (.l (.comp [12] (.ix (.var 2) (.var 12)) (.slot 12) (.la (.e (.var 6))) .no)))))
  (.cons (.set (.slot 9) (.cmp .Eq (.lif .len (.l (.comp [13] (.int 1) (.slot 13) (.la (.e (.var 1))) (.some (.and (.cmp .Eq (.ix (.var 13) (.int 0)) (.var 10)) (.cmp .Eq (.ix (.var 13) (.int 1)) (.lif .tuple (.e (.var 6))))))))) (.int 0)))
  (.cons (.ifs (.or (.cmp .Gt (.var 8) (.int 250)) (.not (.var 9)))
    (.cons (.ret (.tup (.cons (.tup (.cons (.str "in") (.cons (.call 1002 (.cons (.var 0) (.cons (.var 4) .nil))) .nil))) (.cons (.int 1) .nil))))
    .nil)
    .nil)
  (.cons (.ret (.tup (.cons (.tup (.cons (.var 10) (.cons (.lif .tuple (.e (.var 6))) .nil))) (.cons (.var 8) .nil))))
  .nil)))))))))⟩
/-- _law_grown(spring, many, dry, reach) 1005: slots 0=spring 1=many 2=dry 3=reach 4=values 5=parts 6=k 7=value 8=part -/
def ir_f_law_grown : Fn := ⟨4, 9,
  (.cons (.set (.slot 4) (.new (.disp (.cons (.tup (.cons (.str "in") (.cons (.call 1002 (.cons (.var 0) (.cons (.int 0) .nil))) .nil))) .nil))))
  (.cons (.set (.slot 5) (.new (.disp (.cons (.int 1) .nil))))
  (.cons (.fors (.slot 6) (.range2 (.int 1) (.var 1))
    (.cons (.set (.slot 7) (.tup (.cons (.str "in") (.cons (.call 1002 (.cons (.var 0) (.cons (.var 6) .nil))) .nil))))
    (.cons (.set (.slot 8) (.int 1))
    (.cons (.ifs (.cmp .GtE (.call 1001 (.cons (.var 0) (.cons (.int 10) .nil))) (.var 2))
      (.cons (.set (.tup [(.slot 7), (.slot 8)]) (.call 1004 (.cons (.var 0) (.cons (.var 4) (.cons (.var 5) (.cons (.var 3) .nil))))))
      .nil)
      .nil)
    (.cons (.expr (.mth .append (.var 4) (.cons (.var 7) .nil)))
    (.cons (.expr (.mth .append (.var 5) (.cons (.var 8) .nil)))
    .nil))))))
  (.cons (.ret (.var 4))
  .nil))))⟩
/-- _law_marks(values, wanted) 1006: slots 0=values 1=wanted 2=marks 3=number 4=back 5=value 6=at -/
def ir_f_law_marks : Fn := ⟨2, 7,
  (.cons (.set (.slot 2) (.new (.comp [5] (.bl false) (.slot 5) (.la (.e (.var 0))) .no)))
  (.cons (.fors (.slot 3) (.la (.e (.var 1)))
    (.cons (.sub (.var 2) (.var 3) (.bl true))
    .nil))
  (.cons (.fors (.slot 4) (.range1 (.bif .len (.cons (.var 0) .nil)))
    (.cons (.set (.slot 3) (.bin .Sub (.bin .Sub (.bif .len (.cons (.var 0) .nil)) (.int 1)) (.var 4)))
    (.cons (.ifs (.and (.ix (.var 2) (.var 3)) (.cmp .NotEq (.ix (.ix (.var 0) (.var 3)) (.int 0)) (.str "in")))
      (.cons (.fors (.slot 6) (.la (.e (.ix (.ix (.var 0) (.var 3)) (.int 1))))
        (.cons (.sub (.var 2) (.var 6) (.bl true))
        .nil))
      .nil)
      .nil)
    .nil)))
  (.cons (.ret (.new (.comp [3] (.var 3) (.slot 3) (.range1 (.bif .len (.cons (.var 0) .nil))) (.some (.ix (.var 2) (.var 3))))))
  .nil))))⟩
/-- _law_weighed(spring, values) 1007: slots 0=spring 1=values 2=value -/
def ir_f_law_weighed : Fn := ⟨2, 3,
  (.cons (.ifs (.cmp .Eq (.call 1001 (.cons (.var 0) (.cons (.int 2) .nil))) (.int 0))
    (.cons (.ret (.lif .tuple (.l (.comp [2] (.bin .Add (.int 1) (.bin .Mult (.int 98) (.call 1001 (.cons (.var 0) (.cons (.int 2) .nil))))) (.slot 2) (.la (.e (.var 1))) .no))))
    .nil)
    .nil)
  (.cons (.ret (.lif .tuple (.l (.comp [2] (.bin .Add (.int 1) (.call 1001 (.cons (.var 0) (.cons (.int 99) .nil)))) (.slot 2) (.la (.e (.var 1))) .no))))
  .nil))⟩
/-- _law_outs(spring, many, most) 1008: slots 0=spring 1=many 2=most 3=size 4=low 5=k -/
def ir_f_law_outs : Fn := ⟨3, 6,
  (.cons (.set (.slot 3) (.call 1001 (.cons (.var 0) (.cons (.bin .Add (.var 2) (.int 1)) .nil))))
  (.cons (.ifs (.and (.cmp .Gt (.var 2) (.int 5)) (.cmp .Eq (.call 1001 (.cons (.var 0) (.cons (.int 2) .nil))) (.int 0)))
    (.cons (.set (.slot 3) (.var 2))
    .nil)
    .nil)
  (.cons (.set (.slot 4) (.call 1001 (.cons (.var 0) (.cons (.var 1) .nil))))
  (.cons (.ifs (.cmp .Eq (.call 1001 (.cons (.var 0) (.cons (.int 2) .nil))) (.int 0))
    (.cons (.set (.slot 4) (.int 0))
    .nil)
    .nil)
  (.cons (.ret (.lif .tuple (.l (.comp [5] (.bin .Add (.var 4) (.call 1001 (.cons (.var 0) (.cons (.bin .Sub (.var 1) (.var 4)) .nil)))) (.slot 5) (.range1 (.var 3)) .no))))
  .nil)))))⟩
/-- _law_shorter(script) 1009: slots 0=script 1=kept 2=moved 3=k 4=values 5=number 6=weights 7=value 8=word 9=operands 10=at -/
def ir_f_law_shorter : Fn := ⟨1, 11,
  (.cons (.set (.slot 1) (.call 1006 (.cons (.ix (.var 0) (.int 0)) (.cons (.ix (.var 0) (.int 2)) .nil))))
  (.cons (.set (.slot 2) (.new (.comp [7] (.int 0) (.slot 7) (.la (.e (.ix (.var 0) (.int 0)))) .no)))
  (.cons (.fors (.slot 3) (.range1 (.bif .len (.cons (.var 1) .nil)))
    (.cons (.sub (.var 2) (.ix (.var 1) (.var 3)) (.var 3))
    .nil))
  (.cons (.set (.slot 4) (.new (.disp .nil)))
  (.cons (.fors (.slot 5) (.la (.e (.var 1)))
    (.cons (.set (.tup [(.slot 8), (.slot 9)]) (.ix (.ix (.var 0) (.int 0)) (.var 5)))
    (.cons (.ifs (.cmp .NotEq (.var 8) (.str "in"))
      (.cons (.set (.slot 9) (.lif .tuple (.l (.comp [10] (.ix (.var 2) (.var 10)) (.slot 10) (.la (.e (.var 9))) .no))))
      .nil)
      .nil)
    (.cons (.expr (.mth .append (.var 4) (.cons (.tup (.cons (.var 8) (.cons (.var 9) .nil))) .nil)))
    .nil))))
  (.cons (.set (.slot 6) (.lif .tuple (.l (.comp [5] (.ix (.ix (.var 0) (.int 1)) (.var 5)) (.slot 5) (.la (.e (.var 1))) .no))))
  (.cons (.ret (.tup (.cons (.lif .tuple (.e (.var 4))) (.cons (.var 6) (.cons (.lif .tuple (.l (.comp [10] (.ix (.var 2) (.var 10)) (.slot 10) (.la (.e (.ix (.var 0) (.int 2)))) .no))) .nil)))))
  .nil)))))))⟩
/-- _law_same(told, due) 1010: slots 0=told 1=due 2=k -/
def ir_f_law_same : Fn := ⟨2, 3,
  (.cons (.ifs (.bif (.isT "tuple") (.cons (.var 1) .nil))
    (.cons (.ifs (.or (.not (.bif (.isT "tuple") (.cons (.var 0) .nil))) (.cmp .NotEq (.bif .len (.cons (.var 0) .nil)) (.bif .len (.cons (.var 1) .nil))))
      (.cons (.ret (.bl false))
      .nil)
      .nil)
    (.cons (.fors (.slot 2) (.range1 (.bif .len (.cons (.var 1) .nil)))
      (.cons (.ifs (.not (.call 1010 (.cons (.ix (.var 0) (.var 2)) (.cons (.ix (.var 1) (.var 2)) .nil))))
        (.cons (.ret (.bl false))
        .nil)
        .nil)
      .nil))
    (.cons (.ret (.bl true))
    .nil)))
    .nil)
  (.cons (.ifs (.bif (.isT "str") (.cons (.var 1) .nil))
    (.cons (.ret (.and (.bif (.isT "str") (.cons (.var 0) .nil)) (.cmp .Eq (.var 0) (.var 1))))
    .nil)
    .nil)
  (.cons (.ret (.and (.bif (.isT "int") (.cons (.var 0) .nil)) (.and (.not (.bif (.isT "bool") (.cons (.var 0) .nil))) (.cmp .Eq (.var 0) (.var 1)))))
  .nil)))⟩
/-- _law_wanted(spring, many) 1011: slots 0=spring 1=many 2=rows 3=one 4=picks 5=k -/
def ir_f_law_wanted : Fn := ⟨2, 6,
  (.cons (.set (.slot 2) (.new (.disp (.cons (.tup .nil) (.cons (.tupR .no (.some (.var 1))) .nil)))))
  (.cons (.ifs (.cmp .Gt (.var 1) (.int 0))
    (.cons (.set (.slot 3) (.call 1001 (.cons (.var 0) (.cons (.var 1) .nil))))
    (.cons (.expr (.mth .append (.var 2) (.cons (.tup (.cons (.var 3) .nil)) .nil)))
    (.cons (.expr (.mth .append (.var 2) (.cons (.tup (.cons (.bin .Sub (.var 1) (.int 1)) (.cons (.bin .FloorDiv (.var 1) (.int 2)) (.cons (.bin .Sub (.var 1) (.int 1)) .nil)))) .nil)))
    (.cons (.set (.slot 4) (.new (.comp [5] (.call 1001 (.cons (.var 0) (.cons (.var 1) .nil))) (.slot 5) (.range1 (.bin .Add (.int 1) (.call 1001 (.cons (.var 0) (.cons (.int 5) .nil))))) .no)))
    (.cons (.expr (.mth .append (.var 2) (.cons (.lif .tuple (.e (.var 4))) .nil)))
    (.cons (.expr (.mth .append (.var 2) (.cons (.bin .Add (.lif .tuple (.l (.comp [5] (.var 3) (.slot 5) (.range1 (.int 2)) .no))) (.lif .tuple (.l (.sort (.e (.var 4)))))) .nil)))
    .nil))))))
    .nil)
  (.cons (.ret (.var 2))
  .nil)))⟩
/-- _law_held(spring, script) 1012: slots 0=spring 1=script 2=due 3=shorter 4=wanted 5=known -/
def ir_f_law_held : Fn := ⟨2, 6,
  (.cons (.set (.slot 2) (.lif .tuple (.e (.call 1006 (.cons (.ix (.var 1) (.int 0)) (.cons (.ix (.var 1) (.int 2)) .nil))))))
  (.cons (.set (.slot 3) (.call 1009 (.cons (.var 1) .nil)))
  (.cons (.ifs (.and (.cmp .Eq (.call 1001 (.cons (.var 0) (.cons (.int 2) .nil))) (.int 0)) (.not (.call 1010 (.cons (.call 141 (.cons (.var 1) .nil)) (.cons (.var 3) .nil)))))
    (.cons (.ret (.bl false))
    .nil)
    .nil)
  (.cons (.ifs (.not (.call 1010 (.cons (.call 140 (.cons (.var 1) .nil)) (.cons (.var 2) .nil))))
    (.cons (.ret (.bl false))
    .nil)
    .nil)
  (.cons (.fors (.slot 4) (.la (.e (.call 1011 (.cons (.var 0) (.cons (.bif .len (.cons (.ix (.var 1) (.int 0)) .nil)) .nil)))))
    (.cons (.set (.slot 5) (.lif .tuple (.e (.call 1006 (.cons (.ix (.var 1) (.int 0)) (.cons (.var 4) .nil))))))
    (.cons (.ifs (.not (.call 1010 (.cons (.call 139 (.cons (.var 1) (.cons (.var 4) .nil))) (.cons (.var 5) .nil))))
      (.cons (.ret (.bl false))
      .nil)
      .nil)
    .nil)))
  (.cons (.ret (.call 1010 (.cons (.call 141 (.cons (.var 1) .nil)) (.cons (.var 3) .nil))))
  .nil))))))⟩
/-- _law_typed(spring) 1013: slots 0=spring 1=values 2=outs -/
def ir_f_law_typed : Fn := ⟨1, 3,
  (.cons (.set (.slot 1) (.new (.disp (.cons (.tup (.cons (.str "in") (.cons (.str "a") .nil))) (.cons (.tup (.cons (.str "in") (.cons (.str "needless") .nil))) (.cons (.tup (.cons (.str "p") (.cons (.tup (.cons (.int 0) .nil)) .nil))) (.cons (.tup (.cons (.str "p") (.cons (.tup (.cons (.int 2) .nil)) .nil))) (.cons (.tup (.cons (.str "pp") (.cons (.tup (.cons (.int 2) (.cons (.int 1) .nil))) .nil))) (.cons (.tup (.cons (.str "in") (.cons (.str "b") .nil))) (.cons (.tup (.cons (.str "w") (.cons (.tup (.cons (.int 5) (.cons (.int 2) (.cons (.int 5) .nil)))) .nil))) .nil))))))))))
  (.cons (.expr (.ext (.var 1) (.l (.disp (.cons (.tup (.cons (.str "add") (.cons (.tup (.cons (.int 6) (.cons (.int 6) .nil))) .nil))) (.cons (.tup (.cons (.str "p") (.cons (.tup (.cons (.int 7) .nil)) .nil))) (.cons (.tup (.cons (.str "sub") (.cons (.tup (.cons (.int 2) (.cons (.int 0) .nil))) .nil))) .nil)))))))
  (.cons (.set (.slot 2) (.tup (.cons (.tup (.cons (.int 6) .nil)) (.cons (.tup (.cons (.int 6) (.cons (.int 2) (.cons (.int 6) .nil)))) (.cons (.tup (.cons (.int 9) (.cons (.int 6) .nil))) (.cons (.tup (.cons (.int 8) .nil)) (.cons (.tup (.cons (.int 2) .nil)) (.cons (.tup (.cons (.int 5) (.cons (.int 0) (.cons (.int 9) .nil)))) .nil))))))))
  (.cons (.ret (.tup (.cons (.lif .tuple (.e (.var 1))) (.cons (.call 1007 (.cons (.var 0) (.cons (.var 1) .nil))) (.cons (.ix (.var 2) (.call 1001 (.cons (.var 0) (.cons (.bif .len (.cons (.var 2) .nil)) .nil)))) .nil)))))
  .nil))))⟩
/-- _law_ended(spring, values) 1014: slots 0=spring 1=values 2=used 3=ends 4=word 5=operands 6=k 7=at -/
def ir_f_law_ended : Fn := ⟨2, 8,
  (.cons (.set (.slot 2) (.new (.disp .nil)))
  (.cons (.fors (.tup [(.slot 4), (.slot 5)]) (.la (.e (.var 1)))
    (.cons (.ifs (.cmp .NotEq (.var 4) (.str "in"))
      (.cons (.expr (.ext (.var 2) (.l (.comp [7] (.var 7) (.slot 7) (.la (.e (.var 5))) .no))))
      .nil)
      .nil)
    .nil))
  (.cons (.set (.slot 3) (.new (.comp [6] (.var 6) (.slot 6) (.range1 (.bif .len (.cons (.var 1) .nil))) (.some (.cmp .NotIn (.var 6) (.var 2))))))
  (.cons (.ifs (.cmp .Eq (.call 1001 (.cons (.var 0) (.cons (.int 2) .nil))) (.int 0))
    (.cons (.set (.slot 3) (.new (.comp [6] (.ix (.var 3) (.bin .Sub (.bin .Sub (.bif .len (.cons (.var 3) .nil)) (.int 1)) (.var 6))) (.slot 6) (.range1 (.bif .len (.cons (.var 3) .nil))) .no)))
    .nil)
    .nil)
  (.cons (.ret (.tup (.cons (.lif .tuple (.e (.var 1))) (.cons (.call 1007 (.cons (.var 0) (.cons (.var 1) .nil))) (.cons (.lif .tuple (.e (.var 3))) .nil)))))
  .nil)))))⟩
/-- law(script) 1015: slots 0=script 1=spring 2=typed 3=opening 4=scripts 5=twin 6=dry 7=full 8=k 9=one 10=reach 11=values 12=large -/
def ir_p_law : Fn := ⟨1, 13,
  (.cons (.set (.slot 1) (.call 1000 (.cons (.var 0) .nil)))
  (.cons (.set (.slot 2) (.call 1013 (.cons (.var 1) .nil)))
  (.cons (.set (.slot 3) (.call 1009 (.cons (.var 2) .nil)))
  (.cons (.ifs (.not (.call 1010 (.cons (.call 141 (.cons (.var 2) .nil)) (.cons (.var 3) .nil))))
    (.cons (.ret (.bl false))
    .nil)
    .nil)
  (.cons (.set (.slot 4) (.new (.disp (.cons (.tup (.cons (.tup .nil) (.cons (.tup .nil) (.cons (.tup .nil) .nil)))) (.cons (.var 2) .nil)))))
  (.cons (.set (.slot 5) (.tup (.cons (.ix (.var 2) (.int 0)) (.cons (.ix (.var 2) (.int 1)) (.cons (.bin .Add (.tup (.cons (.int 4) .nil)) (.ix (.var 2) (.int 2))) .nil)))))
  (.cons (.expr (.mth .append (.var 4) (.cons (.var 5) .nil)))
  (.cons (.set (.slot 6) (.call 1005 (.cons (.var 1) (.cons (.bin .Add (.int 1) (.call 1001 (.cons (.var 1) (.cons (.int 8) .nil)))) (.cons (.int 5) (.cons (.int 8) .nil))))))
  (.cons (.expr (.mth .append (.var 4) (.cons (.tup (.cons (.lif .tuple (.e (.var 6))) (.cons (.call 1007 (.cons (.var 1) (.cons (.var 6) .nil))) (.cons (.tup .nil) .nil)))) .nil)))
  (.cons (.set (.slot 7) (.call 1005 (.cons (.var 1) (.cons (.bin .Add (.int 2) (.call 1001 (.cons (.var 1) (.cons (.int 9) .nil)))) (.cons (.call 1001 (.cons (.var 1) (.cons (.int 6) .nil))) (.cons (.int 3) .nil))))))
  (.cons (.expr (.mth .append (.var 4) (.cons (.call 1014 (.cons (.var 1) (.cons (.var 7) .nil))) .nil)))
  (.cons (.fors (.slot 8) (.range1 (.int 3))
    (.cons (.set (.slot 10) (.bin .Add (.int 3) (.bin .Mult (.int 9) (.call 1001 (.cons (.var 1) (.cons (.int 2) .nil))))))
    (.cons (.set (.slot 11) (.call 1005 (.cons (.var 1) (.cons (.bin .Add (.int 2) (.call 1001 (.cons (.var 1) (.cons (.int 11) .nil)))) (.cons (.call 1001 (.cons (.var 1) (.cons (.int 7) .nil))) (.cons (.var 10) .nil))))))
    (.cons (.expr (.mth .append (.var 4) (.cons (.tup (.cons (.lif .tuple (.e (.var 11))) (.cons (.call 1007 (.cons (.var 1) (.cons (.var 11) .nil))) (.cons (.call 1008 (.cons (.var 1) (.cons (.bif .len (.cons (.var 11) .nil)) (.cons (.int 4) .nil)))) .nil)))) .nil)))
    .nil))))
  (.cons (.ifs (.cmp .Eq (.call 1001 (.cons (.var 1) (.cons (.int 7) .nil))) (.int 5))
    (.cons (.set (.slot 12) (.bin .Sub (.int 100) (.bin .Mult (.call 1001 (.cons (.var 1) (.cons (.int 2) .nil))) (.call 1001 (.cons (.var 1) (.cons (.int 30) .nil))))))
    (.cons (.set (.slot 11) (.call 1005 (.cons (.var 1) (.cons (.var 12) (.cons (.int 2) (.cons (.bin .Add (.int 5) (.bin .Mult (.int 45) (.call 1001 (.cons (.var 1) (.cons (.int 2) .nil))))) .nil))))))
    (.cons (.ifs (.cmp .Eq (.call 1001 (.cons (.var 1) (.cons (.int 2) .nil))) (.int 0))
      (.cons (.set (.slot 11) (.new (.cat (.l (.disp (.cons (.tup (.cons (.str "in") (.cons (.str "a") .nil))) .nil))) (.l (.comp [8] (.tup (.cons (.str "p") (.cons (.tup (.cons (.var 8) .nil)) .nil))) (.slot 8) (.range1 (.bin .Sub (.var 12) (.int 1))) .no)))))
      .nil)
      .nil)
    (.cons (.expr (.mth .append (.var 4) (.cons (.tup (.cons (.lif .tuple (.e (.var 11))) (.cons (.call 1007 (.cons (.var 1) (.cons (.var 11) .nil))) (.cons (.call 1008 (.cons (.var 1) (.cons (.var 12) (.cons (.int 40) .nil)))) .nil)))) .nil)))
    .nil))))
    .nil)
  (.cons (.fors (.slot 9) (.la (.e (.var 4)))
    (.cons (.ifs (.not (.call 1012 (.cons (.var 1) (.cons (.var 9) .nil))))
      (.cons (.ret (.bl false))
      .nil)
      .nil)
    .nil))
  (.cons (.ret (.call 1010 (.cons (.call 141 (.cons (.var 2) .nil)) (.cons (.var 3) .nil))))
  .nil)))))))))))))))⟩
abbrev fr : List PySem.Str := ["len", "int", "str", "abs", "bool", "min", "max", "tuple", "list", "sum", "all", "any", "range", "enumerate", "isinstance", "zip", "reversed", "sorted", "dict", "set", "type", "print", "ValueError"]
abbrev kw : List KwS := []
abbrev me : MEn := ⟨fr, kw, [], []⟩
def top (i : Nat) : PySem.Stmt := PySem.Challenge.pw_whateverdrops_k11_needs_shortened.main.body.getD i (.Pass ⟨0, 0, 0, 0⟩)
def de_p_operands_of : DE := ⟨"operands_of", top 1, ["script", "value", "word", "operands"], ["script", "value"], ir_p_operands_of⟩
def de_p_needed_for : DE := ⟨"needed_for", top 2, ["script", "values", "needed", "value", "operand"], ["script", "values"], ir_p_needed_for⟩
def de_p_needed_values : DE := ⟨"needed_values", top 3, ["script"], ["script"], ir_p_needed_values⟩
def de_p_shortened_script : DE := ⟨"shortened_script", top 4, ["script", "needed", "places", "at", "values", "value", "weights", "word", "operands", "out", "operand"], ["script"], ir_p_shortened_script⟩
def de_f_law_spring : DE := ⟨"_law_spring", top 6, ["script", "water", "k", "cell"], ["script"], ir_f_law_spring⟩
def de_f_law_flow : DE := ⟨"_law_flow", top 7, ["spring", "many"], ["spring", "many"], ir_f_law_flow⟩
def de_f_law_letters : DE := ⟨"_law_letters", top 8, ["spring", "k", "manner"], ["spring", "k"], ir_f_law_letters⟩
def de_f_law_work : DE := ⟨"_law_work", top 9, ["spring", "works"], ["spring"], ir_f_law_work⟩
def de_f_law_next : DE := ⟨"_law_next", top 10, ["spring", "values", "parts", "reach", "k", "low", "picks", "slot", "total", "fresh", "word", "many", "at", "value"], ["spring", "values", "parts", "reach"], ir_f_law_next⟩
def de_f_law_grown : DE := ⟨"_law_grown", top 11, ["spring", "many", "dry", "reach", "values", "parts", "k", "value", "part"], ["spring", "many", "dry", "reach"], ir_f_law_grown⟩
def de_f_law_marks : DE := ⟨"_law_marks", top 12, ["values", "wanted", "marks", "number", "back", "value", "at"], ["values", "wanted"], ir_f_law_marks⟩
def de_f_law_weighed : DE := ⟨"_law_weighed", top 13, ["spring", "values", "value"], ["spring", "values"], ir_f_law_weighed⟩
def de_f_law_outs : DE := ⟨"_law_outs", top 14, ["spring", "many", "most", "size", "low", "k"], ["spring", "many", "most"], ir_f_law_outs⟩
def de_f_law_shorter : DE := ⟨"_law_shorter", top 15, ["script", "kept", "moved", "k", "values", "number", "weights", "value", "word", "operands", "at"], ["script"], ir_f_law_shorter⟩
def de_f_law_same : DE := ⟨"_law_same", top 16, ["told", "due", "k"], ["told", "due"], ir_f_law_same⟩
def de_f_law_wanted : DE := ⟨"_law_wanted", top 17, ["spring", "many", "rows", "one", "picks", "k"], ["spring", "many"], ir_f_law_wanted⟩
def de_f_law_held : DE := ⟨"_law_held", top 18, ["spring", "script", "due", "shorter", "wanted", "known"], ["spring", "script"], ir_f_law_held⟩
def de_f_law_typed : DE := ⟨"_law_typed", top 19, ["spring", "values", "outs"], ["spring"], ir_f_law_typed⟩
def de_f_law_ended : DE := ⟨"_law_ended", top 20, ["spring", "values", "used", "ends", "word", "operands", "k", "at"], ["spring", "values"], ir_f_law_ended⟩
def de_p_law : DE := ⟨"law", top 21, ["script", "spring", "typed", "opening", "scripts", "twin", "dry", "full", "k", "one", "reach", "values", "large"], ["script"], ir_p_law⟩
def ds : List (Nat × DE) := [(138, de_p_operands_of), (139, de_p_needed_for), (140, de_p_needed_values), (141, de_p_shortened_script), (1000, de_f_law_spring), (1001, de_f_law_flow), (1002, de_f_law_letters), (1003, de_f_law_work), (1004, de_f_law_next), (1005, de_f_law_grown), (1006, de_f_law_marks), (1007, de_f_law_weighed), (1008, de_f_law_outs), (1009, de_f_law_shorter), (1010, de_f_law_same), (1011, de_f_law_wanted), (1012, de_f_law_held), (1013, de_f_law_typed), (1014, de_f_law_ended), (1015, de_p_law)]
abbrev T11 : Tab := tabOf ds
end WD
end
section
set_option Elab.async false
set_option linter.all false
set_option maxRecDepth 100000
set_option autoImplicit false
set_option maxHeartbeats 8000000
set_option pp.maxSteps 600
namespace WD
open PySem PySem.Spec PyProof.Rows L2
/-! ### values, marks -/
inductive Vl where
  | inp (s : Str)
  | wk (w : Str) (o : List Nat)
def Vl.enc : Vl → PV
  | .inp s => .tup [.str "in", .str s]
  | .wk w o => .tup [.str w, .tup (o.map ni)]
def Vl.ops : Vl → List Nat
  | .inp _ => []
  | .wk _ o => o
def VA (i : Nat) : Vl → Prop
  | .inp _ => True
  | .wk w o => w ≠ ("in" : Str) ∧ 1 ≤ o.length ∧ o.length ≤ 3 ∧ ∀ x, x ∈ o → x < i
def VAs (vs : List Vl) : Prop := ∀ (i : Nat) (v : Vl), vs[i]? = some v → VA i v
theorem VA.ops {i : Nat} {v : Vl} (h : VA i v) : ∀ x, x ∈ v.ops → x < i := by
  cases v with
  | inp s => simp [Vl.ops]
  | wk w o => exact h.2.2.2
def opsAt (vs : List Vl) (i : Nat) : List Nat := match vs[i]? with
  | some v => v.ops
  | none => []
theorem opsAt_eq {vs : List Vl} {i : Nat} {v : Vl} (h : vs[i]? = some v) : opsAt vs i = v.ops := by unfold opsAt; rw [h]
def mark (m : List Bool) (xs : List Nat) : List Bool := xs.foldl (fun m o => m.set o true) m
theorem mark_snoc (m : List Bool) (xs : List Nat) (y : Nat) : mark m (xs ++ [y]) = (mark m xs).set y true := by
  unfold mark
  rw [List.foldl_append]
  rfl
theorem mark_len (xs : List Nat) : ∀ m : List Bool, (mark m xs).length = m.length := by
  induction xs with
  | nil => intro m; rfl
  | cons a r ih => intro m; show (mark (m.set a true) r).length = _; rw [ih]; simp
theorem getD_set {m : List Bool} {a j : Nat} : (m.set a true).getD j false = if a = j ∧ a < m.length then true else m.getD j false := by
  rw [List.getD_eq_getElem?_getD, List.getD_eq_getElem?_getD, List.getElem?_set]
  by_cases h : a = j
  · subst h
    by_cases h2 : a < m.length
    · rw [if_pos rfl, if_pos h2, if_pos ⟨rfl, h2⟩]; rfl
    · rw [if_pos rfl, if_neg h2, if_neg (fun z => h2 z.2), List.getElem?_eq_none (by omega)]
  · rw [if_neg h, if_neg (fun z => h z.1)]
theorem mark_get (xs : List Nat) : ∀ (m : List Bool) (j : Nat), j < m.length → ((mark m xs).getD j false = true ↔ m.getD j false = true ∨ j ∈ xs) := by
  induction xs with
  | nil => intro m j hj; simp [mark]
  | cons a r ih =>
    intro m j hj
    show (mark (m.set a true) r).getD j false = true ↔ _
    rw [ih _ j (by simpa using hj), getD_set]
    by_cases h : a = j
    · subst h
      rw [if_pos ⟨rfl, hj⟩]
      simp
    · rw [if_neg (fun z => h z.1)]
      simp [Ne.symm h]
/-- from the k-th down -/
def down (vs : List Vl) : Nat → List Bool → List Bool
  | 0, m => m
  | k + 1, m => down vs k (if m.getD k false = true then mark m (opsAt vs k) else m)
theorem down_len (vs : List Vl) : ∀ (k : Nat) (m : List Bool), (down vs k m).length = m.length
  | 0, m => rfl
  | k + 1, m => by
    show (down vs k _).length = _
    rw [down_len]
    split
    · exact mark_len _ _
    · rfl
theorem down_up (vs : List Vl) {j : Nat} : ∀ (k : Nat) (m : List Bool), j < m.length → m.getD j false = true → (down vs k m).getD j false = true
  | 0, m, _, h => h
  | k + 1, m, hj, h => by
    refine down_up vs k _ ?_ ?_
    · split
      · rw [mark_len]; exact hj
      · exact hj
    · split
      · exact (mark_get _ m j hj).mpr (.inl h)
      · exact h
theorem down_hi {vs : List Vl} (hv : VAs vs) {j : Nat} : ∀ (k : Nat) (m : List Bool), k ≤ j → j < m.length → (down vs k m).getD j false = m.getD j false
  | 0, m, _, _ => rfl
  | k + 1, m, hk, hj => by
    show (down vs k _).getD j false = _
    have hl : (if m.getD k false = true then mark m (opsAt vs k) else m).length = m.length := by
      split
      · exact mark_len _ _
      · rfl
    rw [down_hi hv k _ (by omega) (by rw [hl]; exact hj)]
    split
    · have h1 := mark_get (opsAt vs k) m j hj
      have h2 : j ∉ opsAt vs k := by
        intro hm
        unfold opsAt at hm
        split at hm
        · rename_i v hvk
          have := (hv k v hvk).ops j hm
          omega
        · simp at hm
      cases e : m.getD j false with
      | true => exact h1.mpr (.inl e)
      | false =>
        cases e2 : (mark m (opsAt vs k)).getD j false with
        | false => rfl
        | true =>
          rcases h1.mp e2 with h3 | h3
          · rw [e] at h3; cases h3
          · exact absurd h3 h2
    · rfl
/-- what is marked at the end has its parts marked -/
theorem down_closed {vs : List Vl} (hv : VAs vs) : ∀ (k : Nat) (m : List Bool), m.length = vs.length → k ≤ vs.length → (∀ i, k ≤ i → m.getD i false = true → ∀ x, x ∈ opsAt vs i → m.getD x false = true) →
    ∀ i, (down vs k m).getD i false = true → ∀ x, x ∈ opsAt vs i → (down vs k m).getD x false = true
  | 0, m, _, _, hc, i, hi, x, hx => hc i (Nat.zero_le _) hi x hx
  | k + 1, m, hl, hk, hc, i, hi, x, hx => by
    have hlen : (if m.getD k false = true then mark m (opsAt vs k) else m).length = m.length := by
      split
      · exact mark_len _ _
      · rfl
    refine down_closed hv k _ (by rw [hlen]; exact hl) (by omega) ?_ i hi x hx
    intro i hki hmi x hx
    have xlt : ∀ i x, x ∈ opsAt vs i → x < i ∧ i < vs.length := by
      intro i x hx
      unfold opsAt at hx
      split at hx
      · rename_i v hvi
        exact ⟨(hv i v hvi).ops x hx, get_lt hvi⟩
      · simp at hx
    have xb := xlt i x hx
    split at hmi
    · rename_i ck
      rw [if_pos ck]
      refine (mark_get _ m x (by omega)).mpr ?_
      by_cases e : i = k
      · subst e
        exact .inr hx
      · have hmi' := (mark_get _ m i (by omega)).mp hmi
        rcases hmi' with h | h
        · exact .inl (hc i (by omega) h x hx)
        · have := xlt k i h
          omega
    · rename_i ck
      rw [if_neg ck]
      by_cases e : i = k
      · subst e
        exact absurd hmi ck
      · exact hc i (by omega) hmi x hx
def keep (n : Nat) (m : List Bool) : List Nat := (List.range n).filter fun i => m.getD i false
def needF (vs : List Vl) (wanted : List Nat) : List Nat := keep vs.length (down vs vs.length (mark (List.replicate vs.length false) wanted))
theorem keep_mem {n : Nat} {m : List Bool} {i : Nat} : i ∈ keep n m ↔ i < n ∧ m.getD i false = true := by simp [keep, List.mem_filter]
theorem keep_nodup {n : Nat} {m : List Bool} : (keep n m).Nodup := List.Pairwise.filter _ List.nodup_range
theorem need_want {vs : List Vl} {wanted : List Nat} {j : Nat} (h : j ∈ wanted) (hj : j < vs.length) : j ∈ needF vs wanted := by
  refine keep_mem.mpr ⟨hj, down_up vs _ _ (by rw [mark_len]; simpa using hj) ?_⟩
  exact (mark_get _ _ j (by simpa using hj)).mpr (.inr h)
theorem need_closed {vs : List Vl} (hv : VAs vs) {wanted : List Nat} {i : Nat} (h : i ∈ needF vs wanted) : ∀ x, x ∈ opsAt vs i → x ∈ needF vs wanted := by
  intro x hx
  obtain ⟨h1, h2⟩ := keep_mem.mp h
  have xb : x < vs.length := by
    unfold opsAt at hx
    split at hx
    · rename_i v hvi
      have := (hv i v hvi).ops x hx
      omega
    · simp at hx
  refine keep_mem.mpr ⟨xb, down_closed hv _ _ (by rw [mark_len]; simp) (Nat.le_refl _) ?_ i h2 x hx⟩
  intro i hi hm
  rw [List.getD_eq_getElem?_getD, List.getElem?_eq_none (by rw [mark_len]; simpa using hi)] at hm
  cases hm
theorem need_lt {vs : List Vl} {wanted : List Nat} {i : Nat} (h : i ∈ needF vs wanted) : i < vs.length := (keep_mem.mp h).1
theorem need_nodup {vs : List Vl} {wanted : List Nat} : (needF vs wanted).Nodup := keep_nodup
theorem need_len {vs : List Vl} {wanted : List Nat} : (needF vs wanted).length ≤ vs.length := by
  have := List.length_filter_le (fun i => (down vs vs.length (mark (List.replicate vs.length false) wanted)).getD i false) (List.range vs.length)
  rw [List.length_range] at this
  exact this
theorem keep_snoc (n i : Nat) (m : List Bool) : keep (i + 1) m = keep i m ++ (if m.getD i false = true then [i] else []) := by
  unfold keep
  rw [List.range_succ, List.filter_append]
  congr 1
  by_cases c : m.getD i false = true
  · rw [if_pos c, List.filter_cons_of_pos (p := fun i => m.getD i false) c]; rfl
  · rw [if_neg c, List.filter_cons_of_neg (p := fun i => m.getD i false) c]; rfl
/-! ### shorter -/
def pos (kept : List Nat) (j : Nat) : Nat := kept.idxOf j
def Vl.mv (f : Nat → Nat) : Vl → Vl
  | .inp s => .inp s
  | .wk w o => .wk w (o.map f)
def scr (vs : List Vl) (W : List Int) (outs : List Nat) : PV := .tup [.tup (vs.map Vl.enc), .tup (W.map .int), .tup (outs.map ni)]
def vAt (vs : List Vl) (i : Nat) : Vl := vs.getD i (.inp "")
def shortF (vs : List Vl) (W : List Int) (os : List Nat) : PV :=
  scr ((needF vs os).map fun i => (vAt vs i).mv (pos (needF vs os))) ((needF vs os).map fun i => W.getD i 0) (os.map (pos (needF vs os)))
/-- a script that may be asked about -/
structure SOk (vs : List Vl) (W : List Int) (os : List Nat) : Prop where
  vl : vs.length ≤ 1000
  wl : W.length = vs.length
  va : VAs vs
  ol : os.length ≤ 1000
  om : ∀ o, o ∈ os → o < vs.length
theorem vAt_get {vs : List Vl} {i : Nat} (h : i < vs.length) : vs[i]? = some (vAt vs i) := getD_at h
end WD
end
section
set_option Elab.async false
set_option linter.all false
set_option maxRecDepth 100000
set_option autoImplicit false
set_option maxHeartbeats 8000000
set_option pp.maxSteps 600
namespace WD
open PySem PySem.Spec PyProof.Rows L2
/-! ### the package's defs -/
theorem operands_ok {n i : Nat} {vs : List Vl} {W : List Int} {outs : List Nat} {h : PH} {q : QV} {x : QX} (hw : VAs vs) (hi : i < vs.length) (k : q (.tup ((opsAt vs i).map ni)) h) : den T11 (n + 1) 138 [scr vs W outs, ni i] h q x := by
  have hv := vAt_get hi
  have hok := hw i _ hv
  rw [opsAt_eq hv] at k
  refine den_call (F := ir_p_operands_of) (by rfl) rfl ?_
  refine ⟨_, rfl, _, _, _, _, rfl, rfl, rfl, rfl, _, rfl, _, _, _, _, rfl, rfl, ixP_nat (by simpa using hi), mp_get hv, ?_⟩
  revert hok k
  cases vAt vs i with
  | inp s =>
    intro k hok
    refine ⟨_, rfl, _, _, rfl, _, _, rfl, rfl, _, rfl, .inl ⟨rfl, ?_⟩⟩
    exact ite_t (by decide +kernel) ⟨Nat.zero_le _, k⟩
  | wk w o =>
    intro k hok
    refine ⟨_, rfl, _, _, rfl, _, _, rfl, rfl, _, rfl, .inl ⟨rfl, ?_⟩⟩
    exact ite_f (strNe hok.1) ⟨_, rfl, k⟩
theorem rep_bl (a : PV) (k : Nat) : (List.replicate k [a]).flatten = List.replicate k a := by
  induction k with
  | zero => rfl
  | succ k ih => rw [List.replicate_succ, List.flatten_cons, ih, List.replicate_succ]; rfl
theorem bl_set {m : List Bool} {i : Nat} : (m.map PV.bl).set i (.bl true) = (m.set i true).map .bl := by rw [List.map_set]
theorem needed_for_ok {n : Nat} {vs : List Vl} {W : List Int} {outs wanted : List Nat} {h : PH} {q : QV} {x : QX} (hw : VAs vs) (hl : vs.length ≤ 1000) (hm : ∀ o, o ∈ wanted → o < vs.length)
    (k : ∀ h', Fr [] h h' → q (.tup ((needF vs wanted).map ni)) h') : den T11 (n + 2) 139 [scr vs W outs, .tup (wanted.map ni)] h q x := by
  refine den_call (F := ir_p_needed_for) (by rfl) rfl ?_
  have vl : (vs.map Vl.enc).length = vs.length := List.length_map ..
  refine ⟨Nat.le_of_ble_eq_true rfl, _, rfl, _, _, _, _, rfl, rfl, rfl, rfl, _, _, rfl, rfl, _, _, rfl, rfl, by omega, by omega, sz (by simp; omega), ?_⟩
  rw [vl, toNat_nat]
  have er : (List.replicate vs.length [PV.bl false]).flatten = (List.replicate vs.length false).map .bl := by rw [rep_bl]; simp
  rw [er]
  have e0 : (h ++ [PO.lst ((List.replicate vs.length false).map .bl)])[h.length]? = some (.lst ((List.replicate vs.length false).map .bl)) := at_new
  refine ⟨_, rfl, .inl ⟨_, rfl, ?_⟩⟩
  refine for_inv (fun i ς h' => (∃ a b, ς = [some (scr vs W outs), some (.tup (wanted.map ni)), some (.loc h.length), a, b]) ∧ h'[h.length]? = some (.lst ((mark (List.replicate vs.length false) (wanted.take i)).map .bl)) ∧ Fr [] h h') ⟨⟨_, _, rfl⟩, e0, Fr.app⟩ (fun _ _ _ _ => rfl) ?_ ?_
  · rintro i y ς h1 kk hy ⟨⟨a, b, rfl⟩, e1, f1⟩ hkk
    obtain ⟨o, ho, rfl⟩ := mp_inv hy
    have := hm o (List.mem_of_getElem? ho)
    refine ⟨_, rfl, _, rfl, _, _, rfl, e1, _, _, rfl, ixP_nat (by simp [mark_len]; omega), hkk _ _ ⟨⟨_, _, rfl⟩, ?_, f1.new (.inl (Nat.le_refl _))⟩⟩
    rw [at_set e1, bl_set, take_at ho, mark_snoc]
  · rintro ς h1 ⟨⟨a, b, rfl⟩, e1, f1⟩
    rw [List.length_map, List.take_length] at e1
    have ml : (mark (List.replicate vs.length false) wanted).length = vs.length := by rw [mark_len]; simp
    refine ⟨_, rfl, _, _, _, _, rfl, rfl, rfl, rfl, _, _, rfl, rfl, _, rfl, _, rfl, ((vs.map Vl.enc).length : Int) - 1, -1, -1, vs.length, rfl, rfl, rfl, ?_, ?_⟩
    · rw [vl]
      have := RgC.neg (i := (vs.length : Int) - 1) (j := -1) (by omega) (by omega) (by omega) (by omega)
      rw [show ((vs.length : Int) - 1 - -1).toNat = vs.length by omega] at this
      exact this
    refine for_inv (fun i ς h' => (∃ a b, ς = [some (scr vs W outs), some (.tup (wanted.map ni)), some (.loc h.length), a, b]) ∧ (∃ m : List Bool, h'[h.length]? = some (.lst (m.map .bl)) ∧ m.length = vs.length ∧ down vs (vs.length - i) m = down vs vs.length (mark (List.replicate vs.length false) wanted)) ∧ Fr [] h h')
      ⟨⟨_, _, rfl⟩, ⟨_, e1, ml, rfl⟩, f1⟩ (fun _ _ _ _ => trivial) ?_ ?_
    · rintro i y ς h2 kk hy ⟨⟨a, b, rfl⟩, ⟨m, e2, ml2, dn⟩, f2⟩ hkk
      obtain ⟨hi, rfl⟩ := rangeC_get hy
      have ey : ((vs.map Vl.enc).length : Int) - 1 + (i : Int) * -1 = ((vs.length - 1 - i : Nat) : Int) := by rw [vl]; omega
      rw [ey]
      have hj : vs.length - 1 - i < vs.length := by omega
      have gm : (m.map PV.bl)[vs.length - 1 - i]? = some (.bl (m.getD (vs.length - 1 - i) false)) := mp_get (getD_at (by omega))
      have dn2 : down vs (vs.length - (i + 1)) (if m.getD (vs.length - 1 - i) false = true then mark m (opsAt vs (vs.length - 1 - i)) else m) = down vs vs.length (mark (List.replicate vs.length false) wanted) := by
        rw [← dn]
        have : vs.length - i = (vs.length - 1 - i) + 1 := by omega
        rw [this]
        have : vs.length - (i + 1) = vs.length - 1 - i := by omega
        rw [this]
        rfl
      refine ⟨_, rfl, _, rfl, _, e2, _, _, _, rfl, ixP_nat (by simp; omega), gm, _, rfl, ite_b (fun c => ?_) (fun c => ?_)⟩
      · rw [if_pos c] at dn2
        refine ⟨_, rfl, _, rfl, ?_⟩
        refine operands_ok hw hj ?_
        refine .inl ⟨_, rfl, ?_⟩
        have ob : ∀ o, o ∈ opsAt vs (vs.length - 1 - i) → o < vs.length := by
          intro o ho
          rw [opsAt_eq (vAt_get hj)] at ho
          have := (hw _ _ (vAt_get hj)).ops o ho
          omega
        refine for_inv (fun t ς h' => (∃ b, ς = [some (scr vs W outs), some (.tup (wanted.map ni)), some (.loc h.length), some (ni (vs.length - 1 - i)), b]) ∧ h'[h.length]? = some (.lst ((mark m ((opsAt vs (vs.length - 1 - i)).take t)).map .bl)) ∧ Fr [] h h') ⟨⟨_, rfl⟩, e2, f2⟩ (fun _ _ _ _ => rfl) ?_ ?_
        · rintro t y ς h3 kc hy ⟨⟨b, rfl⟩, e3, f3⟩ hkc
          obtain ⟨o, ho, rfl⟩ := mp_inv hy
          have := ob o (List.mem_of_getElem? ho)
          refine ⟨_, rfl, _, rfl, _, _, rfl, e3, _, _, rfl, ixP_nat (by simp [mark_len]; omega), hkc _ _ ⟨⟨_, rfl⟩, ?_, f3.new (.inl (Nat.le_refl _))⟩⟩
          rw [at_set e3, bl_set, take_at ho, mark_snoc]
        · rintro ς h3 ⟨⟨b, rfl⟩, e3, f3⟩
          rw [List.length_map, List.take_length] at e3
          exact hkk _ _ ⟨⟨_, _, rfl⟩, ⟨_, e3, by rw [mark_len]; exact ml2, dn2⟩, f3⟩
      · rw [if_neg (by rw [c]; exact Bool.false_ne_true)] at dn2
        exact hkk _ _ ⟨⟨_, _, rfl⟩, ⟨m, e2, ml2, dn2⟩, f2⟩
    · rintro ς h2 ⟨⟨a, b, rfl⟩, ⟨m, e2, ml2, dn⟩, f2⟩
      rw [rangeC_length, Nat.sub_self] at dn
      change m = _ at dn
      refine ⟨_, rfl, _, _, _, _, rfl, rfl, rfl, rfl, _, _, rfl, rfl, _, rfl, by omega, by omega, ?_⟩
      rw [vl, toNat_nat]
      refine cmp_inv (fun i acc h' => h' = h2 ∧ acc = (keep i m).map ni) ⟨rfl, rfl⟩ (fun _ _ _ _ => trivial) ?_ ?_
      · rintro i y acc h3 kc hy ⟨rfl, rfl⟩ hkc
        obtain ⟨hi, rfl⟩ := range_get hy
        have gm : (m.map PV.bl)[i]? = some (.bl (m.getD i false)) := mp_get (getD_at (by omega))
        have kl : (keep i m).length ≤ i := by
          have := List.length_filter_le (fun i => m.getD i false) (List.range i)
          rw [List.length_range] at this
          exact this
        refine ⟨_, rfl, _, rfl, _, e2, _, _, _, rfl, ixP_at (k := i) (by omega) (by simp; omega), gm, _, rfl, ite_b (fun c => ?_) (fun c => ?_)⟩
        · refine ⟨_, rfl, szl (by simp; omega), hkc _ _ ⟨rfl, ?_⟩⟩
          rw [keep_snoc vs.length, if_pos c, List.map_append]
          congr 1
          show [PV.int _] = [PV.int _]
          congr 2
          omega
        · refine hkc _ _ ⟨rfl, ?_⟩
          rw [keep_snoc vs.length, if_neg (by rw [c]; exact Bool.false_ne_true), List.append_nil]
      · rintro acc h3 ⟨rfl, rfl⟩
        rw [rangeL_length, dn]
        exact ⟨_, rfl, k _ f2⟩
theorem needed_values_ok {n : Nat} {vs : List Vl} {W : List Int} {os : List Nat} {h : PH} {q : QV} {x : QX} (s : SOk vs W os) (k : ∀ h', Fr [] h h' → q (.tup ((needF vs os).map ni)) h') : den T11 (n + 3) 140 [scr vs W os] h q x := by
  refine den_call (F := ir_p_needed_values) (by rfl) rfl ?_
  refine ⟨_, rfl, _, rfl, _, _, _, _, rfl, rfl, rfl, rfl, ?_⟩
  exact needed_for_ok s.va s.vl s.om k
end WD
end
section
set_option Elab.async false
set_option linter.all false
set_option maxRecDepth 100000
set_option autoImplicit false
set_option maxHeartbeats 8000000
set_option pp.maxSteps 600
namespace WD
open PySem PySem.Spec PyProof.Rows L2
theorem pos_at : ∀ {N : List Nat} {i j : Nat}, N.Nodup → N[i]? = some j → pos N j = i
  | [], i, j, _, h => by simp at h
  | a :: r, 0, j, _, h => by
    have : a = j := by simpa using h
    subst this
    simp [pos]
  | a :: r, i + 1, j, hn, h => by
    have h' : r[i]? = some j := by simpa using h
    have hne : a ≠ j := fun e => (List.nodup_cons.mp hn).1 (by rw [e]; exact List.mem_of_getElem? h')
    have ih := pos_at (List.nodup_cons.mp hn).2 h'
    unfold pos at ih ⊢
    rw [List.idxOf_cons, ih, show (a == j) = false from beq_eq_false_iff_ne.mpr hne]
    rfl
theorem take_mem {N : List Nat} {i j : Nat} (h : j ∈ N.take i) : j ∈ N := List.mem_of_mem_take h
theorem take_succ_mem {N : List Nat} {i j a : Nat} (h : N[i]? = some a) : j ∈ N.take (i + 1) ↔ j ∈ N.take i ∨ j = a := by
  rw [take_at h]
  simp
def Vl.w : Vl → Str
  | .inp _ => "in"
  | .wk w _ => w
def Vl.oP : Vl → PV
  | .inp s => .str s
  | .wk _ o => .tup (o.map ni)
theorem enc_eq (v : Vl) : v.enc = .tup [.str v.w, v.oP] := by cases v <;> rfl
theorem mv_w (v : Vl) (f : Nat → Nat) : (v.mv f).w = v.w := by cases v <;> rfl
theorem mv_enc_wk (f : Nat → Nat) (w : Str) (o : List Nat) : ((Vl.wk w o).mv f).enc = .tup [.str w, .tup ((o.map f).map ni)] := rfl
theorem shortened_ok {n : Nat} {vs : List Vl} {W : List Int} {os : List Nat} {h : PH} {q : QV} {x : QX} (s : SOk vs W os) (k : ∀ h', Fr [] h h' → q (shortF vs W os) h') : den T11 (n + 4) 141 [scr vs W os] h q x := by
  refine den_call (F := ir_p_shortened_script) (by rfl) rfl ?_
  refine ⟨_, rfl, ?_⟩
  refine needed_values_ok s fun h1 f1 => ?_
  have sv := s.vl
  have nl : (needF vs os).length ≤ vs.length := need_len
  have nlt : ∀ j, j ∈ needF vs os → j < vs.length := fun j hj => need_lt hj
  have nnd : (needF vs os).Nodup := need_nodup
  have ncl : ∀ j, j ∈ needF vs os → ∀ x, x ∈ opsAt vs j → x ∈ needF vs os := fun j hj => need_closed s.va hj
  have nout : ∀ o, o ∈ os → o ∈ needF vs os := fun o ho => need_want ho (s.om o ho)
  unfold shortF at k
  generalize needF vs os = N at nl nlt nnd ncl nout k
  refine ⟨_, rfl, Nat.le_of_ble_eq_true rfl, ?_⟩
  have e2 : (h1 ++ [PO.dic (dMerge [] ([] : List (Key × PV)))])[h1.length]? = some (.dic []) := at_new
  have Nl : (N.map ni).length = N.length := List.length_map ..
  refine ⟨_, rfl, _, _, rfl, rfl, _, rfl, by omega, by omega, ?_⟩
  rw [Nl, toNat_nat]
  refine for_inv (fun i ς h' => (∃ a3 a4 a5 a6 a7 a8 a9 a10, ς = [some (scr vs W os), some (.tup (N.map ni)), some (.loc h1.length), a3, a4, a5, a6, a7, a8, a9, a10]) ∧ (∃ kvs : List (Key × PV), h'[h1.length]? = some (.dic kvs) ∧ kvs.length ≤ i ∧ ∀ j, j ∈ N.take i → dGet kvs (.inl (j : Int)) = some (ni (pos N j))) ∧ Fr [] h h')
    ⟨⟨_, _, _, _, _, _, _, _, rfl⟩, ⟨[], e2, by simp, by simp⟩, f1.trans Fr.app⟩ (fun _ _ _ _ => trivial) ?_ ?_
  · rintro i y ς h2 kk hy ⟨⟨a3, a4, a5, a6, a7, a8, a9, a10, rfl⟩, ⟨kvs, e3, kl, kg⟩, f2⟩ hkk
    obtain ⟨hi, rfl⟩ := range_get hy
    have hg : N[i]? = some (N.getD i 0) := getD_at hi
    refine ⟨_, rfl, _, rfl, _, rfl, _, rfl, _, _, _, _, rfl, rfl, ixP_at (k := i) (by omega) (by omega), mp_get hg, _, _, rfl, e3, _, rfl, szl (by omega), ?_⟩
    refine hkk _ _ ⟨⟨_, _, _, _, _, _, _, _, rfl⟩, ⟨_, at_set e3, Nat.le_trans (dPut_len _ _ _) (by omega), fun j hj => ?_⟩, f2.new (.inl f1.1)⟩
    rw [dGet_put]
    by_cases c : j = N.getD i 0
    · rw [if_pos (by rw [c]), c, pos_at nnd hg]
      exact congrArg some (congrArg PV.int (by omega))
    · rw [if_neg (by intro z; injection z with z; omega)]
      rcases (take_succ_mem hg).mp hj with h3 | h3
      · exact kg j h3
      · exact absurd h3 c
  · rintro ς h2 ⟨⟨a3, a4, a5, a6, a7, a8, a9, a10, rfl⟩, ⟨kvs, e3, kl, kg⟩, f2⟩
    rw [rangeL_length, List.take_length] at kg
    refine ⟨Nat.le_of_ble_eq_true rfl, ?_⟩
    have e4 := at_app (p := .lst []) e3
    have e5 : (h2 ++ [PO.lst []])[h2.length]? = some (.lst ([] : List PV)) := at_new
    have lt12 : h1.length < h2.length := at_lt e3
    refine ⟨_, rfl, .inl ⟨_, rfl, ?_⟩⟩
    refine for_inv (fun i ς h' => (∃ a3 a5 a6 a7 a8 a9 a10, ς = [some (scr vs W os), some (.tup (N.map ni)), some (.loc h1.length), a3, some (.loc h2.length), a5, a6, a7, a8, a9, a10]) ∧ h'[h1.length]? = some (.dic kvs) ∧ h'[h2.length]? = some (.lst (((N.take i).map fun i => (vAt vs i).mv (pos N)).map Vl.enc)) ∧ Fr [] h h')
      ⟨⟨_, _, _, _, _, _, _, rfl⟩, e4, e5, f2.trans Fr.app⟩ (fun _ _ _ _ => rfl) ?_ ?_
    · rintro i y ς h3 kk hy ⟨⟨a3, a5, a6, a7, a8, a9, a10, rfl⟩, d3, v3, f3⟩ hkk
      obtain ⟨j, hj, rfl⟩ := mp_inv hy
      have hjm := List.mem_of_getElem? hj
      have hjl := nlt j hjm
      have hvj := vAt_get hjl
      have va := s.va _ _ hvj
      have cl := ncl j hjm
      rw [opsAt_eq hvj] at cl
      refine ⟨_, rfl, _, _, _, _, rfl, rfl, rfl, rfl, _, rfl, _, _, _, _, rfl, rfl, ixP_nat (by simpa using hjl), mp_get hvj, _, enc_eq _, _, _, rfl, _, _, rfl, rfl, ?_⟩
      refine cut_nx (fun ς h' => h' = h3 ∧ ∃ a3 a5 a6 a9 a10, ς = [some (scr vs W os), some (.tup (N.map ni)), some (.loc h1.length), a3, some (.loc h2.length), a5, a6, some (.str (vAt vs j).w), some ((vAt vs j).mv (pos N)).oP, a9, a10]) ?_ ?_
      · revert va cl
        cases hv : vAt vs j with
        | inp s0 =>
          intro va cl
          refine ⟨_, rfl, .inl ⟨rfl, ite_f (by rw [show (Vl.inp s0).w = ("in" : Str) from rfl]; decide +kernel) ?_⟩⟩
          exact ⟨rfl, _, _, _, _, _, rfl⟩
        | wk w o =>
          intro va cl
          refine ⟨_, rfl, .inl ⟨rfl, ite_t (by rw [show (Vl.wk w o).w = w from rfl, strNe va.1]; rfl) ?_⟩⟩
          refine ⟨_, rfl, .inl ⟨_, rfl, ?_⟩⟩
          refine cmp_map (enc := ni) (f := fun j => ni (pos N j)) rfl (fun t y Q ht hQ => ?_) (by have := va.2.2.1; omega) ?_
          · exact ⟨_, rfl, _, rfl, _, d3, _, _, rfl, kg y (cl y (List.mem_of_getElem? ht)), hQ⟩
          · refine ⟨_, rfl, ?_⟩
            have em : (o.map fun j => ni (pos N j)) = (o.map (pos N)).map ni := by rw [List.map_map]; rfl
            rw [em]
            exact ⟨rfl, _, _, _, _, _, rfl⟩
      · rintro ς h' ⟨rfl, b3, b5, b6, b9, b10, rfl⟩
        refine ⟨_, rfl, ⟨_, _, rfl, v3, rfl⟩, _, rfl, _, rfl, Nat.le_of_ble_eq_true rfl, _, _, rfl, v3, szl (by simp; omega), ?_⟩
        refine hkk _ _ ⟨⟨_, _, _, _, _, _, _, rfl⟩, at_ne d3 (by omega), ?_, f3.new (.inl f2.1)⟩
        rw [at_set v3, take_at hj, ← mv_w (vAt vs j) (pos N), ← enc_eq]
        simp
    · rintro ς h3 ⟨⟨a3, a5, a6, a7, a8, a9, a10, rfl⟩, d3, v3, f3⟩
      rw [List.length_map, List.take_length] at v3
      refine ⟨_, rfl, .inl ⟨_, rfl, ?_⟩⟩
      refine cmp_map (enc := ni) (f := fun j => .int (W.getD j 0)) rfl (fun t j Q ht hQ => ?_) (by omega) ?_
      · have := nlt j (List.mem_of_getElem? ht)
        exact ⟨_, rfl, _, _, _, _, rfl, rfl, rfl, rfl, _, rfl, _, _, _, _, rfl, rfl, ixP_nat (by rw [List.length_map, s.wl]; exact this), mp_get (getD_at (by rw [s.wl]; exact this)), hQ⟩
      · refine ⟨_, rfl, _, rfl, _, gL v3, _, rfl, _, rfl, _, _, _, _, rfl, rfl, rfl, rfl, .inl ⟨_, rfl, ?_⟩⟩
        refine cmp_map (enc := ni) (f := fun j => ni (pos N j)) rfl (fun t j Q ht hQ => ?_) (by have := s.ol; omega) ?_
        · exact ⟨_, rfl, _, rfl, _, d3, _, _, rfl, kg j (nout j (List.mem_of_getElem? ht)), hQ⟩
        · refine ⟨_, rfl, Nat.le_of_ble_eq_true rfl, ?_⟩
          have := k h3 f3
          unfold scr at this
          rw [List.map_map, List.map_map, List.map_map] at this
          rw [List.map_map]
          exact this
end WD
end
section
set_option Elab.async false
set_option linter.all false
set_option maxRecDepth 100000
set_option autoImplicit false
set_option maxHeartbeats 8000000
set_option pp.maxSteps 600
namespace WD
open PySem PySem.Spec PyProof.Rows L2
/-! ### the law's own marks -/
theorem sub_to {i j r : Int} {h : PH} {q : QV} (e : i - j = r) (k : q (.int r) h) : binS .Sub (.int i) (.int j) h q := by
  subst e
  exact k
theorem marks_ok {n : Nat} {vs : List Vl} {wanted : List Nat} {h : PH} {q : QV} {x : QX} (hw : VAs vs) (hl : vs.length ≤ 1000) (hm : ∀ o, o ∈ wanted → o < vs.length)
    (k : ∀ L h', Fr [] h h' → h.length ≤ L → h'[L]? = some (.lst ((needF vs wanted).map ni)) → q (.loc L) h') : den T11 (n + 1) 1006 [.tup (vs.map Vl.enc), .tup (wanted.map ni)] h q x := by
  refine den_call (F := ir_f_law_marks) (by rfl) rfl ?_
  have vl : (vs.map Vl.enc).length = vs.length := List.length_map ..
  refine ⟨_, rfl, .inl ⟨_, rfl, ?_⟩⟩
  refine cmp_map (enc := Vl.enc) (f := fun _ => .bl false) rfl (fun j z Q hz hQ => hQ) (by omega) ?_
  have er : (vs.map fun _ => PV.bl false) = (List.replicate vs.length false).map .bl := by
    rw [List.map_const', List.map_replicate]
  rw [er]
  have e0 : (h ++ [PO.lst ((List.replicate vs.length false).map .bl)])[h.length]? = some (.lst ((List.replicate vs.length false).map .bl)) := at_new
  refine ⟨_, rfl, .inl ⟨_, rfl, ?_⟩⟩
  refine for_inv (fun i ς h' => (∃ a b c d, ς = [some (.tup (vs.map Vl.enc)), some (.tup (wanted.map ni)), some (.loc h.length), a, b, c, d]) ∧ h'[h.length]? = some (.lst ((mark (List.replicate vs.length false) (wanted.take i)).map .bl)) ∧ Fr [] h h') ⟨⟨_, _, _, _, rfl⟩, e0, Fr.app⟩ (fun _ _ _ _ => rfl) ?_ ?_
  · rintro i y ς h1 kk hy ⟨⟨a, b, c, d, rfl⟩, e1, f1⟩ hkk
    obtain ⟨o, ho, rfl⟩ := mp_inv hy
    have := hm o (List.mem_of_getElem? ho)
    refine ⟨_, rfl, _, rfl, _, _, rfl, e1, _, _, rfl, ixP_nat (by simp [mark_len]; omega), hkk _ _ ⟨⟨_, _, _, _, rfl⟩, ?_, f1.new (.inl (Nat.le_refl _))⟩⟩
    rw [at_set e1, bl_set, take_at ho, mark_snoc]
  · rintro ς h1 ⟨⟨a, b, c, d, rfl⟩, e1, f1⟩
    rw [List.length_map, List.take_length] at e1
    have ml : (mark (List.replicate vs.length false) wanted).length = vs.length := by rw [mark_len]; simp
    refine ⟨_, rfl, _, _, rfl, rfl, _, rfl, by omega, by omega, ?_⟩
    rw [vl, toNat_nat]
    refine for_inv (fun i ς h' => (∃ a b c d, ς = [some (.tup (vs.map Vl.enc)), some (.tup (wanted.map ni)), some (.loc h.length), a, b, c, d]) ∧ (∃ m : List Bool, h'[h.length]? = some (.lst (m.map .bl)) ∧ m.length = vs.length ∧ down vs (vs.length - i) m = down vs vs.length (mark (List.replicate vs.length false) wanted)) ∧ Fr [] h h')
      ⟨⟨_, _, _, _, rfl⟩, ⟨_, e1, ml, rfl⟩, f1⟩ (fun _ _ _ _ => trivial) ?_ ?_
    · rintro i y ς h2 kk hy ⟨⟨a, b, c, d, rfl⟩, ⟨m, e2, ml2, dn⟩, f2⟩ hkk
      obtain ⟨hi, rfl⟩ := range_get hy
      have hj : vs.length - 1 - i < vs.length := by omega
      have gm : (m.map PV.bl)[vs.length - 1 - i]? = some (.bl (m.getD (vs.length - 1 - i) false)) := mp_get (getD_at (by omega))
      have dn2 : down vs (vs.length - (i + 1)) (if m.getD (vs.length - 1 - i) false = true then mark m (opsAt vs (vs.length - 1 - i)) else m) = down vs vs.length (mark (List.replicate vs.length false) wanted) := by
        rw [← dn]
        have : vs.length - i = (vs.length - 1 - i) + 1 := by omega
        rw [this]
        have : vs.length - (i + 1) = vs.length - 1 - i := by omega
        rw [this]
        rfl
      refine ⟨_, rfl, _, _, rfl, rfl, _, rfl, ?_⟩
      have ey : ((vs.map Vl.enc).length : Int) - 1 - (0 + (i : Int)) = ((vs.length - 1 - i : Nat) : Int) := by rw [vl]; omega
      refine sub_to ey ?_
      have hvj := vAt_get hj
      have va := hw _ _ hvj
      rw [opsAt_eq hvj] at dn2
      refine ⟨_, rfl, _, rfl, _, e2, _, _, _, rfl, ixP_nat (by simp; omega), gm, _, rfl, ite_b (fun c => ?_) (fun c => ?_)⟩
      · rw [if_pos c] at dn2
        refine ⟨_, rfl, _, rfl, _, _, _, _, rfl, rfl, ixP_nat (by omega), mp_get hvj, ?_⟩
        rw [enc_eq]
        refine ⟨_, _, _, _, rfl, rfl, rfl, rfl, .inl ⟨rfl, ?_⟩⟩
        cases hv : vAt vs (vs.length - 1 - i) with
        | inp s0 =>
          rw [hv] at dn2
          refine ite_f (by rw [show (Vl.inp s0).w = ("in" : Str) from rfl]; decide +kernel) ?_
          exact hkk _ _ ⟨⟨_, _, _, _, rfl⟩, ⟨m, e2, ml2, dn2⟩, f2⟩
        | wk w o =>
          rw [hv] at dn2 va
          refine ite_t (by rw [show (Vl.wk w o).w = w from rfl, strNe va.1]; rfl) ?_
          refine ⟨_, rfl, _, rfl, _, _, _, _, rfl, rfl, ixP_nat (by omega), mp_get hvj, ?_⟩
          rw [hv]
          refine ⟨_, _, _, _, rfl, rfl, rfl, rfl, .inl ⟨_, rfl, ?_⟩⟩
          refine for_inv (fun t ς h' => (∃ b d, ς = [some (.tup (vs.map Vl.enc)), some (.tup (wanted.map ni)), some (.loc h.length), some (ni (vs.length - 1 - i)), some (.int (0 + (i : Int))), b, d]) ∧ h'[h.length]? = some (.lst ((mark m (o.take t)).map .bl)) ∧ Fr [] h h') ⟨⟨_, _, rfl⟩, e2, f2⟩ (fun _ _ _ _ => rfl) ?_ ?_
          · rintro t y ς h3 kc hy ⟨⟨b, d, rfl⟩, e3, f3⟩ hkc
            obtain ⟨z, hz, rfl⟩ := mp_inv hy
            have := va.2.2.2 z (List.mem_of_getElem? hz)
            refine ⟨_, rfl, _, rfl, _, _, rfl, e3, _, _, rfl, ixP_nat (by simp [mark_len]; omega), hkc _ _ ⟨⟨_, _, rfl⟩, ?_, f3.new (.inl (Nat.le_refl _))⟩⟩
            rw [at_set e3, bl_set, take_at hz, mark_snoc]
          · rintro ς h3 ⟨⟨b, d, rfl⟩, e3, f3⟩
            rw [List.length_map, List.take_length] at e3
            exact hkk _ _ ⟨⟨_, _, _, _, rfl⟩, ⟨_, e3, by rw [mark_len]; exact ml2, dn2⟩, f3⟩
      · rw [if_neg (by rw [c]; exact Bool.false_ne_true)] at dn2
        exact hkk _ _ ⟨⟨_, _, _, _, rfl⟩, ⟨m, e2, ml2, dn2⟩, f2⟩
    · rintro ς h2 ⟨⟨a, b, c, d, rfl⟩, ⟨m, e2, ml2, dn⟩, f2⟩
      rw [rangeL_length, Nat.sub_self] at dn
      change m = _ at dn
      refine ⟨_, rfl, _, _, rfl, rfl, _, rfl, by omega, by omega, ?_⟩
      rw [vl, toNat_nat]
      refine cmp_inv (fun i acc h' => h' = h2 ∧ acc = (keep i m).map ni) ⟨rfl, rfl⟩ (fun _ _ _ _ => trivial) ?_ ?_
      · rintro i y acc h3 kc hy ⟨rfl, rfl⟩ hkc
        obtain ⟨hi, rfl⟩ := range_get hy
        have gm : (m.map PV.bl)[i]? = some (.bl (m.getD i false)) := mp_get (getD_at (by omega))
        have kl : (keep i m).length ≤ i := by
          have := List.length_filter_le (fun i => m.getD i false) (List.range i)
          rw [List.length_range] at this
          exact this
        refine ⟨_, rfl, _, rfl, _, e2, _, _, _, rfl, ixP_at (k := i) (by omega) (by simp; omega), gm, _, rfl, ite_b (fun c => ?_) (fun c => ?_)⟩
        · refine ⟨_, rfl, szl (by simp; omega), hkc _ _ ⟨rfl, ?_⟩⟩
          rw [keep_snoc vs.length, if_pos c, List.map_append]
          congr 1
          show [PV.int _] = [PV.int _]
          congr 2
          omega
        · refine hkc _ _ ⟨rfl, ?_⟩
          rw [keep_snoc vs.length, if_neg (by rw [c]; exact Bool.false_ne_true), List.append_nil]
      · rintro acc h3 ⟨rfl, rfl⟩
        rw [rangeL_length, dn]
        exact k _ _ (f2.trans Fr.app) f2.1 at_new
theorem shorter_ok {n : Nat} {vs : List Vl} {W : List Int} {os : List Nat} {h : PH} {q : QV} {x : QX} (s : SOk vs W os) (k : ∀ h', Fr [] h h' → q (shortF vs W os) h') : den T11 (n + 2) 1009 [scr vs W os] h q x := by
  refine den_call (F := ir_f_law_shorter) (by rfl) rfl ?_
  refine ⟨_, rfl, _, _, _, _, rfl, rfl, rfl, rfl, _, rfl, _, _, _, _, rfl, rfl, rfl, rfl, ?_⟩
  refine marks_ok s.va s.vl s.om fun LN h1 f1 hLN eN => ?_
  have sv := s.vl
  have nl : (needF vs os).length ≤ vs.length := need_len
  have nlt : ∀ j, j ∈ needF vs os → j < vs.length := fun j hj => need_lt hj
  have nnd : (needF vs os).Nodup := need_nodup
  have ncl : ∀ j, j ∈ needF vs os → ∀ x, x ∈ opsAt vs j → x ∈ needF vs os := fun j hj => need_closed s.va hj
  have nout : ∀ o, o ∈ os → o ∈ needF vs os := fun o ho => need_want ho (s.om o ho)
  unfold shortF at k
  generalize needF vs os = N at nl nlt nnd ncl nout k eN
  have vl : (vs.map Vl.enc).length = vs.length := List.length_map ..
  have Nl : (N.map ni).length = N.length := List.length_map ..
  refine ⟨_, rfl, _, _, _, _, rfl, rfl, rfl, rfl, .inl ⟨_, rfl, ?_⟩⟩
  refine cmp_map (enc := Vl.enc) (f := fun _ => .int 0) rfl (fun j z Q hz hQ => hQ) (by omega) ?_
  have er : (vs.map fun _ => PV.int 0) = (List.replicate vs.length 0).map ni := by
    rw [List.map_const', List.map_replicate]
    rfl
  rw [er]
  have e2 : (h1 ++ [PO.lst ((List.replicate vs.length 0).map ni)])[h1.length]? = some (.lst ((List.replicate vs.length 0).map ni)) := at_new
  have eN2 := at_app (p := .lst ((List.replicate vs.length 0).map ni)) eN
  have ltN : LN < h1.length := at_lt eN
  refine ⟨_, rfl, _, _, rfl, len_loc eN2, _, rfl, by omega, by omega, ?_⟩
  rw [Nl, toNat_nat]
  refine for_inv (fun i ς h' => (∃ a3 a4 a5 a6 a7 a8 a9 a10, ς = [some (scr vs W os), some (.loc LN), some (.loc h1.length), a3, a4, a5, a6, a7, a8, a9, a10]) ∧ h'[LN]? = some (.lst (N.map ni)) ∧ (∃ mv : List Nat, h'[h1.length]? = some (.lst (mv.map ni)) ∧ mv.length = vs.length ∧ ∀ j, j ∈ N.take i → mv.getD j 0 = pos N j) ∧ Fr [] h h')
    ⟨⟨_, _, _, _, _, _, _, _, rfl⟩, eN2, ⟨_, e2, by simp, by simp⟩, f1.trans Fr.app⟩ (fun _ _ _ _ => trivial) ?_ ?_
  · rintro i y ς h2 kk hy ⟨⟨a3, a4, a5, a6, a7, a8, a9, a10, rfl⟩, n3, ⟨mv, e3, kl, kg⟩, f2⟩ hkk
    obtain ⟨hi, rfl⟩ := range_get hy
    have hg : N[i]? = some (N.getD i 0) := getD_at hi
    have hgl := nlt _ (List.mem_of_getElem? hg)
    refine ⟨_, rfl, _, rfl, _, rfl, _, rfl, _, n3, _, _, _, rfl, ixP_at (k := i) (by omega) (by omega), mp_get hg, _, _, rfl, e3, _, _, rfl, ixP_nat (by rw [List.length_map, kl]; exact hgl), ?_⟩
    refine hkk _ _ ⟨⟨_, _, _, _, _, _, _, _, rfl⟩, at_ne n3 (by omega), ⟨mv.set (N.getD i 0) i, ?_, by simp [kl], fun j hj => ?_⟩, f2.new (.inl f1.1)⟩
    · rw [at_set e3, List.map_set]
      congr 3
      exact congrArg PV.int (by omega)
    · rw [List.getD_eq_getElem?_getD, List.getElem?_set]
      by_cases c : N.getD i 0 = j
      · rw [if_pos c, if_pos (by rw [kl]; exact hgl), ← c, pos_at nnd hg]
        rfl
      · rw [if_neg c]
        rcases (take_succ_mem hg).mp hj with h3 | h3
        · have := kg j h3
          rw [List.getD_eq_getElem?_getD] at this
          exact this
        · exact absurd h3.symm c
  · rintro ς h2 ⟨⟨a3, a4, a5, a6, a7, a8, a9, a10, rfl⟩, n3, ⟨mv, e3, kl, kg⟩, f2⟩
    rw [rangeL_length, List.take_length] at kg
    refine ⟨Nat.le_of_ble_eq_true rfl, ?_⟩
    have e4 := at_app (p := .lst []) e3
    have n4 := at_app (p := .lst []) n3
    have e5 : (h2 ++ [PO.lst []])[h2.length]? = some (.lst ([] : List PV)) := at_new
    have lt12 : h1.length < h2.length := at_lt e3
    have mvg : ∀ j, j ∈ N → (mv.map ni)[j]? = some (ni (pos N j)) := fun j hj => by
      rw [← kg j hj]
      exact mp_get (getD_at (by rw [kl]; exact nlt j hj))
    have mvl : (mv.map ni).length = vs.length := by rw [List.length_map, kl]
    refine ⟨_, rfl, .inl ⟨_, gL n4, ?_⟩⟩
    refine for_inv (fun i ς h' => (∃ a3 a5 a6 a7 a8 a9 a10, ς = [some (scr vs W os), some (.loc LN), some (.loc h1.length), a3, some (.loc h2.length), a5, a6, a7, a8, a9, a10]) ∧ h'[LN]? = some (.lst (N.map ni)) ∧ h'[h1.length]? = some (.lst (mv.map ni)) ∧ h'[h2.length]? = some (.lst (((N.take i).map fun i => (vAt vs i).mv (pos N)).map Vl.enc)) ∧ Fr [] h h')
      ⟨⟨_, _, _, _, _, _, _, rfl⟩, n4, e4, e5, f2.trans Fr.app⟩ (fun i ς h' hi => gL hi.2.1) ?_ ?_
    · rintro i y ς h3 kk hy ⟨⟨a3, a5, a6, a7, a8, a9, a10, rfl⟩, n5, d3, v3, f3⟩ hkk
      obtain ⟨j, hj, rfl⟩ := mp_inv hy
      have hjm := List.mem_of_getElem? hj
      have hjl := nlt j hjm
      have hvj := vAt_get hjl
      have va := s.va _ _ hvj
      have cl := ncl j hjm
      rw [opsAt_eq hvj] at cl
      refine ⟨_, rfl, _, _, _, _, rfl, rfl, rfl, rfl, _, rfl, _, _, _, _, rfl, rfl, ixP_nat (by simpa using hjl), mp_get hvj, _, enc_eq _, _, _, rfl, _, _, rfl, rfl, ?_⟩
      refine cut_nx (fun ς h' => h' = h3 ∧ ∃ a3 a5 a6 a7 a10, ς = [some (scr vs W os), some (.loc LN), some (.loc h1.length), a3, some (.loc h2.length), a5, a6, a7, some (.str (vAt vs j).w), some ((vAt vs j).mv (pos N)).oP, a10]) ?_ ?_
      · revert va cl
        cases hv : vAt vs j with
        | inp s0 =>
          intro va cl
          refine ⟨_, rfl, .inl ⟨rfl, ite_f (by rw [show (Vl.inp s0).w = ("in" : Str) from rfl]; decide +kernel) ?_⟩⟩
          exact ⟨rfl, _, _, _, _, _, rfl⟩
        | wk w o =>
          intro va cl
          refine ⟨_, rfl, .inl ⟨rfl, ite_t (by rw [show (Vl.wk w o).w = w from rfl, strNe va.1]; rfl) ?_⟩⟩
          refine ⟨_, rfl, .inl ⟨_, rfl, ?_⟩⟩
          refine cmp_map (enc := ni) (f := fun j => ni (pos N j)) rfl (fun t y Q ht hQ => ?_) (by have := va.2.2.1; omega) ?_
          · have hy2 := cl y (List.mem_of_getElem? ht)
            exact ⟨_, rfl, _, rfl, _, d3, _, _, _, rfl, ixP_nat (by rw [mvl]; exact nlt y hy2), mvg y hy2, hQ⟩
          · refine ⟨_, rfl, ?_⟩
            have em : (o.map fun j => ni (pos N j)) = (o.map (pos N)).map ni := by rw [List.map_map]; rfl
            rw [em]
            exact ⟨rfl, _, _, _, _, _, rfl⟩
      · rintro ς h' ⟨rfl, b3, b5, b6, b7, b10, rfl⟩
        refine ⟨_, rfl, ⟨_, _, rfl, v3, rfl⟩, _, rfl, _, rfl, Nat.le_of_ble_eq_true rfl, _, _, rfl, v3, szl (by simp; omega), ?_⟩
        refine hkk _ _ ⟨⟨_, _, _, _, _, _, _, rfl⟩, at_ne n5 (by omega), at_ne d3 (by omega), ?_, f3.new (.inl f2.1)⟩
        rw [at_set v3, take_at hj, ← mv_w (vAt vs j) (pos N), ← enc_eq]
        simp
    · rintro ς h3 ⟨⟨a3, a5, a6, a7, a8, a9, a10, rfl⟩, n5, d3, v3, f3⟩
      rw [List.length_map, List.take_length] at v3
      refine ⟨_, rfl, .inl ⟨_, gL n5, ?_⟩⟩
      refine cmp_map (enc := ni) (f := fun j => .int (W.getD j 0)) (gL n5) (fun t j Q ht hQ => ?_) (by omega) ?_
      · have := nlt j (List.mem_of_getElem? ht)
        exact ⟨_, rfl, _, _, _, _, rfl, rfl, rfl, rfl, _, rfl, _, _, _, _, rfl, rfl, ixP_nat (by rw [List.length_map, s.wl]; exact this), mp_get (getD_at (by rw [s.wl]; exact this)), hQ⟩
      · refine ⟨_, rfl, _, rfl, _, gL v3, _, rfl, _, rfl, _, _, _, _, rfl, rfl, rfl, rfl, .inl ⟨_, rfl, ?_⟩⟩
        refine cmp_map (enc := ni) (f := fun j => ni (pos N j)) rfl (fun t j Q ht hQ => ?_) (by have := s.ol; omega) ?_
        · have hy2 := nout j (List.mem_of_getElem? ht)
          exact ⟨_, rfl, _, rfl, _, d3, _, _, _, rfl, ixP_nat (by rw [mvl]; exact nlt j hy2), mvg j hy2, hQ⟩
        · refine ⟨_, rfl, Nat.le_of_ble_eq_true rfl, ?_⟩
          have := k h3 f3
          unfold scr at this
          rw [List.map_map, List.map_map, List.map_map] at this
          rw [List.map_map]
          exact this
/-! ### the same -/
inductive Pl : Nat → PV → Prop
  | int (d : Nat) (i : Int) : Pl d (.int i)
  | str (d : Nat) (s : Str) : Pl d (.str s)
  | tup (d : Nat) (xs : List PV) : xs.length ≤ 100000 → (∀ x, x ∈ xs → Pl d x) → Pl (d + 1) (.tup xs)
theorem same_ok : ∀ (d : Nat) {n : Nat} {v : PV} {h : PH} {q : QV} {x : QX}, Pl d v → q (.bl true) h → den T11 (n + d + 1) 1010 [v, v] h q x := by
  intro d
  induction d with
  | zero =>
    intro n v h q x p k
    refine den_call (F := ir_f_law_same) (by rfl) rfl ?_
    cases p with
    | int d i =>
      refine ⟨_, rfl, _, _, rfl, rfl, _, rfl, ite_f rfl ?_⟩
      refine ⟨_, rfl, _, _, rfl, rfl, _, rfl, ite_f rfl ?_⟩
      refine ⟨_, rfl, _, _, rfl, rfl, _, rfl, ite_t rfl ⟨_, rfl, _, _, rfl, rfl, _, rfl, _, rfl, ite_t rfl ⟨_, rfl, _, rfl, .inl ⟨rfl, ?_⟩⟩⟩⟩
      rw [decide_eq_true rfl]
      exact k
    | str d s =>
      refine ⟨_, rfl, _, _, rfl, rfl, _, rfl, ite_f rfl ?_⟩
      refine ⟨_, rfl, _, _, rfl, rfl, _, rfl, ite_t rfl ?_⟩
      refine ⟨_, rfl, _, _, rfl, rfl, _, rfl, ite_t rfl ⟨_, rfl, _, rfl, .inl ⟨rfl, ?_⟩⟩⟩
      rw [decide_eq_true rfl]
      exact k
  | succ d ih =>
    intro n v h q x p k
    rw [show n + (d + 1) + 1 = (n + d + 1) + 1 by omega]
    refine den_call (F := ir_f_law_same) (by rfl) rfl ?_
    cases p with
    | int d i =>
      refine ⟨_, rfl, _, _, rfl, rfl, _, rfl, ite_f rfl ?_⟩
      refine ⟨_, rfl, _, _, rfl, rfl, _, rfl, ite_f rfl ?_⟩
      refine ⟨_, rfl, _, _, rfl, rfl, _, rfl, ite_t rfl ⟨_, rfl, _, _, rfl, rfl, _, rfl, _, rfl, ite_t rfl ⟨_, rfl, _, rfl, .inl ⟨rfl, ?_⟩⟩⟩⟩
      rw [decide_eq_true rfl]
      exact k
    | str d s =>
      refine ⟨_, rfl, _, _, rfl, rfl, _, rfl, ite_f rfl ?_⟩
      refine ⟨_, rfl, _, _, rfl, rfl, _, rfl, ite_t rfl ?_⟩
      refine ⟨_, rfl, _, _, rfl, rfl, _, rfl, ite_t rfl ⟨_, rfl, _, rfl, .inl ⟨rfl, ?_⟩⟩⟩
      rw [decide_eq_true rfl]
      exact k
    | tup d xs hl ps =>
      refine ⟨_, rfl, _, _, rfl, rfl, _, rfl, ite_t rfl ?_⟩
      refine ⟨_, rfl, _, _, rfl, rfl, _, rfl, ite_f rfl ?_⟩
      refine ⟨_, rfl, _, _, rfl, rfl, _, rfl, _, _, rfl, rfl, .inl ⟨rfl, ite_f (by simp) ?_⟩⟩
      refine ⟨_, rfl, _, _, rfl, rfl, _, rfl, by omega, by omega, ?_⟩
      rw [toNat_nat]
      refine for_inv (fun i ς h' => h' = h ∧ ∃ a, ς = [some (.tup xs), some (.tup xs), a]) ⟨rfl, _, rfl⟩ (fun _ _ _ _ => trivial) ?_ ?_
      · rintro i y ς h1 kk hy ⟨rfl, a, rfl⟩ hkk
        obtain ⟨hi, rfl⟩ := range_get hy
        have hg : xs[i]? = some (xs.getD i .non) := getD_at hi
        refine ⟨_, rfl, _, rfl, _, _, _, _, rfl, rfl, ixP_at (k := i) (by omega) hi, hg, _, rfl, _, rfl, _, _, _, _, rfl, rfl, ixP_at (k := i) (by omega) hi, hg, ?_⟩
        refine ih (ps _ (List.mem_of_getElem? hg)) ⟨_, rfl, ite_f rfl ?_⟩
        exact hkk _ _ ⟨rfl, _, rfl⟩
      · rintro ς h1 ⟨rfl, a, rfl⟩
        exact k
theorem Pl.mono : ∀ {d : Nat} {v : PV}, Pl d v → ∀ {e : Nat}, d ≤ e → Pl e v
  | _, _, .int _ i, e, _ => .int e i
  | _, _, .str _ s, e, _ => .str e s
  | _, _, .tup d xs h p, e, he => by
    cases e with
    | zero => omega
    | succ e => exact .tup e xs h fun x hx => Pl.mono (p x hx) (by omega)
theorem pl_ns (o : List Nat) (h : o.length ≤ 100000) : Pl 1 (.tup (o.map ni)) := .tup 0 _ (by simpa using h) fun x hx => by
  obtain ⟨y, _, rfl⟩ := List.mem_map.mp hx
  exact .int 0 _
theorem pl_enc {v : Vl} (h : v.ops.length ≤ 1000) : Pl 2 v.enc := by
  cases v with
  | inp s =>
    exact .tup 1 _ (by simp) fun x hx => by
      simp only [List.mem_cons, List.not_mem_nil, or_false] at hx
      rcases hx with rfl | rfl
      · exact .str _ _
      · exact .str _ _
  | wk w o =>
    exact .tup 1 _ (by simp) fun x hx => by
      simp only [List.mem_cons, List.not_mem_nil, or_false] at hx
      rcases hx with rfl | rfl
      · exact .str _ _
      · exact pl_ns o (by have : o.length ≤ 1000 := h; omega)
theorem pl_scr {vs : List Vl} {W : List Int} {os : List Nat} (h1 : vs.length ≤ 1000) (h2 : W.length ≤ 1000) (h3 : os.length ≤ 1000) (h4 : ∀ v, v ∈ vs → v.ops.length ≤ 1000) : Pl 4 (scr vs W os) := by
  refine .tup 3 _ (by simp) fun x hx => ?_
  simp only [List.mem_cons, List.not_mem_nil, or_false] at hx
  rcases hx with rfl | rfl | rfl
  · exact .tup 2 _ (by simp; omega) fun x hx => by
      obtain ⟨v, hv, rfl⟩ := List.mem_map.mp hx
      exact pl_enc (h4 v hv)
  · exact (Pl.tup 0 _ (by simp; omega) fun x hx => by
      obtain ⟨y, _, rfl⟩ := List.mem_map.mp hx
      exact .int 0 _).mono (by omega)
  · exact (pl_ns os (by omega)).mono (by omega)
theorem pl_short {vs : List Vl} {W : List Int} {os : List Nat} (s : SOk vs W os) : Pl 4 (shortF vs W os) := by
  have nl : (needF vs os).length ≤ vs.length := need_len
  have := s.vl
  have := s.ol
  refine pl_scr (by simp; omega) (by simp; omega) (by simp; omega) fun v hv => ?_
  obtain ⟨i, hi, rfl⟩ := List.mem_map.mp hv
  have hvi := vAt_get (need_lt hi)
  have va := s.va _ _ hvi
  revert va
  cases vAt vs i with
  | inp s => intro _; simp [Vl.mv, Vl.ops]
  | wk w o => intro va; have := va.2.2.1; simp [Vl.mv, Vl.ops]; omega
end WD
end
section
set_option Elab.async false
set_option linter.all false
set_option maxRecDepth 100000
set_option autoImplicit false
set_option maxHeartbeats 8000000
set_option pp.maxSteps 600
namespace WD
open PySem PySem.Spec PyProof.Rows L2
/-- the spring stands at l; at most k draws were made -/
def Sp (h : PH) (l : Nat) (k : Nat) : Prop := ∃ a c : Int, h[l]? = some (.lst [.int a, .int c]) ∧ 0 ≤ a ∧ a < 2305843009213693921 ∧ 0 ≤ c ∧ c ≤ k
theorem Sp.fr {h h' : PH} {l k : Nat} {S : List Nat} (s : Sp h l k) (f : Fr S h h') (hn : l ∉ S) : Sp h' l k := by
  obtain ⟨a, c, e, r⟩ := s
  exact ⟨a, c, f.at e hn, r⟩
theorem Sp.mono {h : PH} {l k k' : Nat} (s : Sp h l k) (e : k ≤ k') : Sp h l k' := by
  obtain ⟨a, c, e1, e2, e3, e4, e5⟩ := s
  exact ⟨a, c, e1, e2, e3, e4, by omega⟩
theorem Sp.lt {h : PH} {l k : Nat} (s : Sp h l k) : l < h.length := by
  obtain ⟨a, c, e1, _⟩ := s
  exact at_lt e1
theorem spring_ok {n : Nat} {ns : List Int} {h : PH} {q : QV} {x : QX} (hl : ns.length ≤ 63) (z : ∀ h', Sp h' h.length 0 → Fr [] h h' → q (.loc h.length) h') : den T11 (n + 1) 1000 [.rol (ns.map .int)] h q x := by
  refine den_call (F := ir_f_law_spring) (by rfl) rfl ?_
  refine ⟨_, rfl, _, rfl, ?_⟩
  refine for_inv (fun i ς h' => h' = h ∧ ∃ (a : Int) (u v : Option PV), ς = [some (.rol (ns.map .int)), some (.int a), u, v] ∧ 0 ≤ a ∧ a < 2305843009213693921) ⟨rfl, 71023, none, none, rfl, by omega, by omega⟩ (fun i ς h' hi => hi.1 ▸ rfl) ?_ ?_
  · rintro i y ς h' kk hy ⟨rfl, a, u, v, rfl, ha, hb⟩ hk
    obtain ⟨w, hw, rfl⟩ := enumL_get hy
    obtain ⟨j, hj, rfl⟩ := mp_inv hw
    have := get_lt hj
    refine ⟨_, rfl, _, _, rfl, _, _, rfl, rfl, ?_⟩
    refine ⟨_, rfl, mulX (by omega) (by omega), _, rfl, _, _, rfl, rfl, by omega, _, rfl, mulX (by omega) (by omega), by omega, ?_⟩
    refine hk _ _ ⟨rfl, _, _, _, rfl, ?_, ?_⟩
    · exact Int.emod_nonneg _ (by omega)
    · exact Int.emod_lt_of_pos _ (by omega)
  · rintro ς h' ⟨rfl, a, u, v, rfl, ha, hb⟩
    refine ⟨_, rfl, Nat.le_of_ble_eq_true rfl, ?_⟩
    exact z _ ⟨a, 0, at_new, ha, hb, by omega, by omega⟩ Fr.app
theorem flow_ok {n l k : Nat} {many : Int} {h : PH} {q : QV} {x : QX} (s : Sp h l k) (hk : k < 2 ^ 40) (hm : 0 < many) (hm2 : many < 2 ^ 62)
    (z : ∀ (r : Nat) h', (r : Int) < many → Sp h' l (k + 1) → Fr [l] h h' → q (ni r) h') : den T11 (n + 1) 1001 [.loc l, .int many] h q x := by
  obtain ⟨a, c, e, a0, a1, c0, c1⟩ := s
  refine den_call (F := ir_f_law_flow) (by rfl) rfl ?_
  refine ⟨_, rfl, _, _, rfl, e, _, _, _, rfl, rfl, rfl, _, _, rfl, e, _, _, rfl, rfl, ?_⟩
  have e1 := at_set (p := .lst [.int a, .int (c + 1)]) e
  refine ⟨_, rfl, _, e1, _, _, _, rfl, rfl, rfl, _, _, rfl, rfl, mulX (by omega) (by omega), _, rfl, _, e1, _, _, _, rfl, rfl, rfl, mulX (by omega) (by omega), by omega, _, rfl, _, _, rfl, e1, _, _, rfl, rfl, ?_⟩
  have e2 := at_set (p := .lst [.int ((a * 2549297995355413924 + (c + 1) * 48673 + 6074001001) % 2305843009213693921), .int (c + 1)]) e1
  refine ⟨_, rfl, _, e2, _, _, _, rfl, rfl, rfl, _, _, rfl, rfl, div_ok (by omega) (by omega), _, rfl, hm, ?_⟩
  have f : Fr [l] h _ := (Fr.set (o := .lst [.int a, .int (c + 1)]) (List.mem_singleton.mpr rfl)).trans (Fr.set (o := .lst [.int ((a * 2549297995355413924 + (c + 1) * 48673 + 6074001001) % 2305843009213693921), .int (c + 1)]) (List.mem_singleton.mpr rfl))
  have b0 := Int.emod_nonneg (a * 2549297995355413924 + (c + 1) * 48673 + 6074001001) (show (2305843009213693921 : Int) ≠ 0 by omega)
  have b1 := Int.emod_lt_of_pos (a * 2549297995355413924 + (c + 1) * 48673 + 6074001001) (show (0 : Int) < 2305843009213693921 by omega)
  have r0 := Int.emod_nonneg ((a * 2549297995355413924 + (c + 1) * 48673 + 6074001001) % 2305843009213693921 / 524309) (show many ≠ 0 by omega)
  have r1 := Int.emod_lt_of_pos ((a * 2549297995355413924 + (c + 1) * 48673 + 6074001001) % 2305843009213693921 / 524309) hm
  have er : PV.int ((a * 2549297995355413924 + (c + 1) * 48673 + 6074001001) % 2305843009213693921 / 524309 % many) = ni ((a * 2549297995355413924 + (c + 1) * 48673 + 6074001001) % 2305843009213693921 / 524309 % many).toNat := by
    show PV.int _ = PV.int ((((a * 2549297995355413924 + (c + 1) * 48673 + 6074001001) % 2305843009213693921 / 524309 % many).toNat : Nat) : Int)
    rw [Int.toNat_of_nonneg r0]
  rw [er]
  exact z _ _ (by omega) ⟨_, _, e2, b0, b1, by omega, by omega⟩ f
/-! ### letters, works -/
def sI (i : Int) : Str := (toString i : String)
def ltOk (k : Nat) : Bool := decide (((k : Nat) : Int).natAbs.log2 < 1920) && decide (((100000 + (k : Nat)) : Int).natAbs.log2 < 1920) && decide (("m" : Str).length + (sI k).length ≤ sizeLine) && decide (("guard" : Str).length + (sI k).length ≤ sizeLine) &&
  decide (("v" : Str).length + (sI (100000 + (k : Int))).length ≤ sizeLine) && decide ((("v" : Str) ++ (sI (100000 + (k : Int)))).length + ("e" : Str).length ≤ sizeLine)
theorem lt_all : ∀ k : Fin 128, ltOk k.val = true := by decide +kernel
theorem letters_ok {n l k c : Nat} {i : Int} {h : PH} {q : QV} {x : QX} (s : Sp h l k) (hk : k < 2 ^ 40) (hc : c < 128) (ei : i = (c : Int)) (z : ∀ (a : Str) h', Sp h' l (k + 1) → Fr [l] h h' → q (.str a) h') : den T11 (n + 2) 1002 [.loc l, .int i] h q x := by
  subst ei
  have ok := lt_all ⟨c, hc⟩
  unfold ltOk at ok
  simp only [Bool.and_eq_true, decide_eq_true_eq] at ok
  obtain ⟨⟨⟨⟨⟨o1, o2⟩, o3⟩, o4⟩, o5⟩, o6⟩ := ok
  have sp : strP (ni c) = some (sI c) := if_pos o1
  have sp2 : strP (.int (100000 + (c : Int))) = some (sI (100000 + (c : Int))) := if_pos o2
  refine den_call (F := ir_f_law_letters) (by rfl) rfl ?_
  refine ⟨_, rfl, ?_⟩
  refine flow_ok s hk (by omega) (by omega) fun r h1 hr s1 f1 => ?_
  refine ⟨_, rfl, .inl ⟨rfl, ite_b (fun _ => ?_) (fun _ => ?_)⟩⟩
  · exact ⟨_, rfl, _, _, rfl, sp, o3, z _ _ s1 f1⟩
  refine ⟨_, rfl, .inl ⟨rfl, ite_b (fun _ => ?_) (fun _ => ?_)⟩⟩
  · exact ⟨_, rfl, _, _, rfl, sp, o4, z _ _ s1 f1⟩
  exact ⟨_, rfl, _, _, rfl, sp2, o5, o6, z _ _ s1 f1⟩
def works1 : List (Str × Nat) := [("p", 1), ("pp", 2), ("add", 2), ("repea", 3), ("mul", 2), ("u1234567", 1), ("sub", 2), ("w", 3)]
def wP (p : Str × Nat) : PV := .tup [.str p.1, ni p.2]
theorem works_ar {p : Str × Nat} (h : p ∈ works1) : 1 ≤ p.2 ∧ p.2 ≤ 3 ∧ p.1 ≠ ("in" : Str) := by
  have : ∀ p ∈ works1, 1 ≤ p.2 ∧ p.2 ≤ 3 ∧ p.1 ≠ ("in" : Str) := by decide +kernel
  exact this p h
theorem work_ok {n l k : Nat} {h : PH} {q : QV} {x : QX} (s : Sp h l k) (hk : k < 2 ^ 40) (z : ∀ (w : Str) (a : Nat) h', 1 ≤ a → a ≤ 3 → w ≠ ("in" : Str) → Sp h' l (k + 1) → Fr [l] h h' → q (.tup [.str w, ni a]) h') : den T11 (n + 2) 1003 [.loc l] h q x := by
  refine den_call (F := ir_f_law_work) (by rfl) rfl ?_
  refine ⟨Nat.le_of_ble_eq_true rfl, Nat.le_of_ble_eq_true rfl, Nat.le_of_ble_eq_true rfl, Nat.le_of_ble_eq_true rfl, Nat.le_of_ble_eq_true rfl, Nat.le_of_ble_eq_true rfl, Nat.le_of_ble_eq_true rfl, Nat.le_of_ble_eq_true rfl, Nat.le_of_ble_eq_true rfl, ?_⟩
  refine ⟨_, rfl, _, rfl, _, rfl, _, _, rfl, rfl, ?_⟩
  refine flow_ok s hk (by decide) (by decide) fun r h1 hr s1 f1 => ?_
  have hr' : (r : Int) < 8 := hr
  refine ix_of (enc := wP) (xs := works1) (show r < 8 by omega) fun p hp => ?_
  have := works_ar hp
  exact z _ _ _ this.1 this.2.1 this.2.2 s1 f1
/-! ### a new value -/
theorem ns_D (h : PH) (k : Nat) (o : List Nat) : toD h (k + 2) (.tup (o.map ni)) = some (.tuple (o.map fun (x : Nat) => PyData.int (x : Int))) := by
  have e : (o.map ni).mapM (toD h (k + 1)) = some (o.map fun (x : Nat) => PyData.int (x : Int)) := mapM_map fun x _ => rfl
  show (List.mapM (toD h (k + 1)) (o.map ni)).map PyData.tuple = _
  rw [e]
  rfl
theorem eq_oP {v : Vl} {ps : List Nat} {h : PH} {q : Bool → Prop} (hv : v.w ≠ ("in" : Str)) (k : ∀ b, q b) : eqS h v.oP (.tup (ps.map ni)) q := by
  cases v with
  | inp s => exact absurd rfl hv
  | wk w o => exact .inr ⟨_, _, ns_D h 62 o, ns_D h 62 ps, k _⟩
theorem eq_tup {v : Vl} {ps : List Nat} {h : PH} {q : Bool → PH → Prop} (hv : v.w ≠ ("in" : Str)) (k : ∀ b, q b h) : lifS .tuple (ps.map ni) h fun w h2 => cmpS .Eq v.oP w h2 fun r => q r h2 := eq_oP hv k
theorem VAs.snoc {vs : List Vl} {v : Vl} (hv : VAs vs) (ok : VA vs.length v) : VAs (vs ++ [v]) := by
  intro i u hu
  by_cases q : i < vs.length
  · rw [List.getElem?_append_left q] at hu
    exact hv i u hu
  · rw [List.getElem?_append_right (by omega)] at hu
    have : i - vs.length = 0 := by
      have := get_lt hu
      simp at this
      omega
    rw [this] at hu
    have hu' : v = u := by simpa using hu
    subst hu'
    have : i = vs.length := by omega
    rw [this]
    exact ok
theorem max_to {i j r : Int} {h : PH} {q : QV} (e : (if j > i then j else i) = r) (k : q (.int r) h) : bifS .max2 [.int i, .int j] h q := ⟨_, _, rfl, e ▸ k⟩
theorem next_ok {n l lv lp k : Nat} {reach : Int} {vs : List Vl} {P : List Int} {h : PH} {q : QV} {x : QX} (s : Sp h l k) (hk : k < 2 ^ 39) (hr : 1 ≤ reach) (hK : 1 ≤ vs.length) (hK2 : vs.length < 128) (hP : P.length = vs.length)
    (nv : lv ≠ l) (np : lp ≠ l) (ev : h[lv]? = some (.lst (vs.map Vl.enc))) (ep : h[lp]? = some (.lst (P.map .int))) (hv : VAs vs)
    (z : ∀ (v : Vl) (t : Int) h', VA vs.length v → Sp h' l (k + 20) → Fr [l] h h' → q (.tup [v.enc, .int t]) h') : den T11 (n + 3) 1004 [.loc l, .loc lv, .loc lp, .int reach] h q x := by
  refine den_call (F := ir_f_law_next) (by rfl) rfl ?_
  have vl : (vs.map Vl.enc).length = vs.length := List.length_map ..
  refine ⟨_, rfl, _, _, rfl, len_loc ev, ?_⟩
  refine ⟨_, rfl, ?_⟩
  refine work_ok s (by omega) fun w a h1 a1 a3 hw s1 f1 => ?_
  refine ⟨_, rfl, _, _, rfl, _, _, rfl, rfl, ?_⟩
  obtain ⟨low, el, hlow⟩ : ∃ low : Nat, (if ((vs.map Vl.enc).length : Int) - reach > 0 then ((vs.map Vl.enc).length : Int) - reach else 0) = (low : Int) ∧ low < vs.length := by
    rw [vl]
    by_cases c : (vs.length : Int) - reach > 0
    · rw [if_pos c]
      exact ⟨((vs.length : Int) - reach).toNat, by omega, by omega⟩
    · rw [if_neg c]
      exact ⟨0, rfl, by omega⟩
  refine ⟨_, rfl, _, rfl, _, _, rfl, ?_⟩
  rw [el]
  refine ⟨Nat.zero_le _, ?_⟩
  have ek : (h1 ++ [PO.lst []])[h1.length]? = some (.lst (([] : List Nat).map ni)) := at_new
  have s2 := s1.fr (Fr.app (S := []) (o := .lst [])) (by simp)
  have f2 := f1.trans (Fr.app (S := [l]) (o := .lst []))
  have ll := s1.lt
  have hv1 := at_lt (f1.at ev (by simpa using nv))
  have hp1 := at_lt (f1.at ep (by simpa using np))
  have h01 := f1.1
  refine ⟨_, rfl, _, rfl, by omega, by omega, ?_⟩
  refine for_inv (fun i ς h' => (∃ a7 a8 a9 a12 a13, ς = [some (.loc l), some (.loc lv), some (.loc lp), some (.int reach), some (.int ((vs.map Vl.enc).length : Int)), some (ni low), some (.loc h1.length), a7, a8, a9, some (.str w), some (ni a), a12, a13]) ∧ (∃ ps : List Nat, h'[h1.length]? = some (.lst (ps.map ni)) ∧ ps.length = i ∧ ∀ x, x ∈ ps → x < vs.length) ∧ Sp h' l (k + 1 + 2 * i) ∧ Fr [l] h h')
    ⟨⟨_, _, _, _, _, rfl⟩, ⟨[], ek, rfl, by simp⟩, s2, f2⟩ (fun _ _ _ _ => trivial) ?_ ?_
  · rintro i y ς h2 kk hy ⟨⟨a7, a8, a9, a12, a13, rfl⟩, ⟨ps, ep2, pl, pb⟩, s2, f2⟩ hkk
    obtain ⟨hi, rfl⟩ := range_get hy
    rw [toNat_nat] at hi
    refine cut_t (fun b h' => (b = true → 0 < i) ∧ Sp h' l (k + 1 + 2 * i + 1) ∧ Fr [l] h2 h') ?_ ?_
    · refine ⟨_, rfl, _, _, rfl, rfl, ite_b (fun c => ?_) (fun c => ?_)⟩
      · have c2 := of_decide_eq_true c
        refine ⟨_, rfl, ?_⟩
        refine flow_ok s2 (by omega) (by omega) (by omega) fun r h3 _ s3 f3 => .inl ⟨rfl, fun _ => by omega, s3, f3⟩
      · exact ⟨fun z => (Bool.false_ne_true z).elim, s2.mono (by omega), Fr.refl⟩
    · rintro b h3 ⟨hb, s3, f3⟩
      have ep3 := f3.at ep2 (by simp; omega)
      refine ite_b (fun c => ?_) (fun c => ?_)
      · have hi0 := hb c
        have g0 : ps[0]? = some (ps.getD 0 0) := getD_at (by omega)
        refine ⟨_, rfl, ⟨_, _, rfl, ep3, rfl⟩, _, rfl, _, ep3, _, _, _, rfl, ixP_at (k := 0) rfl (by simp; omega), mp_get g0, _, _, rfl, ep3, szl (by simp; omega), ?_⟩
        refine hkk _ _ ⟨⟨_, _, _, _, _, rfl⟩, ⟨ps ++ [ps.getD 0 0], ?_, by simp [pl], ?_⟩, ?_, (f2.trans f3).new (.inl h01)⟩
        · rw [at_set ep3]
          simp
        · intro x hx
          rcases List.mem_append.mp hx with hx | hx
          · exact pb x hx
          · rw [List.mem_singleton.mp hx]
            exact pb _ (List.mem_of_getElem? g0)
        · exact (s3.fr (Fr.set (S := [h1.length]) (by simp)) (by simp; omega)).mono (by omega)
      · refine ⟨_, rfl, ⟨_, _, rfl, ep3, rfl⟩, _, rfl, _, rfl, _, rfl, _, rfl, ?_⟩
        refine flow_ok s3 (by omega) (by omega) (by omega) fun r h4 hr4 s4 f4 => ?_
        have ep4 := f4.at ep3 (by simp; omega)
        refine ⟨_, _, rfl, ep4, szl (by simp; omega), ?_⟩
        refine hkk _ _ ⟨⟨_, _, _, _, _, rfl⟩, ⟨ps ++ [low + r], ?_, by simp [pl], ?_⟩, ?_, ((f2.trans f3).trans f4).new (.inl h01)⟩
        · rw [at_set ep4]
          simp [ni]
        · intro x hx
          rcases List.mem_append.mp hx with hx | hx
          · exact pb x hx
          · rw [List.mem_singleton.mp hx]
            omega
        · exact (s4.fr (Fr.set (S := [h1.length]) (by simp)) (by simp; omega)).mono (by omega)
  · rintro ς h2 ⟨⟨a7, a8, a9, a12, a13, rfl⟩, ⟨ps, ep2, pl, pb⟩, s2, f2⟩
    rw [rangeL_length, toNat_nat] at pl s2
    have ev2 := f2.at ev (by simpa using nv)
    have epp := f2.at ep (by simpa using np)
    refine ⟨_, rfl, .inl ⟨_, gL ep2, ?_⟩⟩
    refine cmp_map (enc := ni) (f := fun j => .int (P.getD j 0)) (gL ep2) (fun t j Q ht hQ => ?_) (by omega) ?_
    · have := pb j (List.mem_of_getElem? ht)
      exact ⟨_, rfl, _, rfl, _, epp, _, _, _, rfl, ixP_nat (by rw [List.length_map]; omega), mp_get (getD_at (by omega)), hQ⟩
    have ei : intsOf (ps.map fun j => PV.int (P.getD j 0)) = some (ps.map fun j => P.getD j 0) := by
      have := intsOf_map (ps.map fun j => P.getD j 0)
      rw [List.map_map] at this
      exact this
    refine ⟨_, rfl, _, ei, ?_⟩
    refine ⟨_, rfl, .inl ⟨_, gL ev2, ?_⟩⟩
    refine cmp_inv (fun i acc h' => h' = h2 ∧ acc.length ≤ i) ⟨rfl, Nat.le_refl _⟩ (fun _ _ _ hi => hi.1 ▸ gL ev2) ?_ ?_
    · rintro i y acc h3 kc hy ⟨rfl, ha⟩ hkc
      obtain ⟨v, hvi, rfl⟩ := mp_inv hy
      have hil := get_lt hvi
      rw [enc_eq]
      refine ⟨_, rfl, _, _, _, _, rfl, rfl, rfl, rfl, _, rfl, .inl ⟨rfl, ite_b (fun c => ?_) (fun c => ?_)⟩⟩
      · have c2 : v.w = w := strEq c
        refine ⟨_, rfl, _, _, _, _, rfl, rfl, rfl, rfl, _, rfl, _, gL ep2, ?_⟩
        refine eq_tup (by rw [c2]; exact hw) fun b => ?_
        refine ite_b (fun _ => ?_) (fun _ => ?_)
        · exact ⟨szl (by omega), hkc _ _ ⟨rfl, by simp; omega⟩⟩
        · exact hkc _ _ ⟨rfl, by omega⟩
      · exact hkc _ _ ⟨rfl, by omega⟩
    · rintro acc h3 ⟨rfl, ha⟩
      refine ⟨_, rfl, .inl ⟨rfl, ?_⟩⟩
      refine cut_t (fun b h' => h' = h3) ?_ ?_
      · exact ⟨_, rfl, _, _, rfl, rfl, ite_b (fun _ => rfl) (fun _ => ⟨_, rfl, _, rfl, rfl⟩)⟩
      · rintro b h4 rfl
        refine ite_b (fun _ => ?_) (fun _ => ?_)
        · refine ⟨_, rfl, _, rfl, ?_⟩
          refine letters_ok (c := vs.length) s2 (by omega) hK2 (by rw [vl]) fun st h5 s5 f5 => ?_
          refine ⟨Nat.le_of_ble_eq_true rfl, Nat.le_of_ble_eq_true rfl, ?_⟩
          exact z (.inp st) 1 h5 trivial (s5.mono (by omega)) (f2.trans f5)
        · refine ⟨_, rfl, _, rfl, _, gL ep2, Nat.le_of_ble_eq_true rfl, _, rfl, Nat.le_of_ble_eq_true rfl, ?_⟩
          exact z (.wk w ps) _ h4 ⟨hw, by omega, by omega, pb⟩ (s2.mono (by omega)) f2
theorem set_int {Φ : Phi} {i : Nat} {j : Int} {r : Sms} {κ : KS} {ς : PSt} {h : PH} (k : wSs Φ r κ (ς.set i (some (.int j))) h) : wSs Φ (.cons (.set (.slot i) (.int j)) r) κ ς h := k
theorem grown_ok {n l k many : Nat} {i0 dry reach : Int} {h : PH} {q : QV} {x : QX} (s : Sp h l k) (hk : k < 2 ^ 38) (ei : i0 = (many : Int)) (hm : 1 ≤ many) (hm2 : many < 128) (hr : 1 ≤ reach)
    (z : ∀ (vs : List Vl) h' L, h'[L]? = some (.lst (vs.map Vl.enc)) → h.length ≤ L → vs.length = many → VAs vs → Sp h' l (k + 3000) → Fr [l] h h' → q (.loc L) h') : den T11 (n + 4) 1005 [.loc l, .int i0, .int dry, .int reach] h q x := by
  subst ei
  refine den_call (F := ir_f_law_grown) (by rfl) rfl ?_
  refine ⟨_, rfl, ?_⟩
  refine letters_ok (c := 0) s (by omega) (by omega) rfl fun st h1 s1 f1 => ?_
  refine ⟨Nat.le_of_ble_eq_true rfl, Nat.le_of_ble_eq_true rfl, Nat.le_of_ble_eq_true rfl, ?_⟩
  have h01 := f1.1
  have ll := s1.lt
  have e4 : (h1 ++ [PO.lst ([Vl.inp st].map Vl.enc)])[h1.length]? = some (.lst ([Vl.inp st].map Vl.enc)) := at_new
  have e4' := at_app (p := .lst ([(1 : Int)].map PV.int)) e4
  have e5 : (h1 ++ [PO.lst ([Vl.inp st].map Vl.enc)] ++ [PO.lst ([(1 : Int)].map PV.int)])[(h1 ++ [PO.lst ([Vl.inp st].map Vl.enc)]).length]? = some (.lst ([(1 : Int)].map PV.int)) := at_new
  have fa : Fr [] h1 (h1 ++ [PO.lst ([Vl.inp st].map Vl.enc)] ++ [PO.lst ([(1 : Int)].map PV.int)]) := Fr.app.trans Fr.app
  have l5 : (h1 ++ [PO.lst ([Vl.inp st].map Vl.enc)]).length = h1.length + 1 := by simp
  have s2 := s1.fr fa (by simp)
  have f2 := f1.trans (Fr.app.trans Fr.app : Fr [l] h1 (h1 ++ [PO.lst ([Vl.inp st].map Vl.enc)] ++ [PO.lst ([(1 : Int)].map PV.int)]))
  have va0 : VAs [Vl.inp st] := by
    intro i v hv
    have := get_lt hv
    have : i = 0 := by simpa using this
    subst this
    have hv' : Vl.inp st = v := by simpa using hv
    subst hv'
    trivial
  refine ⟨_, rfl, _, _, rfl, rfl, ⟨by omega, by omega, by omega, by omega⟩, ?_⟩
  refine for_inv (fun i ς h' => (∃ a6 a7 a8, ς = [some (.loc l), some (ni many), some (.int dry), some (.int reach), some (.loc h1.length), some (.loc (h1 ++ [PO.lst ([Vl.inp st].map Vl.enc)]).length), a6, a7, a8]) ∧
      (∃ (vs : List Vl) (P : List Int), h'[h1.length]? = some (.lst (vs.map Vl.enc)) ∧ h'[(h1 ++ [PO.lst ([Vl.inp st].map Vl.enc)]).length]? = some (.lst (P.map .int)) ∧ vs.length = 1 + i ∧ P.length = vs.length ∧ VAs vs) ∧ Sp h' l (k + 1 + 22 * i) ∧ Fr [l] h h')
    ⟨⟨_, _, _, rfl⟩, ⟨_, _, e4', e5, rfl, rfl, va0⟩, s2, f2⟩ (fun _ _ _ _ => trivial) ?_ ?_
  · rintro i y ς h2 kk hy ⟨⟨a6, a7, a8, rfl⟩, ⟨vs, P, ev, ep, vl, pl, va⟩, s2, f2⟩ hkk
    obtain ⟨hi, rfl⟩ := range_get hy
    refine ⟨_, rfl, _, rfl, ?_⟩
    refine letters_ok (c := 1 + i) s2 (by omega) (by omega) (by omega) fun st2 h3 s3 f3 => ?_
    have ev3 := f3.at ev (by simp; omega)
    have ep3 := f3.at ep (by simp; omega)
    refine ⟨Nat.le_of_ble_eq_true rfl, ?_⟩
    refine set_int ?_
    refine cut_nx (fun ς h' => (∃ (v : Vl) (t : Int), ς = [some (.loc l), some (ni many), some (.int dry), some (.int reach), some (.loc h1.length), some (.loc (h1 ++ [PO.lst ([Vl.inp st].map Vl.enc)]).length), some (.int (1 + (i : Int))), some v.enc, some (.int t)] ∧ VA vs.length v) ∧ Sp h' l (k + 1 + 22 * i + 22) ∧ Fr [l] h3 h') ?_ ?_
    · refine ⟨_, rfl, ?_⟩
      refine flow_ok s3 (by omega) (by omega) (by omega) fun r h4 hr4 s4 f4 => ?_
      refine ⟨_, rfl, _, _, rfl, rfl, ite_b (fun _ => ?_) (fun _ => ?_)⟩
      · refine ⟨_, rfl, _, rfl, _, rfl, _, rfl, ?_⟩
        refine next_ok s4 (by omega) hr (by omega) (by omega) pl (by omega) (by omega) (f4.at ev3 (by simp; omega)) (f4.at ep3 (by simp; omega)) va fun v t h5 hv5 s5 f5 => ?_
        refine ⟨_, rfl, _, _, rfl, _, _, rfl, rfl, ?_⟩
        exact ⟨⟨v, t, rfl, hv5⟩, s5.mono (by omega), f4.trans f5⟩
      · exact ⟨⟨.inp st2, 1, rfl, trivial⟩, s4.mono (by omega), f4⟩
    · rintro ς h4 ⟨⟨v, t, rfl, hv4⟩, s4, f4⟩
      have ev4 := f4.at ev3 (by simp; omega)
      have ep4 := f4.at ep3 (by simp; omega)
      refine ⟨_, rfl, ⟨_, _, rfl, ev4, rfl⟩, _, rfl, _, _, rfl, ev4, szl (by simp; omega), ?_⟩
      have ep5 := at_ne (k := h1.length) (p := .lst (vs.map Vl.enc ++ [v.enc])) ep4 (by omega)
      refine ⟨_, rfl, ⟨_, _, rfl, ep5, rfl⟩, _, rfl, _, _, rfl, ep5, szl (by simp; omega), ?_⟩
      refine hkk _ _ ⟨⟨_, _, _, rfl⟩, ⟨vs ++ [v], P ++ [t], ?_, ?_, by simp; omega, by simp; omega, va.snoc hv4⟩, ?_, ?_⟩
      · rw [at_ne (at_set ev4) (by omega)]
        simp
      · rw [at_set ep5]
        simp
      · exact ((s4.fr (Fr.set (S := [h1.length]) (by simp)) (by simp; omega)).fr (Fr.set (S := [(h1 ++ [PO.lst ([Vl.inp st].map Vl.enc)]).length]) (by simp)) (by simp; omega)).mono (by omega)
      · exact (((f2.trans f3).trans f4).new (.inl h01)).new (.inl (by omega))
  · rintro ς h2 ⟨⟨a6, a7, a8, rfl⟩, ⟨vs, P, ev, ep, vl, pl, va⟩, s2, f2⟩
    rw [rangeL_length] at vl s2
    exact ⟨_, rfl, z vs h2 _ ev h01 (by omega) va (s2.mono (by omega)) f2⟩
end WD
end
section
set_option Elab.async false
set_option linter.all false
set_option maxRecDepth 100000
set_option autoImplicit false
set_option maxHeartbeats 8000000
set_option pp.maxSteps 600
namespace WD
open PySem PySem.Spec PyProof.Rows L2
theorem weighed_ok {n l lv k : Nat} {vs : List Vl} {h : PH} {q : QV} {x : QX} (s : Sp h l k) (hk : k < 2 ^ 39) (nv : lv ≠ l) (ev : h[lv]? = some (.lst (vs.map Vl.enc))) (vl : vs.length ≤ 1000)
    (z : ∀ (W : List Int) h', W.length = vs.length → Sp h' l (k + 2000) → Fr [l] h h' → q (.tup (W.map .int)) h') : den T11 (n + 2) 1007 [.loc l, .loc lv] h q x := by
  refine den_call (F := ir_f_law_weighed) (by rfl) rfl ?_
  refine ⟨_, rfl, ?_⟩
  refine flow_ok s (by omega) (by omega) (by omega) fun r h1 hr s1 f1 => ?_
  have ev1 := f1.at ev (by simpa using nv)
  have ml : (vs.map Vl.enc).length = vs.length := List.length_map ..
  refine .inl ⟨rfl, ite_b (fun _ => ?_) (fun _ => ?_)⟩
  · refine ⟨_, rfl, .inl ⟨_, gL ev1, ?_⟩⟩
    refine cmp_inv0 (fun i acc h' => (∃ W : List Int, acc = W.map .int ∧ W.length = i) ∧ Sp h' l (k + 1 + i) ∧ Fr [l] h1 h') ⟨⟨[], rfl, rfl⟩, s1, Fr.refl⟩ (fun i acc h' hi => gL (hi.2.2.at ev1 (by simpa using nv))) ?_ ?_
    · rintro i y acc h2 kk hy ⟨⟨W, rfl, wl⟩, s2, f2⟩ hkk
      have := get_lt hy
      refine ⟨_, rfl, ?_⟩
      refine flow_ok s2 (by omega) (by omega) (by omega) fun r h3 hr3 s3 f3 => ?_
      refine ⟨mulX (by omega) (by omega), szl (by simp; omega), hkk _ _ ⟨⟨W ++ [_], by rw [List.map_append]; rfl, by simp [wl]⟩, s3, f2.trans f3⟩⟩
    · rintro acc h2 ⟨⟨W, rfl, wl⟩, s2, f2⟩
      exact ⟨_, rfl, z W h2 (by omega) (s2.mono (by omega)) (f1.trans f2)⟩
  · refine ⟨_, rfl, .inl ⟨_, gL ev1, ?_⟩⟩
    refine cmp_inv0 (fun i acc h' => (∃ W : List Int, acc = W.map .int ∧ W.length = i) ∧ Sp h' l (k + 1 + i) ∧ Fr [l] h1 h') ⟨⟨[], rfl, rfl⟩, s1, Fr.refl⟩ (fun i acc h' hi => gL (hi.2.2.at ev1 (by simpa using nv))) ?_ ?_
    · rintro i y acc h2 kk hy ⟨⟨W, rfl, wl⟩, s2, f2⟩ hkk
      have := get_lt hy
      refine ⟨_, rfl, ?_⟩
      refine flow_ok s2 (by omega) (by omega) (by omega) fun r h3 hr3 s3 f3 => ?_
      refine ⟨szl (by simp; omega), hkk _ _ ⟨⟨W ++ [_], by rw [List.map_append]; rfl, by simp [wl]⟩, s3, f2.trans f3⟩⟩
    · rintro acc h2 ⟨⟨W, rfl, wl⟩, s2, f2⟩
      exact ⟨_, rfl, z W h2 (by omega) (s2.mono (by omega)) (f1.trans f2)⟩
theorem outs_ok {n l k m most : Nat} {i0 i1 : Int} {h : PH} {q : QV} {x : QX} (s : Sp h l k) (hk : k < 2 ^ 39) (e0 : i0 = (m : Int)) (e1 : i1 = (most : Int)) (hm : 1 ≤ m) (hm2 : m ≤ 1000) (hmo : most ≤ 100)
    (z : ∀ (os : List Nat) h', os.length ≤ 1000 → (∀ o, o ∈ os → o < m) → Sp h' l (k + 2000) → Fr [l] h h' → q (.tup (os.map ni)) h') : den T11 (n + 2) 1008 [.loc l, .int i0, .int i1] h q x := by
  subst e0
  subst e1
  refine den_call (F := ir_f_law_outs) (by rfl) rfl ?_
  refine ⟨_, rfl, _, rfl, ?_⟩
  refine flow_ok s (by omega) (by omega) (by omega) fun sz0 h1 hsz s1 f1 => ?_
  refine cut_nx (fun ς h' => (∃ sz1 : Nat, ς = [some (.loc l), some (ni m), some (ni most), some (ni sz1), none, none] ∧ sz1 ≤ most) ∧ Sp h' l (k + 2) ∧ Fr [l] h1 h') ?_ ?_
  · refine cut_t (fun b h' => Sp h' l (k + 2) ∧ Fr [l] h1 h') ?_ ?_
    · refine ⟨_, rfl, _, _, rfl, rfl, ite_b (fun _ => ?_) (fun _ => ⟨s1.mono (by omega), Fr.refl⟩)⟩
      refine ⟨_, rfl, ?_⟩
      exact flow_ok s1 (by omega) (by omega) (by omega) fun r h2 hr s2 f2 => .inl ⟨rfl, s2, f2⟩
    · rintro b h2 ⟨s2, f2⟩
      refine ite_b (fun _ => ?_) (fun _ => ?_)
      · exact ⟨_, rfl, ⟨most, rfl, Nat.le_refl _⟩, s2, f2⟩
      · exact ⟨⟨sz0, rfl, by omega⟩, s2, f2⟩
  rintro ς h2 ⟨⟨sz1, rfl, hsz1⟩, s2, f2⟩
  refine ⟨_, rfl, _, rfl, ?_⟩
  refine flow_ok s2 (by omega) (by omega) (by omega) fun lo h3 hlo s3 f3 => ?_
  refine cut_nx (fun ς h' => (∃ lo1 : Nat, ς = [some (.loc l), some (ni m), some (ni most), some (ni sz1), some (ni lo1), none] ∧ lo1 < m) ∧ Sp h' l (k + 4) ∧ Fr [l] h3 h') ?_ ?_
  · refine ⟨_, rfl, ?_⟩
    refine flow_ok s3 (by omega) (by omega) (by omega) fun r h4 hr s4 f4 => .inl ⟨rfl, ite_b (fun _ => ?_) (fun _ => ?_)⟩
    · exact ⟨⟨0, rfl, by omega⟩, s4, f4⟩
    · exact ⟨⟨lo, rfl, by omega⟩, s4, f4⟩
  rintro ς h4 ⟨⟨lo1, rfl, hlo1⟩, s4, f4⟩
  refine ⟨_, rfl, _, rfl, by omega, by omega, ?_⟩
  refine cmp_inv0 (fun i acc h' => (∃ os : List Nat, acc = os.map ni ∧ os.length = i ∧ ∀ o, o ∈ os → o < m) ∧ Sp h' l (k + 4 + i) ∧ Fr [l] h4 h') ⟨⟨[], rfl, rfl, by simp⟩, s4, Fr.refl⟩ (fun _ _ _ _ => trivial) ?_ ?_
  · rintro i y acc h5 kk hy ⟨⟨os, rfl, ol, ob⟩, s5, f5⟩ hkk
    obtain ⟨hi, rfl⟩ := range_get hy
    rw [toNat_nat] at hi
    refine ⟨_, rfl, _, rfl, _, rfl, _, rfl, ?_⟩
    refine flow_ok s5 (by omega) (by omega) (by omega) fun r h6 hr6 s6 f6 => ?_
    refine ⟨szl (by simp; omega), hkk _ _ ⟨⟨os ++ [lo1 + r], ?_, by simp [ol], ?_⟩, s6, f5.trans f6⟩⟩
    · simp [ni]
    · intro x hx
      rcases List.mem_append.mp hx with hx | hx
      · exact ob x hx
      · rw [List.mem_singleton.mp hx]
        omega
  · rintro acc h5 ⟨⟨os, rfl, ol, ob⟩, s5, f5⟩
    rw [rangeL_length, toNat_nat] at ol s5
    exact ⟨_, rfl, z os h5 (by omega) ob (s5.mono (by omega)) ((((f1.trans f2).trans f3).trans f4).trans f5)⟩
/-! ### rows that are wanted -/
def rowP (r : List Nat) : PV := .tup (r.map ni)
def RowsOk (m : Nat) (rows : List (List Nat)) : Prop := ∀ r, r ∈ rows → r.length ≤ 1000 ∧ ∀ x, x ∈ r → x < m
theorem RowsOk.snoc {m : Nat} {rows : List (List Nat)} {r : List Nat} (a : RowsOk m rows) (b : r.length ≤ 1000) (c : ∀ x, x ∈ r → x < m) : RowsOk m (rows ++ [r]) := by
  intro r' h
  rcases List.mem_append.mp h with h | h
  · exact a r' h
  · rw [List.mem_singleton.mp h]
    exact ⟨b, c⟩
theorem range_ni (m : Nat) : rangeL 0 m = (List.range m).map ni := by
  rw [rangeL_eq]
  exact List.map_congr_left fun i _ => by show PV.int _ = PV.int _; rw [Int.zero_add]
theorem perm_nats {ms : List Int} {ps : List Nat} (p : ms.Perm (ps.map fun (x : Nat) => (x : Int))) : ∃ os : List Nat, ms = os.map (fun (x : Nat) => (x : Int)) ∧ os.Perm ps := by
  refine ⟨ms.map Int.toNat, ?_, ?_⟩
  · rw [List.map_map]
    conv => lhs; rw [← List.map_id ms]
    refine List.map_congr_left fun x hx => ?_
    obtain ⟨y, _, rfl⟩ := List.mem_map.mp (p.mem_iff.mp hx)
    simp
  · have := p.map Int.toNat
    rw [List.map_map] at this
    have e : (ps.map (Int.toNat ∘ fun (x : Nat) => (x : Int))) = ps := by
      conv => rhs; rw [← List.map_id ps]
      exact List.map_congr_left fun x _ => by simp
    rw [e] at this
    exact this
theorem ints_ni (ps : List Nat) : intsOf (ps.map ni) = some (ps.map fun (x : Nat) => (x : Int)) := by
  have := intsOf_map (ps.map fun (x : Nat) => (x : Int))
  rw [List.map_map] at this
  exact this
theorem wanted_ok {n l k m : Nat} {i0 : Int} {h : PH} {q : QV} {x : QX} (s : Sp h l k) (hk : k < 2 ^ 39) (e0 : i0 = (m : Int)) (hm : m ≤ 1000)
    (z : ∀ (rows : List (List Nat)) L h', h'[L]? = some (.lst (rows.map rowP)) → rows.length ≤ 1000 → RowsOk m rows → h.length ≤ L → Sp h' l (k + 20) → Fr [l] h h' → q (.loc L) h') : den T11 (n + 2) 1011 [.loc l, .int i0] h q x := by
  subst e0
  refine den_call (F := ir_f_law_wanted) (by rfl) rfl ?_
  refine ⟨Nat.zero_le _, _, rfl, _, rfl, ⟨by simp only [oI]; omega, by simp only [oI]; omega⟩, Nat.le_of_ble_eq_true rfl, ?_⟩
  have er : (rangeL (oI 0 none) (oI 0 (some (m : Int)) - oI 0 none).toNat) = (List.range m).map ni := by
    show rangeL 0 ((m : Int) - 0).toNat = _
    rw [Int.sub_zero, toNat_nat, range_ni]
  rw [er]
  have r0 : RowsOk m [[], List.range m] := by
    intro r hr
    simp only [List.mem_cons, List.not_mem_nil, or_false] at hr
    rcases hr with rfl | rfl
    · simp
    · simp; exact hm
  have e2 : (h ++ [PO.lst [PV.tup [], PV.tup ((List.range m).map ni)]])[h.length]? = some (.lst ([[], List.range m].map rowP)) := at_new
  have s1 := s.fr (Fr.app (S := []) (o := PO.lst [PV.tup [], PV.tup ((List.range m).map ni)])) (by simp)
  have f1 : Fr [l] h (h ++ [PO.lst [PV.tup [], PV.tup ((List.range m).map ni)]]) := Fr.app
  have ll := s.lt
  have hl : h.length ≠ l := by omega
  refine cut_nx (fun ς h' => (∃ a b c, ς = [some (.loc l), some (ni m), some (.loc h.length), a, b, c]) ∧ (∃ rows : List (List Nat), h'[h.length]? = some (.lst (rows.map rowP)) ∧ rows.length ≤ 1000 ∧ RowsOk m rows) ∧ Sp h' l (k + 20) ∧ Fr [l] h h') ?_ ?_
  · refine ⟨_, rfl, _, _, rfl, rfl, ite_b (fun c => ?_) (fun c => ?_)⟩
    · have hm0 := of_decide_eq_true c
      refine ⟨_, rfl, _, rfl, ?_⟩
      refine flow_ok s1 (by omega) (by omega) (by omega) fun one h2 ho s2 f2 => ?_
      have e3 := f2.at e2 (by simpa using hl)
      refine ⟨_, rfl, ⟨_, _, rfl, e3, rfl⟩, _, rfl, Nat.le_of_ble_eq_true rfl, _, _, rfl, e3, Nat.le_of_ble_eq_true rfl, ?_⟩
      have e4 : (h2.set h.length (.lst ([[], List.range m].map rowP ++ [PV.tup [ni one]])))[h.length]? = some (.lst ([[], List.range m, [one]].map rowP)) := at_set e3
      have s3 := s2.fr (Fr.set (S := [h.length]) (o := (.lst ([[], List.range m].map rowP ++ [PV.tup [ni one]]))) (List.mem_singleton.mpr rfl)) (by simpa using Ne.symm hl)
      have f3 := (f1.trans f2).new (o := (.lst ([[], List.range m].map rowP ++ [PV.tup [ni one]]))) (.inl (Nat.le_refl h.length))
      have r3 := r0.snoc (r := [one]) (by simp) (fun x hx => by rw [List.mem_singleton.mp hx]; omega)
      refine ⟨_, rfl, ⟨_, _, rfl, e4, rfl⟩, _, rfl, _, rfl, div_ok (by omega) (by omega), _, rfl, Nat.le_of_ble_eq_true rfl, _, _, rfl, e4, Nat.le_of_ble_eq_true rfl, ?_⟩
      have e5 : (((h2.set h.length (.lst ([[], List.range m].map rowP ++ [PV.tup [ni one]])))).set h.length (.lst ([[], List.range m, [one]].map rowP ++ [PV.tup [.int ((m : Int) - 1), .int ((m : Int) / 2), .int ((m : Int) - 1)]])))[h.length]? = some (.lst ([[], List.range m, [one], [m - 1, m / 2, m - 1]].map rowP)) := by
        rw [at_set e4]
        have a1 : ((m - 1 : Nat) : Int) = (m : Int) - 1 := by omega
        have a2 : ((m / 2 : Nat) : Int) = (m : Int) / 2 := by omega
        simp [rowP, ni, a1, a2]
      have s5 := s3.fr (Fr.set (S := [h.length]) (o := (.lst ([[], List.range m, [one]].map rowP ++ [PV.tup [.int ((m : Int) - 1), .int ((m : Int) / 2), .int ((m : Int) - 1)]]))) (List.mem_singleton.mpr rfl)) (by simpa using Ne.symm hl)
      have f5 := f3.new (o := (.lst ([[], List.range m, [one]].map rowP ++ [PV.tup [.int ((m : Int) - 1), .int ((m : Int) / 2), .int ((m : Int) - 1)]]))) (.inl (Nat.le_refl h.length))
      have r5 := r3.snoc (r := [m - 1, m / 2, m - 1]) (by simp) (fun x hx => by
        simp only [List.mem_cons, List.not_mem_nil, or_false] at hx
        omega)
      refine ⟨_, rfl, ?_⟩
      refine flow_ok s5 (by omega) (by omega) (by omega) fun five h6 h5 s6 f6 => ?_
      refine ⟨_, rfl, by omega, by omega, ?_⟩
      have e6 := f6.at e5 (by simpa using hl)
      refine cmp_inv0 (fun i acc h' => (∃ ps : List Nat, acc = ps.map ni ∧ ps.length = i ∧ ∀ o, o ∈ ps → o < m) ∧ Sp h' l (k + 2 + i) ∧ Fr [l] h6 h') ⟨⟨[], rfl, rfl, by simp⟩, s6, Fr.refl⟩ (fun _ _ _ _ => trivial) ?_ ?_
      · rintro i y acc h7 kk hy ⟨⟨ps, rfl, pl, pb⟩, s7, f7⟩ hkk
        obtain ⟨hi, rfl⟩ := range_get hy
        refine ⟨_, rfl, _, rfl, ?_⟩
        refine flow_ok s7 (by omega) (by omega) (by omega) fun r h8 hr8 s8 f8 => ?_
        refine ⟨szl (by simp; omega), hkk _ _ ⟨⟨ps ++ [r], by simp, by simp [pl], ?_⟩, s8, f7.trans f8⟩⟩
        intro x hx
        rcases List.mem_append.mp hx with hx | hx
        · exact pb x hx
        · rw [List.mem_singleton.mp hx]
          omega
      · rintro acc h7 ⟨⟨ps, rfl, pl, pb⟩, s7, f7⟩
        rw [rangeL_length] at pl s7
        have e7 := at_app (p := .lst (ps.map ni)) (f7.at e6 (by simpa using hl))
        have f57 := (f5.trans f6).trans (f7.trans (Fr.app (o := .lst (ps.map ni))))
        have s77 := s7.fr (Fr.app (S := []) (o := .lst (ps.map ni))) (by simp)
        have ep : (h7 ++ [PO.lst (ps.map ni)])[h7.length]? = some (.lst (ps.map ni)) := at_new
        have h07 := at_lt (f7.at e6 (by simpa using hl))
        refine ⟨_, rfl, ⟨_, _, rfl, e7, rfl⟩, _, rfl, _, gL ep, _, _, rfl, e7, Nat.le_of_ble_eq_true rfl, ?_⟩
        have e8 : ((h7 ++ [PO.lst (ps.map ni)]).set h.length (.lst ([[], List.range m, [one], [m - 1, m / 2, m - 1]].map rowP ++ [PV.tup (ps.map ni)])))[h.length]? = some (.lst ([[], List.range m, [one], [m - 1, m / 2, m - 1], ps].map rowP)) := at_set e7
        have s8 := s77.fr (Fr.set (S := [h.length]) (o := (.lst ([[], List.range m, [one], [m - 1, m / 2, m - 1]].map rowP ++ [PV.tup (ps.map ni)]))) (List.mem_singleton.mpr rfl)) (by simpa using Ne.symm hl)
        have f8 := f57.new (o := (.lst ([[], List.range m, [one], [m - 1, m / 2, m - 1]].map rowP ++ [PV.tup (ps.map ni)]))) (.inl (Nat.le_refl h.length))
        have r8 := r5.snoc (r := ps) (by omega) pb
        have ep8 := at_ne (k := h.length) (p := (.lst ([[], List.range m, [one], [m - 1, m / 2, m - 1]].map rowP ++ [PV.tup (ps.map ni)]))) ep (by omega)
        refine ⟨_, rfl, ⟨_, _, rfl, e8, rfl⟩, _, rfl, by omega, by omega, ?_⟩
        refine cmp_map (enc := ni) (xs := [0, 1]) (f := fun _ => ni one) trivial (fun t j Q ht hQ => ⟨_, rfl, hQ⟩) (by decide) ?_
        refine ⟨_, rfl, _, rfl, _, gL ep8, .inl ⟨_, ints_ni ps, fun ms pm srt => ?_⟩⟩
        obtain ⟨os, rfl, po⟩ := perm_nats pm
        have ol := po.length_eq
        rw [List.map_map]
        refine ⟨_, rfl, sz (by simp; omega), _, _, rfl, e8, Nat.le_of_ble_eq_true rfl, ?_⟩
        refine ⟨⟨_, _, _, rfl⟩, ⟨[[], List.range m, [one], [m - 1, m / 2, m - 1], ps, [one, one] ++ os], ?_, by simp, ?_⟩, ?_, f8.new (.inl (Nat.le_refl h.length))⟩
        · rw [at_set e8]
          simp [rowP, ni, Function.comp_def]
        · refine r8.snoc (r := [one, one] ++ os) (by simp; omega) fun x hx => ?_
          rcases List.mem_append.mp hx with hx | hx
          · simp only [List.mem_cons, List.not_mem_nil, or_false] at hx
            omega
          · exact pb x (po.mem_iff.mp hx)
        · exact (s8.fr (Fr.set (S := [h.length]) (by simp)) (by simpa using Ne.symm hl)).mono (by omega)
    · exact ⟨⟨_, _, _, rfl⟩, ⟨_, e2, by simp, r0⟩, s1.mono (by omega), f1⟩
  · rintro ς h2 ⟨⟨a, b, c, rfl⟩, ⟨rows, er2, rl, ro⟩, s2, f2⟩
    exact ⟨_, rfl, z rows _ h2 er2 rl ro (Nat.le_refl _) s2 f2⟩
end WD
end
section
set_option Elab.async false
set_option linter.all false
set_option maxRecDepth 100000
set_option autoImplicit false
set_option maxHeartbeats 8000000
set_option pp.maxSteps 600
namespace WD
open PySem PySem.Spec PyProof.Rows L2
def VAb (i : Nat) : Vl → Bool
  | .inp _ => true
  | .wk w o => decide (w ≠ ("in" : Str)) && (decide (1 ≤ o.length) && (decide (o.length ≤ 3) && o.all fun x => decide (x < i)))
theorem VAs_of {vs : List Vl} (h : (vs.zipIdx.all fun p => VAb p.2 p.1) = true) : VAs vs := by
  intro i v hv
  have hz : (v, i) ∈ vs.zipIdx := List.mem_of_getElem? (i := i) (by rw [List.getElem?_zipIdx, hv]; simp)
  have h2 : VAb i v = true := List.all_eq_true.mp h _ hz
  cases v with
  | inp s => trivial
  | wk w o =>
    simp only [VAb, Bool.and_eq_true, decide_eq_true_eq, List.all_eq_true] at h2
    exact ⟨h2.1, h2.2.1, h2.2.2.1, h2.2.2.2⟩
def vsT : List Vl := [.inp "a", .inp "needless", .wk "p" [0], .wk "p" [2], .wk "pp" [2, 1], .inp "b", .wk "w" [5, 2, 5], .wk "add" [6, 6], .wk "p" [7], .wk "sub" [2, 0]]
def outsT : List (List Nat) := [[6], [6, 2, 6], [9, 6], [8], [2], [5, 0, 9]]
theorem typed_ok {n l k : Nat} {h : PH} {q : QV} {x : QX} (s : Sp h l k) (hk : k < 2 ^ 38)
    (z : ∀ (W : List Int) (os : List Nat) h', SOk vsT W os → os.length ≤ 3 → Sp h' l (k + 3000) → Fr [l] h h' → q (scr vsT W os) h') : den T11 (n + 3) 1013 [.loc l] h q x := by
  refine den_call (F := ir_f_law_typed) (by rfl) rfl ?_
  have ll := s.lt
  refine ⟨Nat.le_of_ble_eq_true rfl, Nat.le_of_ble_eq_true rfl, Nat.le_of_ble_eq_true rfl, Nat.le_of_ble_eq_true rfl, Nat.le_of_ble_eq_true rfl, Nat.le_of_ble_eq_true rfl, Nat.le_of_ble_eq_true rfl, Nat.le_of_ble_eq_true rfl, Nat.le_of_ble_eq_true rfl, Nat.le_of_ble_eq_true rfl, Nat.le_of_ble_eq_true rfl, Nat.le_of_ble_eq_true rfl, ?_⟩
  have e1 : (h ++ [PO.lst ((vsT.take 7).map Vl.enc)])[h.length]? = some (.lst ((vsT.take 7).map Vl.enc)) := at_new
  have s1 := s.fr (Fr.app (S := []) (o := PO.lst ((vsT.take 7).map Vl.enc))) (by simp)
  have f1 : Fr [l] h (h ++ [PO.lst ((vsT.take 7).map Vl.enc)]) := Fr.app
  refine ⟨_, rfl, ⟨_, _, rfl, gL e1⟩, Nat.le_of_ble_eq_true rfl, Nat.le_of_ble_eq_true rfl, Nat.le_of_ble_eq_true rfl, Nat.le_of_ble_eq_true rfl, Nat.le_of_ble_eq_true rfl, Nat.le_of_ble_eq_true rfl, Nat.le_of_ble_eq_true rfl, _, _, _, rfl, gL e1, rfl, Nat.le_of_ble_eq_true rfl, ?_⟩
  have e2 : ((h ++ [PO.lst ((vsT.take 7).map Vl.enc)]).set h.length (.lst (vsT.map Vl.enc)))[h.length]? = some (.lst (vsT.map Vl.enc)) := at_set e1
  have s2 := s1.fr (Fr.set (S := [h.length]) (l := h.length) (o := PO.lst (vsT.map Vl.enc)) (List.mem_singleton.mpr rfl)) (by simp; omega)
  have f2 := f1.new (o := PO.lst (vsT.map Vl.enc)) (.inl (Nat.le_refl h.length))
  refine ⟨Nat.le_of_ble_eq_true rfl, Nat.le_of_ble_eq_true rfl, Nat.le_of_ble_eq_true rfl, Nat.le_of_ble_eq_true rfl, Nat.le_of_ble_eq_true rfl, Nat.le_of_ble_eq_true rfl, Nat.le_of_ble_eq_true rfl, ?_⟩
  refine ⟨_, rfl, _, gL e2, _, rfl, _, rfl, ?_⟩
  refine weighed_ok (vs := vsT) s2 (by omega) (by omega) e2 (by decide) fun W h3 wl s3 f3 => ?_
  refine ⟨_, rfl, _, rfl, _, rfl, _, _, rfl, rfl, ?_⟩
  refine flow_ok s3 (by omega) (by decide) (by decide) fun r h4 hr s4 f4 => ?_
  have hr' : (r : Int) < 6 := hr
  refine ix_of (enc := rowP) (xs := outsT) (show r < 6 by omega) fun os ho => ?_
  have ob : ∀ os, os ∈ outsT → os.length ≤ 3 ∧ ∀ o, o ∈ os → o < 10 := by decide
  have := ob os ho
  exact ⟨Nat.le_of_ble_eq_true rfl, z W os h4 ⟨by decide, wl, VAs_of (by decide +kernel), by omega, this.2⟩ this.1 (s4.mono (by omega)) ((f2.trans f3).trans f4)⟩
theorem set_go {i : Nat} {v : PV} {ς : PSt} {q : PSt → Prop} (k : q (ς.set i (some v))) : setT (.slot i) v ς q := k
theorem ns_mapM (h : PH) (k : Nat) (o : List Nat) : (o.map ni).mapM (toD h (k + 1)) = some (o.map fun (x : Nat) => PyData.int (x : Int)) := mapM_map fun x _ => rfl
theorem ended_ok {n l lv k : Nat} {vs : List Vl} {h : PH} {q : QV} {x : QX} (s : Sp h l k) (hk : k < 2 ^ 38) (nv : lv ≠ l) (ev : h[lv]? = some (.lst (vs.map Vl.enc))) (vl : vs.length ≤ 1000) (va : VAs vs)
    (z : ∀ (W : List Int) (os : List Nat) h', SOk vs W os → Sp h' l (k + 3000) → Fr [l] h h' → q (scr vs W os) h') : den T11 (n + 3) 1014 [.loc l, .loc lv] h q x := by
  refine den_call (F := ir_f_law_ended) (by rfl) rfl ?_
  have ll := s.lt
  have lvl := at_lt ev
  have ml : (vs.map Vl.enc).length = vs.length := List.length_map ..
  refine ⟨Nat.zero_le _, ?_⟩
  have e0 : (h ++ [PO.lst []])[h.length]? = some (.lst (([] : List Nat).map ni)) := at_new
  have ev0 := at_app (p := .lst []) ev
  refine ⟨_, rfl, .inl ⟨_, gL ev0, ?_⟩⟩
  refine for_inv (fun i ς h' => (∃ a3 a4 a5 a6 a7, ς = [some (.loc l), some (.loc lv), some (.loc h.length), a3, a4, a5, a6, a7]) ∧ (∃ us : List Nat, h'[h.length]? = some (.lst (us.map ni)) ∧ us.length ≤ 3 * i) ∧ Fr [] h h')
    ⟨⟨_, _, _, _, _, rfl⟩, ⟨[], e0, by simp⟩, Fr.app⟩ (fun _ _ _ hi => gL (hi.2.2.at ev (by simp))) ?_ ?_
  · rintro i y ς h1 kk hy ⟨⟨a3, a4, a5, a6, a7, rfl⟩, ⟨us, eu, ul⟩, f1⟩ hkk
    obtain ⟨v, hv, rfl⟩ := mp_inv hy
    have hi := get_lt hv
    have vav := va i v hv
    rw [enc_eq]
    refine ⟨_, rfl, _, _, rfl, _, _, rfl, rfl, ?_⟩
    cases v with
    | inp s0 =>
      refine ⟨_, rfl, .inl ⟨rfl, ite_f (by rw [show (Vl.inp s0).w = ("in" : Str) from rfl]; decide +kernel) ?_⟩⟩
      exact hkk _ _ ⟨⟨_, _, _, _, _, rfl⟩, ⟨us, eu, by omega⟩, f1⟩
    | wk w o =>
      refine ⟨_, rfl, .inl ⟨rfl, ite_t (by rw [show (Vl.wk w o).w = w from rfl, strNe vav.1]; rfl) ?_⟩⟩
      refine ⟨_, rfl, ⟨_, _, rfl, gL eu⟩, _, rfl, .inl ⟨_, rfl, ?_⟩⟩
      refine cmp_map (enc := ni) (f := ni) rfl (fun t j Q ht hQ => ⟨_, rfl, hQ⟩) (by have := vav.2.2.1; omega) ?_
      refine ⟨_, _, _, rfl, gL eu, rfl, sz (by have := vav.2.2.1; simp; omega), ?_⟩
      refine hkk _ _ ⟨⟨_, _, _, _, _, rfl⟩, ⟨us ++ o, ?_, by have := vav.2.2.1; simp; omega⟩, f1.new (.inl (Nat.le_refl _))⟩
      rw [at_set eu]
      simp
  rintro ς h1 ⟨⟨a3, a4, a5, a6, a7, rfl⟩, ⟨us, eu, ul⟩, f1⟩
  have ev1 := f1.at ev (by simp)
  have s1 := s.fr f1 (by simp)
  refine ⟨_, rfl, _, _, rfl, len_loc ev1, _, rfl, by omega, by omega, ?_⟩
  rw [ml, toNat_nat]
  refine cmp_inv (fun i acc h' => h' = h1 ∧ ∃ es : List Nat, acc = es.map ni ∧ es.length ≤ i ∧ ∀ e, e ∈ es → e < vs.length) ⟨rfl, [], rfl, by simp, by simp⟩ (fun _ _ _ _ => trivial) ?_ ?_
  · rintro i y acc h2 kk hy ⟨rfl, es, rfl, el, eb⟩ hkk
    obtain ⟨hi, rfl⟩ := range_get hy
    refine ⟨_, rfl, _, rfl, _, eu, _, _, rfl, ns_mapM _ _ _, ite_b (fun _ => ?_) (fun _ => ?_)⟩
    · refine ⟨_, rfl, szl (by simp; omega), hkk _ _ ⟨rfl, es ++ [i], ?_, by simp; omega, ?_⟩⟩
      · simp [ni]
      · intro x hx
        rcases List.mem_append.mp hx with hx | hx
        · exact eb x hx
        · rw [List.mem_singleton.mp hx]
          exact hi
    · exact hkk _ _ ⟨rfl, es, rfl, by omega, eb⟩
  rintro acc h2 ⟨rfl, es, rfl, el, eb⟩
  rw [rangeL_length] at el
  have ee : (h2 ++ [PO.lst (es.map ni)])[h2.length]? = some (.lst (es.map ni)) := at_new
  have fa : Fr [] h2 (h2 ++ [PO.lst (es.map ni)]) := Fr.app
  have s2 := s1.fr fa (by simp)
  have h02 := f1.1
  have evv := fa.at ev1 (by simp)
  have f2 := f1.trans fa
  have f2' := f2.mono (S' := [l]) (by simp)
  refine set_go ?_
  refine cut_nx (fun ς h' => (∃ L, ς = [some (.loc l), some (.loc lv), some (.loc h.length), some (.loc L), a4, a5, a6, a7] ∧ L ≠ l ∧ ∃ es : List Nat, h'[L]? = some (.lst (es.map ni)) ∧ es.length ≤ vs.length ∧ ∀ e, e ∈ es → e < vs.length) ∧ Sp h' l (k + 1) ∧ Fr [l] h h') ?_ ?_
  · refine ⟨_, rfl, ?_⟩
    refine flow_ok s2 (by omega) (by omega) (by omega) fun r h3 hr s3 f3 => ?_
    have e3 := f3.at ee (by simp; omega)
    refine .inl ⟨rfl, ite_b (fun _ => ?_) (fun _ => ?_)⟩
    · refine ⟨_, rfl, _, _, rfl, len_loc e3, _, rfl, by (simp <;> omega), by (simp <;> omega), ?_⟩
      have l3 : (es.map ni).length = es.length := List.length_map ..
      rw [l3, toNat_nat]
      refine cmp_inv0 (fun i acc h' => h' = h3 ∧ ∃ os : List Nat, acc = os.map ni ∧ os.length = i ∧ ∀ e, e ∈ os → e < vs.length) ⟨rfl, [], rfl, rfl, by simp⟩ (fun _ _ _ _ => trivial) ?_ ?_
      · rintro i y acc h4 kk hy ⟨rfl, os, rfl, ol, ob⟩ hkk
        obtain ⟨hi, rfl⟩ := range_get hy
        have g : es[es.length - 1 - i]? = some (es.getD (es.length - 1 - i) 0) := getD_at (by omega)
        refine ⟨_, rfl, _, rfl, _, _, rfl, len_loc e3, _, rfl, _, e3, _, _, _, rfl, ixP_at (k := es.length - 1 - i) (by omega) (by omega), mp_get g, szl (by simp; omega), hkk _ _ ⟨rfl, os ++ [es.getD (es.length - 1 - i) 0], by simp, by simp [ol], ?_⟩⟩
        intro x hx
        rcases List.mem_append.mp hx with hx | hx
        · exact ob x hx
        · rw [List.mem_singleton.mp hx]
          exact eb _ (List.mem_of_getElem? g)
      · rintro acc h4 ⟨rfl, os, rfl, ol, ob⟩
        rw [rangeL_length] at ol
        have l4 := s3.lt
        refine ⟨⟨h4.length, rfl, by omega, os, at_new, by omega, ob⟩, s3.fr (Fr.app (S := [])) (by simp), (f2'.trans f3).trans Fr.app⟩
    · have l4 := s1.lt
      exact ⟨⟨h2.length, rfl, by omega, es, e3, el, eb⟩, s3, f2'.trans f3⟩
  rintro ς h3 ⟨⟨L, rfl, nL, os, eo, ol, ob⟩, s3, f3⟩
  have ev3 := f3.at ev (by simpa using nv)
  refine ⟨_, rfl, _, gL ev3, _, rfl, _, rfl, ?_⟩
  refine weighed_ok s3 (by omega) nv ev3 vl fun W h4 wl s4 f4 => ?_
  exact ⟨_, rfl, _, gL (f4.at eo (by simpa using nL)), Nat.le_of_ble_eq_true rfl, z W os h4 ⟨vl, wl, va, by omega, ob⟩ (s4.mono (by omega)) (f3.trans f4)⟩
theorem pl_row (o : List Nat) (h : o.length ≤ 1000) : Pl 1 (.tup (o.map ni)) := pl_ns o (by omega)
theorem held_ok {n l k : Nat} {vs : List Vl} {W : List Int} {os : List Nat} {h : PH} {q : QV} {x : QX} (s : Sp h l k) (hk : k < 2 ^ 38) (so : SOk vs W os)
    (z : ∀ h', Sp h' l (k + 30) → Fr [l] h h' → q (.bl true) h') : den T11 (n + 6) 1012 [.loc l, scr vs W os] h q x := by
  refine den_call (F := ir_f_law_held) (by rfl) rfl ?_
  have nl : ∀ w : List Nat, (needF vs w).length ≤ 1000 := fun w => Nat.le_trans (need_len (vs := vs) (wanted := w)) so.vl
  have vl := so.vl
  refine ⟨_, rfl, _, _, _, _, rfl, rfl, rfl, rfl, _, rfl, _, _, _, _, rfl, rfl, rfl, rfl, ?_⟩
  refine marks_ok so.va so.vl so.om fun L h1 f1 hL e1 => ⟨_, gL e1, ?_⟩
  refine ⟨_, rfl, ?_⟩
  refine shorter_ok so fun h2 f2 => ?_
  have f12 := f1.trans f2
  have s2 := s.fr f12 (by simp)
  refine cut_t (fun b h' => b = false ∧ Sp h' l (k + 1) ∧ Fr [l] h h') ?_ ?_
  · refine ⟨_, rfl, ?_⟩
    refine flow_ok s2 (by omega) (by omega) (by omega) fun r h3 hr s3 f3 => .inl ⟨rfl, ite_b (fun _ => ?_) (fun _ => ?_)⟩
    · refine ⟨_, rfl, ?_⟩
      refine shortened_ok (n := n + 1) so fun h4 f4 => ⟨_, rfl, ?_⟩
      exact same_ok 4 (pl_short so) ⟨_, rfl, rfl, s3.fr f4 (by simp), ((f12.mono (by simp)).trans f3).trans (f4.mono (by simp))⟩
    · exact ⟨rfl, s3, (f12.mono (by simp)).trans f3⟩
  rintro b h3 ⟨rfl, s3, f3⟩
  refine ite_f rfl ?_
  refine ⟨_, rfl, ?_⟩
  refine needed_values_ok (n := n + 2) so fun h4 f4 => ⟨_, rfl, ?_⟩
  refine same_ok (n := n + 3) 1 (pl_row _ (nl _)) ⟨_, rfl, ite_f rfl ?_⟩
  have s4 := s3.fr f4 (by simp)
  have f04 := f3.trans (f4.mono (S' := [l]) (by simp))
  refine ⟨_, rfl, _, rfl, _, _, _, _, rfl, rfl, rfl, rfl, ?_⟩
  have ml : (vs.map Vl.enc).length = vs.length := List.length_map ..
  refine ⟨_, _, rfl, rfl, ?_⟩
  refine wanted_ok (n := n + 3) (m := vs.length) s4 (by omega) (by rw [ml]) vl fun rows LR h5 e5 rl ro hLR s5 f5 => .inl ⟨_, gL e5, ?_⟩
  have ll := s4.lt
  have nLR : LR ≠ l := by omega
  refine for_inv (fun i ς h' => (∃ a b, ς = [some (.loc l), some (scr vs W os), some (.tup ((needF vs os).map ni)), some (shortF vs W os), a, b]) ∧ Fr [] h5 h') ⟨⟨_, _, rfl⟩, Fr.refl⟩ (fun _ _ _ hi => gL (hi.2.at e5 (by simp))) ?_ ?_
  · rintro i y ς h6 kk hy ⟨⟨a, b, rfl⟩, f6⟩ hkk
    obtain ⟨r, hr, rfl⟩ := mp_inv hy
    have ro1 := ro r (List.mem_of_getElem? hr)
    refine ⟨_, rfl, _, _, _, _, rfl, rfl, rfl, rfl, _, rfl, ?_⟩
    refine marks_ok so.va so.vl ro1.2 fun L2 h7 f7 hL7 e7 => ⟨_, gL e7, ?_⟩
    refine ⟨_, rfl, _, rfl, ?_⟩
    refine needed_for_ok so.va so.vl ro1.2 fun h8 f8 => ⟨_, rfl, ?_⟩
    refine same_ok (n := n + 3) 1 (pl_row _ (nl _)) ⟨_, rfl, ite_f rfl ?_⟩
    exact hkk _ _ ⟨⟨_, _, rfl⟩, (f6.trans f7).trans f8⟩
  · rintro ς h6 ⟨⟨a, b, rfl⟩, f6⟩
    refine ⟨_, rfl, ?_⟩
    refine shortened_ok (n := n + 1) so fun h7 f7 => ⟨_, rfl, ?_⟩
    refine same_ok (n := n) 4 (pl_short so) ?_
    exact z h7 (((s5.fr f6 (by simp)).fr f7 (by simp)).mono (by omega)) (((f04.trans f5).trans (f6.mono (by simp))).trans (f7.mono (by simp)))
end WD
end
section
set_option Elab.async false
set_option linter.all false
set_option maxRecDepth 100000
set_option autoImplicit false
set_option maxHeartbeats 8000000
set_option pp.maxSteps 600
namespace WD
open PySem PySem.Spec PyProof.Rows L2
abbrev Sc := List Vl × List Int × List Nat
def sE (s : Sc) : PV := scr s.1 s.2.1 s.2.2
def SsOk (ss : List Sc) : Prop := ∀ s, s ∈ ss → SOk s.1 s.2.1 s.2.2
theorem SsOk.snoc {ss : List Sc} {vs : List Vl} {W : List Int} {os : List Nat} (a : SsOk ss) (b : SOk vs W os) : SsOk (ss ++ [(vs, W, os)]) := by
  intro r h
  rcases List.mem_append.mp h with h | h
  · exact a r h
  · rw [List.mem_singleton.mp h]
    exact b
/-- what stands while the scripts are made -/
def Jn (l L k c : Nat) (h : PH) : Prop := Sp h l k ∧ L ≠ l ∧ ∃ ss : List Sc, h[L]? = some (.lst (ss.map sE)) ∧ SsOk ss ∧ ss.length ≤ c
theorem Jn.fr {l L k k' c : Nat} {h h' : PH} (j : Jn l L k c h) (s : Sp h' l k') (f : Fr [l] h h') : Jn l L k' c h' := by
  obtain ⟨_, n, ss, e, o, sl⟩ := j
  exact ⟨s, n, ss, f.at e (by simpa using n), o, sl⟩
theorem Jn.mono {l L k k' c c' : Nat} {h : PH} (j : Jn l L k c h) (a : k ≤ k') (b : c ≤ c') : Jn l L k' c' h := by
  obtain ⟨s, n, ss, e, o, sl⟩ := j
  exact ⟨s.mono a, n, ss, e, o, by omega⟩
theorem Jn.app {l L k c : Nat} {h : PH} {o : PO} (j : Jn l L k c h) : Jn l L k c (h ++ [o]) := j.fr (j.1.fr (Fr.app (S := [])) (by simp)) Fr.app
/-- one script more -/
theorem Jn.push {l L k c : Nat} {h : PH} {vs : List Vl} {W : List Int} {os : List Nat} {q : QV} (j : Jn l L k c h) (hc : c < 1000) (b : SOk vs W os) (z : ∀ h', Jn l L k (c + 1) h' → q .non h') : mthS .append (.loc L) [scr vs W os] h q := by
  obtain ⟨s, n, ss, e, o, sl⟩ := j
  refine ⟨_, _, rfl, e, szl (by simp; omega), z _ ⟨s.fr (Fr.set (S := [L]) (l := L) (List.mem_singleton.mpr rfl)) (by simpa using Ne.symm n), n, ss ++ [(vs, W, os)], ?_, o.snoc b, by simp; omega⟩⟩
  rw [at_set e]
  simp [sE]
theorem Jn.obj {l L k c : Nat} {h : PH} (j : Jn l L k c h) : isObj .append h (.loc L) := by
  obtain ⟨s, n, ss, e, o, sl⟩ := j
  exact ⟨_, _, rfl, e, rfl⟩
theorem chain_va (m : Nat) : VAs (.inp "a" :: (List.range m).map fun j => .wk "p" [j]) := by
  intro i v hv
  cases i with
  | zero =>
    have : Vl.inp "a" = v := by simpa using hv
    subst this
    trivial
  | succ i =>
    rw [List.getElem?_cons_succ] at hv
    obtain ⟨j, hj, rfl⟩ := mp_inv hv
    obtain ⟨a, b⟩ := List.getElem?_eq_some_iff.mp hj
    have : j = i := by simpa using b.symm
    subst this
    exact ⟨by decide +kernel, by simp, by simp, by simp⟩
theorem pure_law : PureLaw ds 40 1015 := by
  intro ns hns _
  refine den_call (F := ir_p_law) (by rfl) rfl ?_
  refine cut_nx (fun ς h' => ∃ l, ς = [some (.rol (ns.map .int)), some (.loc l), none, none, none, none, none, none, none, none, none, none, none] ∧ Sp h' l 0) ?_ ?_
  · exact ⟨_, rfl, spring_ok hns fun h1 s1 f1 => ⟨_, rfl, s1⟩⟩
  rintro ς h1 ⟨l, rfl, s1⟩
  refine ⟨_, rfl, ?_⟩
  refine typed_ok (n := 36) s1 (by omega) fun WT oT h2 sT oTl s2 f2 => ?_
  refine ⟨_, rfl, ?_⟩
  refine shorter_ok (n := 37) sT fun h3 f3 => ?_
  have s3 := s2.fr f3 (by simp)
  refine ⟨_, rfl, ?_⟩
  refine shortened_ok (n := 35) sT fun h4 f4 => ⟨_, rfl, ?_⟩
  refine same_ok (n := 34) 4 (pl_short sT) ⟨_, rfl, ite_f rfl ?_⟩
  have s4 := s3.fr f4 (by simp)
  have ll := s4.lt
  have sE0 : SOk ([] : List Vl) [] [] := ⟨by simp, rfl, fun i v hv => by simp at hv, by simp, by simp⟩
  have sTw : SOk vsT WT (4 :: oT) := ⟨sT.vl, sT.wl, sT.va, by have := sT.ol; simp; omega, fun o ho => by
    rcases List.mem_cons.mp ho with rfl | ho
    · decide
    · exact sT.om o ho⟩
  refine ⟨Nat.zero_le _, Nat.zero_le _, Nat.zero_le _, Nat.le_of_ble_eq_true rfl, _, rfl, Nat.le_of_ble_eq_true rfl, ?_⟩
  have j5 : Jn l h4.length 3000 2 (h4 ++ [PO.lst ([(([], [], []) : Sc), (vsT, WT, oT)].map sE)]) := ⟨s4.fr (Fr.app (S := [])) (by simp), by omega, _, at_new, (SsOk.snoc (ss := []) (by intro s hs; simp at hs) sE0).snoc sT, by simp⟩
  refine ⟨_, rfl, _, _, _, _, rfl, rfl, rfl, rfl, _, rfl, _, _, _, _, rfl, rfl, rfl, rfl, Nat.le_of_ble_eq_true rfl, _, rfl, _, _, _, _, rfl, rfl, rfl, rfl, sz (by simp; omega), Nat.le_of_ble_eq_true rfl, ?_⟩
  refine ⟨_, rfl, j5.obj, _, rfl, ?_⟩
  refine j5.push (by omega) sTw fun h6 j6 => ?_
  -- dry
  refine ⟨_, rfl, _, rfl, ?_⟩
  refine flow_ok j6.1 (by omega) (by omega) (by omega) fun r h7 hr s7 f7 => ?_
  refine grown_ok (n := 35) (many := 1 + r) s7 (by omega) (by omega) (by omega) (by omega) (by omega) fun vd h8 Ld ed hLd ld vad s8 f8 => ?_
  have j8 := (j6.fr s7 f7).fr s8 f8
  have nd : Ld ≠ l := by have := s7.lt; omega
  refine ⟨_, rfl, j8.obj, _, rfl, _, gL ed, _, rfl, _, rfl, ?_⟩
  refine weighed_ok (n := 37) s8 (by omega) nd ed (by omega) fun Wd h9 wdl s9 f9 => ?_
  refine ⟨Nat.zero_le _, Nat.le_of_ble_eq_true rfl, ?_⟩
  refine (j8.fr s9 f9).push (os := []) (by omega) ⟨by omega, wdl, vad, by simp, by simp⟩ fun h10 j10 => ?_
  -- full
  refine ⟨_, rfl, _, rfl, ?_⟩
  refine flow_ok j10.1 (by omega) (by omega) (by omega) fun r2 h11 hr2 s11 f11 => ?_
  refine ⟨_, rfl, ?_⟩
  refine flow_ok s11 (by omega) (by omega) (by omega) fun r3 h12 hr3 s12 f12 => ?_
  refine grown_ok (n := 35) (many := 2 + r2) s12 (by omega) (by omega) (by omega) (by omega) (by omega) fun vf h13 Lf ef hLf lf vaf s13 f13 => ?_
  have j13 := ((j10.fr s11 f11).fr s12 f12).fr s13 f13
  have nf : Lf ≠ l := by have := s12.lt; omega
  refine ⟨_, rfl, j13.obj, _, rfl, _, rfl, ?_⟩
  refine ended_ok (n := 36) s13 (by omega) nf ef (by omega) vaf fun We oe h14 se s14 f14 => ?_
  refine (j13.fr s14 f14).push (by omega) se fun h15 j15 => ?_
  -- three
  refine ⟨_, rfl, by omega, by omega, ?_⟩
  refine for_inv (fun i ς h' => (∃ a5 a6 a7 a8 a9 a10 a11 a12, ς = [some (.rol (ns.map .int)), some (.loc l), some (scr vsT WT oT), some (shortF vsT WT oT), some (.loc h4.length), a5, a6, a7, a8, a9, a10, a11, a12]) ∧ Jn l h4.length (100000 + 10000 * i) (10 + i) h')
    ⟨⟨_, _, _, _, _, _, _, _, rfl⟩, j15.mono (by omega) (by omega)⟩ (fun _ _ _ _ => trivial) ?_ ?_
  · rintro i y ς h16 kk hy ⟨⟨a5, a6, a7, a8, a9, a10, a11, a12, rfl⟩, j16⟩ hkk
    obtain ⟨hi, rfl⟩ := range_get hy
    have hi3 : i < 3 := hi
    refine ⟨_, rfl, ?_⟩
    refine flow_ok j16.1 (by omega) (by omega) (by omega) fun r4 h17 hr4 s17 f17 => ?_
    refine ⟨mulX (by omega) (by omega), _, rfl, _, rfl, ?_⟩
    refine flow_ok s17 (by omega) (by omega) (by omega) fun r5 h18 hr5 s18 f18 => ?_
    refine ⟨_, rfl, ?_⟩
    refine flow_ok s18 (by omega) (by omega) (by omega) fun r6 h19 hr6 s19 f19 => ?_
    refine ⟨_, rfl, ?_⟩
    refine grown_ok (n := 35) (many := 2 + r5) s19 (by omega) (by omega) (by omega) (by omega) (by omega) fun vg h20 Lg eg hLg lg vag s20 f20 => ?_
    have j20 := (((j16.fr s17 f17).fr s18 f18).fr s19 f19).fr s20 f20
    have ng : Lg ≠ l := by have := s19.lt; omega
    refine ⟨_, rfl, j20.obj, _, rfl, _, gL eg, _, rfl, _, rfl, ?_⟩
    refine weighed_ok (n := 37) s20 (by omega) ng eg (by omega) fun Wg h21 wgl s21 f21 => ?_
    have eg21 := f21.at eg (by simpa using ng)
    refine ⟨_, rfl, _, rfl, _, _, rfl, len_loc eg21, ?_⟩
    refine outs_ok (n := 37) (m := vg.length) (most := 4) s21 (by omega) (by rw [List.length_map]) rfl (by omega) (by omega) (by omega) fun og h22 ogl ogb s22 f22 => ?_
    refine ⟨Nat.le_of_ble_eq_true rfl, ?_⟩
    refine ((j20.fr s21 f21).fr s22 f22).push (by omega) ⟨by omega, wgl, vag, ogl, ogb⟩ fun h23 j23 => ?_
    exact hkk _ _ ⟨⟨_, _, _, _, _, _, _, _, rfl⟩, j23.mono (by omega) (by omega)⟩
  rintro ς h16 ⟨⟨a5, a6, a7, a8, a9, a10, a11, a12, rfl⟩, j16⟩
  rw [rangeL_length] at j16
  replace j16 : Jn l h4.length 130000 13 h16 := j16
  refine cut_nx (fun ς h' => (∃ a5 a6 a7 a8 a9 a10 a11 a12, ς = [some (.rol (ns.map .int)), some (.loc l), some (scr vsT WT oT), some (shortF vsT WT oT), some (.loc h4.length), a5, a6, a7, a8, a9, a10, a11, a12]) ∧ Jn l h4.length 160000 14 h') ?_ ?_
  · refine ⟨_, rfl, ?_⟩
    refine flow_ok j16.1 (by omega) (by omega) (by omega) fun r4 h17 hr4 s17 f17 => ?_
    have j17 := j16.fr s17 f17
    refine .inl ⟨rfl, ite_b (fun _ => ?_) (fun _ => ⟨⟨_, _, _, _, _, _, _, _, rfl⟩, j17.mono (by omega) (by omega)⟩)⟩
    refine ⟨_, rfl, ?_⟩
    refine flow_ok s17 (by omega) (by omega) (by omega) fun r5 h18 hr5 s18 f18 => ?_
    refine ⟨_, rfl, ?_⟩
    refine flow_ok s18 (by omega) (by omega) (by omega) fun r6 h19 hr6 s19 f19 => ?_
    refine ⟨mulX (by omega) (by omega), ?_⟩
    obtain ⟨m, em, m1, m2⟩ : ∃ m : Nat, (100 : Int) - (r5 : Int) * (r6 : Int) = (m : Int) ∧ 2 ≤ m ∧ m ≤ 100 := by
      have : r5 = 0 ∨ r5 = 1 := by omega
      rcases this with rfl | rfl
      · exact ⟨100, by simp, by omega, by omega⟩
      · exact ⟨100 - r6, by omega, by omega, by omega⟩
    refine sub_to em ?_
    refine ⟨_, rfl, _, rfl, ?_⟩
    refine ⟨_, rfl, ?_⟩
    refine flow_ok s19 (by omega) (by omega) (by omega) fun r7 h20 hr7 s20 f20 => ?_
    refine ⟨mulX (by omega) (by omega), ?_⟩
    refine grown_ok (n := 35) (many := m) s20 (by omega) rfl (by omega) (by omega) (by omega) fun vg h21 Lg eg hLg lg vag s21 f21 => ?_
    have j21 := (((j17.fr s18 f18).fr s19 f19).fr s20 f20).fr s21 f21
    have ng : Lg ≠ l := by have := s20.lt; omega
    refine set_go ?_
    refine cut_nx (fun ς h' => (∃ vs L, ς = [some (.rol (ns.map .int)), some (.loc l), some (scr vsT WT oT), some (shortF vsT WT oT), some (.loc h4.length), a5, a6, a7, a8, a9, a10, some (.loc L), some (ni m)] ∧ L ≠ l ∧ h'[L]? = some (.lst (vs.map Vl.enc)) ∧ vs.length = m ∧ VAs vs) ∧ Jn l h4.length 140000 13 h') ?_ ?_
    · refine ⟨_, rfl, ?_⟩
      refine flow_ok s21 (by omega) (by omega) (by omega) fun r8 h22 hr8 s22 f22 => ?_
      have j22 := j21.fr s22 f22
      refine .inl ⟨rfl, ite_b (fun _ => ?_) (fun _ => ?_)⟩
      · refine ⟨Nat.le_of_ble_eq_true rfl, Nat.le_of_ble_eq_true rfl, ?_⟩
        refine ⟨_, rfl, _, rfl, by omega, by omega, ?_⟩
        have e1 : ((m : Int) - 1).toNat = m - 1 := by omega
        rw [e1]
        refine cmp_inv0 (fun i acc h' => h' = h22 ∧ acc = ((List.range i).map fun j => Vl.wk "p" [j]).map Vl.enc) ⟨rfl, rfl⟩ (fun _ _ _ _ => trivial) ?_ ?_
        · rintro i y acc h23 kc hy ⟨rfl, rfl⟩ hkc
          obtain ⟨hi, rfl⟩ := range_get hy
          refine ⟨_, rfl, Nat.le_of_ble_eq_true rfl, Nat.le_of_ble_eq_true rfl, szl (by simp; omega), hkc _ _ ⟨rfl, ?_⟩⟩
          rw [List.range_succ]
          simp [Vl.enc, ni]
        · rintro acc h23 ⟨rfl, rfl⟩
          rw [rangeL_length]
          refine ⟨_, _, rfl, rfl, sz (by simp; omega), ?_⟩
          have l23 := s22.lt
          refine ⟨⟨.inp "a" :: (List.range (m - 1)).map fun j => .wk "p" [j], h23.length, rfl, by omega, at_new, by simp; omega, chain_va _⟩, j22.app.mono (by omega) (by omega)⟩
      · exact ⟨⟨vg, Lg, rfl, ng, f22.at eg (by simpa using ng), lg, vag⟩, j22.mono (by omega) (by omega)⟩
    rintro ς h22 ⟨⟨vs, L, rfl, nL, eL, lL, vaL⟩, j22⟩
    refine ⟨_, rfl, j22.obj, _, rfl, _, gL eL, _, rfl, _, rfl, ?_⟩
    refine weighed_ok (n := 37) j22.1 (by omega) nL eL (by omega) fun Wg h23 wgl s23 f23 => ?_
    refine ⟨_, rfl, _, rfl, ?_⟩
    refine outs_ok (n := 37) (m := m) (most := 40) s23 (by omega) rfl rfl (by omega) (by omega) (by omega) fun og h24 ogl ogb s24 f24 => ?_
    refine ⟨Nat.le_of_ble_eq_true rfl, ?_⟩
    refine ((j22.fr s23 f23).fr s24 f24).push (by omega) ⟨by omega, wgl, vaL, ogl, fun o ho => by have := ogb o ho; omega⟩ fun h25 j25 => ?_
    exact ⟨⟨_, _, _, _, _, _, _, _, rfl⟩, j25.mono (by omega) (by omega)⟩
  rintro ς h17 ⟨⟨a5, a6, a7, a8, a9, a10, a11, a12, rfl⟩, s17, nL, ss, e17, so, sl⟩
  refine ⟨_, rfl, .inl ⟨_, gL e17, ?_⟩⟩
  refine for_inv (fun i ς h' => (∃ a9, ς = [some (.rol (ns.map .int)), some (.loc l), some (scr vsT WT oT), some (shortF vsT WT oT), some (.loc h4.length), a5, a6, a7, a8, a9, a10, a11, a12]) ∧ Sp h' l (160000 + 30 * i) ∧ Fr [l] h17 h') ⟨⟨_, rfl⟩, s17, Fr.refl⟩ (fun _ _ _ hi => gL (hi.2.2.at e17 (by simpa using nL))) ?_ ?_
  · rintro i y ς h18 kk hy ⟨⟨a9, rfl⟩, s18, f18⟩ hkk
    obtain ⟨s, hs, rfl⟩ := mp_inv hy
    have := get_lt hs
    refine ⟨_, rfl, _, rfl, ?_⟩
    refine held_ok (n := 33) s18 (by omega) (so s (List.mem_of_getElem? hs)) fun h19 s19 f19 => ⟨_, rfl, ite_f rfl ?_⟩
    exact hkk _ _ ⟨⟨_, rfl⟩, s19.mono (by omega), f18.trans f19⟩
  · rintro ς h18 ⟨⟨a9, rfl⟩, s18, f18⟩
    refine ⟨_, rfl, ?_⟩
    refine shortened_ok (n := 35) sT fun h19 f19 => ⟨_, rfl, ?_⟩
    exact same_ok (n := 34) 4 (pl_short sT) rfl
end WD
end
set_option Elab.async false
set_option maxRecDepth 100000
set_option maxHeartbeats 40000000
set_option linter.all false
namespace WD
open PySem PySem.Spec PyProof.Rows L2
theorem ok_p_operands_of : DOk ds me 138 de_p_operands_of := ⟨⟨rfl, rfl, rfl, by decide +kernel, rfl, by decide +kernel, by decide +kernel⟩, by kernel_rfl, rfl, rfl, (fun _ _ _ _ _ _ us hl => match us, hl with | [_, _], _ => rfl), no_kbind (by rfl), by rfl⟩
theorem ok_p_needed_for : DOk ds me 139 de_p_needed_for := ⟨⟨rfl, rfl, rfl, by decide +kernel, rfl, by decide +kernel, by decide +kernel⟩, by kernel_rfl, rfl, rfl, (fun _ _ _ _ _ _ us hl => match us, hl with | [_, _], _ => rfl), no_kbind (by rfl), by rfl⟩
theorem ok_p_needed_values : DOk ds me 140 de_p_needed_values := ⟨⟨rfl, rfl, rfl, by decide +kernel, rfl, by decide +kernel, by decide +kernel⟩, by kernel_rfl, rfl, rfl, (fun _ _ _ _ _ _ us hl => match us, hl with | [_], _ => rfl), no_kbind (by rfl), by rfl⟩
theorem ok_p_shortened_script : DOk ds me 141 de_p_shortened_script := ⟨⟨rfl, rfl, rfl, by decide +kernel, rfl, by decide +kernel, by decide +kernel⟩, by kernel_rfl, rfl, rfl, (fun _ _ _ _ _ _ us hl => match us, hl with | [_], _ => rfl), no_kbind (by rfl), by rfl⟩
theorem ok_f_law_spring : DOk ds me 1000 de_f_law_spring := ⟨⟨rfl, rfl, rfl, by decide +kernel, rfl, by decide +kernel, by decide +kernel⟩, by kernel_rfl, rfl, rfl, (fun _ _ _ _ _ _ us hl => match us, hl with | [_], _ => rfl), no_kbind (by rfl), by rfl⟩
theorem ok_f_law_flow : DOk ds me 1001 de_f_law_flow := ⟨⟨rfl, rfl, rfl, by decide +kernel, rfl, by decide +kernel, by decide +kernel⟩, by kernel_rfl, rfl, rfl, (fun _ _ _ _ _ _ us hl => match us, hl with | [_, _], _ => rfl), no_kbind (by rfl), by rfl⟩
theorem ok_f_law_letters : DOk ds me 1002 de_f_law_letters := ⟨⟨rfl, rfl, rfl, by decide +kernel, rfl, by decide +kernel, by decide +kernel⟩, by kernel_rfl, rfl, rfl, (fun _ _ _ _ _ _ us hl => match us, hl with | [_, _], _ => rfl), no_kbind (by rfl), by rfl⟩
theorem ok_f_law_work : DOk ds me 1003 de_f_law_work := ⟨⟨rfl, rfl, rfl, by decide +kernel, rfl, by decide +kernel, by decide +kernel⟩, by kernel_rfl, rfl, rfl, (fun _ _ _ _ _ _ us hl => match us, hl with | [_], _ => rfl), no_kbind (by rfl), by rfl⟩
theorem ok_f_law_next : DOk ds me 1004 de_f_law_next := ⟨⟨rfl, rfl, rfl, by decide +kernel, rfl, by decide +kernel, by decide +kernel⟩, by kernel_rfl, rfl, rfl, (fun _ _ _ _ _ _ us hl => match us, hl with | [_, _, _, _], _ => rfl), no_kbind (by rfl), by rfl⟩
theorem ok_f_law_grown : DOk ds me 1005 de_f_law_grown := ⟨⟨rfl, rfl, rfl, by decide +kernel, rfl, by decide +kernel, by decide +kernel⟩, by kernel_rfl, rfl, rfl, (fun _ _ _ _ _ _ us hl => match us, hl with | [_, _, _, _], _ => rfl), no_kbind (by rfl), by rfl⟩
theorem ok_f_law_marks : DOk ds me 1006 de_f_law_marks := ⟨⟨rfl, rfl, rfl, by decide +kernel, rfl, by decide +kernel, by decide +kernel⟩, by kernel_rfl, rfl, rfl, (fun _ _ _ _ _ _ us hl => match us, hl with | [_, _], _ => rfl), no_kbind (by rfl), by rfl⟩
theorem ok_f_law_weighed : DOk ds me 1007 de_f_law_weighed := ⟨⟨rfl, rfl, rfl, by decide +kernel, rfl, by decide +kernel, by decide +kernel⟩, by kernel_rfl, rfl, rfl, (fun _ _ _ _ _ _ us hl => match us, hl with | [_, _], _ => rfl), no_kbind (by rfl), by rfl⟩
theorem ok_f_law_outs : DOk ds me 1008 de_f_law_outs := ⟨⟨rfl, rfl, rfl, by decide +kernel, rfl, by decide +kernel, by decide +kernel⟩, by kernel_rfl, rfl, rfl, (fun _ _ _ _ _ _ us hl => match us, hl with | [_, _, _], _ => rfl), no_kbind (by rfl), by rfl⟩
theorem ok_f_law_shorter : DOk ds me 1009 de_f_law_shorter := ⟨⟨rfl, rfl, rfl, by decide +kernel, rfl, by decide +kernel, by decide +kernel⟩, by kernel_rfl, rfl, rfl, (fun _ _ _ _ _ _ us hl => match us, hl with | [_], _ => rfl), no_kbind (by rfl), by rfl⟩
theorem ok_f_law_same : DOk ds me 1010 de_f_law_same := ⟨⟨rfl, rfl, rfl, by decide +kernel, rfl, by decide +kernel, by decide +kernel⟩, by kernel_rfl, rfl, rfl, (fun _ _ _ _ _ _ us hl => match us, hl with | [_, _], _ => rfl), no_kbind (by rfl), by rfl⟩
theorem ok_f_law_wanted : DOk ds me 1011 de_f_law_wanted := ⟨⟨rfl, rfl, rfl, by decide +kernel, rfl, by decide +kernel, by decide +kernel⟩, by kernel_rfl, rfl, rfl, (fun _ _ _ _ _ _ us hl => match us, hl with | [_, _], _ => rfl), no_kbind (by rfl), by rfl⟩
theorem ok_f_law_held : DOk ds me 1012 de_f_law_held := ⟨⟨rfl, rfl, rfl, by decide +kernel, rfl, by decide +kernel, by decide +kernel⟩, by kernel_rfl, rfl, rfl, (fun _ _ _ _ _ _ us hl => match us, hl with | [_, _], _ => rfl), no_kbind (by rfl), by rfl⟩
theorem ok_f_law_typed : DOk ds me 1013 de_f_law_typed := ⟨⟨rfl, rfl, rfl, by decide +kernel, rfl, by decide +kernel, by decide +kernel⟩, by kernel_rfl, rfl, rfl, (fun _ _ _ _ _ _ us hl => match us, hl with | [_], _ => rfl), no_kbind (by rfl), by rfl⟩
theorem ok_f_law_ended : DOk ds me 1014 de_f_law_ended := ⟨⟨rfl, rfl, rfl, by decide +kernel, rfl, by decide +kernel, by decide +kernel⟩, by kernel_rfl, rfl, rfl, (fun _ _ _ _ _ _ us hl => match us, hl with | [_, _], _ => rfl), no_kbind (by rfl), by rfl⟩
theorem ok_p_law : DOk ds me 1015 de_p_law := ⟨⟨rfl, rfl, rfl, by decide +kernel, rfl, by decide +kernel, by decide +kernel⟩, by kernel_rfl, rfl, rfl, (fun _ _ _ _ _ _ us hl => match us, hl with | [_], _ => rfl), no_kbind (by rfl), by rfl⟩
theorem ok_all : ∀ p ∈ ds, DOk ds me p.1 p.2 := by
  intro p hp
  unfold ds at hp
  simp only [List.mem_cons, List.not_mem_nil, or_false] at hp
  rcases hp with rfl | rfl | rfl | rfl | rfl | rfl | rfl | rfl | rfl | rfl | rfl | rfl | rfl | rfl | rfl | rfl | rfl | rfl | rfl | rfl
  · exact ok_p_operands_of
  · exact ok_p_needed_for
  · exact ok_p_needed_values
  · exact ok_p_shortened_script
  · exact ok_f_law_spring
  · exact ok_f_law_flow
  · exact ok_f_law_letters
  · exact ok_f_law_work
  · exact ok_f_law_next
  · exact ok_f_law_grown
  · exact ok_f_law_marks
  · exact ok_f_law_weighed
  · exact ok_f_law_outs
  · exact ok_f_law_shorter
  · exact ok_f_law_same
  · exact ok_f_law_wanted
  · exact ok_f_law_held
  · exact ok_f_law_typed
  · exact ok_f_law_ended
  · exact ok_p_law
abbrev R : PySem.W.OpenRow := PySem.W.OpenLaw.row PySem.Challenge.rw_whateverdrops_k11_needs_shortened
abbrev hk : PySem.W.Hook := He.hookX 4 (fasOf ds fr) (fnsOf ds) (tsOf me) [] (exOf me)
def ob (s : PySem.W.SharedT) : He.AlX := He.obsX 4 (fasOf ds fr) (fnsOf ds) (tsOf me) [] (exOf me) (HandSHeadRun.getT s)
theorem ob_eq (s : PySem.W.SharedT) : ob s = hk.obs s.abs := He.obsX_eq (HandSHeadRun.getT_eq s)
theorem run (w : World) : HandSHeadRun.RunEq R (PySem.W.view R.prog [21]) hk ob 4000 ["operands_of", "needed_for", "needed_values", "shortened_script", "_law_spring", "_law_flow", "_law_letters", "_law_work", "_law_next", "_law_grown", "_law_marks", "_law_weighed", "_law_outs", "_law_shorter", "_law_same", "_law_wanted", "_law_held", "_law_typed", "_law_ended"] w := by
  intro os
  kernel_rfl
end WD
open PySem PySem.W PySem.Calls PyProof.Rows
theorem PySem.Challenge.cw_whateverdrops_k11_needs_shortened_holds : PySem.Challenge.rw_whateverdrops_k11_needs_shortened.Holds := by
  w_on; o_law
  refine HandSHeadRun.head_any (r := OpenLaw.row PySem.Challenge.rw_whateverdrops_k11_needs_shortened) (q := view (OpenLaw.row PySem.Challenge.rw_whateverdrops_k11_needs_shortened).prog [21]) (H := WD.hk) (ob := WD.ob) (M := 4000) (loose := ["operands_of", "needed_for", "needed_values", "shortened_script", "_law_spring", "_law_flow", "_law_letters", "_law_work", "_law_next", "_law_grown", "_law_marks", "_law_weighed", "_law_outs", "_law_shorter", "_law_same", "_law_wanted", "_law_held", "_law_typed", "_law_ended"]) (d := HandSHeadRun.topDef (OpenLaw.row PySem.Challenge.rw_whateverdrops_k11_needs_shortened).prog 21) (kwd := []) WD.ob_eq
    (by kernel_rfl) (fun s => by kernel_rfl) WD.run (by kernel_rfl) (by kernel_rfl) (by kernel_rfl) (by rfl) (by first | assumption | decide +kernel) (by decide +kernel) ⟨rfl, rfl, rfl, rfl, rfl, by decide +kernel⟩ ?hw ?hc
  case hw => w_witness2
  case hc =>
    refine WD.walk_ofW (l := PySem.Challenge.rw_whateverdrops_k11_needs_shortened) (n := 63) (k := 40) (x := "script") rfl (by decide) (by kernel_rfl) ⟨rfl, by decide, by decide⟩ ?F
    intro w mg fa h Y G hmg0
    obtain ⟨K, KX, c⟩ := Y
    have hmg : mg ("law" : PySem.Str) = some (.ref fa) := by
      have e : (HandSHeadRun.topDef (OpenLaw.row PySem.Challenge.rw_whateverdrops_k11_needs_shortened).prog 21).name = ("law" : PySem.Str) := by kernel_rfl
      rw [← e]
      exact hmg0
    obtain ⟨fd, sp, hb, hsp, hF⟩ := WD.head_facts (P := (PySem.Challenge.rw_whateverdrops_k11_needs_shortened).prog) (w := w) (id := 1015) (d := WD.de_p_law) (n := 40) WD.ok_all (by simp [WD.ds]) rfl WD.pure_law KX G hmg c
    exact ⟨K, fd, sp, KX, hb, hsp, hF⟩

