import PyProof.Rows.All
import Wide.All
import Open.Line
import Wide.FinOn
import KE.KIntText
import PyProof.ReprStr
import PyProof.StrLawsRepr
import PyProof.RulesTry
import PyProof.CallStr
import PyProof.RaisesMany
import PyProof.Rows.StrIntSpec
import PyProof.Rows.RaiseClass
import PyProof.Rows.FactsExc_ValueError
import PySem.Challenge.RW_k17_0006
set_option Elab.async false
set_option linter.all false
set_option genSizeOfSpec false
namespace Mine
open PySem

inductive V where
  | none | bool (b : Bool) | int (i : Int) | str (s : Str) | typ (t : String)
  | ref (a : Addr) | rng (a b c : Int)
  | list (vs : List V) | tup (vs : List V)
  deriving Inhabited

inductive O where
  | list (vs : List V)
  | dict (n : Nat) (es : List (Int × V))

noncomputable abbrev Hp := Addr → Option O
noncomputable def Hp.set (h : Hp) (a : Addr) (o : O) : Hp := fun b => if b = a then some o else h b
structure St where
  vars : Str → Option V
  heap : Hp
noncomputable def St.put (σ : St) (x : Str) (v : V) : St := { σ with vars := fun y => if y = x then some v else σ.vars y }
noncomputable def St.hp (σ : St) (h : Hp) : St := { σ with heap := h }
@[simp] theorem St.hp_vars (σ : St) (h : Hp) : (σ.hp h).vars = σ.vars := rfl
@[simp] theorem St.hp_heap (σ : St) (h : Hp) : (σ.hp h).heap = h := rfl
@[simp] theorem St.put_heap (σ : St) (x : Str) (v : V) : (σ.put x v).heap = σ.heap := rfl
@[simp] theorem St.put_vars (σ : St) (x y : Str) (v : V) : (σ.put x v).vars y = if y = x then some v else σ.vars y := rfl

inductive Fl where
  | next | brk | cont | ret (v : V)

inductive Pr where
  | len | range | type | max | min | list | chr | str | dict
  | int

mutual
inductive ME where
  | none | bool (b : Bool) | int (i : Int) | str (s : Str) | typ (t : String)
  | var (x : Str) | glob (x : Str)
  | bin (m : Bool) (op : Operator) (l r : ME) | neg (e : ME)
  | cmp (op : CmpOp) (l r : ME)
  | call (f : Str) (args : MEs)
  | prim (f : Pr) (args : MEs)
  | append (o e : ME) | join (sep : Str) (e : ME)
  | item (o i : ME) | slice (o lo hi : ME)
  | list (m : Bool) (es : MEs) | tup (es : MEs) | dict0
  | comp (m : Bool) (elt : ME) (x : Str) (free : List Str) (iter : ME) (ifs : MTs)
inductive MEs where
  | nil | cons (e : ME) (r : MEs)
inductive MT where
  | not (t : MT) | and (ts : MTs) | or (ts : MTs) | cmp (op : CmpOp) (l r : ME) | val (e : ME)
inductive MTs where
  | nil | cons (t : MT) (r : MTs)
end
mutual
inductive MS where
  | assign (x : Str) (e : ME) | setitem (o i e : ME) | aug (x : Str) (op : Operator) (e : ME) | expr (e : ME)
  | ite (t : MT) (a b : MSs) | whl (t : MT) (body : MSs)
  | for_ (xs : List Str) (iter : ME) (body : MSs)
  | ret (e : ME) | freeze (x : Str)
  | raise_ | try_ (b : MSs)
inductive MSs where
  | nil | cons (s : MS) (r : MSs)
end
/-! primitives -/
noncomputable def ofSome {α : Type} (o : Option α) (k : α → Prop) : Prop := match o with | some v => k v | none => False
@[simp] theorem ofSome_some {α : Type} (v : α) (k : α → Prop) : ofSome (some v) k = k v := rfl
@[simp] theorem ofSome_none {α : Type} (k : α → Prop) : ofSome none k = False := rfl

noncomputable def isLst : Option O → Prop
  | some (.list _) => True
  | _ => False
noncomputable def ofLst (o : Option O) (k : List V → Prop) : Prop := match o with
  | some (.list vs) => k vs
  | _ => False
@[simp] theorem isLst_list (vs : List V) : isLst (some (.list vs)) = True := rfl
@[simp] theorem ofLst_list (vs : List V) (k : List V → Prop) : ofLst (some (.list vs)) k = k vs := rfl

noncomputable def lst? (h : Hp) : V → Option (List V)
  | .list vs => some vs
  | .ref a => match h a with | some (.list vs) => some vs | _ => none
  | _ => none
noncomputable def seq? (h : Hp) : V → Option (List V)
  | .tup vs => some vs
  | v => lst? h v

noncomputable abbrev lenOk (n : Nat) : Prop := n ≤ 1000000

noncomputable def mk (m : Bool) (vs : List V) (h : Hp) (Q : V → Hp → Prop) : Prop :=
  lenOk vs.length ∧ (if m then ∀ r, h r = none → Q (.ref r) (h.set r (.list vs)) else Q (.list vs) h)

noncomputable def rangeN (a b c : Int) : Nat := (Builtin.Range.rangeSize a b c).toNat
noncomputable def rangeL (a b c : Int) : List Int := (List.range (rangeN a b c)).map fun (k : Nat) => a + k * c

noncomputable def wII (f : Int → Int → Prop) (a b : V) : Prop := match a with
  | .int x => (match b with
    | .int y => f x y
    | _ => False)
  | _ => False
theorem wII_at {f : Int → Int → Prop} {a b : V} (h : wII f a b) : ∃ x y, a = .int x ∧ b = .int y ∧ f x y := by
  cases a with
  | int x => cases b with
    | int y => exact ⟨x, y, rfl, rfl, h⟩
    | _ => exact h.elim
  | _ => exact h.elim
noncomputable def wLL (m : Bool) (a b : V) (h : Hp) (Q : V → Hp → Prop) : Prop := ofSome (lst? h a) fun xs => ofSome (lst? h b) fun ys => mk m (xs ++ ys) h Q
noncomputable def wAdd (m : Bool) (a b : V) (h : Hp) (Q : V → Hp → Prop) : Prop := match a with
  | .int x => (match b with
    | .int y => Q (.int (x + y)) h
    | _ => False)
  | .str x => (match b with
    | .str y => lenOk (x.length + y.length) ∧ Q (.str (x ++ y)) h
    | _ => False)
  | a => wLL m a b h Q
noncomputable def wMul (m : Bool) (a : V) (n : Int) (h : Hp) (Q : V → Hp → Prop) : Prop := match a with
  | .int x => (x.natAbs < 2 ^ 60 ∧ n.natAbs < 2 ^ 60) ∧ Q (.int (x * n)) h
  | a => ofSome (lst? h a) fun xs => (n.natAbs ≤ 1000 ∧ xs.length ≤ 1000) ∧ mk m (List.replicate n.toNat xs).flatten h Q
noncomputable def wBin (m : Bool) (op : Operator) (a b : V) (h : Hp) (Q : V → Hp → Prop) : Prop :=
  match op with
  | .Add => wAdd m a b h Q
  | .Sub => wII (fun x y => Q (.int (x - y)) h) a b
  | .Mult => (match b with
    | .int n => wMul m a n h Q
    | _ => False)
  | .Mod => wII (fun x y => y ≠ 0 ∧ Q (.int (x.fmod y)) h) a b
  | .FloorDiv => wII (fun x y => (y ≠ 0 ∧ y.natAbs < 1073741824) ∧ Q (.int (x.fdiv y)) h) a b
  | _ => False

mutual
noncomputable def V.eqb : V → V → Bool
  | .none, .none => true
  | .bool a, .bool b => a == b
  | .bool a, .int j => (if a then 1 else 0) == j
  | .int i, .bool b => i == (if b then 1 else 0)
  | .int i, .int j => i == j
  | .str x, .str y => x == y
  | .list xs, .list ys => V.eqbs xs ys
  | .tup xs, .tup ys => V.eqbs xs ys
  | _, _ => false
noncomputable def V.eqbs : List V → List V → Bool
  | [], [] => true
  | x :: xs, y :: ys => V.eqb x y && V.eqbs xs ys
  | _, _ => false
end
noncomputable def V.plainN : Nat → V → Bool
  | _, .none => true
  | _, .bool _ => true
  | _, .int _ => true
  | _, .str _ => true
  | n + 1, .list vs => vs.all (V.plainN n)
  | n + 1, .tup vs => vs.all (V.plainN n)
  | _, _ => false
noncomputable abbrev V.plain (v : V) : Bool := V.plainN 8 v

noncomputable def res1 (h : Hp) (v : V) : V := match v with
  | .ref a => (match h a with | some (.list vs) => .list vs | _ => .ref a)
  | v => v
noncomputable def res (h : Hp) : V → V
  | .list vs => .list (vs.map (res1 h))
  | .tup vs => .tup (vs.map (res1 h))
  | v => res1 h v

noncomputable def wIs (Q : Bool → Prop) (a b : V) : Prop := match a with
  | .typ s => (match b with
    | .typ t => Q (s == t)
    | _ => False)
  | .bool s => (match b with
    | .bool t => Q (s == t)
    | _ => False)
  | _ => False
noncomputable def wInL (a b : V) (h : Hp) (Q : Bool → Prop) : Prop := ofSome (lst? h b) fun ys => ((res h a).plain = true ∧ (V.list ys).plain = true) ∧ Q (ys.any fun y => V.eqb y (res h a))
noncomputable def wInD (a : V) (es : List (Int × V)) (Q : Bool → Prop) : Prop := match a with
  | .int k => Q ((es.lookup k).isSome)
  | _ => False
noncomputable def wIn (a b : V) (h : Hp) (Q : Bool → Prop) : Prop := match b with
  | .ref d => (match h d with
    | some (.dict _ es) => wInD a es Q
    | _ => wInL a b h Q)
  | b => wInL a b h Q
noncomputable def wCmp (op : CmpOp) (a b : V) (h : Hp) (Q : Bool → Prop) : Prop :=
  match op with
  | .Lt => wII (fun x y => Q (decide (x < y))) a b
  | .LtE => wII (fun x y => Q (decide (x ≤ y))) a b
  | .Gt => wII (fun x y => Q (decide (x > y))) a b
  | .GtE => wII (fun x y => Q (decide (x ≥ y))) a b
  | .Eq => ((res h a).plain = true ∧ (res h b).plain = true) ∧ Q (V.eqb (res h a) (res h b))
  | .NotEq => ((res h a).plain = true ∧ (res h b).plain = true) ∧ Q (!V.eqb (res h a) (res h b))
  | .Is => wIs Q a b
  | .IsNot => wIs (fun b => Q (!b)) a b
  | .In => wIn a b h Q
  | _ => False

noncomputable def typ? (h : Hp) : V → Option String
  | .none => some "NoneType" | .bool _ => some "bool" | .int _ => some "int" | .str _ => some "str"
  | .list _ => some "list" | .tup _ => some "tuple"
  | .ref a => (match h a with | some (.list _) => some "list" | some (.dict _ _) => some "dict" | _ => none)
  | _ => none

noncomputable def wLen (h : Hp) (Q : V → Hp → Prop) (v : V) : Prop := match v with
  | .str s => Q (.int s.length) h
  | v => ofSome (seq? h v) fun vs => Q (.int vs.length) h
noncomputable def ints? : List V → Option (List Int)
  | [] => some []
  | .int i :: r => (ints? r).map (i :: ·)
  | _ => none
noncomputable def wRange (args : List Int) (h : Hp) (Q : V → Hp → Prop) : Prop := match args with
  | [b] => b.natAbs ≤ 1000000 ∧ Q (.rng 0 b 1) h
  | [a, b] => (a.natAbs ≤ 1000000 ∧ b.natAbs ≤ 1000000) ∧ Q (.rng a b 1) h
  | [a, b, c] => ((a.natAbs ≤ 1000000 ∧ b.natAbs ≤ 1000000) ∧ c ≠ 0 ∧ c.natAbs ≤ 1000000) ∧ Q (.rng a b c) h
  | _ => False
noncomputable def wTwo (f : Int → Int → Int) (args : List Int) (h : Hp) (Q : V → Hp → Prop) : Prop := match args with
  | [a, b] => Q (.int (f a b)) h
  | _ => False
noncomputable def wOne (f : V → Prop) (args : List V) : Prop := match args with
  | [v] => f v
  | _ => False
noncomputable def wPrim (f : Pr) (args : List V) (h : Hp) (Q : V → Hp → Prop) : Prop :=
  match f with
  | .len => wOne (wLen h Q) args
  | .range => ofSome (ints? args) fun l => wRange l h Q
  | .type => wOne (fun v => ofSome (typ? h v) fun t => Q (.typ t) h) args
  | .max => ofSome (ints? args) fun l => wTwo max l h Q
  | .min => ofSome (ints? args) fun l => wTwo min l h Q
  | .list => wOne (fun v => ofSome (seq? h v) fun vs => Q (.list vs) h) args
  | .str => wOne (fun v => match v with | .int i => (i.natAbs < 10 ^ 20 ∧ (Str.ofString (toString i)).length ≤ 640) ∧ Q (.str (Str.ofString (toString i))) h | _ => False) args
  | .int => wOne (fun v => match v with | .str x => x.length ≤ 640 ∧ ofSome (PySem.intText? x) fun n => Q (.int n) h | _ => False) args
  | _ => False

noncomputable def wItem (o i : V) (h : Hp) (Q : V → Prop) : Prop :=
  match o, i with
  | .str s, .int k => ofSome ((seqIndex? k s.length).bind (s.cps[·]?)) fun c => Q (.str ⟨#[c]⟩)
  | .ref a, .int k => (match h a with
      | some (.list vs) => ofSome ((seqIndex? k vs.length).bind (vs[·]?)) Q
      | some (.dict _ es) => ofSome (es.lookup k) Q
      | _ => False)
  | o, .int k => ofSome (seq? h o) fun vs => ofSome ((seqIndex? k vs.length).bind (vs[·]?)) Q
  | _, _ => False

noncomputable def clip (n : Nat) (v : V) (dflt : Nat) : Option Nat := match v with
  | .none => some dflt
  | .int i => some (max 0 (min (if i < 0 then i + n else i) n)).toNat
  | _ => none
noncomputable def wSlice (o lo hi : V) (h : Hp) (Q : V → Prop) : Prop :=
  match o with
  | .str s => (match lo, hi with | .none, .int k => Q (.str (Txt.slice s none (some k))) | _, _ => False)
  | o => ofSome (lst? h o) fun vs => ofSome (clip vs.length lo 0) fun a => ofSome (clip vs.length hi vs.length) fun b => Q (.list ((vs.take b).drop a))

noncomputable def strs? : List V → Option (List Str)
  | [] => some []
  | .str s :: r => (strs? r).map (s :: ·)
  | _ => none

noncomputable def iter? (h : Hp) : V → Option (List V)
  | .list vs => some vs
  | .tup vs => some vs
  | .rng a b c => some ((rangeL a b c).map .int)
  | .str s => some (s.cps.toList.map fun c => .str ⟨#[c]⟩)
  | _ => none

noncomputable def dput (es : List (Int × V)) (k : Int) (v : V) : List (Int × V) :=
  match es with
  | [] => [(k, v)]
  | (k', v') :: r => if k' = k then (k', v) :: r else (k', v') :: dput r k v

noncomputable def wSet (o i v : V) (h : Hp) (Q : Hp → Prop) : Prop :=
  match o, i with
  | .ref a, .int k => (match h a with
      | some (.list vs) => ofSome (seqIndex? k vs.length) fun j => Q (h.set a (.list (vs.set j v)))
      | some (.dict n es) => lenOk (n + 1) ∧ Q (h.set a (.dict (n + 1) (dput es k v)))
      | _ => False)
  | _, _ => False

noncomputable abbrev FEnv := Str → List V → Hp → (V → Hp → Prop) → Prop

noncomputable def compVars (vars : Str → Option V) (free : List Str) (x : Str) (v : V) : Str → Option V :=
  fun y => if y = x then some v else if y ∈ free then vars y else none

/-- a comprehension's turns -/
noncomputable def compL (T : St → (Bool → St → Prop) → Prop) (E : St → (V → St → Prop) → Prop) (vars : Str → Option V) (free : List Str) (x : Str) : List V → List V → Hp → (List V → Hp → Prop) → Prop
  | [], acc, h, Q => Q acc h
  | v :: r, acc, h, Q => T ⟨compVars vars free x v, h⟩ fun b σ₁ =>
      if b then E ⟨compVars vars free x v, σ₁.heap⟩ fun w σ₂ => compL T E vars free x r (acc ++ [w]) σ₂.heap Q
      else compL T E vars free x r acc σ₁.heap Q



mutual
noncomputable def wpE (Φ : FEnv) (G : Str → Option V) : ME → St → (V → St → Prop) → Prop
  | .none, σ, Q => Q .none σ
  | .bool b, σ, Q => Q (.bool b) σ
  | .int i, σ, Q => Q (.int i) σ
  | .str s, σ, Q => Q (.str s) σ
  | .typ t, σ, Q => Q (.typ t) σ
  | .var x, σ, Q => ofSome (σ.vars x) fun v => Q v σ
  | .glob x, σ, Q => ofSome (G x) fun v => Q v σ
  | .bin m op l r, σ, Q => wpE Φ G l σ fun a σ₁ => wpE Φ G r σ₁ fun b σ₂ => wBin m op a b σ₂.heap fun v h => Q v (σ₂.hp h)
  | .neg e, σ, Q => wpE Φ G e σ fun a σ₁ => match a with | .int i => Q (.int (-i)) σ₁ | _ => False
  | .cmp op l r, σ, Q => wpE Φ G l σ fun a σ₁ => wpE Φ G r σ₁ fun b σ₂ => wCmp op a b σ₂.heap fun v => Q (.bool v) σ₂
  | .call f args, σ, Q => wpEs Φ G args σ fun vs σ₁ => Φ f vs σ₁.heap fun v h => Q v (σ₁.hp h)
  | .prim f args, σ, Q => wpEs Φ G args σ fun vs σ₁ => wPrim f vs σ₁.heap fun v h => Q v (σ₁.hp h)
  | .append o e, σ, Q => wpE Φ G o σ fun a σ₁ => match a with
      | .ref r => isLst (σ₁.heap r) ∧ wpE Φ G e σ₁ fun v σ₂ =>
          ofLst (σ₂.heap r) fun vs => lenOk (vs.length + 1) ∧ Q .none (σ₂.hp (σ₂.heap.set r (.list (vs ++ [v]))))
      | _ => False
  | .join sep e, σ, Q => wpE Φ G e σ fun a σ₁ => ofSome (lst? σ₁.heap a) fun vs => ofSome (strs? vs) fun ss =>
      (sep.length = 0 ∧ lenOk ((ss.map fun s => s.length).sum)) ∧ Q (.str ⟨(ss.map fun s => s.cps.toList).flatten.toArray⟩) σ₁
  | .item o i, σ, Q => wpE Φ G o σ fun a σ₁ => wpE Φ G i σ₁ fun b σ₂ => wItem a b σ₂.heap fun v => Q v σ₂
  | .slice o lo hi, σ, Q => wpE Φ G o σ fun a σ₁ => wpE Φ G lo σ₁ fun b σ₂ => wpE Φ G hi σ₂ fun c σ₃ => wSlice a b c σ₃.heap fun v => Q v σ₃
  | .list m es, σ, Q => wpEs Φ G es σ fun vs σ₁ => mk m vs σ₁.heap fun v h => Q v (σ₁.hp h)
  | .tup es, σ, Q => wpEs Φ G es σ fun vs σ₁ => lenOk vs.length ∧ Q (.tup vs) σ₁
  | .dict0, σ, Q => ∀ r, σ.heap r = none → Q (.ref r) (σ.hp (σ.heap.set r (.dict 0 [])))
  | .comp m elt x free iter ifs, σ, Q => wpE Φ G iter σ fun a σ₁ => ofSome (iter? σ₁.heap a) fun vs =>
      vs.length ≤ 1000000 ∧ compL (wpAnd Φ G ifs) (wpE Φ G elt) σ₁.vars free x vs [] σ₁.heap fun ws h => mk m ws h fun v h => Q v (σ₁.hp h)
noncomputable def wpEs (Φ : FEnv) (G : Str → Option V) : MEs → St → (List V → St → Prop) → Prop
  | .nil, σ, Q => Q [] σ
  | .cons e r, σ, Q => wpE Φ G e σ fun v σ₁ => wpEs Φ G r σ₁ fun vs σ₂ => Q (v :: vs) σ₂
noncomputable def wpT (Φ : FEnv) (G : Str → Option V) : MT → St → (Bool → St → Prop) → Prop
  | .not t, σ, Q => wpT Φ G t σ fun b σ₁ => Q (!b) σ₁
  | .and ts, σ, Q => wpAnd Φ G ts σ Q
  | .or ts, σ, Q => wpOr Φ G ts σ Q
  | .cmp op l r, σ, Q => wpE Φ G l σ fun a σ₁ => wpE Φ G r σ₁ fun b σ₂ => wCmp op a b σ₂.heap fun v => Q v σ₂
  | .val e, σ, Q => wpE Φ G e σ fun a σ₁ => match a with | .bool b => Q b σ₁ | _ => False
noncomputable def wpAnd (Φ : FEnv) (G : Str → Option V) : MTs → St → (Bool → St → Prop) → Prop
  | .nil, σ, Q => Q true σ
  | .cons t r, σ, Q => wpT Φ G t σ fun b σ₁ => if b then wpAnd Φ G r σ₁ Q else Q false σ₁
noncomputable def wpOr (Φ : FEnv) (G : Str → Option V) : MTs → St → (Bool → St → Prop) → Prop
  | .nil, σ, Q => Q false σ
  | .cons t r, σ, Q => wpT Φ G t σ fun b σ₁ => if b then Q true σ₁ else wpOr Φ G r σ₁ Q
end
noncomputable def bindT : List Str → V → St → Option St
  | [x], v, σ => some (σ.put x v)
  | xs, .tup vs, σ => if xs.length = vs.length then some ((xs.zip vs).foldl (fun σ p => σ.put p.1 p.2) σ) else none
  | _, _, _ => none

noncomputable def forL (B : St → (Fl → St → Prop) → Prop) (xs : List Str) : List V → St → (Fl → St → Prop) → Prop
  | [], σ, Q => Q .next σ
  | v :: r, σ, Q => ofSome (bindT xs v σ) fun σ₁ => B σ₁ fun f σ₂ => match f with
      | .next => forL B xs r σ₂ Q
      | .cont => forL B xs r σ₂ Q
      | .brk => Q .next σ₂
      | .ret w => Q (.ret w) σ₂

/-- some of the heap's objects become values -/
inductive Frz (h h' : Hp) : V → V → Prop where
  | none : Frz h h' .none .none
  | bool (b) : Frz h h' (.bool b) (.bool b)
  | int (i) : Frz h h' (.int i) (.int i)
  | str (s) : Frz h h' (.str s) (.str s)
  | typ (t) : Frz h h' (.typ t) (.typ t)
  | rng (a b c) : Frz h h' (.rng a b c) (.rng a b c)
  | keep (a) : Frz h h' (.ref a) (.ref a)
  | list {vs ws} : vs.length = ws.length → (∀ (i : Nat) v w, vs[i]? = some v → ws[i]? = some w → Frz h h' v w) → Frz h h' (.list vs) (.list ws)
  | tup {vs ws} : vs.length = ws.length → (∀ (i : Nat) v w, vs[i]? = some v → ws[i]? = some w → Frz h h' v w) → Frz h h' (.tup vs) (.tup ws)
  | ref {a vs ws} : h a = some (.list vs) → h' a = none → vs.length = ws.length → (∀ (i : Nat) v w, vs[i]? = some v → ws[i]? = some w → Frz h h' v w) → Frz h h' (.ref a) (.list ws)

mutual
noncomputable def wpS (Φ : FEnv) (G : Str → Option V) : MS → St → (Fl → St → Prop) → Prop
  | .assign x e, σ, Q => wpE Φ G e σ fun v σ₁ => Q .next (σ₁.put x v)
  | .setitem o i e, σ, Q => wpE Φ G e σ fun v σ₁ => wpE Φ G o σ₁ fun a σ₂ => wpE Φ G i σ₂ fun k σ₃ => wSet a k v σ₃.heap fun h => Q .next (σ₃.hp h)
  | .aug x op e, σ, Q => ofSome (σ.vars x) fun a => wpE Φ G e σ fun b σ₁ => match op, a, b with
      | .Add, .int i, .int j => Q .next (σ₁.put x (.int (i + j)))
      | _, _, _ => False
  | .expr e, σ, Q => wpE Φ G e σ fun v σ₁ => match v with | .none => Q .next σ₁ | _ => False
  | .ite t a b, σ, Q => wpT Φ G t σ fun c σ₁ => if c then wpSs Φ G a σ₁ Q else wpSs Φ G b σ₁ Q
  | .whl t body, σ, Q => ∃ I : Nat → St → Prop, (∃ n, I n σ) ∧ ∀ n σ, I n σ → wpT Φ G t σ fun c σ₁ =>
      if c then wpSs Φ G body σ₁ fun f σ₂ => match f with
        | .next => ∃ m, m < n ∧ I m σ₂
        | .cont => ∃ m, m < n ∧ I m σ₂
        | .brk => Q .next σ₂
        | .ret w => Q (.ret w) σ₂
      else Q .next σ₁
  | .for_ xs iter body, σ, Q => wpE Φ G iter σ fun a σ₁ => ofSome (iter? σ₁.heap a) fun vs =>
      vs.length ≤ 1000000 ∧ forL (wpSs Φ G body) xs vs σ₁ Q
  | .ret e, σ, Q => wpE Φ G e σ fun v σ₁ => Q (.ret v) σ₁
  | .freeze x, σ, Q => ofSome (σ.vars x) fun v => ∃ h' w, (∀ a o, h' a = some o → σ.heap a = some o) ∧ Frz σ.heap h' v w ∧ Q .next ⟨(σ.put x w).vars, h'⟩
  | .raise_, _, _ => False
  | .try_ b, σ, Q => wpSs Φ G b σ Q
noncomputable def wpSs (Φ : FEnv) (G : Str → Option V) : MSs → St → (Fl → St → Prop) → Prop
  | .nil, σ, Q => Q .next σ
  | .cons s r, σ, Q => wpS Φ G s σ fun f σ₁ => match f with
      | .next => wpSs Φ G r σ₁ Q
      | f => Q f σ₁
end
/-! the equations -/
theorem uE_typ (Φ : FEnv) (G : Str → Option V) (t) (σ) (Q) : wpE Φ G (.typ t) σ Q = (Q (.typ t) σ) := rfl
theorem uE_var (Φ : FEnv) (G : Str → Option V) (x) (σ) (Q) : wpE Φ G (.var x) σ Q = (ofSome (σ.vars x) fun v => Q v σ) := rfl
theorem uE_glob (Φ : FEnv) (G : Str → Option V) (x) (σ) (Q) : wpE Φ G (.glob x) σ Q = (ofSome (G x) fun v => Q v σ) := rfl
theorem uE_bin (Φ : FEnv) (G : Str → Option V) (m) (op) (l) (r) (σ) (Q) : wpE Φ G (.bin m op l r) σ Q = (wpE Φ G l σ fun a σ₁ => wpE Φ G r σ₁ fun b σ₂ => wBin m op a b σ₂.heap fun v h => Q v (σ₂.hp h)) := rfl
theorem uE_neg (Φ : FEnv) (G : Str → Option V) (e) (σ) (Q) : wpE Φ G (.neg e) σ Q = (wpE Φ G e σ fun a σ₁ => match a with | .int i => Q (.int (-i)) σ₁ | _ => False) := rfl
theorem uE_cmp (Φ : FEnv) (G : Str → Option V) (op) (l) (r) (σ) (Q) : wpE Φ G (.cmp op l r) σ Q = (wpE Φ G l σ fun a σ₁ => wpE Φ G r σ₁ fun b σ₂ => wCmp op a b σ₂.heap fun v => Q (.bool v) σ₂) := rfl
theorem uE_call (Φ : FEnv) (G : Str → Option V) (f) (args) (σ) (Q) : wpE Φ G (.call f args) σ Q = (wpEs Φ G args σ fun vs σ₁ => Φ f vs σ₁.heap fun v h => Q v (σ₁.hp h)) := rfl
theorem uE_prim (Φ : FEnv) (G : Str → Option V) (f) (args) (σ) (Q) : wpE Φ G (.prim f args) σ Q = (wpEs Φ G args σ fun vs σ₁ => wPrim f vs σ₁.heap fun v h => Q v (σ₁.hp h)) := rfl
theorem uE_append (Φ : FEnv) (G : Str → Option V) (o) (e) (σ) (Q) : wpE Φ G (.append o e) σ Q = (wpE Φ G o σ fun a σ₁ => match a with
      | .ref r => isLst (σ₁.heap r) ∧ wpE Φ G e σ₁ fun v σ₂ =>
          ofLst (σ₂.heap r) fun vs => lenOk (vs.length + 1) ∧ Q .none (σ₂.hp (σ₂.heap.set r (.list (vs ++ [v]))))
      | _ => False) := rfl
theorem uE_item (Φ : FEnv) (G : Str → Option V) (o) (i) (σ) (Q) : wpE Φ G (.item o i) σ Q = (wpE Φ G o σ fun a σ₁ => wpE Φ G i σ₁ fun b σ₂ => wItem a b σ₂.heap fun v => Q v σ₂) := rfl
theorem uE_slice (Φ : FEnv) (G : Str → Option V) (o) (lo) (hi) (σ) (Q) : wpE Φ G (.slice o lo hi) σ Q = (wpE Φ G o σ fun a σ₁ => wpE Φ G lo σ₁ fun b σ₂ => wpE Φ G hi σ₂ fun c σ₃ => wSlice a b c σ₃.heap fun v => Q v σ₃) := rfl
theorem uE_list (Φ : FEnv) (G : Str → Option V) (m) (es) (σ) (Q) : wpE Φ G (.list m es) σ Q = (wpEs Φ G es σ fun vs σ₁ => mk m vs σ₁.heap fun v h => Q v (σ₁.hp h)) := rfl
theorem uE_tup (Φ : FEnv) (G : Str → Option V) (es) (σ) (Q) : wpE Φ G (.tup es) σ Q = (wpEs Φ G es σ fun vs σ₁ => lenOk vs.length ∧ Q (.tup vs) σ₁) := rfl
theorem uE_dict0 (Φ : FEnv) (G : Str → Option V) (σ) (Q) : wpE Φ G .dict0 σ Q = (∀ r, σ.heap r = none → Q (.ref r) (σ.hp (σ.heap.set r (.dict 0 [])))) := rfl
theorem uE_comp (Φ : FEnv) (G : Str → Option V) (m) (elt) (x) (free) (iter) (ifs) (σ) (Q) : wpE Φ G (.comp m elt x free iter ifs) σ Q = (wpE Φ G iter σ fun a σ₁ => ofSome (iter? σ₁.heap a) fun vs =>
      vs.length ≤ 1000000 ∧ compL (wpAnd Φ G ifs) (wpE Φ G elt) σ₁.vars free x vs [] σ₁.heap fun ws h => mk m ws h fun v h => Q v (σ₁.hp h)) := rfl
theorem uEs_nil (Φ : FEnv) (G : Str → Option V) (σ) (Q) : wpEs Φ G .nil σ Q = (Q [] σ) := rfl
theorem uEs_cons (Φ : FEnv) (G : Str → Option V) (e) (r) (σ) (Q) : wpEs Φ G (.cons e r) σ Q = (wpE Φ G e σ fun v σ₁ => wpEs Φ G r σ₁ fun vs σ₂ => Q (v :: vs) σ₂) := rfl
theorem uT_not (Φ : FEnv) (G : Str → Option V) (t) (σ) (Q) : wpT Φ G (.not t) σ Q = (wpT Φ G t σ fun b σ₁ => Q (!b) σ₁) := rfl
theorem uT_and (Φ : FEnv) (G : Str → Option V) (ts) (σ) (Q) : wpT Φ G (.and ts) σ Q = (wpAnd Φ G ts σ Q) := rfl
theorem uT_or (Φ : FEnv) (G : Str → Option V) (ts) (σ) (Q) : wpT Φ G (.or ts) σ Q = (wpOr Φ G ts σ Q) := rfl
theorem uT_cmp (Φ : FEnv) (G : Str → Option V) (op) (l) (r) (σ) (Q) : wpT Φ G (.cmp op l r) σ Q = (wpE Φ G l σ fun a σ₁ => wpE Φ G r σ₁ fun b σ₂ => wCmp op a b σ₂.heap fun v => Q v σ₂) := rfl
theorem uT_val (Φ : FEnv) (G : Str → Option V) (e) (σ) (Q) : wpT Φ G (.val e) σ Q = (wpE Φ G e σ fun a σ₁ => match a with | .bool b => Q b σ₁ | _ => False) := rfl
theorem uA_nil (Φ : FEnv) (G : Str → Option V) (σ) (Q) : wpAnd Φ G .nil σ Q = (Q true σ) := rfl
theorem uA_cons (Φ : FEnv) (G : Str → Option V) (t) (r) (σ) (Q) : wpAnd Φ G (.cons t r) σ Q = (wpT Φ G t σ fun b σ₁ => if b then wpAnd Φ G r σ₁ Q else Q false σ₁) := rfl
theorem uO_nil (Φ : FEnv) (G : Str → Option V) (σ) (Q) : wpOr Φ G .nil σ Q = (Q false σ) := rfl
theorem uO_cons (Φ : FEnv) (G : Str → Option V) (t) (r) (σ) (Q) : wpOr Φ G (.cons t r) σ Q = (wpT Φ G t σ fun b σ₁ => if b then Q true σ₁ else wpOr Φ G r σ₁ Q) := rfl
theorem uS_assign (Φ : FEnv) (G : Str → Option V) (x) (e) (σ) (Q) : wpS Φ G (.assign x e) σ Q = (wpE Φ G e σ fun v σ₁ => Q .next (σ₁.put x v)) := rfl
theorem uS_setitem (Φ : FEnv) (G : Str → Option V) (o) (i) (e) (σ) (Q) : wpS Φ G (.setitem o i e) σ Q = (wpE Φ G e σ fun v σ₁ => wpE Φ G o σ₁ fun a σ₂ => wpE Φ G i σ₂ fun k σ₃ => wSet a k v σ₃.heap fun h => Q .next (σ₃.hp h)) := rfl
theorem uS_aug (Φ : FEnv) (G : Str → Option V) (x) (op) (e) (σ) (Q) : wpS Φ G (.aug x op e) σ Q = (ofSome (σ.vars x) fun a => wpE Φ G e σ fun b σ₁ => match op, a, b with
      | .Add, .int i, .int j => Q .next (σ₁.put x (.int (i + j)))
      | _, _, _ => False) := rfl
theorem uS_expr (Φ : FEnv) (G : Str → Option V) (e) (σ) (Q) : wpS Φ G (.expr e) σ Q = (wpE Φ G e σ fun v σ₁ => match v with | .none => Q .next σ₁ | _ => False) := rfl
theorem uS_ite (Φ : FEnv) (G : Str → Option V) (t) (a) (b) (σ) (Q) : wpS Φ G (.ite t a b) σ Q = (wpT Φ G t σ fun c σ₁ => if c then wpSs Φ G a σ₁ Q else wpSs Φ G b σ₁ Q) := rfl
theorem uS_whl (Φ : FEnv) (G : Str → Option V) (t) (body) (σ) (Q) : wpS Φ G (.whl t body) σ Q = (∃ I : Nat → St → Prop, (∃ n, I n σ) ∧ ∀ n σ, I n σ → wpT Φ G t σ fun c σ₁ =>
      if c then wpSs Φ G body σ₁ fun f σ₂ => match f with
        | .next => ∃ m, m < n ∧ I m σ₂
        | .cont => ∃ m, m < n ∧ I m σ₂
        | .brk => Q .next σ₂
        | .ret w => Q (.ret w) σ₂
      else Q .next σ₁) := rfl
theorem uS_for_ (Φ : FEnv) (G : Str → Option V) (xs) (iter) (body) (σ) (Q) : wpS Φ G (.for_ xs iter body) σ Q = (wpE Φ G iter σ fun a σ₁ => ofSome (iter? σ₁.heap a) fun vs =>
      vs.length ≤ 1000000 ∧ forL (wpSs Φ G body) xs vs σ₁ Q) := rfl
theorem uS_ret (Φ : FEnv) (G : Str → Option V) (e) (σ) (Q) : wpS Φ G (.ret e) σ Q = (wpE Φ G e σ fun v σ₁ => Q (.ret v) σ₁) := rfl
theorem uS_freeze (Φ : FEnv) (G : Str → Option V) (x) (σ) (Q) : wpS Φ G (.freeze x) σ Q = (ofSome (σ.vars x) fun v => ∃ h' w, (∀ a o, h' a = some o → σ.heap a = some o) ∧ Frz σ.heap h' v w ∧ Q .next ⟨(σ.put x w).vars, h'⟩) := rfl
theorem uS_try (Φ : FEnv) (G : Str → Option V) (b) (σ) (Q) : wpS Φ G (.try_ b) σ Q = wpSs Φ G b σ Q := rfl
theorem uSs_nil (Φ : FEnv) (G : Str → Option V) (σ) (Q) : wpSs Φ G .nil σ Q = (Q .next σ) := rfl
theorem uSs_cons (Φ : FEnv) (G : Str → Option V) (s) (r) (σ) (Q) : wpSs Φ G (.cons s r) σ Q = (wpS Φ G s σ fun f σ₁ => match f with
      | .next => wpSs Φ G r σ₁ Q
      | f => Q f σ₁) := rfl

structure Fn where
  name : Str
  params : List Str
  body : MSs

noncomputable def bindP : List Str → List V → Str → Option V
  | x :: xs, v :: vs => fun y => if y = x then some v else bindP xs vs y
  | _, _ => fun _ => none

noncomputable def wpF (Φ : FEnv) (G : Str → Option V) (f : Fn) (args : List V) (h : Hp) (Q : V → Hp → Prop) : Prop :=
  args.length = f.params.length ∧ wpSs Φ G f.body ⟨bindP f.params args, h⟩ fun fl σ => match fl with
    | .ret v => Q v σ.heap
    | .next => Q .none σ.heap
    | _ => False

noncomputable def Phi (G : Str → Option V) : List Fn → FEnv
  | [] => fun _ _ _ _ => False
  | f :: r => fun g args h Q => if g = f.name then wpF (Phi G r) G f args h Q else Phi G r g args h Q

end Mine

namespace Mine
open PySem

noncomputable abbrev Zh := Addr → Option Obj

mutual
noncomputable def VRel (z : Zh) : V → Value → Prop
  | .none, v => v = .none
  | .bool b, v => v = .bool b
  | .int i, v => ∃ t, v = .int i t
  | .str s, v => (PyData.strOk s = true ∧ s.length ≤ sizeLine) ∧ ∃ t, v = .str s t
  | .typ t, v => v = .type t
  | .ref a, v => v = .ref a
  | .rng a b c, v => ∃ r t u w, v = .ref r ∧ (a.natAbs ≤ 1000000 ∧ b.natAbs ≤ 1000000 ∧ c ≠ 0 ∧ c.natAbs ≤ 1000000) ∧ z r = some { cls := .type "range", data := .fields #[.int a t, .int b u, .int c w] }
  | .list vs, v => ∃ a items n, v = .ref a ∧ z a = some { cls := .type "list", data := .seq items n } ∧ items.size ≤ sizeLine ∧ VRels z vs items.toList
  | .tup vs, v => ∃ a items n, v = .ref a ∧ z a = some { cls := .type "tuple", data := .seq items n } ∧ items.size ≤ sizeLine ∧ VRels z vs items.toList
noncomputable def VRels (z : Zh) : List V → List Value → Prop
  | [], l => l = []
  | v :: vs, l => ∃ x r, l = x :: r ∧ VRel z v x ∧ VRels z vs r
end
noncomputable def ZLe (z z' : Zh) : Prop := ∀ a o, z a = some o → z' a = some o
theorem ZLe.refl (z : Zh) : ZLe z z := fun _ _ h => h
theorem ZLe.trans {a b c : Zh} (x : ZLe a b) (y : ZLe b c) : ZLe a c := fun r o h => y r o (x r o h)

mutual
theorem VRel.mono {z z' : Zh} (hz : ZLe z z') : ∀ {v : V} {x : Value}, VRel z v x → VRel z' v x
  | .none, _, h => by simpa [VRel] using h
  | .bool _, _, h => by simpa [VRel] using h
  | .int _, _, h => by simpa [VRel] using h
  | .str _, _, h => by simpa [VRel] using h
  | .typ _, _, h => by simpa [VRel] using h
  | .ref _, _, h => by simpa [VRel] using h
  | .rng _ _ _, _, h => by
    simp only [VRel] at h ⊢
    obtain ⟨r, t, u, w, e, hb, hr⟩ := h
    exact ⟨r, t, u, w, e, hb, hz _ _ hr⟩
  | .list vs, _, h => by
    simp only [VRel] at h ⊢
    obtain ⟨a, items, n, e, ha, hs, hv⟩ := h
    exact ⟨a, items, n, e, hz _ _ ha, hs, VRels.mono hz hv⟩
  | .tup vs, _, h => by
    simp only [VRel] at h ⊢
    obtain ⟨a, items, n, e, ha, hs, hv⟩ := h
    exact ⟨a, items, n, e, hz _ _ ha, hs, VRels.mono hz hv⟩
theorem VRels.mono {z z' : Zh} (hz : ZLe z z') : ∀ {vs : List V} {xs : List Value}, VRels z vs xs → VRels z' vs xs
  | [], _, h => by simpa [VRels] using h
  | v :: vs, _, h => by
    simp only [VRels] at h ⊢
    obtain ⟨x, r, e, h1, h2⟩ := h
    exact ⟨x, r, e, VRel.mono hz h1, VRels.mono hz h2⟩
end
theorem VRels.nil {z : Zh} : VRels z [] [] := by simp [VRels]
theorem VRels.cons {z : Zh} {v : V} {vs : List V} {x : Value} {xs : List Value} (h : VRel z v x) (hs : VRels z vs xs) : VRels z (v :: vs) (x :: xs) := by
  simp only [VRels]; exact ⟨x, xs, rfl, h, hs⟩
theorem VRels.length {z : Zh} : ∀ {vs : List V} {xs : List Value}, VRels z vs xs → xs.length = vs.length
  | [], _, h => by simp only [VRels] at h; simp [h]
  | v :: vs, _, h => by
    simp only [VRels] at h
    obtain ⟨x, r, rfl, _, h2⟩ := h
    simp [VRels.length h2]
theorem VRels.get {z : Zh} : ∀ {vs : List V} {xs : List Value}, VRels z vs xs → ∀ {i : Nat} {v : V}, vs[i]? = some v → ∃ x, xs[i]? = some x ∧ VRel z v x
  | [], _, _, _, _, e => by simp at e
  | v :: vs, _, h, i, w, e => by
    simp only [VRels] at h
    obtain ⟨x, r, rfl, h1, h2⟩ := h
    cases i with
    | zero => simp at e; subst e; exact ⟨x, by simp, h1⟩
    | succ i => simp at e; obtain ⟨y, hy, hv⟩ := VRels.get h2 e; exact ⟨y, by simpa using hy, hv⟩
theorem VRels.get' {z : Zh} {vs : List V} {xs : List Value} (h : VRels z vs xs) {i : Nat} {x : Value} (e : xs[i]? = some x) : ∃ v, vs[i]? = some v ∧ VRel z v x := by
  have hi : i < vs.length := by
    have := h.length
    have := (List.getElem?_eq_some_iff.mp e).1
    omega
  obtain ⟨y, hy, hv⟩ := h.get (i := i) (v := vs[i]) (by simp [hi])
  rw [e] at hy; cases hy
  exact ⟨vs[i], by simp [hi], hv⟩
theorem VRels.append {z : Zh} : ∀ {vs ws : List V} {xs ys : List Value}, VRels z vs xs → VRels z ws ys → VRels z (vs ++ ws) (xs ++ ys)
  | [], _, _, _, h, h' => by simp only [VRels] at h; subst h; simpa using h'
  | v :: vs, _, _, _, h, h' => by
    simp only [VRels] at h
    obtain ⟨x, r, rfl, h1, h2⟩ := h
    exact VRels.cons h1 (VRels.append h2 h')
theorem VRels.take {z : Zh} : ∀ {vs : List V} {xs : List Value}, VRels z vs xs → ∀ n, VRels z (vs.take n) (xs.take n)
  | [], _, h, n => by simp only [VRels] at h; subst h; simp [VRels]
  | v :: vs, _, h, n => by
    simp only [VRels] at h
    obtain ⟨x, r, rfl, h1, h2⟩ := h
    cases n with
    | zero => simp [VRels]
    | succ n => simpa using VRels.cons h1 (VRels.take h2 n)
theorem VRels.drop {z : Zh} : ∀ {vs : List V} {xs : List Value}, VRels z vs xs → ∀ n, VRels z (vs.drop n) (xs.drop n)
  | [], _, h, n => by simp only [VRels] at h; subst h; simp [VRels]
  | v :: vs, _, h, n => by
    have h0 := h
    simp only [VRels] at h
    obtain ⟨x, r, rfl, h1, h2⟩ := h
    cases n with
    | zero => simpa using h0
    | succ n => simpa using VRels.drop h2 n
theorem VRels.set {z : Zh} : ∀ {vs : List V} {xs : List Value}, VRels z vs xs → ∀ {v : V} {x : Value} (j : Nat), VRel z v x → VRels z (vs.set j v) (xs.set j x)
  | [], _, h, _, _, j, _ => by simp only [VRels] at h; subst h; simp [VRels]
  | v :: vs, _, h, w, y, j, hw => by
    simp only [VRels] at h
    obtain ⟨x, r, rfl, h1, h2⟩ := h
    cases j with
    | zero => simpa using VRels.cons hw h2
    | succ j => simpa using VRels.cons h1 (VRels.set h2 j hw)
theorem VRels.of_get {z : Zh} : ∀ {vs : List V} {xs : List Value}, vs.length = xs.length → (∀ (i : Nat) v x, vs[i]? = some v → xs[i]? = some x → VRel z v x) → VRels z vs xs
  | [], [], _, _ => VRels.nil
  | [], _ :: _, h, _ => by simp at h
  | _ :: _, [], h, _ => by simp at h
  | v :: vs, x :: xs, h, hv => VRels.cons (hv 0 v x (by simp) (by simp)) (VRels.of_get (by simpa using h) fun i w y e e' => hv (i + 1) w y (by simpa using e) (by simpa using e'))

/-! the heap's objects that may turn -/
noncomputable def ObjOk (z : Zh) (o : O) (ob : Obj) : Prop := match o with
  | .list vs => ∃ items n, ob = { cls := .type "list", data := .seq items n } ∧ items.size ≤ sizeLine ∧ VRels z vs items.toList
  | .dict n es => ∃ ents ep, ob.cls = .type "dict" ∧ ob.data = .dict ents ep ∧ IntKeys ents ∧ ents.size ≤ n ∧
      (∀ k v, es.lookup k = some v → ∃ x, findBy Value.isInt ents k = some x ∧ VRel z v x) ∧ (∀ k, es.lookup k = none → findBy Value.isInt ents k = none)
theorem ObjOk.mono {z z' : Zh} (hz : ZLe z z') {o : O} {ob : Obj} (h : ObjOk z o ob) : ObjOk z' o ob := by
  cases o with
  | list vs => obtain ⟨i, n, a, b, c⟩ := h; exact ⟨i, n, a, b, c.mono hz⟩
  | dict m es => obtain ⟨i, n, a, b, c, d, e, f⟩ := h; exact ⟨i, n, a, b, c, d, fun k v hk => (e k v hk).imp fun x hx => ⟨hx.1, hx.2.mono hz⟩, f⟩

structure HRep (z : Zh) (h : Hp) (s : Shared) : Prop where
  zsub : ∀ a o, z a = some o → s.heap.get? a = some o
  obj : ∀ a o, h a = some o → ∃ ob, s.heap.get? a = some ob ∧ ObjOk z o ob
  disj : ∀ a o, h a = some o → z a = none

noncomputable def OwnA (env : Env) (a : Addr) : Prop := a = env.locals ∨ ∃ x, (x, a) ∈ env.cells

structure FRep (env : Env) (z : Zh) (σ : St) (s : Shared) : Prop where
  loc : ∃ m, s.heap.Ns env.locals m ∧ ∀ x v, σ.vars x = some v → env.kindOf x = some .local → ∃ val, m x = some val ∧ VRel z v val
  kind : ∀ x v, σ.vars x = some v → env.kindOf x = some .local ∨ env.kindOf x = some .cell ∨ env.kindOf x = some .free
  cell : ∀ x v, σ.vars x = some v → env.kindOf x ≠ some .local → ∃ c val, env.cells.lookup x = some c ∧ s.heap.IsCell c (some val) ∧ VRel z v val
  cells : ∀ x c, (x, c) ∈ env.cells → ∃ v, s.heap.IsCell c v
  ownz : ∀ a, OwnA env a → z a = none
  ownh : ∀ a, OwnA env a → σ.heap a = none

structure Ext (s : Shared) (h : Hp) (z : Zh) (s' : Shared) (h' : Hp) (z' : Zh) : Prop where
  same : ∃ hh tk, s' = { s with heap := hh, toks := tk }
  zle : ZLe z z'
  pres : ∀ b o, s.heap.get? b = some o → h b = none → s'.heap.get? b = some o
  newz : ∀ a o, z' a = some o → z a = some o ∨ s.heap.get? a = none ∨ ∃ o', h a = some o'
  newh : ∀ a o, h' a = some o → s.heap.get? a = none ∨ ∃ o', h a = some o'

theorem Ext.refl (s : Shared) (h : Hp) (z : Zh) : Ext s h z s h z :=
  ⟨⟨s.heap, s.toks, rfl⟩, ZLe.refl z, fun _ _ e _ => e, fun _ _ e => .inl e, fun _ o e => .inr ⟨o, e⟩⟩
theorem Ext.none_back {s s' : Shared} {h h' : Hp} {z z' : Zh} (x : Ext s h z s' h' z') {b : Addr} {o : Obj} (e : s.heap.get? b = some o) (hb : h b = none) : h' b = none := by
  cases q : h' b with
  | none => rfl
  | some o' =>
    rcases x.newh b o' q with q1 | ⟨o'', q1⟩
    · rw [e] at q1; cases q1
    · rw [hb] at q1; cases q1
theorem Ext.z_back {s s' : Shared} {h h' : Hp} {z z' : Zh} (x : Ext s h z s' h' z') {b : Addr} {o : Obj} (e : s.heap.get? b = some o) (hb : h b = none) (hz : z b = none) : z' b = none := by
  cases q : z' b with
  | none => rfl
  | some o' =>
    rcases x.newz b o' q with q1 | q1 | ⟨o'', q1⟩
    · rw [hz] at q1; cases q1
    · rw [e] at q1; cases q1
    · rw [hb] at q1; cases q1
theorem Ext.trans {s s₁ s₂ : Shared} {h h₁ h₂ : Hp} {z z₁ z₂ : Zh} (x : Ext s h z s₁ h₁ z₁) (y : Ext s₁ h₁ z₁ s₂ h₂ z₂) : Ext s h z s₂ h₂ z₂ where
  same := by
    obtain ⟨a, b, rfl⟩ := x.same
    obtain ⟨c, d, rfl⟩ := y.same
    exact ⟨c, d, rfl⟩
  zle := x.zle.trans y.zle
  pres := fun b o e hb => y.pres b o (x.pres b o e hb) (x.none_back e hb)
  newz := fun a o e => by
    rcases y.newz a o e with q | q | ⟨o', q⟩
    · exact x.newz a o q
    · cases q2 : h a with
      | some o' => exact .inr (.inr ⟨o', rfl⟩)
      | none =>
        refine .inr (.inl ?_)
        cases q3 : s.heap.get? a with
        | none => rfl
        | some o3 => rw [x.pres a o3 q3 q2] at q; cases q
    · rcases x.newh a o' q with q1 | q1
      · exact .inr (.inl q1)
      · exact .inr (.inr q1)
  newh := fun a o e => by
    rcases y.newh a o e with q | ⟨o', q⟩
    · cases q2 : h a with
      | some o' => exact .inr ⟨o', rfl⟩
      | none =>
        refine .inl ?_
        cases q3 : s.heap.get? a with
        | none => rfl
        | some o3 => rw [x.pres a o3 q3 q2] at q; cases q
    · exact x.newh a o' q

/-- the frame stands where nothing of its own has turned -/
theorem FRep.ext {env : Env} {z z' : Zh} {σ : St} {s s' : Shared} {h' : Hp} (F : FRep env z σ s) (x : Ext s σ.heap z s' h' z') : FRep env z' (σ.hp h') s' where
  loc := by
    obtain ⟨m, hn, hv⟩ := F.loc
    refine ⟨m, ?_, fun y v e k => (hv y v e k).imp fun val q => ⟨q.1, q.2.mono x.zle⟩⟩
    obtain ⟨o, es, ep, ho, r⟩ := hn
    exact ⟨o, es, ep, x.pres _ _ ho (F.ownh _ (.inl rfl)), r⟩
  kind := F.kind
  cell := fun y v e k => by
    obtain ⟨c, val, hc, ⟨o, ho, hd⟩, hv⟩ := F.cell y v e k
    exact ⟨c, val, hc, ⟨o, x.pres _ _ ho (F.ownh _ (.inr ⟨y, mem_of_lookup hc⟩)), hd⟩, hv.mono x.zle⟩
  cells := fun y c e => by
    obtain ⟨v, o, ho, hd⟩ := F.cells y c e
    exact ⟨v, o, x.pres _ _ ho (F.ownh _ (.inr ⟨y, e⟩)), hd⟩
  ownz := fun a ha => by
    have he : ∃ o, s.heap.get? a = some o := by
      rcases ha with rfl | ⟨y, hy⟩
      · obtain ⟨m, ⟨o, _, _, ho, _⟩, _⟩ := F.loc; exact ⟨o, ho⟩
      · obtain ⟨v, o, ho, _⟩ := F.cells y a hy; exact ⟨o, ho⟩
    obtain ⟨o, ho⟩ := he
    exact x.z_back ho (F.ownh a ha) (F.ownz a ha)
  ownh := fun a ha => by
    have he : ∃ o, s.heap.get? a = some o := by
      rcases ha with rfl | ⟨y, hy⟩
      · obtain ⟨m, ⟨o, _, _, ho, _⟩, _⟩ := F.loc; exact ⟨o, ho⟩
      · obtain ⟨v, o, ho, _⟩ := F.cells y a hy; exact ⟨o, ho⟩
    obtain ⟨o, ho⟩ := he
    exact x.none_back ho (F.ownh a ha)

/-- nothing of the elder heap has turned; new frozen objects -/
theorem HRep.grow {z z' : Zh} {h : Hp} {s s' : Shared} (R : HRep z h s) (hs : ∃ hh tk, s' = { s with heap := hh, toks := tk }) (hk : ∀ b o, s.heap.get? b = some o → s'.heap.get? b = some o)
    (hz : ZLe z z') (hn : ∀ a o, z' a = some o → z a = some o ∨ (s.heap.get? a = none ∧ s'.heap.get? a = some o)) : HRep z' h s' ∧ Ext s h z s' h z' := by
  refine ⟨⟨fun a o e => ?_, fun a o e => ?_, fun a o e => ?_⟩, ⟨hs, hz, fun b o e _ => hk b o e, fun a o e => ?_, fun a o e => .inr ⟨o, e⟩⟩⟩
  · rcases hn a o e with q | q
    · exact hk _ _ (R.zsub a o q)
    · exact q.2
  · obtain ⟨ob, h1, h2⟩ := R.obj a o e
    exact ⟨ob, hk _ _ h1, h2.mono hz⟩
  · cases q : z' a with
    | none => rfl
    | some o' =>
      obtain ⟨ob, h1, _⟩ := R.obj a o e
      rcases hn a o' q with q1 | q1
      · rw [R.disj a o e] at q1; cases q1
      · rw [h1] at q1; cases q1.1
  · rcases hn a o e with q | q
    · exact .inl q
    · exact .inr (.inl q.1)
theorem HRep.toks {z : Zh} {h : Hp} {s : Shared} (R : HRep z h s) (tk : Nat) : HRep z h { s with toks := tk } ∧ Ext s h z { s with toks := tk } h z :=
  R.grow ⟨_, _, rfl⟩ (fun _ _ e => e) (ZLe.refl z) fun _ _ e => .inl e

noncomputable def Zh.set (z : Zh) (a : Addr) (o : Obj) : Zh := fun b => if b = a then some o else z b

/-- a new frozen object -/
theorem HRep.freshZ {z : Zh} {h : Hp} {s : Shared} (R : HRep z h s) (o : Obj) (tk : Nat) (hf : o.isFreed = false := by rfl) :
    HRep (z.set s.heap.objs.size o) h { s with heap := s.heap.push o, toks := tk } ∧ Ext s h z { s with heap := s.heap.push o, toks := tk } h (z.set s.heap.objs.size o) := by
  have hnone : s.heap.get? s.heap.objs.size = none := by
    cases q : s.heap.get? s.heap.objs.size with
    | none => rfl
    | some o' => exact absurd (Heap.lt_size q) (Nat.lt_irrefl _)
  refine R.grow ⟨_, _, rfl⟩ (fun b o' e => Heap.get?_push_of_some _ e) (fun a o' e => ?_) fun a o' e => ?_
  · unfold Zh.set
    by_cases q : a = s.heap.objs.size
    · subst q; rw [R.zsub _ _ e] at hnone; cases hnone
    · rw [if_neg q]; exact e
  · unfold Zh.set at e
    by_cases q : a = s.heap.objs.size
    · subst q; rw [if_pos rfl] at e; cases e
      exact .inr ⟨hnone, Heap.get?_push_size _ hf⟩
    · rw [if_neg q] at e; exact .inl e
theorem Zh.set_self (z : Zh) (a : Addr) (o : Obj) : z.set a o a = some o := by simp [Zh.set]

/-- a new object that may turn -/
theorem HRep.freshH {z : Zh} {h : Hp} {s : Shared} (R : HRep z h s) {s' : Shared} {r : Addr} {o : O} {ob : Obj} (hs : ∃ hh tk, s' = { s with heap := hh, toks := tk }) (hk : ∀ b o, s.heap.get? b = some o → s'.heap.get? b = some o)
    (hr : s.heap.get? r = none) (ho : s'.heap.get? r = some ob) (hob : ObjOk z o ob) : h r = none ∧ HRep z (h.set r o) s' ∧ Ext s h z s' (h.set r o) z := by
  have hn : h r = none := by
    cases q : h r with
    | none => rfl
    | some o' => obtain ⟨ob', h1, _⟩ := R.obj r o' q; rw [hr] at h1; cases h1
  have hzr : z r = none := by
    cases q : z r with
    | none => rfl
    | some o' => rw [R.zsub r o' q] at hr; cases hr
  refine ⟨hn, ⟨fun a o' e => hk _ _ (R.zsub a o' e), fun a o' e => ?_, fun a o' e => ?_⟩, ⟨hs, ZLe.refl z, fun b o' e _ => hk b o' e, fun a o' e => .inl e, fun a o' e => ?_⟩⟩
  · unfold Hp.set at e
    by_cases q : a = r
    · subst q; rw [if_pos rfl] at e; cases e; exact ⟨ob, ho, hob⟩
    · rw [if_neg q] at e
      obtain ⟨ob', h1, h2⟩ := R.obj a o' e
      exact ⟨ob', hk _ _ h1, h2⟩
  · unfold Hp.set at e
    by_cases q : a = r
    · subst q; exact hzr
    · rw [if_neg q] at e; exact R.disj a o' e
  · unfold Hp.set at e
    by_cases q : a = r
    · subst q; exact .inl hr
    · rw [if_neg q] at e; exact .inr ⟨o', e⟩

/-- an object turns -/
theorem HRep.turn {z : Zh} {h : Hp} {s : Shared} (R : HRep z h s) {s' : Shared} {r : Addr} {o₀ o : O} {ob : Obj} (hs : ∃ hh tk, s' = { s with heap := hh, toks := tk }) (h0 : h r = some o₀)
    (hk : ∀ b o, b ≠ r → s.heap.get? b = some o → s'.heap.get? b = some o) (ho : s'.heap.get? r = some ob) (hob : ObjOk z o ob) : HRep z (h.set r o) s' ∧ Ext s h z s' (h.set r o) z := by
  have hzr := R.disj r o₀ h0
  refine ⟨⟨fun a o' e => hk _ _ (by rintro rfl; rw [hzr] at e; cases e) (R.zsub a o' e), fun a o' e => ?_, fun a o' e => ?_⟩,
    ⟨hs, ZLe.refl z, fun b o' e hb => hk b o' (by rintro rfl; rw [h0] at hb; cases hb) e, fun a o' e => .inl e, fun a o' e => ?_⟩⟩
  · unfold Hp.set at e
    by_cases q : a = r
    · subst q; rw [if_pos rfl] at e; cases e; exact ⟨ob, ho, hob⟩
    · rw [if_neg q] at e
      obtain ⟨ob', h1, h2⟩ := R.obj a o' e
      exact ⟨ob', hk _ _ q h1, h2⟩
  · unfold Hp.set at e
    by_cases q : a = r
    · subst q; exact hzr
    · rw [if_neg q] at e; exact R.disj a o' e
  · unfold Hp.set at e
    by_cases q : a = r
    · subst q; exact .inr ⟨o₀, h0⟩
    · rw [if_neg q] at e; exact .inr ⟨o', e⟩

/-- an object that is neither frozen nor followed turns -/
theorem HRep.other {z : Zh} {h : Hp} {s : Shared} (R : HRep z h s) {X : Addr} {hh : Heap} {tk : Nat} (hk : ∀ b o, b ≠ X → s.heap.get? b = some o → hh.get? b = some o) (hz : z X = none) (hX : h X = none) :
    HRep z h { s with heap := hh, toks := tk } where
  zsub := fun a o e => hk a o (by rintro rfl; rw [hz] at e; cases e) (R.zsub a o e)
  obj := fun a o e => by
    obtain ⟨ob, h1, h2⟩ := R.obj a o e
    exact ⟨ob, hk a ob (by rintro rfl; rw [hX] at e; cases e) h1, h2⟩
  disj := R.disj
theorem Ext.other {s₁ s : Shared} {h₁ h : Hp} {z₁ z : Zh} (x : Ext s₁ h₁ z₁ s h z) {X : Addr} {hh : Heap} {tk : Nat} (hk : ∀ b o, b ≠ X → s.heap.get? b = some o → hh.get? b = some o) (hX : s₁.heap.get? X = none) :
    Ext s₁ h₁ z₁ { s with heap := hh, toks := tk } h z where
  same := by obtain ⟨a, b, rfl⟩ := x.same; exact ⟨hh, tk, rfl⟩
  zle := x.zle
  pres := fun b o e hb => hk b o (by rintro rfl; rw [hX] at e; cases e) (x.pres b o e hb)
  newz := x.newz
  newh := x.newh
/-- an object of the call's own is taken up, frozen -/
theorem HRep.adoptZ {z : Zh} {h : Hp} {s : Shared} (R : HRep z h s) {D : Addr} {o : Obj} (ho : s.heap.get? D = some o) (hD : h D = none) : HRep (z.set D o) h s where
  zsub := fun a o' e => by
    unfold Zh.set at e
    by_cases q : a = D
    · subst q; rw [if_pos rfl] at e; cases e; exact ho
    · rw [if_neg q] at e; exact R.zsub a o' e
  obj := fun a o' e => by
    obtain ⟨ob, h1, h2⟩ := R.obj a o' e
    refine ⟨ob, h1, h2.mono fun b o2 e2 => ?_⟩
    unfold Zh.set
    by_cases q : b = D
    · subst q; rw [if_pos rfl, ← ho, R.zsub _ _ e2]
    · rw [if_neg q]; exact e2
  disj := fun a o' e => by
    unfold Zh.set
    by_cases q : a = D
    · subst q; rw [hD] at e; cases e
    · rw [if_neg q]; exact R.disj a o' e
theorem Ext.adoptZ {s₁ s : Shared} {h₁ h : Hp} {z₁ z : Zh} (x : Ext s₁ h₁ z₁ s h z) {D : Addr} {o : Obj} (hD : s₁.heap.get? D = none) (hz : z D = none) : Ext s₁ h₁ z₁ s h (z.set D o) where
  same := x.same
  zle := x.zle.trans fun a o' e => by
    unfold Zh.set
    by_cases q : a = D
    · subst q; rw [hz] at e; cases e
    · rw [if_neg q]; exact e
  pres := x.pres
  newz := fun a o' e => by
    unfold Zh.set at e
    by_cases q : a = D
    · subst q; exact .inr (.inl hD)
    · rw [if_neg q] at e; exact x.newz a o' e
  newh := x.newh
/-- .. that may turn -/
theorem HRep.adoptH {z : Zh} {h : Hp} {s : Shared} (R : HRep z h s) {D : Addr} {o : O} {ob : Obj} (ho : s.heap.get? D = some ob) (hob : ObjOk z o ob) (hz : z D = none) : HRep z (h.set D o) s where
  zsub := R.zsub
  obj := fun a o' e => by
    unfold Hp.set at e
    by_cases q : a = D
    · subst q; rw [if_pos rfl] at e; cases e; exact ⟨ob, ho, hob⟩
    · rw [if_neg q] at e; exact R.obj a o' e
  disj := fun a o' e => by
    unfold Hp.set at e
    by_cases q : a = D
    · subst q; exact hz
    · rw [if_neg q] at e; exact R.disj a o' e
theorem Ext.adoptH {s₁ s : Shared} {h₁ h : Hp} {z₁ z : Zh} (x : Ext s₁ h₁ z₁ s h z) {D : Addr} {o : O} (hD : s₁.heap.get? D = none) : Ext s₁ h₁ z₁ s (h.set D o) z where
  same := x.same
  zle := x.zle
  pres := x.pres
  newz := x.newz
  newh := fun a o' e => by
    unfold Hp.set at e
    by_cases q : a = D
    · subst q; exact .inl hD
    · rw [if_neg q] at e; exact x.newh a o' e

end Mine

namespace Mine
open PySem

noncomputable def OutH (z : Zh) (h : Hp) (s : Shared) (Q : V → Hp → Prop) (val : Value) (s' : Shared) : Prop :=
  ∃ v h' z', Q v h' ∧ VRel z' v val ∧ HRep z' h' s' ∧ Ext s h z s' h' z'

theorem lst_at {z : Zh} {h : Hp} {s : Shared} {v : V} {x : Value} {vs : List V} (R : HRep z h s) (hv : VRel z v x) (e : lst? h v = some vs) :
    ∃ a items n, x = .ref a ∧ IsL s.heap a items n ∧ items.size ≤ sizeLine ∧ VRels z vs items.toList := by
  cases v with
  | list ws =>
    simp only [lst?, Option.some.injEq] at e; subst e
    simp only [VRel] at hv
    obtain ⟨a, items, n, rfl, ha, hs, hr⟩ := hv
    exact ⟨a, items, n, rfl, R.zsub _ _ ha, hs, hr⟩
  | ref a =>
    simp only [VRel] at hv; subst hv
    simp only [lst?] at e
    split at e
    · rename_i ws q
      cases e
      obtain ⟨ob, h1, items, n, rfl, h3, h4⟩ := R.obj a _ q
      exact ⟨a, items, n, rfl, h1, h3, h4⟩
    · cases e
  | _ => simp [lst?] at e

theorem seq_at {z : Zh} {h : Hp} {s : Shared} {v : V} {x : Value} {vs : List V} (R : HRep z h s) (hv : VRel z v x) (e : seq? h v = some vs) :
    ∃ a items n, x = .ref a ∧ (IsL s.heap a items n ∨ IsT s.heap a items n) ∧ items.size ≤ sizeLine ∧ VRels z vs items.toList := by
  cases v with
  | tup ws =>
    simp only [seq?, Option.some.injEq] at e; subst e
    simp only [VRel] at hv
    obtain ⟨a, items, n, rfl, ha, hs, hr⟩ := hv
    exact ⟨a, items, n, rfl, .inr (R.zsub _ _ ha), hs, hr⟩
  | _ =>
    simp only [seq?] at e
    obtain ⟨a, items, n, e1, e2, e3, e4⟩ := lst_at R hv e
    exact ⟨a, items, n, e1, .inl e2, e3, e4⟩

theorem out_tok {z : Zh} {h : Hp} {s : Shared} {Q : V → Hp → Prop} {v : V} {val : Value} (R : HRep z h s) (hq : Q v h) (hv : VRel z v val) (tk : Nat) : OutH z h s Q val { s with toks := tk } :=
  ⟨v, h, z, hq, hv, (R.toks tk).1, (R.toks tk).2⟩
theorem out_same {z : Zh} {h : Hp} {s : Shared} {Q : V → Hp → Prop} {v : V} {val : Value} (R : HRep z h s) (hq : Q v h) (hv : VRel z v val) : OutH z h s Q val s :=
  ⟨v, h, z, hq, hv, R, Ext.refl s h z⟩
theorem vint {z : Zh} (i : Int) (t : Tok) : VRel z (.int i) (.int i t) := by simp [VRel]
theorem vbool {z : Zh} (b : Bool) : VRel z (.bool b) (.bool b) := by simp [VRel]
theorem vstr {z : Zh} {x : Str} {t : Tok} (ho : PyData.strOk x = true) (h : x.length ≤ sizeLine) : VRel z (.str x) (.str x t) := by simp [VRel, h, ho]
theorem strOk_append {x y : Str} (hx : PyData.strOk x = true) (hy : PyData.strOk y = true) : PyData.strOk (x ++ y) = true := by
  unfold PyData.strOk at *
  show (x.cps ++ y.cps).all _ = true
  rw [Array.all_append, hx, hy]; rfl
theorem strOk_mem {x : Str} : PyData.strOk x = true ↔ ∀ c ∈ x.cps.toList, c < 0x110000 := by
  unfold PyData.strOk
  rw [← Array.all_toList, List.all_eq_true]
  exact ⟨fun h c hc => of_decide_eq_true (h c hc), fun h c hc => decide_eq_true (h c hc)⟩

theorem lenOk_size {n : Nat} (h : lenOk n) : n ≤ sizeLine := by unfold lenOk at h; rw [sizeLine_eq]; omega

/-- a new list object, frozen or not -/
theorem out_mk {z : Zh} {h : Hp} {s : Shared} {Q : V → Hp → Prop} {m : Bool} {vs : List V} {items : Array Value} (R : HRep z h s) (hm : mk m vs h Q) (hr : VRels z vs items.toList) (tk : Nat) :
    OutH z h s Q (.ref s.heap.objs.size) { s with heap := s.heap.push { cls := .type "list", data := .seq items }, toks := tk } := by
  have hsz : items.size ≤ sizeLine := by
    have := lenOk_size hm.1
    have e := hr.length
    rw [Array.length_toList] at e; omega
  obtain ⟨_, hm⟩ := hm
  cases m with
  | false =>
    simp only [Bool.false_eq_true, if_false] at hm
    obtain ⟨R', X⟩ := R.freshZ { cls := .type "list", data := .seq items } tk
    refine ⟨.list vs, h, _, hm, ?_, R', X⟩
    simp only [VRel]
    exact ⟨_, items, 0, rfl, Zh.set_self _ _ _, hsz, hr.mono X.zle⟩
  | true =>
    simp only [if_true] at hm
    have hnone : s.heap.get? s.heap.objs.size = none := by
      cases q : s.heap.get? s.heap.objs.size with
      | none => rfl
      | some o' => exact absurd (Heap.lt_size q) (Nat.lt_irrefl _)
    obtain ⟨h0, R', X⟩ := R.freshH (s' := { s with heap := s.heap.push { cls := .type "list", data := .seq items }, toks := tk }) (r := s.heap.objs.size) (o := .list vs) (ob := { cls := .type "list", data := .seq items })
      ⟨_, _, rfl⟩ (fun b o e => Heap.get?_push_of_some _ e) hnone (Heap.get?_push_size _ rfl) ⟨items, 0, rfl, hsz, hr⟩
    exact ⟨.ref s.heap.objs.size, _, z, hm _ h0, by simp [VRel], R', X⟩

section
variable {prog : Program} {w : World} {A : Around} {E : Value → Shared → Prop} {s : Shared} {z : Zh} {h : Hp}

theorem foldl_append_toList (l : List (Array Value)) (acc : Array Value) : (l.foldl (fun x1 x2 => x1 ++ x2) acc).toList = acc.toList ++ (l.map Array.toList).flatten := by
  induction l generalizing acc with
  | nil => simp
  | cons a r ih => simp [ih]

theorem foldl_append_toListN (l : List (Array Nat)) (acc : Array Nat) : (l.foldl (fun x1 x2 => x1 ++ x2) acc).toList = acc.toList ++ (l.map Array.toList).flatten := by
  induction l generalizing acc with
  | nil => simp
  | cons a r ih => simp [ih]
theorem intBits_le {x : Int} {k : Nat} (h : x.natAbs < 2 ^ k) : Builtin.Int.intBits x ≤ k := by
  unfold Builtin.Int.intBits
  split
  · omega
  · rename_i h0
    have : x.natAbs ≠ 0 := by simpa using h0
    have := (Nat.log2_lt this).mpr h
    omega

theorem VRels.replicate {z : Zh} {vs : List V} {xs : List Value} (h : VRels z vs xs) : ∀ n : Nat, VRels z (List.replicate n vs).flatten (List.replicate n xs).flatten
  | 0 => by simpa using VRels.nil
  | n + 1 => by simpa [List.replicate_succ] using h.append (VRels.replicate h n)

theorem s_bin {m : Bool} {op : Operator} {a b : V} {x y : Value} {Q : V → Hp → Prop} (R : HRep z h s) (ha : VRel z a x) (hb : VRel z b y) (H : wBin m op a b h Q) :
    wpAny (model prog w) A (binaryOp op x y) (OutH z h s Q) E s := by
  have lists : ∀ {xs ys : List V}, lst? h a = some xs → lst? h b = some ys → mk m (xs ++ ys) h Q → wpAny (model prog w) A (binaryOp .Add x y) (OutH z h s Q) E s := by
    intro xs ys e1 e2 hm
    obtain ⟨l1, i1, n1, rfl, q1, s1, r1⟩ := lst_at R ha e1
    obtain ⟨l2, i2, n2, rfl, q2, s2, r2⟩ := lst_at R hb e2
    have hsz : i1.size + i2.size ≤ sizeLine := by
      have := lenOk_size hm.1
      have e1 := r1.length
      have e2 := r2.length
      rw [Array.length_toList] at e1 e2
      rw [List.length_append] at this; omega
    refine P.add_list q1 q2 ?_ hsz
    exact out_mk R hm (by rw [Array.toList_append]; exact r1.append r2) s.toks
  have muls : ∀ {xs : List V} {n : Int}, lst? h a = some xs → b = .int n → (n.natAbs ≤ 1000 ∧ xs.length ≤ 1000) → mk m (List.replicate n.toNat xs).flatten h Q → wpAny (model prog w) A (binaryOp .Mult x y) (OutH z h s Q) E s := by
    intro xs n e1 e2 hn hm
    subst e2
    simp only [VRel] at hb
    obtain ⟨u, rfl⟩ := hb
    obtain ⟨l1, i1, n1, rfl, q1, s1, r1⟩ := lst_at R ha e1
    have e3 := r1.length
    rw [Array.length_toList] at e3
    have hsz : i1.size * n.toNat ≤ 2 ^ 24 := by
      have : i1.size * n.toNat ≤ 1000 * 1000 := Nat.mul_le_mul (by omega) (by omega)
      omega
    refine wpAny_binaryOp_repeat_ref (T := "list") (U := "int") (by decide) ⟨_, q1, rfl⟩ (fun s' => typeIs_int s' n u) noFill_list_mul F.fills_int_mul F.slot_int_rmul repeat_list F.slot_int_index.lookup
      (call_meets F.slot_int_rmul (typeIs_int s n u) F.entry_int_rmul (F.args_int_rmul_2 _ _) (int___rmul___int_list n u l1 i1 n1)
        ⟨q1, rfl, ⟨_, q1, rfl⟩, call_meets F.slot_list_mul ⟨_, q1, rfl⟩ F.entry_list_mul (F.args_list_mul_2 _ _)
          (AutoListH.list___mul___list_int_3 l1 i1 n1 n u (by simp [Builtin.List.listFitsIndex]; omega) (by omega) (by simp [Builtin.List.listTooLong, sizeLine]; omega))
          ⟨q1, ?_⟩⟩)
    refine out_mk R hm ?_ s.toks
    rw [foldl_append_toList]
    by_cases he : i1.isEmpty = true
    · rw [if_pos he]
      have h0 : xs = [] := by
        have : i1.size = 0 := by simpa using he
        exact List.length_eq_zero_iff.mp (by omega)
      subst h0
      simpa using VRels.nil
    · rw [if_neg he]
      simpa using r1.replicate n.toNat
  have addL : wLL m a b h Q → wpAny (model prog w) A (binaryOp .Add x y) (OutH z h s Q) E s := fun H => by
    unfold wLL at H
    cases e1 : lst? h a with
    | none => rw [e1] at H; exact H.elim
    | some xs =>
      cases e2 : lst? h b with
      | none => rw [e1, e2] at H; exact H.elim
      | some ys => rw [e1, e2] at H; exact lists e1 e2 H
  cases op with
  | Add =>
    cases a with
    | int i =>
      cases b with
      | int j =>
        simp only [VRel] at ha hb; obtain ⟨t, rfl⟩ := ha; obtain ⟨u, rfl⟩ := hb
        exact P.add_int (out_tok R H (vint _ _) _)
      | _ => exact H.elim
    | str i =>
      cases b with
      | str j =>
        simp only [VRel] at ha hb; obtain ⟨⟨o1, _⟩, t, rfl⟩ := ha; obtain ⟨⟨o2, _⟩, u, rfl⟩ := hb
        have hsz := lenOk_size H.1
        exact PyProof.Rows.add_str (fun t' tk => out_tok R H.2 (vstr (strOk_append o1 o2) (by rw [Str.length_append]; exact hsz)) _) hsz
      | _ => exact H.elim
    | _ => exact addL H
  | Sub =>
    obtain ⟨i, j, rfl, rfl, H⟩ := wII_at H
    simp only [VRel] at ha hb; obtain ⟨t, rfl⟩ := ha; obtain ⟨u, rfl⟩ := hb
    exact P.sub_int (out_tok R H (vint _ _) _)
  | Mod =>
    obtain ⟨i, j, rfl, rfl, H⟩ := wII_at H
    simp only [VRel] at ha hb; obtain ⟨t, rfl⟩ := ha; obtain ⟨u, rfl⟩ := hb
    exact PyProof.Rows.mod_int' H.1 (out_tok R H.2 (vint _ _) _)
  | FloorDiv =>
    obtain ⟨i, j, rfl, rfl, H⟩ := wII_at H
    simp only [VRel] at ha hb; obtain ⟨t, rfl⟩ := ha; obtain ⟨u, rfl⟩ := hb
    exact PyProof.Rows.floordiv_int H.1.1 (out_tok R H.2 (vint _ _) _) (.inl (PyProof.noPylong_small H.1.2))
  | Mult =>
    cases b with
    | int n =>
      have mulL : ofSome (lst? h a) (fun xs => (n.natAbs ≤ 1000 ∧ xs.length ≤ 1000) ∧ mk m (List.replicate n.toNat xs).flatten h Q) → wpAny (model prog w) A (binaryOp .Mult x y) (OutH z h s Q) E s := fun H => by
        cases e1 : lst? h a with
        | none => rw [e1] at H; exact H.elim
        | some xs => rw [e1] at H; exact muls e1 rfl H.1 H.2
      cases a with
      | int i =>
        simp only [VRel] at ha hb; obtain ⟨t, rfl⟩ := ha; obtain ⟨u, rfl⟩ := hb
        exact P.mul_int (out_tok R H.2 (vint _ _) _) (IntMulOk.of_left (intBits_le (k := 64) (by have := H.1.1; omega)))
      | _ => exact mulL H
    | _ => exact H.elim
  | _ => exact H.elim

end
end Mine

namespace Mine
open PySem

/-! data -/
mutual
noncomputable def V.py : V → PyData
  | .none => .none
  | .bool b => .bool b
  | .int i => .int i
  | .str s => .str s
  | .list vs => .list (V.pys vs)
  | .tup vs => .tuple (V.pys vs)
  | _ => .none
noncomputable def V.pys : List V → List PyData
  | [] => []
  | v :: r => V.py v :: V.pys r
end
mutual
theorem eqb_py : ∀ (n : Nat) (v w : V), v.plainN n = true → w.plainN n = true → V.eqb v w = PyData.eqv v.py w.py
  | n, .none, w, _, hw => by cases n <;> cases w <;> simp_all [V.plainN, V.eqb, V.py, PyData.eqv]
  | n, .bool _, w, _, hw => by cases n <;> cases w <;> simp_all [V.plainN, V.eqb, V.py, PyData.eqv]
  | n, .int _, w, _, hw => by cases n <;> cases w <;> simp_all [V.plainN, V.eqb, V.py, PyData.eqv]
  | n, .str _, w, _, hw => by cases n <;> cases w <;> simp_all [V.plainN, V.eqb, V.py, PyData.eqv]
  | 0, .list vs, w, hv, _ => by simp [V.plainN] at hv
  | n + 1, .list vs, w, hv, hw => by
    cases w with
    | list ws =>
      simp only [V.plainN] at hv hw
      simp only [V.eqb, V.py, PyData.eqv]
      exact eqbs_py n vs ws hv hw
    | _ => simp_all [V.plainN, V.eqb, V.py, PyData.eqv]
  | 0, .tup vs, w, hv, _ => by simp [V.plainN] at hv
  | n + 1, .tup vs, w, hv, hw => by
    cases w with
    | tup ws =>
      simp only [V.plainN] at hv hw
      simp only [V.eqb, V.py, PyData.eqv]
      exact eqbs_py n vs ws hv hw
    | _ => simp_all [V.plainN, V.eqb, V.py, PyData.eqv]
  | n, .typ _, _, hv, _ => by cases n <;> simp [V.plainN] at hv
  | n, .ref _, _, hv, _ => by cases n <;> simp [V.plainN] at hv
  | n, .rng _ _ _, _, hv, _ => by cases n <;> simp [V.plainN] at hv
theorem eqbs_py : ∀ (n : Nat) (vs ws : List V), vs.all (V.plainN n) = true → ws.all (V.plainN n) = true → V.eqbs vs ws = PyData.eqvAll (V.pys vs) (V.pys ws)
  | _, [], [], _, _ => by simp [V.eqbs, V.pys, PyData.eqvAll]
  | _, [], _ :: _, _, _ => by simp [V.eqbs, V.pys, PyData.eqvAll]
  | _, _ :: _, [], _, _ => by simp [V.eqbs, V.pys, PyData.eqvAll]
  | n, v :: vs, w :: ws, hv, hw => by
    simp only [List.all_cons, Bool.and_eq_true] at hv hw
    simp only [V.eqbs, V.pys, PyData.eqvAll, eqb_py n v w hv.1 hw.1, eqbs_py n vs ws hv.2 hw.2]
end
mutual
theorem depth_py : ∀ (n : Nat) (v : V), v.plainN n = true → v.py.depth ≤ n
  | n, .none, _ => by simp [V.py, PyData.depth]
  | n, .bool _, _ => by simp [V.py, PyData.depth]
  | n, .int _, _ => by simp [V.py, PyData.depth]
  | n, .str _, _ => by simp [V.py, PyData.depth]
  | 0, .list vs, hv => by simp [V.plainN] at hv
  | n + 1, .list vs, hv => by
    simp only [V.plainN] at hv
    have := depths_py n vs hv
    simp only [V.py, PyData.depth]; omega
  | 0, .tup vs, hv => by simp [V.plainN] at hv
  | n + 1, .tup vs, hv => by
    simp only [V.plainN] at hv
    have := depths_py n vs hv
    simp only [V.py, PyData.depth]; omega
  | n, .typ _, hv => by cases n <;> simp [V.plainN] at hv
  | n, .ref _, hv => by cases n <;> simp [V.plainN] at hv
  | n, .rng _ _ _, hv => by cases n <;> simp [V.plainN] at hv
theorem depths_py : ∀ (n : Nat) (vs : List V), vs.all (V.plainN n) = true → PyData.depthAll (V.pys vs) ≤ n
  | n, [], _ => by simp [V.pys, PyData.depthAll]
  | n, v :: vs, hv => by
    simp only [List.all_cons, Bool.and_eq_true] at hv
    have h1 := depth_py n v hv.1
    have h2 := depths_py n vs hv.2
    simp only [V.pys, PyData.depthAll]; omega
end
mutual
theorem reads_py {z : Zh} {hh : Heap} (hz : ∀ a o, z a = some o → hh.get? a = some o) : ∀ (n : Nat) (v : V) (x : Value), v.plainN n = true → VRel z v x → (∃ as, Reads hh x v.py as) ∧ v.py.canLay0 = true
  | n, .none, x, _, h => by simp only [VRel] at h; subst h; exact ⟨⟨_, .none⟩, rfl⟩
  | n, .bool b, x, _, h => by simp only [VRel] at h; subst h; exact ⟨⟨_, .bool b⟩, rfl⟩
  | n, .int i, x, _, h => by simp only [VRel] at h; obtain ⟨t, rfl⟩ := h; exact ⟨⟨_, .int i t⟩, rfl⟩
  | n, .str s, x, _, h => by simp only [VRel] at h; obtain ⟨⟨ho, _⟩, t, rfl⟩ := h; exact ⟨⟨_, .str s t⟩, ho⟩
  | 0, .list vs, x, hv, _ => by simp [V.plainN] at hv
  | n + 1, .list vs, x, hv, h => by
    simp only [V.plainN] at hv
    simp only [VRel] at h
    obtain ⟨a, items, k, rfl, ha, _, hr⟩ := h
    obtain ⟨⟨as, rs⟩, hc⟩ := readss_py hz n vs items.toList hv hr
    exact ⟨⟨_, .list (hz _ _ ha) rfl rfl rs⟩, hc⟩
  | 0, .tup vs, x, hv, _ => by simp [V.plainN] at hv
  | n + 1, .tup vs, x, hv, h => by
    simp only [V.plainN] at hv
    simp only [VRel] at h
    obtain ⟨a, items, k, rfl, ha, _, hr⟩ := h
    obtain ⟨⟨as, rs⟩, hc⟩ := readss_py hz n vs items.toList hv hr
    exact ⟨⟨_, .tuple (hz _ _ ha) rfl rfl rs⟩, hc⟩
  | n, .typ _, _, hv, _ => by cases n <;> simp [V.plainN] at hv
  | n, .ref _, _, hv, _ => by cases n <;> simp [V.plainN] at hv
  | n, .rng _ _ _, _, hv, _ => by cases n <;> simp [V.plainN] at hv
theorem readss_py {z : Zh} {hh : Heap} (hz : ∀ a o, z a = some o → hh.get? a = some o) : ∀ (n : Nat) (vs : List V) (xs : List Value), vs.all (V.plainN n) = true → VRels z vs xs → (∃ as, ReadsAll hh xs (V.pys vs) as) ∧ PyData.canLayAll0 (V.pys vs) = true
  | n, [], xs, _, h => by simp only [VRels] at h; subst h; exact ⟨⟨_, .nil⟩, rfl⟩
  | n, v :: vs, xs, hv, h => by
    simp only [List.all_cons, Bool.and_eq_true] at hv
    simp only [VRels] at h
    obtain ⟨x, r, rfl, h1, h2⟩ := h
    obtain ⟨⟨as, ra⟩, ca⟩ := reads_py hz n v x hv.1 h1
    obtain ⟨⟨bs, rb⟩, cb⟩ := readss_py hz n vs r hv.2 h2
    exact ⟨⟨_, .cons ra rb⟩, by simp [V.pys, PyData.canLayAll0, ca, cb]⟩
end
theorem plainN_mono : ∀ (n : Nat) (v : V), v.plainN n = true → v.plainN (n + 1) = true
  | n, .none, _ => by simp [V.plainN]
  | n, .bool _, _ => by simp [V.plainN]
  | n, .int _, _ => by simp [V.plainN]
  | n, .str _, _ => by simp [V.plainN]
  | 0, .list vs, hv => by simp [V.plainN] at hv
  | n + 1, .list vs, hv => by
    simp only [V.plainN, List.all_eq_true] at hv ⊢
    exact fun x hx => plainN_mono n x (hv x hx)
  | 0, .tup vs, hv => by simp [V.plainN] at hv
  | n + 1, .tup vs, hv => by
    simp only [V.plainN, List.all_eq_true] at hv ⊢
    exact fun x hx => plainN_mono n x (hv x hx)
  | n, .typ _, hv => by cases n <;> simp [V.plainN] at hv
  | n, .ref _, hv => by cases n <;> simp [V.plainN] at hv
  | n, .rng _ _ _, hv => by cases n <;> simp [V.plainN] at hv

/-- with the heap's lists read in their place (one level) -/
theorem reads_res1 {z : Zh} {h : Hp} {s : Shared} (R : HRep z h s) {n : Nat} {v : V} {x : Value} (hp : (res1 h v).plainN n = true) (hv : VRel z v x) : (∃ as, Reads s.heap x (res1 h v).py as) ∧ (res1 h v).py.canLay0 = true := by
  cases v with
  | ref a =>
    simp only [VRel] at hv; subst hv
    simp only [res1] at hp ⊢
    split at hp
    · rename_i vs q
      cases n with
      | zero => simp [V.plainN] at hp
      | succ n =>
        simp only [V.plainN] at hp
        obtain ⟨ob, h1, items, k, rfl, _, h4⟩ := R.obj a _ q
        obtain ⟨⟨as, rs⟩, hc⟩ := readss_py R.zsub n vs items.toList hp h4
        exact ⟨⟨_, .list h1 rfl rfl rs⟩, hc⟩
    · cases n <;> simp [V.plainN] at hp
  | _ => exact reads_py R.zsub n _ x hp hv
theorem readss_res1 {z : Zh} {h : Hp} {s : Shared} (R : HRep z h s) {n : Nat} : ∀ {vs : List V} {xs : List Value}, (vs.map (res1 h)).all (V.plainN n) = true → VRels z vs xs → (∃ as, ReadsAll s.heap xs (V.pys (vs.map (res1 h))) as) ∧ PyData.canLayAll0 (V.pys (vs.map (res1 h))) = true
  | [], xs, _, hv => by simp only [VRels] at hv; subst hv; exact ⟨⟨_, .nil⟩, rfl⟩
  | v :: vs, xs, hp, hv => by
    simp only [List.map_cons, List.all_cons, Bool.and_eq_true] at hp
    simp only [VRels] at hv
    obtain ⟨x, r, rfl, h1, h2⟩ := hv
    obtain ⟨⟨as, ra⟩, ca⟩ := reads_res1 R hp.1 h1
    obtain ⟨⟨bs, rb⟩, cb⟩ := readss_res1 R hp.2 h2
    exact ⟨⟨_, .cons ra rb⟩, by simp [V.pys, PyData.canLayAll0, ca, cb]⟩
theorem reads_res {z : Zh} {h : Hp} {s : Shared} (R : HRep z h s) {n : Nat} {v : V} {x : Value} (hp : (res h v).plainN n = true) (hv : VRel z v x) : (∃ as, Reads s.heap x (res h v).py as) ∧ (res h v).py.canLay0 = true := by
  cases v with
  | list vs =>
    cases n with
    | zero => simp [res, V.plainN] at hp
    | succ n =>
      simp only [res, V.plainN] at hp
      simp only [VRel] at hv
      obtain ⟨a, items, k, rfl, ha, _, hr⟩ := hv
      obtain ⟨⟨as, rs⟩, hc⟩ := readss_res1 R hp hr
      exact ⟨⟨_, .list (R.zsub _ _ ha) rfl rfl rs⟩, hc⟩
  | tup vs =>
    cases n with
    | zero => simp [res, V.plainN] at hp
    | succ n =>
      simp only [res, V.plainN] at hp
      simp only [VRel] at hv
      obtain ⟨a, items, k, rfl, ha, _, hr⟩ := hv
      obtain ⟨⟨as, rs⟩, hc⟩ := readss_res1 R hp hr
      exact ⟨⟨_, .tuple (R.zsub _ _ ha) rfl rfl rs⟩, hc⟩
  | _ => exact reads_res1 R hp hv

section
variable {prog : Program} {w : World} {A : Around} {E : Value → Shared → Prop} {s : Shared} {z : Zh} {h : Hp}

noncomputable def OutB (z : Zh) (h : Hp) (s : Shared) (Q : Bool → Prop) (val : Value) (s' : Shared) : Prop :=
  ∃ b, val = .bool b ∧ Q b ∧ HRep z h s' ∧ Ext s h z s' h z

theorem outB_same {Q : Bool → Prop} {b : Bool} (R : HRep z h s) (hq : Q b) : OutB z h s Q (.bool b) s := ⟨b, rfl, hq, R, Ext.refl s h z⟩
theorem outB_tok {Q : Bool → Prop} {b : Bool} (R : HRep z h s) (hq : Q b) (tk : Nat) : OutB z h s Q (.bool b) { s with toks := tk } := ⟨b, rfl, hq, (R.toks tk).1, (R.toks tk).2⟩

theorem dict_at {d : Addr} {n : Nat} {es : List (Int × V)} (R : HRep z h s) (e : h d = some (.dict n es)) : ∃ f, s.heap.IntMap d f ∧ s.heap.DictLe d n ∧ (∀ k v, es.lookup k = some v → ∃ x, f k = some x ∧ VRel z v x) ∧ ∀ k, es.lookup k = none → f k = none := by
  obtain ⟨ob, h1, ents, ep, h2, h3, h4, h5, h6, h7⟩ := R.obj d _ e
  exact ⟨findBy Value.isInt ents, ⟨ob, ents, ep, h1, h2, h3, h4, fun _ => rfl⟩, fun o es' ep' ho hd => by rw [h1] at ho; cases ho; rw [h3] at hd; cases hd; exact h5, h6, h7⟩

theorem s_cmp {op : CmpOp} {a b : V} {x y : Value} {Q : Bool → Prop} (R : HRep z h s) (hu : A.units + 64 < cLine) (ha : VRel z a x) (hb : VRel z b y) (H : wCmp op a b h Q) :
    wpAny (model prog w) A (compareOp op x y) (OutB z h s Q) E s := by
  have inL : wInL a b h Q → wpAny (model prog w) A (compareOp .In x y) (OutB z h s Q) E s := fun H => by
    unfold wInL at H
    cases e1 : lst? h b with
      | none => rw [e1] at H; exact H.elim
      | some ys =>
        rw [e1] at H
        obtain ⟨⟨p1, p2⟩, H⟩ := H
        obtain ⟨l, items, n, rfl, q1, _, r1⟩ := lst_at R hb e1
        have p2' : ys.all (V.plainN 7) = true := by simpa [V.plain, V.plainN] using p2
        obtain ⟨⟨as, ra⟩, ca⟩ := reads_res R p1 ha
        obtain ⟨⟨bs, rb⟩, cb⟩ := readss_py R.zsub 7 ys items.toList p2' r1
        have d1 := depth_py 8 _ p1
        refine SeqAt.in_list_reads (.list q1 rfl rfl rb) ra cb ca (by omega) ?_
        have e : ((V.pys ys).any fun y => PyData.eqv y (res h a).py) = ys.any fun y => V.eqb y (res h a) := by
          have p3 : ∀ y ∈ ys, y.plainN 8 = true := fun y hy => by
            have := List.all_eq_true.mp p2' y hy
            exact plainN_mono 7 y this
          clear rb cb e1 r1 p2 p2' H
          induction ys with
          | nil => rfl
          | cons y r ih => simp only [V.pys, List.any_cons, ih fun y hy => p3 y (List.mem_cons_of_mem _ hy), eqb_py 8 y _ (p3 y List.mem_cons_self) p1]
        rw [e]; exact outB_same R H
  cases op with
  | Lt =>
    obtain ⟨i, j, rfl, rfl, H⟩ := wII_at H
    simp only [VRel] at ha hb; obtain ⟨t, rfl⟩ := ha; obtain ⟨u, rfl⟩ := hb
    exact P.lt_int (outB_same R H)
  | LtE =>
    obtain ⟨i, j, rfl, rfl, H⟩ := wII_at H
    simp only [VRel] at ha hb; obtain ⟨t, rfl⟩ := ha; obtain ⟨u, rfl⟩ := hb
    exact P.le_int (outB_same R H)
  | Gt =>
    obtain ⟨i, j, rfl, rfl, H⟩ := wII_at H
    simp only [VRel] at ha hb; obtain ⟨t, rfl⟩ := ha; obtain ⟨u, rfl⟩ := hb
    exact P.gt_int (outB_same R H)
  | GtE =>
    obtain ⟨i, j, rfl, rfl, H⟩ := wII_at H
    simp only [VRel] at ha hb; obtain ⟨t, rfl⟩ := ha; obtain ⟨u, rfl⟩ := hb
    exact P.ge_int (outB_same R H)
  | Eq =>
    obtain ⟨⟨p1, p2⟩, H⟩ := H
    obtain ⟨⟨as, ra⟩, ca⟩ := reads_res R p1 ha
    obtain ⟨⟨bs, rb⟩, cb⟩ := reads_res R p2 hb
    rw [eqb_py 8 _ _ p1 p2] at H
    have d1 := depth_py 8 _ p1
    exact SeqAt.compareEq_reads ra rb ca cb (by omega) (outB_same R H)
  | NotEq =>
    obtain ⟨⟨p1, p2⟩, H⟩ := H
    obtain ⟨⟨as, ra⟩, ca⟩ := reads_res R p1 ha
    obtain ⟨⟨bs, rb⟩, cb⟩ := reads_res R p2 hb
    rw [eqb_py 8 _ _ p1 p2] at H
    have d1 := depth_py 8 _ p1
    exact SeqAt.compareNe_reads ra rb ca cb (by omega) (outB_same R H)
  | Is =>
    cases a with
    | typ s1 =>
      cases b with
      | typ t1 =>
        simp only [VRel] at ha hb; subst ha hb
        refine wpAny_is_plain rfl ?_
        have e : (Value.type s1 == Value.type t1) = (s1 == t1) := by rw [Bool.eq_iff_iff]; simp
        rw [e]; exact outB_same R H
      | _ => exact H.elim
    | bool s1 =>
      cases b with
      | bool t1 =>
        simp only [VRel] at ha hb; subst ha hb
        refine wpAny_is_plain rfl ?_
        have e : (Value.bool s1 == Value.bool t1) = (s1 == t1) := by rw [Bool.eq_iff_iff]; simp
        rw [e]; exact outB_same R H
      | _ => exact H.elim
    | _ => exact H.elim
  | IsNot =>
    cases a with
    | typ s1 =>
      cases b with
      | typ t1 =>
        simp only [VRel] at ha hb; subst ha hb
        refine wpAny_isNot_plain rfl ?_
        have e : (Value.type s1 == Value.type t1) = (s1 == t1) := by rw [Bool.eq_iff_iff]; simp
        rw [e]; exact outB_same R H
      | _ => exact H.elim
    | bool s1 =>
      cases b with
      | bool t1 =>
        simp only [VRel] at ha hb; subst ha hb
        refine wpAny_isNot_plain rfl ?_
        have e : (Value.bool s1 == Value.bool t1) = (s1 == t1) := by rw [Bool.eq_iff_iff]; simp
        rw [e]; exact outB_same R H
      | _ => exact H.elim
    | _ => exact H.elim
  | In =>
    cases b with
    | ref d =>
      cases q : h d with
      | none => exact inL (by have H : (match h d with | some (.dict _ es) => wInD a es Q | _ => wInL a (.ref d) h Q) := H; rw [q] at H; exact H)
      | some o =>
        cases o with
        | list vs => exact inL (by have H : (match h d with | some (.dict _ es) => wInD a es Q | _ => wInL a (.ref d) h Q) := H; rw [q] at H; exact H)
        | dict n es =>
          have H : wInD a es Q := by have H : (match h d with | some (.dict _ es) => wInD a es Q | _ => wInL a (.ref d) h Q) := H; rw [q] at H; exact H
          cases a with
          | int k =>
            have H : Q ((es.lookup k).isSome) := H
            simp only [VRel] at ha hb; obtain ⟨t, rfl⟩ := ha; subst hb
            obtain ⟨f, hm, _, h1, h2⟩ := dict_at R q
            refine wpAny_in_intMap hm ?_
            have e : (f k).isSome = (es.lookup k).isSome := by
              cases q2 : es.lookup k with
              | none => rw [h2 k q2]; rfl
              | some v => obtain ⟨x, hx, _⟩ := h1 k v q2; rw [hx]; rfl
            rw [e]; exact outB_tok R H _
          | _ => exact H.elim
    | _ => exact inL H
  | _ => exact H.elim

end
end Mine

namespace Mine
open PySem

section
variable {prog : Program} {w : World} {A : Around} {E : Value → Shared → Prop} {s : Shared} {z : Zh} {h : Hp}

theorem out_rng {Q : V → Hp → Prop} {a b c : Int} {t u v : Tok} (R : HRep z h s) (hq : Q (.rng a b c) h) (hb : a.natAbs ≤ 1000000 ∧ b.natAbs ≤ 1000000 ∧ c ≠ 0 ∧ c.natAbs ≤ 1000000) (tk : Nat) :
    OutH z h s Q (.ref s.heap.objs.size) { s with heap := s.heap.push { cls := .type "range", data := .fields #[.int a t, .int b u, .int c v] }, toks := tk } := by
  obtain ⟨R', X⟩ := R.freshZ { cls := .type "range", data := .fields #[.int a t, .int b u, .int c v] } tk
  refine ⟨.rng a b c, h, _, hq, ?_, R', X⟩
  simp only [VRel]
  exact ⟨_, t, u, v, rfl, hb, Zh.set_self _ _ _⟩

theorem out_keep {Q : V → Hp → Prop} {v : V} {val : Value} (R : HRep z h s) (hq : Q v h) (hv : VRel z v val) {hh : Heap} {tk : Nat} (hk : ∀ b o, s.heap.get? b = some o → hh.get? b = some o) : OutH z h s Q val { s with heap := hh, toks := tk } := by
  obtain ⟨R', X⟩ := R.grow (s' := { s with heap := hh, toks := tk }) ⟨_, _, rfl⟩ hk (ZLe.refl z) fun _ _ e => .inl e
  exact ⟨v, h, z, hq, hv, R', X⟩

noncomputable def prVal : Pr → Value
  | .len => .builtin "len" | .range => .type "range" | .type => .type "type" | .max => .builtin "max" | .min => .builtin "min" | .list => .type "list" | .chr => .builtin "chr" | .str => .type "str" | .dict => .type "dict"
  | .int => .type "int"

theorem type_at {v : V} {x : Value} {T : String} (R : HRep z h s) (hv : VRel z v x) (e : typ? h v = some T) : s.TypeIs x T ∧ (Value.type T == Value.type "builtin_function_or_method") = false := by
  cases v with
  | none => simp only [typ?, Option.some.injEq] at e; subst e; simp only [VRel] at hv; subst hv; exact ⟨typeIs_none s, by decide⟩
  | bool b => simp only [typ?, Option.some.injEq] at e; subst e; simp only [VRel] at hv; subst hv; exact ⟨typeIs_bool s b, by decide⟩
  | int i => simp only [typ?, Option.some.injEq] at e; subst e; simp only [VRel] at hv; obtain ⟨t, rfl⟩ := hv; exact ⟨typeIs_int s i t, by decide⟩
  | str i => simp only [typ?, Option.some.injEq] at e; subst e; simp only [VRel] at hv; obtain ⟨_, t, rfl⟩ := hv; exact ⟨typeIs_str s i t, by decide⟩
  | list vs => simp only [typ?, Option.some.injEq] at e; subst e; simp only [VRel] at hv; obtain ⟨a, i, n, rfl, ha, _⟩ := hv; exact ⟨⟨_, R.zsub _ _ ha, rfl⟩, by decide⟩
  | tup vs => simp only [typ?, Option.some.injEq] at e; subst e; simp only [VRel] at hv; obtain ⟨a, i, n, rfl, ha, _⟩ := hv; exact ⟨⟨_, R.zsub _ _ ha, rfl⟩, by decide⟩
  | ref a =>
    simp only [VRel] at hv; subst hv
    simp only [typ?] at e
    split at e
    · rename_i q; cases e; obtain ⟨ob, h1, i, n, rfl, _⟩ := R.obj a _ q; exact ⟨⟨_, h1, rfl⟩, by decide⟩
    · rename_i q; cases e; obtain ⟨ob, h1, i, n, h2, _⟩ := R.obj a _ q; exact ⟨⟨_, h1, h2⟩, by decide⟩
    · cases e
  | _ => simp [typ?] at e

theorem ints_at : ∀ {args : List V} {xs : List Value} {l : List Int}, VRels z args xs → ints? args = some l → ∃ ts : List Tok, ts.length = l.length ∧ xs = List.zipWith Value.int l ts
  | [], xs, l, ha, e => by
    cases (show some [] = some l from e); simp only [VRels] at ha; subst ha; exact ⟨[], rfl, rfl⟩
  | v :: r, xs, l, ha, e => by
    simp only [VRels] at ha
    obtain ⟨x, r', rfl, hv, hr⟩ := ha
    cases v with
    | int i =>
      obtain ⟨l', hl, rfl⟩ := Option.map_eq_some_iff.mp (show (ints? r).map (i :: ·) = some l from e)
      obtain ⟨ts, h1, rfl⟩ := ints_at hr hl
      simp only [VRel] at hv; obtain ⟨t, rfl⟩ := hv
      exact ⟨t :: ts, by simp [h1], rfl⟩
    | _ => exact nomatch (show (none : Option (List Int)) = some l from e)
theorem one_at {args : List V} {xs : List Value} {P : V → Prop} (ha : VRels z args xs) (H : wOne P args) : ∃ v x, xs = [x] ∧ VRel z v x ∧ P v := by
  match args, H with
  | [v], H =>
    simp only [VRels] at ha
    obtain ⟨x, r, rfl, hv, rfl⟩ := ha
    exact ⟨v, x, rfl, hv, H⟩
theorem strOk_txt (x : String) : PyData.strOk (Str.ofString x) = true := by
  rw [strOk_mem]
  intro c hc
  rw [Str.ofString_eq_toList] at hc
  simp only [List.toList_toArray, List.mem_map] at hc
  obtain ⟨d, _, rfl⟩ := hc
  have := d.valid
  have h2 : d.toNat = d.val.toNat := rfl
  rcases this with h | h
  · have : d.val.toNat < 0xD800 := h; omega
  · have : d.val.toNat < 0x110000 := h.2; omega
theorem s_prim {f : Pr} {args : List V} {xs : List Value} {Q : V → Hp → Prop} (R : HRep z h s) (hh : A.handled = none) (ha : VRels z args xs) (H : wPrim f args h Q) :
    wpAny (model prog w) A (call (prVal f) xs) (OutH z h s Q) E s := by
  have sz : (sizeLine : Int) < 2 ^ 63 := by rw [sizeLine_eq]; decide
  have il : ∀ {P : List Int → Prop}, ofSome (ints? args) P → ∃ l ts, P l ∧ ts.length = l.length ∧ xs = List.zipWith Value.int l ts := fun {P} h => by
    cases e : ints? args with
    | none => rw [e] at h; exact h.elim
    | some l => rw [e] at h; obtain ⟨ts, h1, h2⟩ := ints_at ha e; exact ⟨l, ts, h, h1, h2⟩
  cases f with
  | len =>
    have seqs : ∀ {v : V} {x : Value}, VRel z v x → ofSome (seq? h v) (fun vs => Q (.int vs.length) h) → wpAny (model prog w) A (call (.builtin "len") [x]) (OutH z h s Q) E s := by
      intro v x hv H
      cases e : seq? h v with
      | none => rw [e] at H; exact H.elim
      | some vs =>
        rw [e] at H
        obtain ⟨a, items, n, rfl, q, hs, hr⟩ := seq_at R hv e
        have el : items.size = vs.length := by rw [← hr.length, Array.length_toList]
        have H' : Q (.int items.size) h := by rw [el]; exact H
        rcases q with q | q
        · exact PyProof.Rows.len_list q.isList (by omega) (out_tok R H' (vint _ _) _)
        · exact P.len_tuple q (by omega) (out_tok R H' (vint _ _) _)
    obtain ⟨v, x, rfl, hv, H⟩ := one_at ha H
    cases v with
    | str s0 =>
      simp only [VRel] at hv; obtain ⟨⟨_, hl⟩, t, rfl⟩ := hv
      exact PyProof.Rows.len_str (by omega) (out_tok R H (vint _ _) _)
    | _ => exact seqs hv H
  | range =>
    obtain ⟨l, ts, H, hl, rfl⟩ := il H
    match l, ts, hl, H with
    | [b], [t], _, H => exact call_range_1 (out_rng R H.2 ⟨by decide, H.1, by decide, by decide⟩ _)
    | [a, b], [t, u], _, H => exact call_range_2 (out_rng R H.2 ⟨H.1.1, H.1.2, by decide, by decide⟩ _)
    | [a, b, c], [t, u, v], _, H => exact PySem.call_range_3 H.1.2.1 (out_rng R H.2 ⟨H.1.1.1, H.1.1.2, H.1.2.1, H.1.2.2⟩ _) (.inl (PyProof.noPylong_small (by have := H.1.2.2; omega)))
  | type =>
    obtain ⟨v, x, rfl, hv, H⟩ := one_at ha H
    cases e : typ? h v with
    | none => rw [e] at H; exact H.elim
    | some T =>
      rw [e] at H
      obtain ⟨h1, h2⟩ := type_at R hv e
      exact call_type_of h1 h2 (out_same R H (by simp [VRel]))
  | max =>
    obtain ⟨l, ts, H, hl, rfl⟩ := il H
    match l, ts, hl, H with
    | [i, j], [t, u], _, H =>
      have H : Q (.int (max i j)) h := H
      refine max_two_ints hh fun h' tk hk => ?_
      by_cases c : j > i
      · rw [if_pos c]; rw [show max i j = j by omega] at H; exact out_keep R H (vint _ _) hk
      · rw [if_neg c]; rw [show max i j = i by omega] at H; exact out_keep R H (vint _ _) hk
  | min =>
    obtain ⟨l, ts, H, hl, rfl⟩ := il H
    match l, ts, hl, H with
    | [i, j], [t, u], _, H =>
      have H : Q (.int (min i j)) h := H
      refine min_two_ints hh fun h' tk hk => ?_
      by_cases c : j < i
      · rw [if_pos c]; rw [show min i j = j by omega] at H; exact out_keep R H (vint _ _) hk
      · rw [if_neg c]; rw [show min i j = i by omega] at H; exact out_keep R H (vint _ _) hk
  | list =>
    obtain ⟨v, x, rfl, hv, H⟩ := one_at ha H
    cases e : seq? h v with
    | none => rw [e] at H; exact H.elim
    | some vs =>
      rw [e] at H
      obtain ⟨a, items, n, rfl, q, hs, hr⟩ := seq_at R hv e
      have fin : ∀ h' c', (∀ b o', s.heap.get? b = some o' → h'.get? b = some o') → h'.get? s.heap.objs.size = some { cls := .type "list", dict := none, data := .seq items c', slots := #[] } → OutH z h s Q (.ref s.heap.objs.size) { s with heap := h' } := by
        intro h' c' hk ho
        have hnone : s.heap.get? s.heap.objs.size = none := by
          cases q : s.heap.get? s.heap.objs.size with
          | none => rfl
          | some o' => exact absurd (Heap.lt_size q) (Nat.lt_irrefl _)
        have hle : ZLe z (z.set s.heap.objs.size { cls := .type "list", dict := none, data := .seq items c', slots := #[] }) := fun a o' e => by
          unfold Zh.set
          by_cases q : a = s.heap.objs.size
          · subst q; rw [R.zsub _ _ e] at hnone; cases hnone
          · rw [if_neg q]; exact e
        obtain ⟨R', X⟩ := R.grow (s' := { s with heap := h' }) (z' := z.set s.heap.objs.size { cls := .type "list", dict := none, data := .seq items c', slots := #[] }) ⟨_, _, rfl⟩ hk hle fun a o' e => by
          unfold Zh.set at e
          by_cases q : a = s.heap.objs.size
          · subst q; rw [if_pos rfl] at e; cases e; exact .inr ⟨hnone, ho⟩
          · rw [if_neg q] at e; exact .inl e
        refine ⟨.list vs, h, _, H, ?_, R', X⟩
        simp only [VRel]
        exact ⟨_, items, c', rfl, Zh.set_self _ _ _, hs, hr.mono X.zle⟩
      rcases q with q | q
      · exact call_list_seq a (.inl rfl) q rfl rfl fin hs
      · exact call_list_seq a (.inr rfl) q rfl rfl fin hs
  | str =>
    obtain ⟨v, x, rfl, hv, H⟩ := one_at ha H
    cases v with
    | int i =>
      simp only [VRel] at hv; obtain ⟨t, rfl⟩ := hv
      refine P.str_of_int ?_ (out_tok R H.2 (vstr ?_ ?_) _)
      · have h1 := H.1.1
        by_cases h0 : i.natAbs = 0
        · rw [h0]; decide
        · have := (Nat.log2_lt h0 (k := 70)).mpr (Nat.lt_trans h1 (by decide))
          omega
      · exact strOk_txt _
      · have := H.1.2; rw [sizeLine_eq]; omega
    | _ => exact H.elim
  | int =>
    obtain ⟨v, x, rfl, hv, H⟩ := one_at ha H
    cases v with
    | str y =>
      simp only [VRel] at hv; obtain ⟨_, t, rfl⟩ := hv
      obtain ⟨h1, H⟩ := H
      cases e : PySem.intText? y with
      | none => rw [e] at H; exact H.elim
      | some n => rw [e] at H; exact PySem.W.KIN.call_text e h1 (out_tok R H (vint _ _) _)
    | _ => exact H.elim
  | _ => exact H.elim

theorem seq_idx {k : Int} {n : Nat} (h0 : 0 ≤ k) (h : k < n) : seqIndex? k n = some k.toNat := by
  unfold seqIndex?; simp; omega
theorem seqIndex_bound {k : Int} {n j : Nat} (h : seqIndex? k n = some j) : -(n : Int) ≤ k ∧ k < n ∧ j < n := by
  unfold seqIndex? at h
  dsimp only at h
  by_cases hk : k < 0
  · rw [if_pos hk] at h
    by_cases c : (decide (0 ≤ k + (n : Int)) && decide (k + (n : Int) < n)) = true
    · rw [if_pos c] at h
      simp only [Bool.and_eq_true, decide_eq_true_eq] at c
      cases h; omega
    · rw [if_neg c] at h; cases h
  · rw [if_neg hk] at h
    by_cases c : (decide (0 ≤ k) && decide (k < (n : Int))) = true
    · rw [if_pos c] at h
      simp only [Bool.and_eq_true, decide_eq_true_eq] at c
      cases h; omega
    · rw [if_neg c] at h; cases h

theorem s_item {o i : V} {x y : Value} {Q : V → Prop} (R : HRep z h s) (ho : VRel z o x) (hi : VRel z i y) (H : wItem o i h Q) :
    (∃ T id, s.TypeIs x T ∧ typeLookup (.type T) "__getitem__" = pure (some (.builtin id))) ∧ wpAny (model prog w) A (getItem x y) (OutH z h s fun v h' => h' = h ∧ Q v) E s := by
  have sz : (sizeLine : Int) < 2 ^ 63 := by rw [sizeLine_eq]; decide
  have lists : ∀ {vs : List V} {k : Int} {a : Addr} {items : Array Value} {n : Nat}, i = .int k → x = .ref a → IsL s.heap a items n → items.size ≤ sizeLine → VRels z vs items.toList → ofSome ((seqIndex? k vs.length).bind (vs[·]?)) Q →
      (∃ T id, s.TypeIs x T ∧ typeLookup (.type T) "__getitem__" = pure (some (.builtin id))) ∧ wpAny (model prog w) A (getItem x y) (OutH z h s fun v h' => h' = h ∧ Q v) E s := by
    intro vs k a items n e1 e2 q hs hr HH
    clear H
    subst e1 e2
    simp only [VRel] at hi; obtain ⟨t, rfl⟩ := hi
    refine ⟨⟨"list", _, ⟨_, q, rfl⟩, slot_list_getitem.lookup⟩, ?_⟩
    cases e : (seqIndex? k vs.length).bind (vs[·]?) with
    | none => rw [e] at HH; exact HH.elim
    | some v =>
      rw [e] at HH
      have el : items.size = vs.length := by rw [← hr.length, Array.length_toList]
      obtain ⟨j, hj, hv⟩ := Option.bind_eq_some_iff.mp e
      obtain ⟨val, hx, hv'⟩ := hr.get hv
      have hx' : items[j]? = some val := by rw [← Array.getElem?_toList]; exact hx
      simp only [seqIndex?] at hj
      by_cases hk : k < 0
      · simp only [hk, if_true] at hj
        split at hj
        · rename_i c
          simp only [Bool.and_eq_true, decide_eq_true_eq] at c
          cases hj
          refine wpAny_getItem_list_neg q.isList hk (by omega) (by omega) ?_ (out_same R ⟨rfl, HH⟩ hv')
          rw [el]; exact hx'
        · cases hj
      · simp only [hk, if_false] at hj
        split at hj
        · rename_i c
          simp only [Bool.and_eq_true, decide_eq_true_eq] at c
          cases hj
          exact wpAny_getItem_list q.isList (by omega) (by omega) hx' (out_same R ⟨rfl, HH⟩ hv')
        · cases hj
  have tups : ∀ {vs : List V} {k : Int} {a : Addr} {items : Array Value} {n : Nat}, i = .int k → x = .ref a → IsT s.heap a items n → items.size ≤ sizeLine → VRels z vs items.toList → ofSome ((seqIndex? k vs.length).bind (vs[·]?)) Q →
      (∃ T id, s.TypeIs x T ∧ typeLookup (.type T) "__getitem__" = pure (some (.builtin id))) ∧ wpAny (model prog w) A (getItem x y) (OutH z h s fun v h' => h' = h ∧ Q v) E s := by
    intro vs k a items n e1 e2 q hs hr HH
    clear H
    subst e1 e2
    simp only [VRel] at hi; obtain ⟨t, rfl⟩ := hi
    refine ⟨⟨"tuple", _, ⟨_, q, rfl⟩, F.slot_tuple_getitem.lookup⟩, ?_⟩
    cases e : (seqIndex? k vs.length).bind (vs[·]?) with
    | none => rw [e] at HH; exact HH.elim
    | some v =>
      rw [e] at HH
      have el : items.size = vs.length := by rw [← hr.length, Array.length_toList]
      obtain ⟨j, hj, hv⟩ := Option.bind_eq_some_iff.mp e
      obtain ⟨val, hx, hv'⟩ := hr.get hv
      have hx' : items[j]? = some val := by rw [← Array.getElem?_toList]; exact hx
      have hb : -(2 : Int) ^ 63 ≤ k ∧ k < 2 ^ 63 := by
        have := seqIndex_bound hj
        omega
      exact P.getItem_tuple q hb.1 hb.2 (by rw [el]; exact hj) hx' (out_same R ⟨rfl, HH⟩ hv')
  unfold wItem at H
  split at H
  · rename_i st k
    simp only [VRel] at ho hi; obtain ⟨⟨o1, o2⟩, t, rfl⟩ := ho; obtain ⟨u, rfl⟩ := hi
    refine ⟨⟨"str", _, typeIs_str _ _ _, F.slot_str_getitem.lookup⟩, ?_⟩
    cases e : (seqIndex? k st.length).bind (st.cps[·]?) with
    | none => rw [e] at H; exact H.elim
    | some c =>
      rw [e] at H
      refine PyProof.Rows.getItem_str ?_ e (out_tok R ⟨rfl, H⟩ (vstr ?_ (by show 1 ≤ sizeLine; decide)) _)
      · obtain ⟨j, hj, hv⟩ := Option.bind_eq_some_iff.mp e
        have := seqIndex_bound hj
        simp only [Bool.or_eq_false_iff, decide_eq_false_iff_not]
        omega
      · obtain ⟨j, hj, hv⟩ := Option.bind_eq_some_iff.mp e
        rw [strOk_mem] at o1 ⊢
        intro c' hc'
        simp at hc'; subst hc'
        refine o1 c' ?_
        rw [Array.mem_toList_iff]
        exact Array.mem_of_getElem? hv
  · rename_i a k
    simp only [VRel] at ho; subst ho
    split at H
    · rename_i vs q
      obtain ⟨ob, h1, items, n, rfl, h3, h4⟩ := R.obj a _ q
      exact lists rfl rfl h1 h3 h4 H
    · rename_i n es q
      simp only [VRel] at hi; obtain ⟨t, rfl⟩ := hi
      obtain ⟨f, hm, _, h1, h2⟩ := dict_at R q
      cases e : es.lookup k with
      | none => rw [e] at H; exact H.elim
      | some v =>
        rw [e] at H
        obtain ⟨val, hx, hv⟩ := h1 k v e
        exact ⟨⟨"dict", _, hm.typeIs, slot_dict_getitem.lookup⟩, wpAny_getItem_intMap hm hx (out_tok R ⟨rfl, H⟩ hv _)⟩
    · exact H.elim
  · rename_i k _ _
    cases e : seq? h o with
    | none => rw [e] at H; exact H.elim
    | some vs =>
      rw [e] at H
      obtain ⟨a, items, n, rfl, q, hs, hr⟩ := seq_at R ho e
      rcases q with q | q
      · exact lists rfl rfl q hs hr H
      · exact tups rfl rfl q hs hr H
  · exact H.elim

end
end Mine

namespace Mine
open PySem

section
variable {prog : Program} {w : World} {A : Around} {E : Value → Shared → Prop} {s : Shared} {z : Zh} {h : Hp}

/-- a store into a list, the object's whole shape kept -/
theorem setItem_isL {l : Addr} {items : Array Value} {n : Nat} {k : Int} {t : Tok} {v : Value} {Q : Unit → Shared → Prop} (hl : IsL s.heap l items n)
    (h0 : 0 ≤ k) (hfit : k < 2 ^ 63) (hn : k < items.size)
    (hQ : Q () { s with heap := s.heap.update l (Obj.mapSeq (·.setIfInBounds k.toNat v)) }) :
    wpAny (model prog w) A (setItem (.ref l) (.int k t) v) Q E s := by
  have hL := hl.isList
  unfold setItem
  try with_reducible refine wpAny_holding ?_
  first | refine wpAny_bind (wpAny_pure ?_) | skip
  refine wpAny_bind (wpAny_sequenceKey hL.typeIs (by decide) ?_)
  refine wpAny_bind (wpAny_callSpecial?_slot (name := Str.ofString "__setitem__") hL.typeIs slot_list_setitem
    (wpAny_call_entry slot_list_setitem hL.typeIs entry_list_setitem ?_ (args_list_setitem _ _ _)))
  show wpAny _ _ (Builtin.List.listSubscript? (.int k t) >>= _) _ _ s
  refine wpAny_bind (wpAny_listSubscript_int (fitsIndex_of h0 hfit) ?_)
  clear hfit
  obtain ⟨j, rfl⟩ := Int.eq_ofNat_of_zero_le h0
  have hj : j < items.size := by omega
  have hx' : items[j]? = some items[j] := Array.getElem?_eq_getElem hj
  show wpAny _ _ ((seqItemAt l j >>= fun r => pure (r.map (j, ·))) >>= _) _ _ s
  refine wpAny_bind (wpAny_bind (wpAny_seqItemAt hl rfl (wpAny_pure ?_)))
  rw [hx']
  show wpAny _ _ (setSeqItemAt l j v >>= _) _ _ s
  refine wpAny_bind (wpAny_setSeqItemAt hl rfl ?_)
  first
    | exact wpAny_bind (wpAny_pure (wpAny_pure ⟨.none, rfl, wpAny_pure hQ⟩))
    | exact wpAny_pure ⟨.none, rfl, wpAny_pure hQ⟩

theorem setItem_isLn {l : Addr} {items : Array Value} {n : Nat} {k : Int} {t : Tok} {v : Value} {Q : Unit → Shared → Prop} (hl : IsL s.heap l items n)
    (h0 : k < 0) (hfit : -(2 ^ 63) ≤ k) (h1 : -(items.size : Int) ≤ k)
    (hQ : Q () { s with heap := s.heap.update l (Obj.mapSeq (·.setIfInBounds (k + items.size).toNat v)) }) :
    wpAny (model prog w) A (setItem (.ref l) (.int k t) v) Q E s := by
  have hL := hl.isList
  obtain ⟨o, ho, hc, ne, hd⟩ := id hL
  unfold setItem
  try with_reducible refine wpAny_holding ?_
  first | refine wpAny_bind (wpAny_pure ?_) | skip
  refine wpAny_bind (wpAny_sequenceKey hL.typeIs (by decide) ?_)
  refine wpAny_bind (wpAny_callSpecial?_slot (name := Str.ofString "__setitem__") hL.typeIs slot_list_setitem
    (wpAny_call_entry slot_list_setitem hL.typeIs entry_list_setitem ?_ (args_list_setitem _ _ _)))
  show wpAny _ _ (Builtin.List.listSubscript? (.int k t) >>= _) _ _ s
  refine wpAny_bind (wpAny_listSubscript_int (fitsIndex_neg h0 hfit) ?_)
  clear hfit
  have hidx := seqIndex_neg h0 h1
  have hlt : (k + items.size).toNat < items.size := by omega
  obtain ⟨j, rfl⟩ : ∃ j : Nat, k = Int.negSucc j := by
    cases k with
    | ofNat n => exact absurd h0 (Int.not_lt.mpr (Int.natCast_nonneg n))
    | negSucc n => exact ⟨n, rfl⟩
  have hx' : items[(Int.negSucc j + items.size).toNat]? = some items[(Int.negSucc j + items.size).toNat] := Array.getElem?_eq_getElem hlt
  show wpAny _ _ ((Builtin.List.listItems (.ref l) >>= fun xs => pure ((seqIndex? (Int.negSucc j) xs.size).bind fun i => xs[i]?.map (i, ·))) >>= _) _ _ s
  refine wpAny_bind (wpAny_bind ?_)
  show wpAny _ _ (seqItems? (.ref l) >>= _) _ _ s
  refine wpAny_bind (wpAny_seqItems ho hd (wpAny_pure (wpAny_pure ?_)))
  rw [hidx]
  simp only [Option.bind_some, hx', Option.map_some]
  show wpAny _ _ (setSeqItemAt l _ v >>= _) _ _ s
  refine wpAny_bind (wpAny_setSeqItemAt hl rfl ?_)
  first
    | exact wpAny_bind (wpAny_pure (wpAny_pure ⟨.none, rfl, wpAny_pure hQ⟩))
    | exact wpAny_pure ⟨.none, rfl, wpAny_pure hQ⟩

noncomputable def OutU (z : Zh) (h : Hp) (s : Shared) (Q : Hp → Prop) (s' : Shared) : Prop := ∃ h' z', Q h' ∧ HRep z' h' s' ∧ Ext s h z s' h' z'

theorem lookup_dput (es : List (Int × V)) (k : Int) (v : V) (k' : Int) : (dput es k v).lookup k' = if k' = k then some v else es.lookup k' := by
  induction es with
  | nil =>
    simp only [dput, List.lookup_cons, List.lookup_nil]
    by_cases e : k' = k
    · simp [e]
    · rw [beq_false_of_ne e, if_neg e]
  | cons p r ih =>
    obtain ⟨k₁, v₁⟩ := p
    simp only [dput]
    by_cases e : k₁ = k
    · rw [if_pos e]
      subst e
      simp only [List.lookup_cons]
      by_cases e2 : k' = k₁
      · simp [e2]
      · rw [beq_false_of_ne e2, if_neg e2]
    · rw [if_neg e]
      simp only [List.lookup_cons, ih]
      by_cases e2 : k' = k₁
      · subst e2; simp [e]
      · rw [beq_false_of_ne e2]
theorem s_set {o i v : V} {x y val : Value} {Q : Hp → Prop} (R : HRep z h s) (hu : A.units + 64 < cLine) (ho : VRel z o x) (hi : VRel z i y) (hv : VRel z v val) (H : wSet o i v h Q) :
    wpAny (model prog w) A (setItem x y val) (fun _ s' => OutU z h s Q s') E s := by
  have sz : (sizeLine : Int) < 2 ^ 63 := by rw [sizeLine_eq]; decide
  cases o with
  | ref a =>
    simp only [VRel] at ho; subst ho
    cases i with
    | int k =>
    simp only [VRel] at hi; obtain ⟨t, rfl⟩ := hi
    have H : (match h a with
      | some (.list vs) => ofSome (seqIndex? k vs.length) fun j => Q (h.set a (.list (vs.set j v)))
      | some (.dict n es) => lenOk (n + 1) ∧ Q (h.set a (.dict (n + 1) (dput es k v)))
      | _ => False) := H
    split at H
    · rename_i vs q
      obtain ⟨ob, h1, items, n, rfl, h3, h4⟩ := R.obj a _ q
      have el : items.size = vs.length := by rw [← h4.length, Array.length_toList]
      cases e : seqIndex? k vs.length with
      | none => rw [e] at H; exact H.elim
      | some j =>
      rw [e] at H
      have hb := seqIndex_bound e
      have hu := IsL.update h1 (·.setIfInBounds j val)
      obtain ⟨R', X⟩ := R.turn (s' := { s with heap := s.heap.update a (Obj.mapSeq (·.setIfInBounds j val)) }) (o := .list (vs.set j v)) ⟨_, _, rfl⟩ q
        (fun b o' hb e => (Heap.get?_update_other _ _ (Ne.symm hb)).trans e) hu
        ⟨_, _, rfl, by rw [Array.size_setIfInBounds]; exact h3, by rw [Array.toList_setIfInBounds]; exact h4.set _ hv⟩
      by_cases hk : k < 0
      · have ej : (k + items.size).toNat = j := by
          have := seqIndex_neg hk (show -(vs.length : Int) ≤ k by omega)
          rw [this] at e; cases e; rw [el]
        refine setItem_isLn h1 hk (by omega) (by omega) ?_
        rw [ej]; exact ⟨_, z, H, R', X⟩
      · have ej : k.toNat = j := by
          have : seqIndex? k vs.length = some k.toNat := seq_idx (by omega) hb.2.1
          rw [this] at e; cases e; rfl
        refine setItem_isL h1 (by omega) (by omega) (by omega) ?_
        rw [ej]; exact ⟨_, z, H, R', X⟩
    · rename_i n es q
      obtain ⟨f, hm, hle, h1, h2⟩ := dict_at R q
      have hlen := lenOk_size H.1
      refine wpAny_setItem_intMap_le hm hle (by omega) fun h' hm' hle' hs' => ?_
      obtain ⟨ob, ents, ep, e1, e2, e3, e4, e5⟩ := hm'
      have hsz := hle' ob ents ep e1 e3
      obtain ⟨R', X⟩ := R.turn (s' := { s with heap := h', toks := s.toks + 1 }) (o := .dict (n + 1) (dput es k v)) (ob := ob) ⟨_, _, rfl⟩ q
        (fun b o' hb e => (hs'.2 b hb).trans e) e1
        ⟨ents, ep, e2, e3, e4, hsz, fun k' v' hk' => by
            rw [lookup_dput] at hk'
            rw [e5]; dsimp only
            by_cases c : k' = k
            · rw [if_pos c] at hk' ⊢; cases hk'; exact ⟨_, rfl, hv⟩
            · rw [if_neg c] at hk' ⊢; exact h1 k' v' hk',
          fun k' hk' => by
            rw [lookup_dput] at hk'
            rw [e5]; dsimp only
            by_cases c : k' = k
            · rw [if_pos c] at hk'; cases hk'
            · rw [if_neg c] at hk' ⊢; exact h2 k' hk'⟩
      exact ⟨_, z, H.2, R', X⟩
    · exact H.elim
    | _ => exact H.elim
  | _ => exact H.elim

theorem s_append {r : Addr} {vs : List V} {v : V} {val : Value} {Q : Value → Shared → Prop} (R : HRep z h s) (q : h r = some (.list vs)) (hv : VRel z v val) (hl : lenOk (vs.length + 1))
    (H : ∀ s', HRep z (h.set r (.list (vs ++ [v]))) s' → Ext s h z s' (h.set r (.list (vs ++ [v]))) z → Q .none s') :
    wpAny (model prog w) A (call (.builtin "list.append") [.ref r, val]) Q E s := by
  obtain ⟨ob, h1, items, n, rfl, h3, h4⟩ := R.obj r _ q
  have el : items.size = vs.length := by rw [← h4.length, Array.length_toList]
  have hsz := lenOk_size hl
  have hT : s.TypeIs (.ref r) "list" := ⟨_, h1, rfl⟩
  refine call_meets F.slot_list_append hT F.entry_list_append (F.args_list_append_2 _ _) (list_append r items n val h3) ⟨h1, ?_⟩
  have hu := IsL.update h1 (·.push val)
  obtain ⟨R', X⟩ := R.turn (s' := { s with heap := s.heap.update r (Obj.mapSeq (·.push val)) }) (o := .list (vs ++ [v])) ⟨_, _, rfl⟩ q
    (fun b o' hb e => (Heap.get?_update_other _ _ (Ne.symm hb)).trans e) hu
    ⟨_, _, rfl, by rw [Array.size_push]; omega, by rw [Array.toList_push]; exact h4.append (VRels.cons hv VRels.nil)⟩
  exact H _ R' X

theorem clip_part {n : Nat} {v : V} {x : Value} {d k : Nat} (hv : VRel z v x) (e : clip n v d = some k) : ∃ p, IsPart x p ∧ p.elim d (clipAt n) = k := by
  unfold clip at e
  split at e
  · simp only [VRel] at hv; subst hv; cases e; exact ⟨none, .none, rfl⟩
  · rename_i i
    simp only [VRel] at hv; obtain ⟨t, rfl⟩ := hv
    cases e
    exact ⟨some i, .int i t, rfl⟩
  · cases e

theorem s_slice {o lo hi : V} {x y y' : Value} {Q : V → Prop} (R : HRep z h s) (ho : VRel z o x) (hlo : VRel z lo y) (hhi : VRel z hi y') (H : wSlice o lo hi h Q) :
    (∃ T id, ({ s with heap := s.heap.push { cls := .type "slice", data := .fields #[y, y', .none] } } : Shared).TypeIs x T ∧ typeLookup (.type T) "__getitem__" = pure (some (.builtin id))) ∧
    wpAny (model prog w) A (getItem x (.ref s.heap.objs.size)) (OutH z h s fun v h' => h' = h ∧ Q v) E { s with heap := s.heap.push { cls := .type "slice", data := .fields #[y, y', .none] } } := by
  have push : ∀ b o', s.heap.get? b = some o' → (s.heap.push { cls := .type "slice", data := .fields #[y, y', .none] }).get? b = some o' := fun b o' e => Heap.get?_push_of_some _ e
  unfold wSlice at H
  split at H
  · rename_i st
    simp only [VRel] at ho; obtain ⟨⟨o1, o2⟩, t, rfl⟩ := ho
    split at H
    · rename_i k
      simp only [VRel] at hlo hhi; subst hlo; obtain ⟨u, rfl⟩ := hhi
      refine ⟨⟨"str", _, typeIs_str _ _ _, F.slot_str_getitem.lookup⟩, ?_⟩
      have hle := Txt.slice_le st none (some k)
      refine wpAny_getItem_str_slice (l := none) (u := some (k, u)) (st := none) ⟨_, Heap.get?_push_size _ rfl, rfl, rfl⟩ rfl
        (post_val_or_str ⟨Nat.le_trans hle o2, fun t' tk => ?_⟩)
      refine out_keep R ⟨rfl, H⟩ (vstr ?_ (Nat.le_trans hle o2)) push
      rw [strOk_mem] at o1 ⊢
      intro c hc
      unfold Txt.slice at hc
      split at hc
      · exact o1 c hc
      · simp only [List.mem_filterMap] at hc
        obtain ⟨j, _, hj⟩ := hc
        exact o1 c (by rw [Array.mem_toList_iff]; exact Array.mem_of_getElem? hj)
    · exact H.elim
  · cases e1 : lst? h o with
    | none => rw [e1] at H; exact H.elim
    | some vs =>
      rw [e1] at H
      obtain ⟨a, items, n, rfl, q, hs, hr⟩ := lst_at R ho e1
      have el : items.size = vs.length := by rw [← hr.length, Array.length_toList]
      simp only [ofSome_some] at H
      cases e2 : clip vs.length lo 0 with
      | none => rw [e2] at H; exact H.elim
      | some i =>
        rw [e2] at H
        simp only [ofSome_some] at H
        cases e3 : clip vs.length hi vs.length with
        | none => rw [e3] at H; exact H.elim
        | some j =>
          rw [e3] at H
          simp only [ofSome_some] at H
          obtain ⟨p1, i1, c1⟩ := clip_part hlo e2
          obtain ⟨p2, i2, c2⟩ := clip_part hhi e3
          refine ⟨⟨"list", _, ⟨_, push _ _ q, rfl⟩, slot_list_getitem.lookup⟩, ?_⟩
          refine wpAny_getItem_list_slice (hsz := hs) (IsL.isList (push _ _ q)) (Heap.IsSliceOf.new ..) i1 i2 .none (by simp) ?_
          have hi' : VRels z ((vs.take j).drop i) (slicePick items p1 p2 none).toList := by
            rw [slicePick_plain, el, c1, c2, List.toList_toArray, ← List.drop_take]
            exact (hr.take j).drop i
          have hsz : (slicePick items p1 p2 none).size ≤ sizeLine := Nat.le_trans (slicePick_size_le ..) hs
          obtain ⟨R1, X1⟩ := R.grow (s' := { s with heap := s.heap.push { cls := .type "slice", data := .fields #[y, y', .none] } }) ⟨_, _, rfl⟩ push (ZLe.refl z) fun _ _ e => .inl e
          obtain ⟨R2, X2⟩ := R1.freshZ { cls := .type "list", data := .seq (slicePick items p1 p2 none) } s.toks
          refine ⟨.list ((vs.take j).drop i), h, _, ⟨rfl, H⟩, ?_, R2, X1.trans X2⟩
          simp only [VRel]
          exact ⟨_, _, 0, rfl, Zh.set_self _ _ _, hsz, hi'.mono X2.zle⟩

end
end Mine

namespace Mine
open PySem

structure Ctx where
  prog : Program
  w : World
  h₀ : Heap
  mg : Str → Option Value
  mb : Str → Option Value
  G : Str → Option V
  fns : List Str

/-! pieces of the tree -/
noncomputable def nameX : PySem.Expr → Option Str
  | .Name x _ => some x
  | _ => none
theorem nameX_eq {e : PySem.Expr} {x : Str} (h : nameX e = some x) : ∃ p, e = .Name x p := by
  cases e with
  | Name y p => cases (show some y = some x from h); exact ⟨p, rfl⟩
  | _ => exact nomatch (show (none : Option Str) = some x from h)

noncomputable def used : List (Str × Value) := [("len", .builtin "len"), ("range", .type "range"), ("type", .type "type"), ("max", .builtin "max"), ("min", .builtin "min"), ("list", .type "list"), ("chr", .builtin "chr"),
  ("str", .type "str"), ("dict", .type "dict"), ("int", .type "int"), ("bool", .type "bool"), ("tuple", .type "tuple"), ("all", .builtin "all")]

structure Ctx.Ok (C : Ctx) : Prop where
  g : C.h₀.Ns mainGlobals C.mg
  b : C.h₀.Ns builtinsNs C.mb
  lim : C.h₀.NoLimit
  bi : ∀ p ∈ used, C.mg p.1 = none ∧ C.mb p.1 = some p.2
  glob : ∀ x v, C.G x = some v → ∃ val, C.mg x = some val ∧ VRel C.h₀.get? v val
  fn : ∀ f ∈ C.fns, ∃ a o fd, C.mg f = some (.ref a) ∧ C.h₀.get? a = some o ∧ o.data = .func fd

noncomputable def Ctx.In (C : Ctx) (z : Zh) : Prop := ∀ a o, C.h₀.get? a = some o → z a = some o
theorem Ctx.In.mono {C : Ctx} {z z' : Zh} (h : C.In z) (hz : ZLe z z') : C.In z' := fun a o e => hz a o (h a o e)

structure Room (K : Nat) (A : Around) : Prop where
  hand : A.handled = none
  depth : A.depth + K + 10 < recursionLimit
  units : A.units + 4 * K + 200 < cLine

noncomputable def kLike (env : Env) (x : Str) : NameKind → Prop
  | .local => env.kindOf x = some .local
  | .cell | .free => (env.kindOf x = some .cell ∨ env.kindOf x = some .free) ∧ ∃ c, env.cells.lookup x = some c
  | .globalImplicit => env.kindOf x = some .globalImplicit
  | .globalExplicit => True

structure EnvOk (env : Env) (ns : List (Str × NameKind)) : Prop where
  kind : env.scope.kind = .function
  glob : env.globals = mainGlobals
  blt : env.builtins = builtinsNs
  names : ∀ x k, ns.lookup x = some k → kLike env x k

noncomputable def OutE (env : Env) (z : Zh) (σ : St) (s : Shared) (Q : V → St → Prop) (val : Value) (s' : Shared) : Prop :=
  ∃ v σ' z', Q v σ' ∧ VRel z' v val ∧ FRep env z' σ' s' ∧ HRep z' σ'.heap s' ∧ σ'.vars = σ.vars ∧ Ext s σ.heap z s' σ'.heap z'
noncomputable def OutEs (env : Env) (z : Zh) (σ : St) (s : Shared) (Q : List V → St → Prop) (vals : List Value) (s' : Shared) : Prop :=
  ∃ vs σ' z', Q vs σ' ∧ VRels z' vs vals ∧ FRep env z' σ' s' ∧ HRep z' σ'.heap s' ∧ σ'.vars = σ.vars ∧ Ext s σ.heap z s' σ'.heap z'
noncomputable def OutT (env : Env) (z : Zh) (σ : St) (s : Shared) (Q : Bool → St → Prop) (b : Bool) (s' : Shared) : Prop :=
  ∃ σ' z', Q b σ' ∧ FRep env z' σ' s' ∧ HRep z' σ'.heap s' ∧ σ'.vars = σ.vars ∧ Ext s σ.heap z s' σ'.heap z'

theorem OutH.toE {env : Env} {z : Zh} {σ : St} {s : Shared} {Q : V → St → Prop} {val : Value} {s' : Shared} (F : FRep env z σ s) (h : OutH z σ.heap s (fun v h => Q v (σ.hp h)) val s') : OutE env z σ s Q val s' := by
  obtain ⟨v, h', z', q, hv, R, X⟩ := h
  exact ⟨v, σ.hp h', z', q, hv, F.ext X, R, rfl, X⟩
theorem OutE.after {env : Env} {z z₁ : Zh} {σ σ₁ : St} {s s₁ : Shared} {Q : V → St → Prop} {val : Value} {s' : Shared} (h : OutE env z₁ σ₁ s₁ Q val s') (e : σ₁.vars = σ.vars) (X : Ext s σ.heap z s₁ σ₁.heap z₁) : OutE env z σ s Q val s' := by
  obtain ⟨v, σ', z', q, hv, F, R, e', X'⟩ := h
  exact ⟨v, σ', z', q, hv, F, R, e'.trans e, X.trans X'⟩
theorem OutT.after {env : Env} {z z₁ : Zh} {σ σ₁ : St} {s s₁ : Shared} {Q : Bool → St → Prop} {b : Bool} {s' : Shared} (h : OutT env z₁ σ₁ s₁ Q b s') (e : σ₁.vars = σ.vars) (X : Ext s σ.heap z s₁ σ₁.heap z₁) : OutT env z σ s Q b s' := by
  obtain ⟨σ', z', q, F, R, e', X'⟩ := h
  exact ⟨σ', z', q, F, R, e'.trans e, X.trans X'⟩
theorem OutEs.after {env : Env} {z z₁ : Zh} {σ σ₁ : St} {s s₁ : Shared} {Q : List V → St → Prop} {val : List Value} {s' : Shared} (h : OutEs env z₁ σ₁ s₁ Q val s') (e : σ₁.vars = σ.vars) (X : Ext s σ.heap z s₁ σ₁.heap z₁) : OutEs env z σ s Q val s' := by
  obtain ⟨v, σ', z', q, hv, F, R, e', X'⟩ := h
  exact ⟨v, σ', z', q, hv, F, R, e'.trans e, X.trans X'⟩
theorem St.hp_self (σ : St) : σ.hp σ.heap = σ := rfl

/-- an expression and its small form -/
noncomputable def SE (C : Ctx) (K : Nat) (Φ : FEnv) (ns : List (Str × NameKind)) (e : PySem.Expr) (me : ME) : Prop :=
  ∀ A env z σ s Q E, Room K A → EnvOk env ns → C.In z → FRep env z σ s → HRep z σ.heap s → wpE Φ C.G me σ Q → wpAny (model C.prog C.w) A (eval e env) (OutE env z σ s Q) E s
noncomputable def ST (C : Ctx) (K : Nat) (Φ : FEnv) (ns : List (Str × NameKind)) (e : PySem.Expr) (t : MT) : Prop :=
  ∀ A env z σ s Q E, Room K A → EnvOk env ns → C.In z → FRep env z σ s → HRep z σ.heap s → wpT Φ C.G t σ Q → wpAny (model C.prog C.w) A (isTrue e env (eval e env)) (OutT env z σ s Q) E s
noncomputable def SPhi (C : Ctx) (K : Nat) (Φ : FEnv) : Prop :=
  ∀ f args h Q, Φ f args h Q → ∀ a, C.mg f = some (.ref a) → ∀ A z s xs E, Room K A → C.In z → HRep z h s → VRels z args xs → wpAny (model C.prog C.w) A (call (.ref a) xs) (OutH z h s Q) E s

section
variable {C : Ctx} {K : Nat} {Φ : FEnv} {ns : List (Str × NameKind)}

theorem heap_in {z : Zh} {h : Hp} {s : Shared} (hz : C.In z) (R : HRep z h s) : ∀ a o, C.h₀.get? a = some o → s.heap.get? a = some o := fun a o e => R.zsub a o (hz a o e)

theorem E_tok {env : Env} {z : Zh} {σ : St} {s : Shared} {Q : V → St → Prop} {v : V} {val : Value} (F : FRep env z σ s) (R : HRep z σ.heap s) (hq : Q v σ) (hv : VRel z v val) (tk : Nat) : OutE env z σ s Q val { s with toks := tk } :=
  OutH.toE F (out_tok R (Q := fun v h => Q v (σ.hp h)) hq hv tk)
theorem E_same {env : Env} {z : Zh} {σ : St} {s : Shared} {Q : V → St → Prop} {v : V} {val : Value} (F : FRep env z σ s) (R : HRep z σ.heap s) (hq : Q v σ) (hv : VRel z v val) : OutE env z σ s Q val s :=
  OutH.toE F (out_same R (Q := fun v h => Q v (σ.hp h)) hq hv)

theorem se_none {k pos} : SE C K Φ ns (.Constant .none k pos) .none := fun A env z σ s Q E _ _ _ F R H =>
  PyProof.Rows.Constant_none (E_same F R H (by simp [VRel]))
theorem se_bool {b k pos} : SE C K Φ ns (.Constant (.bool b) k pos) (.bool b) := fun A env z σ s Q E _ _ _ F R H =>
  PyProof.Rows.Constant_bool (E_same F R H (vbool _))
theorem se_int {i k pos} : SE C K Φ ns (.Constant (.int i) k pos) (.int i) := fun A env z σ s Q E _ _ _ F R H =>
  wpAny_Constant_int (E_tok F R H (vint _ _) _)
theorem se_str {x : Str} {k pos} (ho : PyData.strOk x = true) (hl : x.length ≤ sizeLine) : SE C K Φ ns (.Constant (.str x) k pos) (.str x) := fun A env z σ s Q E _ _ _ F R H =>
  Calls.Constant_str (E_tok F R H (vstr ho hl) _)

theorem load_var {A : Around} {env : Env} {z : Zh} {σ : St} {s : Shared} {x : Str} {v : V} {E : Value → Shared → Prop} {Q : Value → Shared → Prop} {M : Model} (hk : env.scope.kind = .function) (F : FRep env z σ s) (e : σ.vars x = some v)
    (hcd : (x == ("__classdict__" : Str)) = false) (h : ∀ val, VRel z v val → Q val s) : wpAny M A (loadName env x) Q E s := by
  by_cases hl : env.kindOf x = some .local
  · obtain ⟨m, hn, hv⟩ := F.loc
    obtain ⟨val, hm, hr⟩ := hv x v e hl
    exact wpAny_loadName_local hk hl hn hm (h val hr)
  · obtain ⟨c, val, hc, hcell, hr⟩ := F.cell x v e hl
    rcases F.kind x v e with h1 | h1 | h1
    · exact absurd h1 hl
    · exact wpAny_loadName_cell hk h1 hc hcell (h val hr)
    · exact wpAny_loadName_free hk h1 hc hcell (h val hr) hcd

theorem se_var {x : Str} {pos : Pos} (hd : (x == ("__debug__" : Str)) = false) (hcd : (x == ("__classdict__" : Str)) = false) : SE C K Φ ns (.Name x pos) (.var x) := fun A env z σ s Q E _ hE _ F R H => by
  simp only [uE_var] at H
  cases e : σ.vars x with
  | none => rw [e] at H; exact H.elim
  | some v =>
    rw [e] at H
    exact wpAny_Name (load_var hE.kind F e hcd fun val hr => E_same F R H hr) hd

theorem load_glob {A : Around} {env : Env} {z : Zh} {h : Hp} {s : Shared} {x : Str} {pos : Pos} {val : Value} {E : Value → Shared → Prop} {Q : Value → Shared → Prop} {M : Model} (hC : C.Ok) (hE : EnvOk env ns) (hz : C.In z) (R : HRep z h s)
    (hx : ns.lookup x = some .globalImplicit) (hm : C.mg x = some val) (hd : (x == ("__debug__" : Str)) = false) (hq : Q val s) : wpAny M A (eval (.Name x pos) env) Q E s :=
  Calls.Name_function_global hE.kind (hE.names x _ hx) (Calls.loadGlobal_global (by rw [hE.glob]; exact hC.g.keeps (heap_in hz R)) hm hq) hd
theorem load_blt {A : Around} {env : Env} {z : Zh} {h : Hp} {s : Shared} {x : Str} {pos : Pos} {val : Value} {E : Value → Shared → Prop} {Q : Value → Shared → Prop} {M : Model} (hC : C.Ok) (hE : EnvOk env ns) (hz : C.In z) (R : HRep z h s)
    (hx : ns.lookup x = some .globalImplicit) (hm : (x, val) ∈ used) (hd : (x == ("__debug__" : Str)) = false) (hq : Q val s) : wpAny M A (eval (.Name x pos) env) Q E s :=
  Calls.Name_function_global hE.kind (hE.names x _ hx) (Calls.loadGlobal_builtin (by rw [hE.glob]; exact hC.g.keeps (heap_in hz R)) (hC.bi _ hm).1 (by rw [hE.blt]; exact hC.b.keeps (heap_in hz R)) (hC.bi _ hm).2 hq) hd

theorem se_glob {x : Str} {pos : Pos} (hC : C.Ok) (hx : ns.lookup x = some .globalImplicit) (hd : (x == ("__debug__" : Str)) = false) : SE C K Φ ns (.Name x pos) (.glob x) := fun A env z σ s Q E _ hE hz F R H => by
  simp only [uE_glob] at H
  cases e : C.G x with
  | none => rw [e] at H; exact H.elim
  | some v =>
    rw [e] at H
    obtain ⟨val, hm, hr⟩ := hC.glob x v e
    exact load_glob hC hE hz R hx hm hd (E_same F R H (hr.mono fun a o q => hz a o q))
theorem se_typ {x : Str} {t : String} {pos : Pos} (hC : C.Ok) (hx : ns.lookup x = some .globalImplicit) (hm : (x, Value.type t) ∈ used) (hd : (x == ("__debug__" : Str)) = false) : SE C K Φ ns (.Name x pos) (.typ t) := fun A env z σ s Q E _ hE hz F R H => by
  simp only [uE_typ] at H
  exact load_blt hC hE hz R hx hm hd (E_same F R H (by simp [VRel]))

theorem se_bin {l r : PySem.Expr} {ml mr : ME} {m : Bool} {op : Operator} {pos : Pos} (hl : SE C K Φ ns l ml) (hr : SE C K Φ ns r mr) : SE C K Φ ns (.BinOp l op r pos) (.bin m op ml mr) := fun A env z σ s Q E hA hE hz F R H => by
  simp only [uE_bin] at H
  refine wpAny_BinOp (wpAny_mono (hl A env z σ s _ E hA hE hz F R H) (fun x s₁ h₁ => ?_) fun _ _ e => e)
  obtain ⟨a, σ₁, z₁, q₁, v₁, F₁, R₁, e₁, X₁⟩ := h₁
  refine wpAny_mono (hr A env z₁ σ₁ s₁ _ E hA hE (hz.mono X₁.zle) F₁ R₁ q₁) (fun y s₂ h₂ => ?_) fun _ _ e => e
  obtain ⟨b, σ₂, z₂, q₂, v₂, F₂, R₂, e₂, X₂⟩ := h₂
  exact wpAny_mono (s_bin R₂ (v₁.mono X₂.zle) v₂ q₂) (fun v s₃ h₃ => (OutH.toE F₂ h₃).after (e₂.trans e₁) (X₁.trans X₂)) fun _ _ e => e

theorem se_neg {x : PySem.Expr} {mx : ME} {pos : Pos} (hx : SE C K Φ ns x mx) : SE C K Φ ns (.UnaryOp .USub x pos) (.neg mx) := fun A env z σ s Q E hA hE hz F R H => by
  simp only [uE_neg] at H
  refine PyProof.Rows.UnaryOp_ (wpAny_mono (hx A env z σ s _ E hA hE hz F R H) (fun x s₁ h₁ => ?_) fun _ _ e => e)
  obtain ⟨a, σ₁, z₁, q₁, v₁, F₁, R₁, e₁, X₁⟩ := h₁
  cases a <;> simp only at q₁
  simp only [VRel] at v₁; obtain ⟨t, rfl⟩ := v₁
  exact P.neg_int ((E_tok F₁ R₁ q₁ (vint _ _) _).after e₁ X₁)

theorem OutB.toE {env : Env} {z : Zh} {σ : St} {s : Shared} {Q : V → St → Prop} {val : Value} {s' : Shared} (F : FRep env z σ s) (h : OutB z σ.heap s (fun b => Q (.bool b) σ) val s') : OutE env z σ s Q val s' := by
  obtain ⟨b, rfl, q, R, X⟩ := h
  exact ⟨.bool b, σ, z, q, vbool b, F.ext X, R, rfl, X⟩

theorem se_cmp {l r : PySem.Expr} {ml mr : ME} {op : CmpOp} {pos : Pos} (hl : SE C K Φ ns l ml) (hr : SE C K Φ ns r mr) (hm : behindInMarks op r = false) : SE C K Φ ns (.Compare l [op] [r] pos) (.cmp op ml mr) := fun A env z σ s Q E hA hE hz F R H => by
  simp only [uE_cmp] at H
  refine wpAny_Compare1 (wpAny_mono (hl A env z σ s _ E hA hE hz F R H) (fun x s₁ h₁ => ?_) fun _ _ e => e) hm
  obtain ⟨a, σ₁, z₁, q₁, v₁, F₁, R₁, e₁, X₁⟩ := h₁
  refine wpAny_mono (hr A env z₁ σ₁ s₁ _ E hA hE (hz.mono X₁.zle) F₁ R₁ q₁) (fun y s₂ h₂ => ?_) fun _ _ e => e
  obtain ⟨b, σ₂, z₂, q₂, v₂, F₂, R₂, e₂, X₂⟩ := h₂
  have := hA.units
  exact wpAny_mono (s_cmp R₂ (by omega) (v₁.mono X₂.zle) v₂ q₂) (fun v s₃ h₃ => (OutB.toE F₂ h₃).after (e₂.trans e₁) (X₁.trans X₂)) fun _ _ e => e

theorem st_cmp {l r : PySem.Expr} {ml mr : ME} {op : CmpOp} {pos : Pos} (hl : SE C K Φ ns l ml) (hr : SE C K Φ ns r mr) (hm : behindInMarks op r = false) : ST C K Φ ns (.Compare l [op] [r] pos) (.cmp op ml mr) := fun A env z σ s Q E hA hE hz F R H => by
  simp only [uT_cmp] at H
  refine wpAny_isTrue_Compare1 (wpAny_mono (hl A env z σ s _ E hA hE hz F R H) (fun x s₁ h₁ => ?_) fun _ _ e => e) hm
  obtain ⟨a, σ₁, z₁, q₁, v₁, F₁, R₁, e₁, X₁⟩ := h₁
  refine wpAny_mono (hr A env z₁ σ₁ s₁ _ E hA hE (hz.mono X₁.zle) F₁ R₁ q₁) (fun y s₂ h₂ => ?_) fun _ _ e => e
  obtain ⟨b, σ₂, z₂, q₂, v₂, F₂, R₂, e₂, X₂⟩ := h₂
  have := hA.units
  refine wpAny_mono (s_cmp R₂ (by omega) (v₁.mono X₂.zle) v₂ q₂) (fun v s₃ h₃ => ?_) fun _ _ e => e
  obtain ⟨c, rfl, q, R₃, X₃⟩ := h₃
  have F₃ : FRep env z₂ σ₂ s₃ := F₂.ext X₃
  exact wpAny_truthy_bool ⟨σ₂, z₂, q, F₃, R₃, e₂.trans e₁, (X₁.trans X₂).trans X₃⟩

theorem st_not {x : PySem.Expr} {t : MT} {pos : Pos} (hx : ST C K Φ ns x t) : ST C K Φ ns (.UnaryOp .Not x pos) (.not t) := fun A env z σ s Q E hA hE hz F R H => by
  simp only [uT_not] at H
  refine PyProof.Rows.isTrue_not (wpAny_mono (hx A env z σ s _ E hA hE hz F R H) (fun x s₁ h₁ => ?_) fun _ _ e => e)
  obtain ⟨σ₁, z₁, q₁, r₁⟩ := h₁
  exact ⟨σ₁, z₁, q₁, r₁⟩

theorem st_and_nil {pos : Pos} : ST C K Φ ns (.BoolOp .And [] pos) (.and .nil) := fun A env z σ s Q E hA hE hz F R H => by
  simp only [uT_and, uA_nil] at H
  exact PyProof.Rows.isTrue_and_nil ⟨σ, z, H, F, R, rfl, Ext.refl _ _ _⟩
theorem st_and_cons {x : PySem.Expr} {rest : List PySem.Expr} {t : MT} {ts : MTs} {pos : Pos} (hx : ST C K Φ ns x t) (hr : ST C K Φ ns (.BoolOp .And rest pos) (.and ts)) : ST C K Φ ns (.BoolOp .And (x :: rest) pos) (.and (.cons t ts)) := fun A env z σ s Q E hA hE hz F R H => by
  simp only [uT_and, uA_cons] at H
  refine PyProof.Rows.isTrue_and (wpAny_mono (hx A env z σ s _ E hA hE hz F R H) (fun b s₁ h₁ => ?_) fun _ _ e => e)
  obtain ⟨σ₁, z₁, q₁, F₁, R₁, e₁, X₁⟩ := h₁
  cases b with
  | false =>
    simp only [Bool.false_eq_true, if_false] at q₁ ⊢
    exact ⟨σ₁, z₁, q₁, F₁, R₁, e₁, X₁⟩
  | true =>
    simp only [if_true] at q₁ ⊢
    exact wpAny_mono (hr A env z₁ σ₁ s₁ Q E hA hE (hz.mono X₁.zle) F₁ R₁ q₁) (fun b s₂ h₂ => h₂.after e₁ X₁) fun _ _ e => e
theorem st_or_nil {pos : Pos} : ST C K Φ ns (.BoolOp .Or [] pos) (.or .nil) := fun A env z σ s Q E hA hE hz F R H => by
  simp only [uT_or, uO_nil] at H
  exact PyProof.Rows.isTrue_or_nil ⟨σ, z, H, F, R, rfl, Ext.refl _ _ _⟩
theorem st_or_cons {x : PySem.Expr} {rest : List PySem.Expr} {t : MT} {ts : MTs} {pos : Pos} (hx : ST C K Φ ns x t) (hr : ST C K Φ ns (.BoolOp .Or rest pos) (.or ts)) : ST C K Φ ns (.BoolOp .Or (x :: rest) pos) (.or (.cons t ts)) := fun A env z σ s Q E hA hE hz F R H => by
  simp only [uT_or, uO_cons] at H
  refine PyProof.Rows.isTrue_or (wpAny_mono (hx A env z σ s _ E hA hE hz F R H) (fun b s₁ h₁ => ?_) fun _ _ e => e)
  obtain ⟨σ₁, z₁, q₁, F₁, R₁, e₁, X₁⟩ := h₁
  cases b with
  | true =>
    simp only [if_true] at q₁ ⊢
    exact ⟨σ₁, z₁, q₁, F₁, R₁, e₁, X₁⟩
  | false =>
    simp only [Bool.false_eq_true, if_false] at q₁ ⊢
    exact wpAny_mono (hr A env z₁ σ₁ s₁ Q E hA hE (hz.mono X₁.zle) F₁ R₁ q₁) (fun b s₂ h₂ => h₂.after e₁ X₁) fun _ _ e => e

noncomputable def plainTest : PySem.Expr → Bool
  | .UnaryOp .. => false
  | .BoolOp .. => false
  | .IfExp .. => false
  | .Compare .. => false
  | _ => true
theorem isTrue_of_plain {e : PySem.Expr} {env : Env} {whole : Sem Value} (h : plainTest e = true) : isTrue e env whole = (do let v ← whole; standAt e.pos; holding [v] (truthy v)) := by
  cases e <;> first | rfl | (exact nomatch (show false = true from h))
theorem st_val {e : PySem.Expr} {me : ME} (he : SE C K Φ ns e me) (hp : plainTest e = true) : ST C K Φ ns e (.val me) := fun A env z σ s Q E hA hE hz F R H => by
  simp only [uT_val] at H
  refine PyProof.Rows.isTrue_plain (wpAny_mono (he A env z σ s _ E hA hE hz F R H) (fun x s₁ h₁ => ?_) fun _ _ e => e) (isTrue_of_plain hp)
  obtain ⟨a, σ₁, z₁, q₁, v₁, F₁, R₁, e₁, X₁⟩ := h₁
  cases a <;> simp only at q₁
  simp only [VRel] at v₁; subst v₁
  exact wpAny_truthy_bool ⟨σ₁, z₁, q₁, F₁, R₁, e₁, X₁⟩

/-! lists of expressions -/
noncomputable def SEs (C : Ctx) (K : Nat) (Φ : FEnv) (ns : List (Str × NameKind)) (es : List PySem.Expr) (mes : MEs) : Prop :=
  ∀ A env z σ s Q E pos, Room K A → EnvOk env ns → C.In z → FRep env z σ s → HRep z σ.heap s → wpEs Φ C.G mes σ Q → wpAny (model C.prog C.w) A (spliced (backTo pos (starEach es env))) (OutEs env z σ s Q) E s
noncomputable def notStar : PySem.Expr → Bool
  | .Starred .. => false
  | _ => true
theorem starEach_cons {e : PySem.Expr} {rest : List PySem.Expr} {env : Env} (h : notStar e = true) : starEach (e :: rest) env = (false, eval e env) :: starEach rest env := by
  cases e <;> first | rfl | (exact nomatch (show false = true from h))
theorem ses_nil : SEs C K Φ ns [] .nil := fun A env z σ s Q E pos hA hE hz F R H => by
  simp only [uEs_nil] at H
  exact PyProof.Rows.args_nil ⟨[], σ, z, H, VRels.nil, F, R, rfl, Ext.refl _ _ _⟩
theorem ses_cons {e : PySem.Expr} {rest : List PySem.Expr} {me : ME} {mes : MEs} (he : SE C K Φ ns e me) (hr : SEs C K Φ ns rest mes) (hs : notStar e = true) : SEs C K Φ ns (e :: rest) (.cons me mes) := fun A env z σ s Q E pos hA hE hz F R H => by
  simp only [uEs_cons] at H
  refine PyProof.Rows.args_cons (wpAny_mono (he A env z σ s _ E hA hE hz F R H) (fun x s₁ h₁ => ?_) fun _ _ e => e) (starEach_cons hs)
  obtain ⟨a, σ₁, z₁, q₁, v₁, F₁, R₁, e₁, X₁⟩ := h₁
  refine wpAny_mono (hr A env z₁ σ₁ s₁ _ E pos hA hE (hz.mono X₁.zle) F₁ R₁ q₁) (fun ys s₂ h₂ => ?_) fun _ _ e => e
  obtain ⟨vs, σ₂, z₂, q₂, v₂, F₂, R₂, e₂, X₂⟩ := h₂
  exact ⟨_, σ₂, z₂, q₂, VRels.cons (v₁.mono X₂.zle) v₂, F₂, R₂, e₂.trans e₁, X₁.trans X₂⟩

theorem se_list {es : List PySem.Expr} {mes : MEs} {m : Bool} {pos : Pos} (h : SEs C K Φ ns es mes) : SE C K Φ ns (.List es pos) (.list m mes) := fun A env z σ s Q E hA hE hz F R H => by
  simp only [uE_list] at H
  refine PyProof.Rows.List_ (wpAny_mono (h A env z σ s _ E pos hA hE hz F R H) (fun ys s₁ h₁ => ?_) fun _ _ e => e)
  obtain ⟨vs, σ₁, z₁, q₁, v₁, F₁, R₁, e₁, X₁⟩ := h₁
  have hsz : ys.toArray.size ≤ sizeLine := by
    rw [List.size_toArray, v₁.length]; exact lenOk_size q₁.1
  refine wpAny_newObj_type ?_ hsz
  exact (OutH.toE F₁ (out_mk R₁ q₁ (by rw [List.toList_toArray]; exact v₁) s₁.toks)).after e₁ X₁

theorem se_tup {es : List PySem.Expr} {mes : MEs} {k : Nat} {pos : Pos} (h : SEs C K Φ ns es mes) : SE C K Φ ns (.Tuple es k pos) (.tup mes) := fun A env z σ s Q E hA hE hz F R H => by
  simp only [uE_tup] at H
  refine PyProof.Rows.Tuple_ (wpAny_mono (h A env z σ s _ E pos hA hE hz F R H) (fun ys s₁ h₁ => ?_) fun _ _ e => e)
  obtain ⟨vs, σ₁, z₁, q₁, v₁, F₁, R₁, e₁, X₁⟩ := h₁
  have hsz : ys.toArray.size ≤ sizeLine := by
    rw [List.size_toArray, v₁.length]; exact lenOk_size q₁.1
  refine wpAny_newObj_type ?_ hsz
  obtain ⟨R', X⟩ := R₁.freshZ { cls := .type "tuple", data := .seq ys.toArray } s₁.toks
  refine (OutH.toE F₁ (Q := Q) ⟨.tup vs, σ₁.heap, _, q₁.2, ?_, R', X⟩).after e₁ X₁
  simp only [VRel]
  exact ⟨_, _, 0, rfl, Zh.set_self _ _ _, hsz, by rw [List.toList_toArray]; exact v₁.mono X.zle⟩

theorem se_dict0 {pos : Pos} : SE C K Φ ns (.Dict [] [] pos) .dict0 := fun A env z σ s Q E hA hE hz F R H => by
  simp only [uE_dict0] at H
  rw [eval_Dict_empty]
  refine wpAny_bind (wpAny_standAt ?_)
  refine wpAny_newObj_type ?_ (by size_fits)
  have hnone : s.heap.get? s.heap.objs.size = none := by
    cases q : s.heap.get? s.heap.objs.size with
    | none => rfl
    | some o' => exact absurd (Heap.lt_size q) (Nat.lt_irrefl _)
  obtain ⟨h0, R', X⟩ := R.freshH (s' := { s with heap := s.heap.push { cls := .type "dict", data := .dict #[] } }) (r := s.heap.objs.size) (o := .dict 0 []) (ob := { cls := .type "dict", data := .dict #[] })
    ⟨_, _, rfl⟩ (fun b o e => Heap.get?_push_of_some _ e) hnone (Heap.get?_push_size _ rfl) ⟨#[], 0, rfl, rfl, fun _ he => by simp at he, by simp, fun k v hk => by simp at hk, fun k _ => rfl⟩
  exact OutH.toE F ⟨.ref s.heap.objs.size, _, z, H _ h0, by simp [VRel], R', X⟩

end
end Mine

namespace Mine
open PySem

section
variable {C : Ctx} {K : Nat} {Φ : FEnv} {ns : List (Str × NameKind)}

theorem plainArgs {pos : Pos} {env : Env} : ∀ {es : List PySem.Expr}, es.all notStar = true → (backTo pos (starEach es env)).any (·.1) = false
  | [], _ => rfl
  | e :: r, h => by
    simp only [List.all_cons, Bool.and_eq_true] at h
    rw [starEach_cons h.1]
    show (false || (backTo pos (starEach r env)).any (·.1)) = false
    rw [plainArgs h.2]; rfl

theorem evalArgs_ses {M : Model} {A : Around} {E : Value → Shared → Prop} {s : Shared} {env : Env} {f : Value} {es : List PySem.Expr} {pos : Pos} {Q : List Value → Shared → Prop} (hs : es.all notStar = true)
    (h : wpAny M A (spliced (backTo pos (starEach es env))) Q E s) : wpAny M A (evalArgs f true (backTo pos (starEach es env)) []) (fun a s' => a.kw = [] ∧ Q a.pos s') E s := by
  cases es with
  | nil =>
    unfold evalArgs
    show wpAny M A (spliced [] >>= _) _ E s
    refine wpAny_bind (wpAny_mono h (fun vs s' h' => wpAny_bind (wpAny_pure ?_)) fun _ _ x => x)
    refine wpAny_holding ?_
    exact wpAny_bind (wpAny_pure (wpAny_bind (wpAny_pure (wpAny_pure ⟨rfl, h'⟩))))
  | cons e r =>
    simp only [List.all_cons, Bool.and_eq_true] at hs
    rw [starEach_cons hs.1] at h ⊢
    exact Calls.evalArgs_plain (wpAny_mono h (fun vs s' q => ⟨rfl, q⟩) fun _ _ x => x)

theorem se_call {f : Str} {fpos pos : Pos} {es : List PySem.Expr} {mes : MEs} (hC : C.Ok) (hΦ : SPhi C K Φ) (hx : ns.lookup f = some .globalImplicit) (hf : f ∈ C.fns) (hd : (f == ("__debug__" : Str)) = false) (hes : SEs C K Φ ns es mes) (hs : es.all notStar = true) :
    SE C K Φ ns (.Call (.Name f fpos) es [] pos) (.call f mes) := fun A env z σ s Q E hA hE hz F R H => by
  simp only [uE_call] at H
  obtain ⟨a, o, fd, hm, ho, hdat⟩ := hC.fn f hf
  refine PyProof.Rows.Call_ (load_glob hC hE hz R hx hm hd ?_)
  refine Calls.callWith_function (o := o) (fd := fd) (wpAny_mono (evalArgs_ses hs (hes A env z σ s _ E pos hA hE hz F R H)) (fun ar s₁ h₁ => ?_) fun _ _ e => e)
  obtain ⟨hk, vs, σ₁, z₁, q₁, v₁, F₁, R₁, e₁, X₁⟩ := h₁
  refine ⟨⟨heap_in (hz.mono X₁.zle) R₁ _ _ ho, hdat⟩, ?_⟩
  rw [hk]
  exact wpAny_mono (hΦ f vs σ₁.heap _ q₁ a hm A z₁ s₁ ar.pos E hA (hz.mono X₁.zle) R₁ v₁) (fun v s₂ h₂ => (OutH.toE F₁ h₂).after e₁ X₁) fun _ _ e => e

noncomputable def prName : Pr → Str
  | .len => "len" | .range => "range" | .type => "type" | .max => "max" | .min => "min" | .list => "list" | .chr => "chr" | .str => "str" | .dict => "dict"
  | .int => "int"
theorem prUsed (p : Pr) : (prName p, prVal p) ∈ used := by
  cases p <;> first | exact .head _ | exact .tail _ (.head _) | exact .tail _ (.tail _ (.head _)) | exact .tail _ (.tail _ (.tail _ (.head _))) | exact .tail _ (.tail _ (.tail _ (.tail _ (.head _)))) | exact .tail _ (.tail _ (.tail _ (.tail _ (.tail _ (.head _))))) | exact .tail _ (.tail _ (.tail _ (.tail _ (.tail _ (.tail _ (.head _)))))) | exact .tail _ (.tail _ (.tail _ (.tail _ (.tail _ (.tail _ (.tail _ (.head _))))))) | exact .tail _ (.tail _ (.tail _ (.tail _ (.tail _ (.tail _ (.tail _ (.tail _ (.head _)))))))) | exact List.mem_of_getElem? (i := 9) rfl
theorem prDebug (p : Pr) : (prName p == ("__debug__" : Str)) = false := by cases p <;> decide

theorem callWith_prim {A : Around} {E : Value → Shared → Prop} {s : Shared} {p : Pr} {pos : Pos} {args : List (Bool × Sem Value)} {Q : Value → Shared → Prop} {M : Model} (hplain : args.any (·.1) = false)
    (h : wpAny M A (evalArgs (prVal p) true args []) (fun a s₁ => wpAny M A (call (prVal p) a.pos a.kw) Q E s₁) E s) : wpAny M A (callWith pos (prVal p) [] args []) Q E s := by
  cases p with
  | len => exact Calls.callWith_builtin (id := "len") hplain h
  | max => exact Calls.callWith_builtin (id := "max") hplain h
  | min => exact Calls.callWith_builtin (id := "min") hplain h
  | chr => exact Calls.callWith_builtin (id := "chr") hplain h
  | range => exact PyProof.Rows.callWith_type (T := "range") hplain h
  | type => exact PyProof.Rows.callWith_type (T := "type") hplain h
  | list => exact PyProof.Rows.callWith_type (T := "list") hplain h
  | str => exact PyProof.Rows.callWith_type (T := "str") hplain h
  | dict => exact PyProof.Rows.callWith_type (T := "dict") hplain h
  | int => exact PyProof.Rows.callWith_type (T := "int") hplain h

theorem se_prim {p : Pr} {fpos pos : Pos} {es : List PySem.Expr} {mes : MEs} (hC : C.Ok) (hx : ns.lookup (prName p) = some .globalImplicit) (hes : SEs C K Φ ns es mes) (hs : es.all notStar = true) :
    SE C K Φ ns (.Call (.Name (prName p) fpos) es [] pos) (.prim p mes) := fun A env z σ s Q E hA hE hz F R H => by
  simp only [uE_prim] at H
  refine PyProof.Rows.Call_ (load_blt hC hE hz R hx (prUsed p) (prDebug p) ?_)
  refine callWith_prim (plainArgs hs) (wpAny_mono (evalArgs_ses hs (hes A env z σ s _ E pos hA hE hz F R H)) (fun ar s₁ h₁ => ?_) fun _ _ e => e)
  obtain ⟨hk, vs, σ₁, z₁, q₁, v₁, F₁, R₁, e₁, X₁⟩ := h₁
  rw [hk]
  exact wpAny_mono (s_prim R₁ hA.hand v₁ q₁) (fun v s₂ h₂ => (OutH.toE F₁ h₂).after e₁ X₁) fun _ _ e => e

noncomputable def notSlice : PySem.Expr → Bool
  | .Slice .. => false
  | _ => true
theorem subscripted_plain {slice : PySem.Expr} {o i : Value} (h : notSlice slice = true) : subscripted slice false o i = operate [o, i] (getItem o i) := by
  cases slice <;> first | rfl | (exact nomatch (show false = true from h))

theorem OutH.toE' {env : Env} {z : Zh} {σ : St} {s : Shared} {Q : V → St → Prop} {val : Value} {s' : Shared} (F : FRep env z σ s) (h : OutH z σ.heap s (fun v h => h = σ.heap ∧ Q v σ) val s') : OutE env z σ s Q val s' := by
  obtain ⟨v, h', z', ⟨rfl, q⟩, hv, R, X⟩ := h
  exact ⟨v, σ, z', q, hv, F.ext X, R, rfl, X⟩

theorem se_item {o i : PySem.Expr} {mo mi : ME} {pos : Pos} (ho : SE C K Φ ns o mo) (hi : SE C K Φ ns i mi) (hn : notSlice i = true) : SE C K Φ ns (.Subscript o i pos) (.item mo mi) := fun A env z σ s Q E hA hE hz F R H => by
  simp only [uE_item] at H
  refine PyProof.Rows.Subscript_ (wpAny_mono (ho A env z σ s _ E hA hE hz F R H) (fun x s₁ h₁ => ?_) fun _ _ e => e)
  obtain ⟨a, σ₁, z₁, q₁, v₁, F₁, R₁, e₁, X₁⟩ := h₁
  refine wpAny_mono (hi A env z₁ σ₁ s₁ _ E hA hE (hz.mono X₁.zle) F₁ R₁ q₁) (fun y s₂ h₂ => ?_) fun _ _ e => e
  obtain ⟨b, σ₂, z₂, q₂, v₂, F₂, R₂, e₂, X₂⟩ := h₂
  obtain ⟨⟨T, id, hT, hl⟩, hg⟩ := s_item (prog := C.prog) (w := C.w) (A := A) (E := E) R₂ (v₁.mono X₂.zle) v₂ q₂
  exact PyProof.Rows.tail_any hT hl (wpAny_mono hg (fun v s₃ h₃ => (OutH.toE' F₂ h₃).after (e₂.trans e₁) (X₁.trans X₂)) fun _ _ e => e) (subscripted_plain hn)

/-! slices -/
noncomputable def SEo (C : Ctx) (K : Nat) (Φ : FEnv) (ns : List (Str × NameKind)) (e : Option PySem.Expr) (me : ME) : Prop :=
  ∀ A env z σ s Q E, Room K A → EnvOk env ns → C.In z → FRep env z σ s → HRep z σ.heap s → wpE Φ C.G me σ Q → wpAny (model C.prog C.w) A (valueOrNone (evalOpt e env)) (OutE env z σ s Q) E s
theorem seo_none : SEo C K Φ ns none .none := fun A env z σ s Q E _ _ _ F R H =>
  wpAny_pure (E_same F R H (by simp [VRel]))
theorem seo_some {e : PySem.Expr} {me : ME} (h : SE C K Φ ns e me) : SEo C K Φ ns (some e) me := fun A env z σ s Q E hA hE hz F R H => h A env z σ s Q E hA hE hz F R H

theorem se_slice {o : PySem.Expr} {lo hi : Option PySem.Expr} {mo ml mh : ME} {p pos : Pos} (ho : SE C K Φ ns o mo) (hl : SEo C K Φ ns lo ml) (hh : SEo C K Φ ns hi mh) :
    SE C K Φ ns (.Subscript o (.Slice lo hi none p) pos) (.slice mo ml mh) := fun A env z σ s Q E hA hE hz F R H => by
  simp only [uE_slice] at H
  refine PyProof.Rows.Subscript_ (wpAny_mono (ho A env z σ s _ E hA hE hz F R H) (fun x s₁ h₁ => ?_) fun _ _ e => e)
  obtain ⟨a, σ₁, z₁, q₁, v₁, F₁, R₁, e₁, X₁⟩ := h₁
  rw [arm_eval_Slice]
  refine wpAny_bind (wpAny_mono (hl A env z₁ σ₁ s₁ _ E hA hE (hz.mono X₁.zle) F₁ R₁ q₁) (fun y s₂ h₂ => ?_) fun _ _ e => e)
  obtain ⟨b, σ₂, z₂, q₂, v₂, F₂, R₂, e₂, X₂⟩ := h₂
  refine wpAny_bind (wpAny_holding (wpAny_mono (hh A env z₂ σ₂ s₂ _ E hA hE ((hz.mono X₁.zle).mono X₂.zle) F₂ R₂ q₂) (fun y' s₃ h₃ => ?_) fun _ _ e => e))
  obtain ⟨c, σ₃, z₃, q₃, v₃, F₃, R₃, e₃, X₃⟩ := h₃
  refine wpAny_bind (wpAny_holding (wpAny_pure ?_))
  refine wpAny_newObj_type ?_ (by size_fits)
  obtain ⟨⟨T, id, hT, hl⟩, hg⟩ := s_slice (prog := C.prog) (w := C.w) (A := A) (E := E) R₃ (v₁.mono (X₂.zle.trans X₃.zle)) (v₂.mono X₃.zle) v₃ q₃
  exact PyProof.Rows.tail_any hT hl (wpAny_mono hg (fun v s₄ h₄ => (OutH.toE' F₃ h₄).after (e₃.trans (e₂.trans e₁)) ((X₁.trans X₂).trans X₃)) fun _ _ e => e) rfl

/-! append -/
noncomputable def notSuper : PySem.Expr → Bool
  | .Call .. => false
  | _ => true
theorem base_plain {o : PySem.Expr} {n : Str} {env : Env} {whole : Sem Value} (h : notSuper o = true) : attributeBase o n env whole = whole := by
  cases o <;> first | rfl | (exact nomatch (show false = true from h))

theorem se_append {o e : PySem.Expr} {mo me : ME} {apos pos : Pos} (ho : SE C K Φ ns o mo) (he : SE C K Φ ns e me) (hs : notStar e = true) (hb : notSuper o = true) (hline : (apos.endLine == pos.line) = true) :
    SE C K Φ ns (.Call (.Attribute o "append" apos) [e] [] pos) (.append mo me) := fun A env z σ s Q E hA hE hz F R H => by
  simp only [uE_append] at H
  have hst := starEach_cons (rest := []) (env := env) hs
  refine wpAny_Call_append (base_plain hb) (by rw [hst]; rfl) hline (by rw [hst]; rfl) (wpAny_mono (ho A env z σ s _ E hA hE hz F R H) (fun x s₁ h₁ => ?_) fun _ _ e => e)
  obtain ⟨a, σ₁, z₁, q₁, v₁, F₁, R₁, e₁, X₁⟩ := h₁
  cases a <;> simp only at q₁
  rename_i r
  simp only [VRel] at v₁; subst v₁
  obtain ⟨hl, q₁⟩ := q₁
  cases e0 : σ₁.heap r with
  | none => rw [e0] at hl; exact hl.elim
  | some o0 =>
    cases o0 with
    | dict n es => rw [e0] at hl; exact hl.elim
    | list vs0 =>
      obtain ⟨ob, h1, items, n, rfl, h3, h4⟩ := R₁.obj r _ e0
      refine ⟨r, items, rfl, ⟨_, n, h1, rfl, rfl, rfl⟩, ?_⟩
      refine wpAny_mono (he A env z₁ σ₁ s₁ _ E hA hE (hz.mono X₁.zle) F₁ R₁ q₁) (fun y s₂ h₂ => ?_) fun _ _ e => e
      obtain ⟨b, σ₂, z₂, q₂, v₂, F₂, R₂, e₂, X₂⟩ := h₂
      cases e3 : σ₂.heap r with
      | none => rw [e3] at q₂; exact q₂.elim
      | some o3 =>
        cases o3 with
        | dict n es => rw [e3] at q₂; exact q₂.elim
        | list vs =>
          rw [e3] at q₂
          obtain ⟨hlen, q₂⟩ := q₂
          refine s_append R₂ e3 v₂ hlen fun s₃ R₃ X₃ => ?_
          exact ⟨.none, _, z₂, q₂, by simp [VRel], F₂.ext X₃, R₃, e₂.trans e₁, (X₁.trans X₂).trans X₃⟩

end
end Mine

namespace Mine
open PySem

noncomputable def ownedIt : List String := ["enumerate", "zip", "dict_itemiterator", "dict_reverseitemiterator", "odict_iterator", "itertools.zip_longest", "itertools.pairwise"]
structure It (prog : Program) (w : World) (A : Around) (z : Zh) (vs : List V) (I : Addr) (St : Nat → Heap → Prop) : Prop where
  ex : ∀ i h, St i h → ∃ o n, h.get? I = some o ∧ o.cls = .type n ∧ ownedIt.contains n = false
  frame : ∀ i h h', St i h → (∀ o, h.get? I = some o → h'.get? I = some o) → (∀ a o, z a = some o → h.get? a = some o) → (∀ a o, z a = some o → h'.get? a = some o) → St i h'
  item : ∀ i v (s : Shared) (Q : Option Value → Shared → Prop) (E : Value → Shared → Prop), vs[i]? = some v → St i s.heap →
    (∀ val h' tk, VRel z v val → St (i + 1) h' → (∀ b o, b ≠ I → s.heap.get? b = some o → h'.get? b = some o) → Q (some val) { s with heap := h', toks := tk }) → wpAny (model prog w) A (pyNext (.ref I)) Q E s
  done : ∀ (s : Shared) (Q : Option Value → Shared → Prop) (E : Value → Shared → Prop), St vs.length s.heap →
    (∀ h' tk, (∀ b o, b ≠ I → s.heap.get? b = some o → h'.get? b = some o) → Q none { s with heap := h', toks := tk }) → wpAny (model prog w) A (pyNext (.ref I)) Q E s
  self : ∀ i (s : Shared) (Q : Value → Shared → Prop) (E : Value → Shared → Prop), St i s.heap → Q (.ref I) s → wpAny (model prog w) A (pyIter (.ref I)) Q E s

section
variable {prog : Program} {w : World} {A : Around} {E : Value → Shared → Prop} {s : Shared} {z : Zh} {h : Hp}

theorem It.ofWalks {I : Addr} {fp : List Addr} {n : Nat} {P : Nat → Value → Prop} {St : Nat → Heap → Prop} {vs : List V} (W : Walks prog w A I fp [I] n P St) (hn : n = vs.length)
    (hP : ∀ i v x, vs[i]? = some v → P i x → VRel z v x) (hex : ∀ i h, St i h → ∃ o n, h.get? I = some o ∧ o.cls = .type n ∧ ownedIt.contains n = false)
    (hfp : ∀ b ∈ fp, b = I ∨ ∃ o, z b = some o) : It prog w A z vs I St where
  ex := hex
  frame := fun i h h' st hI hz hz' => W.frame i h h' st fun b hb o e => by
    rcases hfp b hb with rfl | ⟨o', e1⟩
    · exact hI o e
    · rw [hz b o' e1] at e; cases e; exact hz' b _ e1
  item := fun i v s Q E hv st hQ => W.item i s Q E (by rw [hn]; exact (List.getElem?_eq_some_iff.mp hv).1) st fun x h' tk hp st' hk => hQ x h' tk (hP i v x hv hp) st' fun b o hb e => hk b o (by simpa using hb) e
  done := fun s Q E st hQ => W.done s Q E (hn ▸ st) fun h' tk hk => hQ h' tk fun b o hb e => hk b o (by simpa using hb) e
  self := W.self

theorem go_plain {tg : PySem.Expr} {I : Addr} {x : Value} {o : Obj} {n : String} {Q : Unit → Shared → Prop} (ho : s.heap.get? I = some o) (hc : o.cls = .type n) (hn : ownedIt.contains n = false) (hQ : Q () s) : wpAny (model prog w) A (letOwnedTupleGo tg (.ref I) x) Q E s := by
  unfold letOwnedTupleGo
  have key : ∀ a, wpAny (model prog w) A (do
      let o ← load I
      match o.cls, o.data with
      | .type n, .fields vs =>
        if ["enumerate", "zip", "dict_itemiterator", "dict_reverseitemiterator", "odict_iterator", "itertools.zip_longest", "itertools.pairwise"].contains n && vs[0]? == some (rawInt a) then
          rule "for.unpacks-the-owned-tuple"
          updateField I 0 .none
      | _, _ => pure ()) Q E s := by
    intro a
    refine wpAny_bind (wpAny_load ho ?_)
    rw [hc]
    split
    · rename_i n' vs e1 e2
      cases e1
      rw [if_neg (by unfold ownedIt at hn; rw [hn]; simp)]
      exact wpAny_pure hQ
    · exact wpAny_pure hQ
  split
  · cases x <;> first | exact key _ | exact wpAny_pure hQ
  · cases x <;> first | exact key _ | exact wpAny_pure hQ
  · exact wpAny_pure hQ
theorem size_fresh (s : Shared) : s.heap.get? s.heap.objs.size = none := by
  cases q : s.heap.get? s.heap.objs.size with
  | none => rfl
  | some o' => exact absurd (Heap.lt_size q) (Nat.lt_irrefl _)

theorem iter_it {v : V} {x : Value} {vs : List V} {Q : Value → Shared → Prop} (hh : A.handled = none) (R : HRep z h s) (hv : VRel z v x) (e : iter? h v = some vs)
    (H : ∀ o St, It prog w A z vs s.heap.objs.size St → St 0 (s.heap.push o) → o.isFreed = false → Q (.ref s.heap.objs.size) { s with heap := s.heap.push o }) : wpAny (model prog w) A (pyIter x) Q E s := by
  cases v with
  | list ws =>
    simp only [iter?, Option.some.injEq] at e; subst e
    simp only [VRel] at hv
    obtain ⟨a, items, n, rfl, ha, hs, hr⟩ := hv
    have ho := R.zsub _ _ ha
    have hl : s.heap.IsList a items := IsL.isList ho
    have hne : a ≠ s.heap.objs.size := Nat.ne_of_lt (Heap.lt_size ho)
    refine wpAny_pyIter_list hl (H _ _ (It.ofWalks (Walks.list hh s.heap.objs.size a hne items) (by rw [← hr.length, Array.length_toList]) ?_ ?_ ?_) ⟨⟨_, Heap.get?_push_size _ rfl, rfl, rfl⟩, hl.push _⟩ rfl)
    · intro i v x hv hx
      obtain ⟨y, hy, hvr⟩ := hr.get hv
      rw [Array.getElem?_toList, hx] at hy; cases hy; exact hvr
    · rintro i h ⟨⟨o, ho, hc, _⟩, _⟩; exact ⟨o, _, ho, hc, by decide⟩
    · intro b hb
      rcases List.mem_cons.mp hb with rfl | hb
      · exact .inl rfl
      · have := List.mem_singleton.mp hb; subst this
        exact .inr ⟨_, ha⟩
  | tup ws =>
    simp only [iter?, Option.some.injEq] at e; subst e
    simp only [VRel] at hv
    obtain ⟨a, items, n, rfl, ha, hs, hr⟩ := hv
    have ho := R.zsub _ _ ha
    have hl : s.heap.IsTuple a items := ⟨_, ho, rfl, n, rfl⟩
    have hne : a ≠ s.heap.objs.size := Nat.ne_of_lt (Heap.lt_size ho)
    refine wpAny_pyIter_tuple hl (H _ _ (It.ofWalks (Walks.tuple hh s.heap.objs.size a hne items) (by rw [← hr.length, Array.length_toList]) ?_ ?_ ?_) ⟨⟨_, Heap.get?_push_size _ rfl, rfl, rfl⟩, hl.push _⟩ rfl)
    · intro i v x hv hx
      obtain ⟨y, hy, hvr⟩ := hr.get hv
      rw [Array.getElem?_toList, hx] at hy; cases hy; exact hvr
    · rintro i h ⟨⟨o, ho, hc, _⟩, _⟩; exact ⟨o, _, ho, hc, by decide⟩
    · intro b hb
      rcases List.mem_cons.mp hb with rfl | hb
      · exact .inl rfl
      · have := List.mem_singleton.mp hb; subst this
        exact .inr ⟨_, ha⟩
  | rng a b c =>
    simp only [iter?, Option.some.injEq] at e; subst e
    simp only [VRel] at hv
    obtain ⟨r, t, u, w', rfl, hb, ha⟩ := hv
    have ho := R.zsub _ _ ha
    have hge : 0 ≤ Builtin.Range.rangeSize a b c := by
      unfold Builtin.Range.rangeSize
      split
      · split
        · have := Int.ediv_nonneg (a := b - a - 1) (b := c) (by omega) (by omega); omega
        · omega
      · split
        · have := Int.ediv_nonneg (a := a - b - 1) (b := -c) (by omega) (by omega); omega
        · omega
    have hle : Builtin.Range.rangeSize a b c ≤ 2000000 := by
      unfold Builtin.Range.rangeSize
      split
      · split
        · have := Int.ediv_le_self (a := b - a - 1) c (by omega); omega
        · omega
      · split
        · have := Int.ediv_le_self (a := a - b - 1) (-c) (by omega); omega
        · omega
    have hsm : Builtin.Range.small a b c = true := by
      unfold Builtin.Range.small
      simp only [Builtin.Range.rangeFitsLong, Bool.and_eq_true, Bool.or_eq_true, decide_eq_true_eq, beq_iff_eq]
      refine ⟨⟨⟨⟨?_, ?_⟩, ?_⟩, ?_⟩, .inr ?_⟩
      · omega
      · omega
      · omega
      · omega
      · split <;> simp only [Bool.and_eq_true, decide_eq_true_eq] <;> omega
    have hn : ((rangeN a b c : Nat) : Int) = Builtin.Range.rangeSize a b c := by unfold rangeN; omega
    refine wpAny_pyIter_range ho hsm (H _ _ (It.ofWalks (Walks.range hh s.heap.objs.size a c (rangeN a b c)) (by simp [rangeL]) ?_ ?_ ?_) ?_ rfl)
    · rintro i v x hv ⟨t, rfl⟩
      simp only [rangeL, List.map_map, List.getElem?_map, Option.map_eq_some_iff] at hv
      obtain ⟨k, hk, rfl⟩ := hv
      have : k = i := by
        have := List.getElem?_eq_some_iff.mp hk
        obtain ⟨h1, h2⟩ := this
        simpa using h2.symm
      subst this
      exact vint _ _
    · intro i h st; exact ⟨_, _, st, rfl, by decide⟩
    · intro b hb; exact .inl (List.mem_singleton.mp hb)
    · show IsRangeIter _ _ _ _ _
      rw [hn]; simpa using Heap.get?_push_size _ rfl
  | str st =>
    simp only [iter?, Option.some.injEq] at e; subst e
    simp only [VRel] at hv
    obtain ⟨⟨o1, o2⟩, t, rfl⟩ := hv
    have hP : ∀ i v x, (st.cps.toList.map fun c => V.str ⟨#[c]⟩)[i]? = some v → SignAt st i x → VRel z v x := by
      rintro i v x hv ⟨c, u, hc, rfl⟩
      simp only [List.getElem?_map, Option.map_eq_some_iff] at hv
      obtain ⟨c', hc', rfl⟩ := hv
      rw [Array.getElem?_toList, hc] at hc'; cases hc'
      refine vstr ?_ (by show 1 ≤ sizeLine; decide)
      rw [strOk_mem] at o1 ⊢
      intro c' hc'
      simp at hc'; subst hc'
      exact o1 c' (by rw [Array.mem_toList_iff]; exact Array.mem_of_getElem? hc)
    cases ha : st.cps.all (· < 128)
    · exact wpAny_pyIter_wide ha (H _ _ (It.ofWalks (Walks.strWide hh _ st t) (by simp) hP (fun i h ⟨o, ho, hc, _⟩ => ⟨o, _, ho, hc, by decide⟩) fun b hb => .inl (List.mem_singleton.mp hb)) ⟨_, Heap.get?_push_size _ rfl, rfl, rfl⟩ rfl)
    · exact wpAny_pyIter_ascii ha (H _ _ (It.ofWalks (Walks.strAscii hh _ st t) (by simp) hP (fun i h ⟨o, ho, hc, _⟩ => ⟨o, _, ho, hc, by decide⟩) fun b hb => .inl (List.mem_singleton.mp hb)) ⟨_, Heap.get?_push_size _ rfl, rfl, rfl⟩ rfl)
  | _ => simp [iter?] at e

end
end Mine

namespace Mine
open PySem

section
variable {C : Ctx} {K : Nat} {Φ : FEnv} {ns : List (Str × NameKind)}

/-! the tests of a comprehension -/
noncomputable def STs (C : Ctx) (K : Nat) (Φ : FEnv) (ns : List (Str × NameKind)) (es : List PySem.Expr) (ts : MTs) : Prop :=
  ∀ A env z σ s Q E, Room K A → EnvOk env ns → C.In z → FRep env z σ s → HRep z σ.heap s → wpAnd Φ C.G ts σ Q →
    wpAny (model C.prog C.w) A (forIn es true fun c r => if r = true then do let ok ← isTrue c env (eval c env); pure (ForInStep.yield ok) else pure (ForInStep.yield r)) (OutT env z σ s Q) E s
theorem sts_nil : STs C K Φ ns [] .nil := fun A env z σ s Q E hA hE hz F R H => by
  simp only [uA_nil] at H
  exact wpAny_pure ⟨σ, z, H, F, R, rfl, Ext.refl _ _ _⟩
theorem tests_false {es : List PySem.Expr} {env : Env} : (forIn es false fun c r => if r = true then do let ok ← isTrue c env (eval c env); pure (ForInStep.yield ok) else pure (ForInStep.yield r) : Sem Bool) = pure false := by
  induction es with
  | nil => rfl
  | cons c r ih => rw [List.forIn_cons]; simp only [Bool.false_eq_true, if_false, pure_bind]; exact ih
theorem sts_cons {c : PySem.Expr} {r : List PySem.Expr} {t : MT} {ts : MTs} (hc : ST C K Φ ns c t) (hr : STs C K Φ ns r ts) : STs C K Φ ns (c :: r) (.cons t ts) := fun A env z σ s Q E hA hE hz F R H => by
  simp only [uA_cons] at H
  rw [List.forIn_cons]
  simp only [if_true]
  refine wpAny_bind (wpAny_bind (wpAny_mono (hc A env z σ s _ E hA hE hz F R H) (fun b s₁ h₁ => wpAny_pure ?_) fun _ _ e => e))
  obtain ⟨σ₁, z₁, q₁, F₁, R₁, e₁, X₁⟩ := h₁
  cases b with
  | false =>
    simp only [Bool.false_eq_true, if_false] at q₁
    show wpAny _ _ (forIn r false _) _ _ _
    rw [tests_false]
    exact wpAny_pure ⟨σ₁, z₁, q₁, F₁, R₁, e₁, X₁⟩
  | true =>
    simp only [if_true] at q₁
    exact wpAny_mono (hr A env z₁ σ₁ s₁ Q E hA hE (hz.mono X₁.zle) F₁ R₁ q₁) (fun b s₂ h₂ => h₂.after e₁ X₁) fun _ _ e => e

/-! the closure -/
noncomputable def frees (sc : Scope) : List Str := (sc.names.filter fun p => p.2 == .free).map (·.1)

theorem closure_go {env : Env} : ∀ (names : List (Str × NameKind)) (acc : List (Str × Addr)), (∀ x, (x, NameKind.free) ∈ names → ∃ c, env.cells.lookup x = some c) → (∀ p ∈ acc, env.cells.lookup p.1 = some p.2) →
    ∃ cl, (forIn names acc fun (p : Str × NameKind) (r : List (Str × Addr)) => if (p.2 == NameKind.free) = true then do let a ← cellOf env p.1; pure (ForInStep.yield ((p.1, a) :: r)) else pure (ForInStep.yield r) : Sem _) = pure cl ∧
      (∀ p ∈ cl, env.cells.lookup p.1 = some p.2) ∧ (∀ p ∈ acc, p ∈ cl) ∧ ∀ x, (x, NameKind.free) ∈ names → ∃ c, (x, c) ∈ cl
  | [], acc, _, ha => ⟨acc, rfl, ha, fun _ h => h, fun x hx => nomatch hx⟩
  | (x, k) :: r, acc, hn, ha => by
    rw [List.forIn_cons]
    by_cases hk : (k == NameKind.free) = true
    · have hk' : k = .free := by simpa using hk
      subst hk'
      obtain ⟨c, hc⟩ := hn x List.mem_cons_self
      obtain ⟨cl, e, h1, h2, h3⟩ := closure_go (env := env) r ((x, c) :: acc) (fun y hy => hn y (List.mem_cons_of_mem _ hy)) (fun p hp => by
        rcases List.mem_cons.mp hp with rfl | hp
        · exact hc
        · exact ha p hp)
      refine ⟨cl, ?_, h1, fun p hp => h2 p (List.mem_cons_of_mem _ hp), fun y hy => ?_⟩
      · simp only [hk, if_true, cellOf, hc, pure_bind]
        exact e
      · rcases List.mem_cons.mp hy with e | hy
        · cases e; exact ⟨c, h2 _ List.mem_cons_self⟩
        · exact h3 y hy
    · obtain ⟨cl, e, h1, h2, h3⟩ := closure_go (env := env) r acc (fun y hy => hn y (List.mem_cons_of_mem _ hy)) ha
      refine ⟨cl, ?_, h1, h2, fun y hy => ?_⟩
      · simp only [hk, Bool.false_eq_true, if_false, pure_bind]
        exact e
      · rcases List.mem_cons.mp hy with e | hy
        · cases e; exact (hk rfl).elim
        · exact h3 y hy

theorem closure_ok {env : Env} {sc : Scope} (h : ∀ x ∈ frees sc, ∃ c, env.cells.lookup x = some c) : ∃ cl, closureFor sc env = pure cl ∧ (∀ p ∈ cl, env.cells.lookup p.1 = some p.2) ∧ ∀ x ∈ frees sc, ∃ c, (x, c) ∈ cl := by
  have hm : ∀ x, (x, NameKind.free) ∈ sc.names → x ∈ frees sc := fun x hx => List.mem_map.mpr ⟨_, List.mem_filter.mpr ⟨hx, rfl⟩, rfl⟩
  obtain ⟨cl, e, h1, _, h3⟩ := closure_go (env := env) sc.names [] (fun x hx => h x (hm x hx)) (fun _ hp => nomatch hp)
  refine ⟨cl, ?_, h1, fun x hx => ?_⟩
  · simp only [closureFor]
    rw [show (forIn sc.names [] fun (x : Str × NameKind) (r : List (Str × Addr)) => _ : Sem (List (Str × Addr))) = _ from e]
    rfl
  · obtain ⟨p, hp, rfl⟩ := List.mem_map.mp hx
    obtain ⟨h4, h5⟩ := List.mem_filter.mp hp
    obtain ⟨y, k⟩ := p
    have : k = .free := by simpa using h5
    subst this
    exact h3 y h4

theorem lookup_of_mem {cl : List (Str × Addr)} {f : Str → Option Addr} (h : ∀ p ∈ cl, f p.1 = some p.2) : ∀ {x : Str} {c : Addr}, (x, c) ∈ cl → cl.lookup x = f x := by
  induction cl with
  | nil => intro x c hx; cases hx
  | cons p r ih =>
    intro x c hx
    obtain ⟨y, d⟩ := p
    rw [List.lookup_cons]
    cases hb : x == y with
    | true => have := beq_iff_eq.mp hb; subst this; exact (h _ List.mem_cons_self).symm
    | false =>
      rcases List.mem_cons.mp hx with e | hx
      · cases e; simp at hb
      · exact ih (fun p hp => h p (List.mem_cons_of_mem _ hp)) hx

/-- the looks at a comprehension's scope -/
noncomputable def scopeOk (ns : List (Str × NameKind)) (sc : Scope) (x : Str) : Bool :=
  sc.kind == .function && sc.names.all (fun y => y.2 != .cell) && (sc.names.all fun y => y.2 != .local || sc.names.lookup y.1 == some .local) && sc.names.lookup x == some .local &&
  (frees sc).all (fun y => (ns.lookup y == some .cell || ns.lookup y == some .free) && y != x) && sc.names.all (fun y => y.2 != .free || sc.names.lookup y.1 == some .free) && !(frees sc).contains "__classdict__"

theorem relabel_lookup {env : Env} : ∀ {names : List (Str × NameKind)} {x : Str} {k : NameKind}, names.lookup x = some k →
    (names.map fun (n, k) => if (k == NameKind.free && env.scope.kind == .function && env.kindOf n == some .cell) then (n, NameKind.cell) else (n, k)).lookup x = some (if (k == NameKind.free && env.scope.kind == .function && env.kindOf x == some .cell) then NameKind.cell else k)
  | [], _, _, h => by simp at h
  | (n, k') :: r, x, k, h => by
    have ih := @relabel_lookup env r x k
    show List.lookup x ((if (k' == NameKind.free && env.scope.kind == .function && env.kindOf n == some .cell) = true then (n, NameKind.cell) else (n, k')) :: _) = _
    cases hx : x == n with
    | true =>
      have hxn := beq_iff_eq.mp hx
      subst hxn
      simp only [List.lookup_cons, hx] at h
      cases h
      by_cases hc : (k' == NameKind.free && env.scope.kind == .function && env.kindOf x == some .cell) = true
      · rw [if_pos hc, if_pos hc]; simp [List.lookup_cons]
      · rw [if_neg hc, if_neg hc]; simp [List.lookup_cons]
    | false =>
      simp only [List.lookup_cons, hx] at h
      by_cases hc : (k' == NameKind.free && env.scope.kind == .function && env.kindOf n == some .cell) = true
      · rw [if_pos hc]; simp only [List.lookup_cons, hx]; exact ih h
      · rw [if_neg hc]; simp only [List.lookup_cons, hx]; exact ih h

theorem compEnv_ok {env : Env} {sc : Scope} {x : Str} {cl : List (Str × Addr)} {Cn : Addr} (hE : EnvOk env ns) (hs : scopeOk ns sc x = true) (hcl : ∀ p ∈ cl, env.cells.lookup p.1 = some p.2) (hfr : ∀ x ∈ frees sc, ∃ c, (x, c) ∈ cl) :
    EnvOk (compEnvC sc cl Cn env) sc.names := by
  simp only [scopeOk, Bool.and_eq_true] at hs
  obtain ⟨⟨⟨⟨⟨⟨h1, h2⟩, h3⟩, h4⟩, h5⟩, h6⟩, h7⟩ := hs
  refine ⟨by show sc.kind = .function; simpa using h1, hE.glob, hE.blt, fun y k hk => ?_⟩
  have hr := relabel_lookup (env := env) hk
  have hk' : (compEnvC sc cl Cn env).kindOf y = some (if (k == NameKind.free && env.scope.kind == .function && env.kindOf y == some .cell) then NameKind.cell else k) := hr
  cases k with
  | «local» => simpa [kLike] using hk'
  | cell => 
    have := List.all_eq_true.mp h2 _ (mem_of_lookup hk)
    simp at this
  | free =>
    simp only [kLike]
    refine ⟨?_, ?_⟩
    · rw [hk']
      by_cases c : (NameKind.free == NameKind.free && env.scope.kind == .function && env.kindOf y == some .cell) = true
      · rw [if_pos c]; exact .inl rfl
      · rw [if_neg c]; exact .inr rfl
    · obtain ⟨c, hc⟩ := hfr y (List.mem_map.mpr ⟨_, List.mem_filter.mpr ⟨mem_of_lookup hk, rfl⟩, rfl⟩)
      exact ⟨c, by show cl.lookup y = some c; rw [lookup_of_mem (f := fun z => env.cells.lookup z) hcl hc]; exact hcl _ hc⟩
  | globalImplicit => simpa [kLike] using hk'
  | globalExplicit => trivial

/-- the frame within a turn -/
theorem compFrame {env : Env} {sc : Scope} {x : Str} {cl : List (Str × Addr)} {Cn : Addr} {z : Zh} {σ : St} {s : Shared} {m : Str → Option Value} {v : V} {val : Value} (hE : EnvOk env ns) (hs : scopeOk ns sc x = true)
    (hcl : ∀ p ∈ cl, env.cells.lookup p.1 = some p.2) (hfr : ∀ x ∈ frees sc, ∃ c, (x, c) ∈ cl) (F : FRep env z σ s) (hn : s.heap.Ns Cn (fun y => if y = x then some val else m y)) (hv : VRel z v val) (hz : z Cn = none) (hh : σ.heap Cn = none) :
    FRep (compEnvC sc cl Cn env) z ⟨compVars σ.vars (frees sc) x v, σ.heap⟩ s := by
  have hE' := compEnv_ok (Cn := Cn) hE hs hcl hfr
  simp only [scopeOk, Bool.and_eq_true] at hs
  obtain ⟨⟨⟨⟨⟨⟨h1, h2⟩, h3⟩, h4⟩, h5⟩, h6⟩, h7⟩ := hs
  have hx : (compEnvC sc cl Cn env).kindOf x = some .local := lookup_relabel_local (by simpa using h4)
  have hfree : ∀ y ∈ frees sc, y ≠ x ∧ (ns.lookup y = some .cell ∨ ns.lookup y = some .free) ∧ ((compEnvC sc cl Cn env).kindOf y = some .cell ∨ (compEnvC sc cl Cn env).kindOf y = some .free) := fun y hy => by
    have := List.all_eq_true.mp h5 y hy
    simp only [Bool.and_eq_true, Bool.or_eq_true, beq_iff_eq, bne_iff_ne, ne_eq] at this
    refine ⟨this.2, this.1, ?_⟩
    obtain ⟨p, hp, rfl⟩ := List.mem_map.mp hy
    obtain ⟨hp1, hp2⟩ := List.mem_filter.mp hp
    have h8 := List.all_eq_true.mp h6 p hp1
    have hp3 : p.2 = .free := by simpa using hp2
    simp only [hp3, bne_self_eq_false, Bool.false_or, beq_iff_eq] at h8
    exact (hE'.names p.1 .free h8).1
  have old : ∀ y ∈ frees sc, ∀ v', σ.vars y = some v' → ∃ c val', cl.lookup y = some c ∧ s.heap.IsCell c (some val') ∧ VRel z v' val' := fun y hy v' hv' => by
    have hkind : env.kindOf y ≠ some .local := by
      rcases (hfree y hy).2.1 with q | q
      · have := (hE.names y _ q).1; rcases this with q | q <;> rw [q] <;> simp
      · have := (hE.names y _ q).1; rcases this with q | q <;> rw [q] <;> simp
    obtain ⟨c, val', hc, hcell, hr⟩ := F.cell y v' hv' hkind
    obtain ⟨c', hc'⟩ := hfr y hy
    exact ⟨c, val', by rw [lookup_of_mem (f := fun z => env.cells.lookup z) hcl hc']; exact hc, hcell, hr⟩
  refine ⟨⟨_, hn, fun y v' hv' hk => ?_⟩, fun y v' hv' => ?_, fun y v' hv' hk => ?_, fun y c hc => ?_, fun a ha => ?_, fun a ha => ?_⟩
  · simp only [compVars] at hv'
    by_cases e : y = x
    · rw [if_pos e] at hv'; cases hv'; exact ⟨val, by rw [if_pos e], hv⟩
    · rw [if_neg e] at hv'
      by_cases e2 : y ∈ frees sc
      · have hk' : (compEnvC sc cl Cn env).kindOf y = some .local := hk
        rcases (hfree y e2).2.2 with q | q <;> rw [q] at hk' <;> cases hk'
      · rw [if_neg e2] at hv'; cases hv'
  · simp only [compVars] at hv'
    by_cases e : y = x
    · subst e; exact .inl hx
    · rw [if_neg e] at hv'
      by_cases e2 : y ∈ frees sc
      · exact .inr (hfree y e2).2.2
      · rw [if_neg e2] at hv'; cases hv'
  · simp only [compVars] at hv'
    by_cases e : y = x
    · subst e; exact absurd hx hk
    · rw [if_neg e] at hv'
      by_cases e2 : y ∈ frees sc
      · rw [if_pos e2] at hv'; exact old y e2 v' hv'
      · rw [if_neg e2] at hv'; cases hv'
  · exact F.cells y c (mem_of_lookup (hcl _ hc))
  · rcases ha with rfl | ⟨y, hy⟩
    · exact hz
    · exact F.ownz a (.inr ⟨y, mem_of_lookup (hcl _ hy)⟩)
  · rcases ha with rfl | ⟨y, hy⟩
    · exact hh
    · exact F.ownh a (.inr ⟨y, mem_of_lookup (hcl _ hy)⟩)

end
end Mine

namespace Mine
open PySem

section
variable {C : Ctx} {K : Nat} {Φ : FEnv} {ns : List (Str × NameKind)}

/-- what stands between two turns of a comprehension -/
structure CInv (s₁ : Shared) (σ : St) (z₁ : Zh) (I D Cn : Addr) (St : Nat → Heap → Prop) (i : Nat) (ws : List V) (h : Hp) (z : Zh) (s : Shared) : Prop where
  R : HRep z h s
  X : Ext s₁ σ.heap z₁ s h z
  st : St i s.heap
  acc : ∃ items n, IsL s.heap D items n ∧ VRels z ws items.toList ∧ items.size ≤ i
  cn : ∃ m, s.heap.Ns Cn m
  offI : z I = none ∧ h I = none
  offD : z D = none ∧ h D = none
  offC : z Cn = none ∧ h Cn = none

theorem comp_loop {A : Around} {env : Env} {sc : Scope} {x : Str} {px pos : Pos} {elt iter : PySem.Expr} {ifs : List PySem.Expr} {me : ME} {mts : MTs} {cl : List (Str × Addr)} {z₁ : Zh} {σ : St} {s₁ : Shared} {vs : List V} {I D Cn : Addr} {St : Nat → Heap → Prop}
    {Rr : Result → Shared → Prop} {Q : List V → Hp → Prop} (hA : Room K A) (hE : EnvOk env ns) (hs : scopeOk ns sc x = true) (hcl : ∀ p ∈ cl, env.cells.lookup p.1 = some p.2) (hfr : ∀ x ∈ frees sc, ∃ c, (x, c) ∈ cl)
    (he : SE C K Φ sc.names elt me) (ht : STs C K Φ sc.names ifs mts) (hz : C.In z₁) (F : FRep env z₁ σ s₁) (W : It C.prog C.w A z₁ vs I St)
    (hI : s₁.heap.get? I = none) (hD : s₁.heap.get? D = none) (hC : s₁.heap.get? Cn = none) (hID : I ≠ D) (hIC : I ≠ Cn) (hDC : D ≠ Cn) (hlen : vs.length ≤ 1000000)
    (fin : ∀ ws h z s, CInv s₁ σ z₁ I D Cn (fun _ _ => True) vs.length ws h z s → Q ws h → Rr (.ok .next) s) :
    ∀ (n i : Nat) (ws : List V) (h : Hp) (z : Zh) (s : Shared), i + n = vs.length → CInv s₁ σ z₁ I D Cn St i ws h z s → compL (wpAnd Φ C.G mts) (wpE Φ C.G me) σ.vars (frees sc) x (vs.drop i) ws h Q →
      codeAny (model C.prog C.w) A (.compLoop (.ListComp elt [⟨.Name x px, iter, ifs, 0⟩] sc pos) 0 (.ref I) (.ref D) (compEnvC sc cl Cn env)) Rr s := by
  intro n i ws h z s hn V H
  refine codeAny_compLoop_tests (I := fun n s => ∃ i ws h z, i + n = vs.length ∧ CInv s₁ σ z₁ I D Cn St i ws h z s ∧ compL (wpAnd Φ C.G mts) (wpE Φ C.G me) σ.vars (frees sc) x (vs.drop i) ws h Q) ?_ n ⟨i, ws, h, z, hn, V, H⟩
  clear V H hn n i ws h z s
  rintro n s ⟨i, ws, h, z, hn, V, H⟩
  obtain ⟨R, X, st, ⟨items, nn, hitems, hws, hle⟩, ⟨m, hm⟩, offI, offD, offC⟩ := V
  have hE' := compEnv_ok (Cn := Cn) hE hs hcl hfr
  have hxl : (compEnvC sc cl Cn env).kindOf x = some .local := by
    simp only [scopeOk, Bool.and_eq_true] at hs
    exact lookup_relabel_local (by simpa using hs.1.1.1.2)
  have hkf : (compEnvC sc cl Cn env).scope.kind = .function := hE'.kind
  cases n with
  | zero =>
    have hi : i = vs.length := by omega
    subst hi
    simp only [List.drop_length, compL] at H
    refine W.done s _ _ st fun h' tk hk => ?_
    refine fin ws h z _ ⟨R.other hk offI.1 offI.2, X.other hk hI, trivial, ⟨items, nn, hk _ _ (Ne.symm hID) hitems, hws, hle⟩, ⟨m, ?_⟩, offI, offD, offC⟩ H
    obtain ⟨o, es, ep, ho, r⟩ := hm
    exact ⟨o, es, ep, hk _ _ (Ne.symm hIC) ho, r⟩
  | succ n =>
    have hi : i < vs.length := by omega
    have hv : vs[i]? = some vs[i] := by simp [hi]
    have hdrop : vs.drop i = vs[i] :: vs.drop (i + 1) := List.drop_eq_getElem_cons hi
    rw [hdrop] at H
    simp only [compL] at H
    refine W.item i vs[i] s _ _ hv st fun val h₂ tk₂ hval st₂ hk => ?_
    -- behind the step
    have R₂ := R.other (tk := tk₂) hk offI.1 offI.2
    have X₂ := X.other (tk := tk₂) hk hI
    have hitems₂ : IsL h₂ D items nn := hk _ _ (Ne.symm hID) hitems
    have hm₂ : h₂.Ns Cn m := by
      obtain ⟨o, es, ep, ho, r⟩ := hm
      exact ⟨o, es, ep, hk _ _ (Ne.symm hIC) ho, r⟩
    obtain ⟨oI, _, hoI, _⟩ := W.ex _ _ st₂
    refine wpAny_assign_Name (wpAny_storeName_local (s := { s with heap := h₂, toks := tk₂ }) hxl hm₂ (fun h₃ hn₃ hs₃ => ?_) (by rw [hkf]; rfl))
    have hk₃ : ∀ b o, b ≠ Cn → h₂.get? b = some o → h₃.get? b = some o := fun b o hb e => (hs₃.2 b hb).trans e
    have R₃ := HRep.other (tk := tk₂ + 1) R₂ hk₃ offC.1 offC.2
    have X₃ := Ext.other (tk := tk₂ + 1) X₂ hk₃ hC
    have hitems₃ : IsL h₃ D items nn := hk₃ _ _ hDC hitems₂
    have hoI₃ : h₃.get? I = some oI := hk₃ _ _ hIC hoI
    have st₃ : St (i + 1) h₃ := W.frame _ _ _ st₂ (fun o e => hk₃ _ _ hIC e) (fun a o e => R₂.zsub a o (X.zle a o e)) (fun a o e => R₃.zsub a o (X.zle a o e))
    have F₀ : FRep env z (σ.hp h) { s with heap := h₃, toks := tk₂ + 1 } := F.ext X₃
    have F₃ := compFrame (Cn := Cn) hE hs hcl hfr F₀ hn₃ (hval.mono X.zle) offC.1 offC.2
    have hz₃ := hz.mono X.zle
    refine wpAny_mono (ht A (compEnvC sc cl Cn env) z ⟨compVars σ.vars (frees sc) x vs[i], h⟩ _ _ _ hA hE' hz₃ F₃ R₃ H) (fun b s₄ h₄ => ?_) fun _ _ e => e
    obtain ⟨σ₄, z₄, q₄, F₄, R₄, e₄, X₄⟩ := h₄
    -- a helper: what a sub-evaluation leaves standing
    have stand : ∀ {σ' : Mine.St} {z' : Zh} {s' : Shared} (X' : Ext { s with heap := h₃, toks := tk₂ + 1 } h z s' σ'.heap z') (R' : HRep z' σ'.heap s'),
        St (i + 1) s'.heap ∧ IsL s'.heap D items nn ∧ (∃ m, s'.heap.Ns Cn m) ∧ (z' I = none ∧ σ'.heap I = none) ∧ (z' D = none ∧ σ'.heap D = none) ∧ (z' Cn = none ∧ σ'.heap Cn = none) := by
      intro σ' z' s' X' R'
      have hC₃ : ∃ o, h₃.get? Cn = some o := by obtain ⟨o, _, _, ho, _⟩ := hn₃; exact ⟨o, ho⟩
      obtain ⟨oC, hoC⟩ := hC₃
      refine ⟨?_, X'.pres _ _ hitems₃ offD.2, ?_, ⟨X'.z_back hoI₃ offI.2 offI.1, X'.none_back hoI₃ offI.2⟩, ⟨X'.z_back hitems₃ offD.2 offD.1, X'.none_back hitems₃ offD.2⟩, ⟨X'.z_back hoC offC.2 offC.1, X'.none_back hoC offC.2⟩⟩
      · exact W.frame _ _ _ st₃ (fun o e => X'.pres _ _ e offI.2) (fun a o e => R₃.zsub a o (X.zle a o e)) (fun a o e => R'.zsub a o (X'.zle a o (X.zle a o e)))
      · obtain ⟨o, es, ep, ho, r⟩ := hn₃
        exact ⟨_, o, es, ep, X'.pres _ _ ho offC.2, r⟩
    cases b with
    | false =>
      simp only [Bool.false_eq_true, if_false] at q₄ ⊢
      obtain ⟨a1, a2, a3, a4, a5, a6⟩ := stand X₄ R₄
      exact ⟨n, Nat.lt_succ_self n, i + 1, ws, σ₄.heap, z₄, by omega, ⟨R₄, X₃.trans X₄, a1, ⟨items, nn, a2, hws.mono X₄.zle, by omega⟩, a3, a4, a5, a6⟩, q₄⟩
    | true =>
      simp only [if_true] at q₄ ⊢
      have F₄' : FRep (compEnvC sc cl Cn env) z₄ ⟨compVars σ.vars (frees sc) x vs[i], σ₄.heap⟩ s₄ := by
        have e : σ₄ = ⟨compVars σ.vars (frees sc) x vs[i], σ₄.heap⟩ := by cases σ₄; simp only at e₄; subst e₄; rfl
        rw [← e]; exact F₄
      refine wpAny_mono (he A (compEnvC sc cl Cn env) z₄ ⟨compVars σ.vars (frees sc) x vs[i], σ₄.heap⟩ s₄ _ _ hA hE' (hz₃.mono X₄.zle) F₄' R₄ q₄) (fun val₅ s₅ h₅ => ?_) fun _ _ e => e
      obtain ⟨v₅, σ₅, z₅, q₅, r₅, F₅, R₅, e₅, X₅⟩ := h₅
      obtain ⟨a1, a2, a3, a4, a5, a6⟩ := stand (X₄.trans X₅) R₅
      have hsz : items.size ≤ sizeLine := by rw [sizeLine_eq]; omega
      refine call_meets PySem.F.slot_list_append ⟨_, a2, rfl⟩ PySem.F.entry_list_append (PySem.F.args_list_append_2 _ _) (list_append D items nn val₅ hsz) ⟨a2, ?_⟩
      have hu := IsL.update a2 (·.push val₅)
      have hk₆ : ∀ b o, b ≠ D → s₅.heap.get? b = some o → (s₅.heap.update D (Obj.mapSeq (·.push val₅))).get? b = some o := fun b o hb e => (Heap.get?_update_other _ _ (Ne.symm hb)).trans e
      have R₆ := R₅.other (tk := s₅.toks) hk₆ a5.1 a5.2
      have X₆ := ((X₃.trans X₄).trans X₅).other (tk := s₅.toks) hk₆ hD
      refine ⟨n, Nat.lt_succ_self n, i + 1, ws ++ [v₅], σ₅.heap, z₅, by omega, ⟨R₆, X₆, ?_, ⟨_, _, hu, ?_, by rw [Array.size_push]; omega⟩, ?_, a4, a5, a6⟩, q₅⟩
      · exact W.frame _ _ _ a1 (fun o e => hk₆ _ _ hID e) (fun a o e => R₅.zsub a o ((X.zle.trans (X₄.zle.trans X₅.zle)) a o e)) (fun a o e => R₆.zsub a o ((X.zle.trans (X₄.zle.trans X₅.zle)) a o e))
      · rw [Array.toList_push]; exact (hws.mono (X₄.zle.trans X₅.zle)).append (VRels.cons r₅ VRels.nil)
      · obtain ⟨m', o, es, ep, ho, r⟩ := a3
        exact ⟨m', o, es, ep, hk₆ _ _ (Ne.symm hDC) ho, r⟩

end
end Mine

namespace Mine
open PySem

section
variable {C : Ctx} {K : Nat} {Φ : FEnv} {ns : List (Str × NameKind)}

theorem ne_nat {a b : Nat} (h : a ≠ b) : @Ne Addr a b := h

theorem comp_end {s₁ : Shared} {σ : St} {z₁ : Zh} {I D Cn : Addr} {Sx : Nat → Heap → Prop} {i : Nat} {ws : List V} {h : Hp} {z : Zh} {s : Shared} {m : Bool} {Q : V → Hp → Prop} (V : CInv s₁ σ z₁ I D Cn Sx i ws h z s) (hD : s₁.heap.get? D = none)
    (hDC : D ≠ Cn) (hm : mk m ws h Q) : ∃ v h' z', Q v h' ∧ VRel z' v (.ref D) ∧ HRep z' h' s ∧ Ext s₁ σ.heap z₁ s h' z' ∧ z' Cn = none ∧ h' Cn = none := by
  obtain ⟨R, X, _, ⟨items, n, hi, hr, hle⟩, _, _, offD, offC⟩ := V
  obtain ⟨hl, hm⟩ := hm
  have hsz : items.size ≤ sizeLine := by
    have := lenOk_size hl
    have e := hr.length
    rw [Array.length_toList] at e; omega
  cases m with
  | false =>
    simp only [Bool.false_eq_true, if_false] at hm
    have X' := X.adoptZ (o := { cls := .type "list", data := .seq items n }) hD offD.1
    have hle : ZLe z (z.set D { cls := .type "list", data := .seq items n }) := fun a o e => by
      unfold Zh.set
      by_cases q : a = D
      · subst q; rw [offD.1] at e; cases e
      · rw [if_neg q]; exact e
    refine ⟨.list ws, h, _, hm, ?_, R.adoptZ hi offD.2, X', ?_, offC.2⟩
    · simp only [VRel]
      exact ⟨D, items, n, rfl, Zh.set_self _ _ _, hsz, hr.mono hle⟩
    · unfold Zh.set; rw [if_neg (Ne.symm hDC)]; exact offC.1
  | true =>
    simp only [if_true] at hm
    refine ⟨.ref D, _, z, hm D offD.2, by simp [VRel], R.adoptH hi ⟨items, n, rfl, hsz, hr⟩ offD.1, X.adoptH hD, offC.1, ?_⟩
    unfold Hp.set; rw [if_neg (Ne.symm hDC)]; exact offC.2

/-- the comprehension's run behind its iterable -/
theorem comp_run {A : Around} {env : Env} {sc : Scope} {x : Str} {px pos : Pos} {elt iter : PySem.Expr} {ifs : List PySem.Expr} {me : ME} {mts : MTs} {cl : List (Str × Addr)} {z₁ : Zh} {σ : St} {s₁ : Shared} {vs : List V} {a : V} {av : Value} {m : Bool}
    {Rr : Value → Addr → Result → Shared → Prop} {E : Value → Shared → Prop} {Q : V → Hp → Prop} (hA : Room K A) (hE : EnvOk env ns) (hs : scopeOk ns sc x = true) (hcl : ∀ p ∈ cl, env.cells.lookup p.1 = some p.2) (hfr : ∀ x ∈ frees sc, ∃ c, (x, c) ∈ cl)
    (he : SE C K Φ sc.names elt me) (ht : STs C K Φ sc.names ifs mts) (hz : C.In z₁) (F : FRep env z₁ σ s₁) (R : HRep z₁ σ.heap s₁) (hav : VRel z₁ a av) (hvs : iter? σ.heap a = some vs) (hlen : vs.length ≤ 1000000)
    (H : compL (wpAnd Φ C.G mts) (wpE Φ C.G me) σ.vars (frees sc) x vs [] σ.heap fun ws h => mk m ws h Q)
    (fin : ∀ D Cn s v h' z', s₁.heap.get? Cn = none → (∃ mm, s.heap.Ns Cn mm) → Q v h' → VRel z' v (.ref D) → HRep z' h' s → Ext s₁ σ.heap z₁ s h' z' → z' Cn = none → h' Cn = none → Rr (.ref D) Cn (.ok .next) s) :
    wpAny (model C.prog C.w) A (pyIter av) (fun it s₂ => wpAny (model C.prog C.w) A (newList []) (fun acc s₃ => wpAny (model C.prog C.w) A (newFunctionEnv sc env.globals cl [] env.qual none .none (some env)) (fun cenv s₄ =>
      codeAny (model C.prog C.w) A (.compStart (.ListComp elt [⟨.Name x px, iter, ifs, 0⟩] sc pos) 0 it acc { cenv with scope := relabel sc env }) (Rr acc cenv.locals) s₄) E s₃) E s₂) E s₁ := by
  refine iter_it hA.hand R hav hvs fun oI St W st0 hfI => ?_
  refine wpAny_newObj_type ?_ (by size_fits)
  have hs' := hs
  simp only [scopeOk, Bool.and_eq_true] at hs'
  obtain ⟨⟨⟨⟨⟨⟨h1, h2⟩, h3⟩, h4⟩, h5⟩, h6⟩, h7⟩ := hs'
  have hcell : ∀ y ∈ sc.names, y.2 ≠ .cell := fun y hy => by simpa using List.all_eq_true.mp h2 y hy
  refine wpAny_newFunctionEnv hcell (by intro y hy; simp at hy) (fun h₁ hns₁ hsb₁ => ?_) (by simpa using h1)
  dsimp only at hns₁ hsb₁ ⊢
  obtain ⟨I, hI⟩ : ∃ I, s₁.heap.objs.size = I := ⟨_, rfl⟩
  rw [hI] at W
  simp only [hI]
  have e2 : (s₁.heap.push oI).objs.size = I + 1 := by rw [Heap.size_push, hI]
  have e3 : ((s₁.heap.push oI).push { cls := .type "list", dict := none, data := .seq ([] : List Value).toArray }).objs.size = I + 2 := by rw [Heap.size_push, e2]
  rw [e3] at hns₁ hsb₁ ⊢
  rw [e2]
  have none_of : ∀ k, I ≤ k → s₁.heap.get? k = none := fun k hk => by
    cases q : s₁.heap.get? k with
    | none => rfl
    | some o => have h9 : (k : Nat) < s₁.heap.objs.size := Heap.lt_size q; omega
  have old : ∀ b o, s₁.heap.get? b = some o → h₁.get? b = some o := fun b o e => by
    refine hsb₁.extBut b o (Nat.ne_of_lt (Nat.lt_of_lt_of_le (Heap.lt_size e) (by omega))) (Heap.get?_push_of_some _ (Heap.get?_push_of_some _ (Heap.get?_push_of_some _ e)))
  have hoI : (s₁.heap.push oI).get? I = some oI := by rw [← hI]; exact Heap.get?_push_size _ hfI
  have hI₁ : ∀ o, (s₁.heap.push oI).get? I = some o → h₁.get? I = some o := fun o e => hsb₁.extBut I o (ne_nat (by omega)) (Heap.get?_push_of_some _ (Heap.get?_push_of_some _ e))
  have hD₁ : IsL h₁ (I + 1) #[] 0 := by
    refine hsb₁.extBut (I + 1) _ (ne_nat (by omega)) (Heap.get?_push_of_some _ ?_)
    rw [← e2]; exact Heap.get?_push_size _ rfl
  obtain ⟨R', X⟩ := R.grow (s' := { s₁ with heap := h₁, toks := s₁.toks + ([] : List (Str × Value)).length }) ⟨_, _, rfl⟩ old (ZLe.refl z₁) fun _ _ e => .inl e
  have zn : ∀ k, I ≤ k → z₁ k = none := fun k hk => by
    cases q : z₁ k with
    | none => rfl
    | some o => have := R.zsub k o q; rw [none_of k hk] at this; cases this
  have hn : ∀ k, I ≤ k → σ.heap k = none := fun k hk => by
    cases q : σ.heap k with
    | none => rfl
    | some o => obtain ⟨ob, h1, _⟩ := R.obj k o q; rw [none_of k hk] at h1; cases h1
  have st₁ : St 0 h₁ := W.frame _ _ _ st0 hI₁ (fun a o e => Heap.get?_push_of_some _ (R.zsub a o e)) (fun a o e => old _ _ (R.zsub a o e))
  have V₀ : CInv s₁ σ z₁ I (I + 1) (I + 2) St 0 [] σ.heap z₁ { s₁ with heap := h₁, toks := s₁.toks + ([] : List (Str × Value)).length } :=
    ⟨R', X, st₁, ⟨#[], 0, hD₁, VRels.nil, Nat.le_refl _⟩, ⟨_, hns₁⟩, ⟨zn _ (Nat.le_refl _), hn _ (Nat.le_refl _)⟩, ⟨zn _ (by omega), hn _ (by omega)⟩, ⟨zn _ (by omega), hn _ (by omega)⟩⟩
  have loop := comp_loop (C := C) (K := K) (Φ := Φ) (px := px) (iter := iter) (pos := pos) (Rr := Rr (.ref (I + 1)) (I + 2)) (Q := fun ws h => mk m ws h Q) hA hE hs hcl hfr he ht hz F W (none_of I (Nat.le_refl _)) (none_of _ (by omega)) (none_of _ (by omega)) (ne_nat (by omega)) (ne_nat (by omega)) (ne_nat (by omega)) hlen
    (fun ws h z s V hq => by
      obtain ⟨v, h', z', q1, q2, q3, q4, q5, q6⟩ := comp_end V (none_of _ (by omega)) (ne_nat (by omega)) hq
      exact fin _ _ s v h' z' (none_of _ (by omega)) V.cn q1 q2 q3 q4 q5 q6) vs.length 0 [] σ.heap z₁ _ (by omega) V₀ (by simpa using H)
  exact codeAny_compStart_list loop (W.self 0 _ _ _ st₁ loop)

noncomputable def notSet : PySem.Expr → Bool
  | .Set .. => false
  | _ => true
theorem folded_plain {e : PySem.Expr} {env : Env} (h : notSet e = true) : ∀ x, foldedSetIterable e env x = pure x := by
  cases e <;> first | (intro _; rfl) | (exact nomatch (show false = true from h))

theorem se_comp {elt iter : PySem.Expr} {ifs : List PySem.Expr} {x : Str} {px pos : Pos} {sc : Scope} {m : Bool} {me mi : ME} {mts : MTs} (hs : scopeOk ns sc x = true) (hit : notSet iter = true) (hi : SE C K Φ ns iter mi) (he : SE C K Φ sc.names elt me)
    (ht : STs C K Φ sc.names ifs mts) : SE C K Φ ns (.ListComp elt [⟨.Name x px, iter, ifs, 0⟩] sc pos) (.comp m me x (frees sc) mi mts) := fun A env z σ s Q E hA hE hz F R H => by
  simp only [uE_comp] at H
  have hs' := hs
  simp only [scopeOk, Bool.and_eq_true] at hs'
  obtain ⟨⟨⟨⟨⟨⟨h1, h2⟩, h3⟩, h4⟩, h5⟩, h6⟩, h7⟩ := hs'
  obtain ⟨cl, hclos, hcl, hfr⟩ := closure_ok (env := env) (sc := sc) (fun y hy => by
    have := List.all_eq_true.mp h5 y hy
    simp only [Bool.and_eq_true, Bool.or_eq_true, beq_iff_eq] at this
    rcases this.1 with q | q
    · exact (hE.names y _ q).2
    · exact (hE.names y _ q).2)
  rw [eval_ListComp]
  refine wpAny_comprehension_free (use := none) rfl (folded_plain hit) hclos (by simpa using h1) (fun y hy hl => by
    have := List.all_eq_true.mp h3 y hy
    simpa [hl] using this) (wpAny_mono (hi A env z σ s _ E hA hE hz F R H) (fun av s₁ h₁ => ?_) fun _ _ e => e)
  obtain ⟨a, σ₁, z₁, q₁, v₁, F₁, R₁, e₁, X₁⟩ := h₁
  cases ei : iter? σ₁.heap a with
  | none => rw [ei] at q₁; exact q₁.elim
  | some vs =>
    rw [ei] at q₁
    obtain ⟨hlen, q₁⟩ := q₁
    refine comp_run (Rr := fun acc Cn => compPost (model C.prog C.w) A E none (OutE env z σ s Q) acc Cn) hA hE hs hcl hfr he ht (hz.mono X₁.zle) F₁ R₁ v₁ ei hlen q₁ ?_
    intro D Cn s' v h' z' hC hcn hq hv R' X' hzc hhc
    obtain ⟨mm, hmm⟩ := hcn
    refine ⟨mm, hmm, fun hh hsb => ?_⟩
    have hk : ∀ b o, b ≠ Cn → s'.heap.get? b = some o → hh.get? b = some o := fun b o hb e => (hsb.2 b hb).trans e
    have R'' := R'.other (tk := s'.toks) hk hzc hhc
    have X'' := X'.other (tk := s'.toks) hk hC
    exact (OutH.toE F₁ ⟨v, h', z', hq, hv, R'', X''⟩).after e₁ X₁

end
end Mine

namespace Mine
open PySem

structure ExtO (own : Addr → Prop) (s : Shared) (h : Hp) (z : Zh) (s' : Shared) (h' : Hp) (z' : Zh) : Prop where
  same : ∃ hh tk, s' = { s with heap := hh, toks := tk }
  zle : ZLe z z'
  pres : ∀ b o, s.heap.get? b = some o → h b = none → ¬ own b → s'.heap.get? b = some o
  live : ∀ b o, own b → s.heap.get? b = some o → ∃ o', s'.heap.get? b = some o'
  newz : ∀ a o, z' a = some o → z a = some o ∨ s.heap.get? a = none ∨ ∃ o', h a = some o'
  newh : ∀ a o, h' a = some o → s.heap.get? a = none ∨ ∃ o', h a = some o'

theorem Ext.toO {own : Addr → Prop} {s s' : Shared} {h h' : Hp} {z z' : Zh} (x : Ext s h z s' h' z') (ho : ∀ b, own b → h b = none) : ExtO own s h z s' h' z' :=
  ⟨x.same, x.zle, fun b o e hb _ => x.pres b o e hb, fun b o hb e => ⟨o, x.pres b o e (ho b hb)⟩, x.newz, x.newh⟩
theorem ExtO.refl (own : Addr → Prop) (s : Shared) (h : Hp) (z : Zh) : ExtO own s h z s h z :=
  ⟨⟨s.heap, s.toks, rfl⟩, ZLe.refl z, fun _ _ e _ _ => e, fun _ o _ e => ⟨o, e⟩, fun _ _ e => .inl e, fun _ o e => .inr ⟨o, e⟩⟩
theorem ExtO.trans {own : Addr → Prop} {s s₁ s₂ : Shared} {h h₁ h₂ : Hp} {z z₁ z₂ : Zh} (x : ExtO own s h z s₁ h₁ z₁) (y : ExtO own s₁ h₁ z₁ s₂ h₂ z₂) : ExtO own s h z s₂ h₂ z₂ where
  same := by
    obtain ⟨a, b, rfl⟩ := x.same
    obtain ⟨c, d, rfl⟩ := y.same
    exact ⟨c, d, rfl⟩
  zle := x.zle.trans y.zle
  pres := fun b o e hb ho => y.pres b o (x.pres b o e hb ho) (by
    cases q : h₁ b with
    | none => rfl
    | some o' =>
      rcases x.newh b o' q with q1 | ⟨o'', q1⟩
      · rw [e] at q1; cases q1
      · rw [hb] at q1; cases q1) ho
  live := fun b o hb e => by
    obtain ⟨o', e'⟩ := x.live b o hb e
    exact y.live b o' hb e'
  newz := fun a o e => by
    rcases y.newz a o e with q | q | ⟨o', q⟩
    · exact x.newz a o q
    · cases q2 : h a with
      | some o' => exact .inr (.inr ⟨o', rfl⟩)
      | none =>
        refine .inr (.inl ?_)
        cases q3 : s.heap.get? a with
        | none => rfl
        | some o3 =>
          by_cases ho : own a
          · obtain ⟨o', e'⟩ := x.live a o3 ho q3; rw [e'] at q; cases q
          · rw [x.pres a o3 q3 q2 ho] at q; cases q
    · rcases x.newh a o' q with q1 | q1
      · exact .inr (.inl q1)
      · exact .inr (.inr q1)
  newh := fun a o e => by
    rcases y.newh a o e with q | ⟨o', q⟩
    · cases q2 : h a with
      | some o' => exact .inr ⟨o', rfl⟩
      | none =>
        refine .inl ?_
        cases q3 : s.heap.get? a with
        | none => rfl
        | some o3 =>
          by_cases ho : own a
          · obtain ⟨o', e'⟩ := x.live a o3 ho q3; rw [e'] at q; cases q
          · rw [x.pres a o3 q3 q2 ho] at q; cases q
    · exact x.newh a o' q

structure EnvS (env : Env) (ns : List (Str × NameKind)) : Prop where
  ok : EnvOk env ns
  apart : env.cells.Pairwise fun x y => x.2 ≠ y.2
  off : ∀ x c, (x, c) ∈ env.cells → c ≠ env.locals
  cellk : ∀ x, ns.lookup x = some .cell → env.kindOf x = some .cell

noncomputable def FlRel (z : Zh) : Fl → Flow → Prop
  | .next, f => f = .next
  | .brk, f => f = .brk
  | .cont, f => f = .cont
  | .ret v, f => ∃ val, f = .ret val ∧ VRel z v val

noncomputable def OutS (env : Env) (z : Zh) (σ : St) (s : Shared) (Q : Fl → St → Prop) (f : Flow) (s' : Shared) : Prop :=
  ∃ fl σ' z', Q fl σ' ∧ FlRel z' fl f ∧ FRep env z' σ' s' ∧ HRep z' σ'.heap s' ∧ ExtO (OwnA env) s σ.heap z s' σ'.heap z'
theorem OutS.after {env : Env} {z z₁ : Zh} {σ σ₁ : St} {s s₁ : Shared} {Q : Fl → St → Prop} {f : Flow} {s' : Shared} (h : OutS env z₁ σ₁ s₁ Q f s') (X : ExtO (OwnA env) s σ.heap z s₁ σ₁.heap z₁) : OutS env z σ s Q f s' := by
  obtain ⟨fl, σ', z', q, hv, F, R, X'⟩ := h
  exact ⟨fl, σ', z', q, hv, F, R, X.trans X'⟩
theorem FRep.toO {env : Env} {z : Zh} {σ : St} {s s' : Shared} {h' : Hp} {z' : Zh} (F : FRep env z σ s) (X : Ext s σ.heap z s' h' z') : ExtO (OwnA env) s σ.heap z s' h' z' := X.toO F.ownh

noncomputable def SS (C : Ctx) (K : Nat) (Φ : FEnv) (ns : List (Str × NameKind)) (st : Stmt) (ms : MS) : Prop :=
  ∀ A env z σ s Q E, Room K A → EnvS env ns → C.In z → FRep env z σ s → HRep z σ.heap s → wpS Φ C.G ms σ Q → wpAny (model C.prog C.w) A (exec st env) (OutS env z σ s Q) E s
noncomputable def SSs (C : Ctx) (K : Nat) (Φ : FEnv) (ns : List (Str × NameKind)) (st : List Stmt) (ms : MSs) : Prop :=
  ∀ A env z σ s Q E, Room K A → EnvS env ns → C.In z → FRep env z σ s → HRep z σ.heap s → wpSs Φ C.G ms σ Q → wpAny (model C.prog C.w) A (execs st env) (OutS env z σ s Q) E s

section
variable {C : Ctx} {K : Nat} {Φ : FEnv} {ns : List (Str × NameKind)}

noncomputable def storable (ns : List (Str × NameKind)) (x : Str) : Bool := ns.lookup x == some .local || ns.lookup x == some .cell

/-- a name is stored -/
theorem st_var {A : Around} {env : Env} {z : Zh} {σ : St} {s : Shared} {x : Str} {v : V} {val : Value} {E : Value → Shared → Prop} {Q : Unit → Shared → Prop} {M : Model} (hE : EnvS env ns) (hx : storable ns x = true) (F : FRep env z σ s) (R : HRep z σ.heap s)
    (hv : VRel z v val) (h : ∀ s', FRep env z (σ.put x v) s' → HRep z σ.heap s' → ExtO (OwnA env) s σ.heap z s' σ.heap z → Q () s') : wpAny M A (storeName env x val) Q E s := by
  have ext : ∀ {X : Addr} {hh : Heap} {tk : Nat}, OwnA env X → (∀ b o, b ≠ X → s.heap.get? b = some o → hh.get? b = some o) → (∃ o, hh.get? X = some o) → ExtO (OwnA env) s σ.heap z { s with heap := hh, toks := tk } σ.heap z := by
    intro X hh tk hX hk hex
    refine ⟨⟨_, _, rfl⟩, ZLe.refl z, fun b o e _ hb => hk b o (by rintro rfl; exact hb hX) e, fun b o hb e => ?_, fun a o e => .inl e, fun a o e => .inr ⟨o, e⟩⟩
    by_cases q : b = X
    · subst q; exact hex
    · exact ⟨o, hk b o q e⟩
  have hkind : env.kindOf x = some .local ∨ (env.kindOf x = some .cell ∨ env.kindOf x = some .free) ∧ ∃ c, env.cells.lookup x = some c := by
    simp only [storable, Bool.or_eq_true, beq_iff_eq] at hx
    rcases hx with q | q
    · exact .inl (hE.ok.names x _ q)
    · exact .inr (hE.ok.names x _ q)
  obtain ⟨m, hn, hm⟩ := F.loc
  by_cases hl : env.kindOf x = some .local
  · refine wpAny_storeName_local hl hn (fun h' hn' hs' => ?_) (by rw [hE.ok.kind]; rfl)
    have hk : ∀ b o, b ≠ env.locals → s.heap.get? b = some o → h'.get? b = some o := fun b o hb e => (hs'.2 b hb).trans e
    have offc : ∀ y c, (y, c) ∈ env.cells → c ≠ env.locals := hE.off
    refine h _ ⟨⟨_, hn', fun y v' hv' hk' => ?_⟩, fun y v' hv' => ?_, fun y v' hv' hk' => ?_, fun y c hc => ?_, F.ownz, F.ownh⟩ (R.other (tk := s.toks + 1) hk (F.ownz _ (.inl rfl)) (F.ownh _ (.inl rfl)))
      (ext (tk := s.toks + 1) (.inl rfl) hk (by obtain ⟨o, _, _, ho, _⟩ := hn'; exact ⟨o, ho⟩))
    · simp only [St.put_vars] at hv'
      by_cases e : y = x
      · rw [if_pos e] at hv'; cases hv'; exact ⟨val, by rw [if_pos e], hv⟩
      · rw [if_neg e] at hv'
        obtain ⟨val', h1, h2⟩ := hm y v' hv' hk'
        exact ⟨val', by rw [if_neg e]; exact h1, h2⟩
    · simp only [St.put_vars] at hv'
      by_cases e : y = x
      · subst e; exact .inl hl
      · rw [if_neg e] at hv'; exact F.kind y v' hv'
    · simp only [St.put_vars] at hv'
      by_cases e : y = x
      · subst e; exact absurd hl hk'
      · rw [if_neg e] at hv'
        obtain ⟨c, val', h1, ⟨o, ho, hd⟩, h3⟩ := F.cell y v' hv' hk'
        exact ⟨c, val', h1, ⟨o, hk _ _ (offc y c (mem_of_lookup h1)) ho, hd⟩, h3⟩
    · obtain ⟨v', o, ho, hd⟩ := F.cells y c hc
      exact ⟨v', o, hk _ _ (offc y c hc) ho, hd⟩
  · rcases hkind with q | ⟨q, c, hc⟩
    · exact absurd q hl
    · have hcell : env.kindOf x = some .cell := by
        simp only [storable, Bool.or_eq_true, beq_iff_eq] at hx
        rcases hx with q | q
        · exact absurd (hE.ok.names x _ q) hl
        · exact hE.cellk x q
      obtain ⟨v₀, hv₀⟩ := F.cells x c (mem_of_lookup hc)
      have hcl : c ≠ env.locals := hE.off x c (mem_of_lookup hc)
      refine wpAny_storeName_cell hE.ok.kind hcell hc hv₀ fun h' hc' hs' => ?_
      have hk : ∀ b o, b ≠ c → s.heap.get? b = some o → h'.get? b = some o := fun b o hb e => (hs'.2 b hb).trans e
      refine h _ ⟨⟨m, ?_, fun y v' hv' hk' => ?_⟩, fun y v' hv' => ?_, fun y v' hv' hk' => ?_, fun y c' hc'' => ?_, F.ownz, F.ownh⟩ (R.other (tk := s.toks) hk (F.ownz _ (.inr ⟨x, mem_of_lookup hc⟩)) (F.ownh _ (.inr ⟨x, mem_of_lookup hc⟩)))
        (ext (tk := s.toks) (.inr ⟨x, mem_of_lookup hc⟩) hk (by obtain ⟨o, ho, _⟩ := hc'; exact ⟨o, ho⟩))
      · obtain ⟨o, es, ep, ho, r⟩ := hn
        exact ⟨o, es, ep, hk _ _ (Ne.symm hcl) ho, r⟩
      · simp only [St.put_vars] at hv'
        by_cases e : y = x
        · subst e; exact absurd hk' hl
        · rw [if_neg e] at hv'; exact hm y v' hv' hk'
      · simp only [St.put_vars] at hv'
        by_cases e : y = x
        · subst e; exact .inr (.inl hcell)
        · rw [if_neg e] at hv'; exact F.kind y v' hv'
      · simp only [St.put_vars] at hv'
        by_cases e : y = x
        · subst e; rw [if_pos rfl] at hv'; cases hv'; exact ⟨c, val, hc, hc', hv⟩
        · rw [if_neg e] at hv'
          obtain ⟨c₂, val', h1, ⟨o, ho, hd⟩, h3⟩ := F.cell y v' hv' hk'
          refine ⟨c₂, val', h1, ⟨o, hk _ _ ?_ ho, hd⟩, h3⟩
          rintro rfl
          exact e (name_of_addr hE.apart (mem_of_lookup h1) (mem_of_lookup hc))
      · by_cases e : c' = c
        · subst e; exact ⟨_, hc'⟩
        · obtain ⟨v', o, ho, hd⟩ := F.cells y c' hc''
          exact ⟨v', o, hk _ _ e ho, hd⟩


/-! statements -/
theorem sss_nil : SSs C K Φ ns [] .nil := fun A env z σ s Q E hA hE hz F R H => by
  simp only [uSs_nil] at H
  exact wpAny_execs_nil ⟨.next, σ, z, H, rfl, F, R, ExtO.refl _ _ _ _⟩
theorem sss_cons {st : Stmt} {rest : List Stmt} {ms : MS} {mss : MSs} (h : SS C K Φ ns st ms) (hr : SSs C K Φ ns rest mss) : SSs C K Φ ns (st :: rest) (.cons ms mss) := fun A env z σ s Q E hA hE hz F R H => by
  simp only [uSs_cons] at H
  refine wpAny_execs_cons (wpAny_mono (h A env z σ s _ E hA hE hz F R H) (fun f s₁ h₁ => ?_) fun _ _ e => e)
  obtain ⟨fl, σ₁, z₁, q₁, v₁, F₁, R₁, X₁⟩ := h₁
  cases fl with
  | next =>
    simp only [FlRel] at v₁; subst v₁
    exact wpAny_mono (hr A env z₁ σ₁ s₁ Q E hA hE (hz.mono X₁.zle) F₁ R₁ q₁) (fun f s₂ h₂ => h₂.after X₁) fun _ _ e => e
  | brk => simp only [FlRel] at v₁; subst v₁; exact ⟨.brk, σ₁, z₁, q₁, rfl, F₁, R₁, X₁⟩
  | cont => simp only [FlRel] at v₁; subst v₁; exact ⟨.cont, σ₁, z₁, q₁, rfl, F₁, R₁, X₁⟩
  | ret v => simp only [FlRel] at v₁; obtain ⟨val, rfl, hv⟩ := v₁; exact ⟨.ret v, σ₁, z₁, q₁, ⟨val, rfl, hv⟩, F₁, R₁, X₁⟩

theorem frz_rel {z z' : Zh} {h h' : Hp} {s : Shared} (R : HRep z h s) (hz : ZLe z z') (hn : ∀ a o ob, h a = some o → h' a = none → s.heap.get? a = some ob → z' a = some ob) {v w : V} (f : Frz h h' v w) : ∀ {x : Value}, VRel z v x → VRel z' w x := by
  induction f with
  | none => intro x hx; simpa [VRel] using hx
  | bool b => intro x hx; simpa [VRel] using hx
  | int i => intro x hx; simpa [VRel] using hx
  | str i => intro x hx; simpa [VRel] using hx
  | typ i => intro x hx; simpa [VRel] using hx
  | rng a b c => intro x hx; exact hx.mono hz
  | keep a => intro x hx; simpa [VRel] using hx
  | @list vs ws hl _ ih =>
    intro x hx
    simp only [VRel] at hx ⊢
    obtain ⟨a, items, n, e, ha, hs, hr⟩ := hx
    refine ⟨a, items, n, e, hz _ _ ha, hs, VRels.of_get (by rw [← hl, hr.length]) fun i w y hw hy => ?_⟩
    obtain ⟨v, hv, hvr⟩ := hr.get' hy
    exact ih i v w hv hw hvr
  | @tup vs ws hl _ ih =>
    intro x hx
    simp only [VRel] at hx ⊢
    obtain ⟨a, items, n, e, ha, hs, hr⟩ := hx
    refine ⟨a, items, n, e, hz _ _ ha, hs, VRels.of_get (by rw [← hl, hr.length]) fun i w y hw hy => ?_⟩
    obtain ⟨v, hv, hvr⟩ := hr.get' hy
    exact ih i v w hv hw hvr
  | @ref a vs ws h1 h2 hl _ ih =>
    intro x hx
    simp only [VRel] at hx ⊢
    subst hx
    obtain ⟨ob, h3, items, n, rfl, hs, hr⟩ := R.obj a _ h1
    refine ⟨a, items, n, rfl, hn a _ _ h1 h2 h3, hs, VRels.of_get (by rw [← hl, hr.length]) fun i w y hw hy => ?_⟩
    obtain ⟨v, hv, hvr⟩ := hr.get' hy
    exact ih i v w hv hw hvr

open Classical in
theorem sss_freeze {x : Str} {sts : List Stmt} {mss : MSs} (h : SSs C K Φ ns sts mss) : SSs C K Φ ns sts (.cons (.freeze x) mss) := fun A env z σ s Q E hA hE hz F R H => by
  simp only [uSs_cons, uS_freeze] at H
  cases ex : σ.vars x with
  | none => rw [ex] at H; exact H.elim
  | some v =>
    rw [ex] at H
    obtain ⟨h', w, hsub, hf, H⟩ := H
    let z' : Zh := fun a => if (σ.heap a).isSome ∧ h' a = none then s.heap.get? a else z a
    have hle : ZLe z z' := fun a o e => by
      show (if (σ.heap a).isSome ∧ h' a = none then s.heap.get? a else z a) = some o
      split
      · exact R.zsub a o e
      · exact e
    have hn : ∀ a o ob, σ.heap a = some o → h' a = none → s.heap.get? a = some ob → z' a = some ob := fun a o ob e1 e2 e3 => by
      show (if (σ.heap a).isSome ∧ h' a = none then s.heap.get? a else z a) = some ob
      rw [if_pos ⟨by rw [e1]; rfl, e2⟩]; exact e3
    have R' : HRep z' h' s := ⟨fun a o e => by
        change (if (σ.heap a).isSome ∧ h' a = none then s.heap.get? a else z a) = some o at e
        split at e
        · exact e
        · exact R.zsub a o e,
      fun a o e => by obtain ⟨ob, h1, h2⟩ := R.obj a o (hsub a o e); exact ⟨ob, h1, h2.mono hle⟩,
      fun a o e => by
        show (if (σ.heap a).isSome ∧ h' a = none then s.heap.get? a else z a) = none
        rw [if_neg (by rw [e]; simp)]
        exact R.disj a o (hsub a o e)⟩
    have X : Ext s σ.heap z s h' z' := ⟨⟨s.heap, s.toks, rfl⟩, hle, fun b o e _ => e, fun a o e => by
        change (if (σ.heap a).isSome ∧ h' a = none then s.heap.get? a else z a) = some o at e
        split at e
        · rename_i q; exact .inr (.inr (Option.isSome_iff_exists.mp q.1))
        · exact .inl e,
      fun a o e => .inr ⟨o, hsub a o e⟩⟩
    have F₁ := F.ext X
    have F' : FRep env z' ⟨(σ.put x w).vars, h'⟩ s := by
      refine ⟨?_, fun y v' hv' => ?_, fun y v' hv' hk => ?_, F₁.cells, F₁.ownz, F₁.ownh⟩
      · obtain ⟨m, hm1, hm2⟩ := F.loc
        refine ⟨m, hm1, fun y v' hv' hk => ?_⟩
        simp only [St.put_vars] at hv'
        by_cases e : y = x
        · subst e; rw [if_pos rfl] at hv'; cases hv'
          obtain ⟨val, q1, q2⟩ := hm2 y v ex hk
          exact ⟨val, q1, frz_rel R hle hn hf q2⟩
        · rw [if_neg e] at hv'
          obtain ⟨val, q1, q2⟩ := hm2 y v' hv' hk
          exact ⟨val, q1, q2.mono hle⟩
      · simp only [St.put_vars] at hv'
        by_cases e : y = x
        · subst e; exact F.kind y v ex
        · rw [if_neg e] at hv'; exact F.kind y v' hv'
      · simp only [St.put_vars] at hv'
        by_cases e : y = x
        · subst e; rw [if_pos rfl] at hv'; cases hv'
          obtain ⟨c, val, q1, q2, q3⟩ := F.cell y v ex hk
          exact ⟨c, val, q1, q2, frz_rel R hle hn hf q3⟩
        · rw [if_neg e] at hv'
          obtain ⟨c, val, q1, q2, q3⟩ := F.cell y v' hv' hk
          exact ⟨c, val, q1, q2, q3.mono hle⟩
    exact wpAny_mono (h A env z' ⟨(σ.put x w).vars, h'⟩ s Q E hA hE (hz.mono hle) F' R' H) (fun f s₂ h₂ => h₂.after (F.toO X)) fun _ _ e => e

theorem ss_raise {a b : Option PySem.Expr} {p : Pos} : SS C K Φ ns (.Raise a b p) .raise_ := fun A env z σ s Q E hA hE hz F R H => H.elim
theorem ss_try {b : List Stmt} {h₀ : ExceptHandler} {hs : List ExceptHandler} {p : Pos} {m : MSs} (h : SSs C K Φ ns b m) : SS C K Φ ns (.Try b (h₀ :: hs) [] [] p) (.try_ m) := fun A env z σ s Q E hA hE hz F R H => by
  simp only [uS_try] at H
  refine wpAny_Try_except (wpAny_mono (h A env z σ s Q _ hA hE hz F R H) (fun f s₁ h₁ => ?_) fun _ _ e => e)
  cases f with
  | next => exact wpAny_pure h₁
  | _ => exact h₁
end
end Mine

namespace Mine
open PySem

section
variable {C : Ctx} {K : Nat} {Φ : FEnv} {ns : List (Str × NameKind)}

noncomputable def notComp : PySem.Expr → Bool
  | .ListComp .. => false
  | .SetComp .. => false
  | .DictComp .. => false
  | _ => true
theorem swaps_plain {e : PySem.Expr} {t : Option PySem.Expr} {l : Nat} {env : Env} (h : notComp e = true) : swapsWith e t l env = pure false := by
  cases e <;> first | rfl | (exact nomatch (show false = true from h))

theorem OutE.toS {env : Env} {z : Zh} {σ : St} {s : Shared} {Q : V → St → Prop} {val : Value} {s' : Shared} (F : FRep env z σ s) (h : OutE env z σ s Q val s') :
    ∃ v σ' z', Q v σ' ∧ VRel z' v val ∧ FRep env z' σ' s' ∧ HRep z' σ'.heap s' ∧ ExtO (OwnA env) s σ.heap z s' σ'.heap z' := by
  obtain ⟨v, σ', z', q, hv, F', R', _, X⟩ := h
  exact ⟨v, σ', z', q, hv, F', R', F.toO X⟩

theorem ss_assign {x : Str} {px pos : Pos} {e : PySem.Expr} {me : ME} (hx : storable ns x = true) (he : SE C K Φ ns e me) (hc : notComp e = true) : SS C K Φ ns (.Assign [.Name x px] e pos) (.assign x me) := fun A env z σ s Q E hA hE hz F R H => by
  simp only [uS_assign] at H
  refine wpAny_Assign_Name (wpAny_mono (he A env z σ s _ E hA hE.ok hz F R H) (fun val s₁ h₁ => ?_) fun _ _ e => e) (swaps_plain hc)
  obtain ⟨v, σ₁, z₁, q₁, v₁, F₁, R₁, X₁⟩ := h₁.toS F
  exact st_var hE hx F₁ R₁ v₁ fun s₂ F₂ R₂ X₂ => ⟨.next, σ₁.put x v, z₁, q₁, rfl, F₂, R₂, X₁.trans X₂⟩

theorem ss_assign_comp {y : Str} {py spos : Pos} {elt iter : PySem.Expr} {ifs : List PySem.Expr} {x : Str} {px pos : Pos} {sc : Scope} {m : Bool} {me mi : ME} {mts : MTs} (hy : storable ns y = true) (hs : scopeOk ns sc x = true) (hit : notSet iter = true)
    (hi : SE C K Φ ns iter mi) (he : SE C K Φ sc.names elt me) (ht : STs C K Φ sc.names ifs mts) :
    SS C K Φ ns (.Assign [.Name y py] (.ListComp elt [⟨.Name x px, iter, ifs, 0⟩] sc pos) spos) (.assign y (.comp m me x (frees sc) mi mts)) := fun A env z σ s Q E hA hE hz F R H => by
  have hsw : ∃ b, swapsWith (.ListComp elt [⟨.Name x px, iter, ifs, 0⟩] sc pos) (some (.Name y py)) spos.line env = pure b := ⟨_, rfl⟩
  obtain ⟨b, hsw⟩ := hsw
  cases b with
  | false =>
    simp only [uS_assign] at H
    refine wpAny_Assign_Name (wpAny_mono (se_comp (m := m) hs hit hi he ht A env z σ s _ E hA hE.ok hz F R H) (fun val s₁ h₁ => ?_) fun _ _ e => e) hsw
    obtain ⟨v, σ₁, z₁, q₁, v₁, F₁, R₁, X₁⟩ := h₁.toS F
    exact st_var hE hy F₁ R₁ v₁ fun s₂ F₂ R₂ X₂ => ⟨.next, σ₁.put y v, z₁, q₁, rfl, F₂, R₂, X₁.trans X₂⟩
  | true =>
    simp only [uS_assign, uE_comp] at H
    have hs' := hs
    simp only [scopeOk, Bool.and_eq_true] at hs'
    obtain ⟨⟨⟨⟨⟨⟨h1, h2⟩, h3⟩, h4⟩, h5⟩, h6⟩, h7⟩ := hs'
    obtain ⟨cl, hclos, hcl, hfr⟩ := closure_ok (env := env) (sc := sc) (fun y hy => by
      have := List.all_eq_true.mp h5 y hy
      simp only [Bool.and_eq_true, Bool.or_eq_true, beq_iff_eq] at this
      rcases this.1 with q | q
      · exact (hE.ok.names y _ q).2
      · exact (hE.ok.names y _ q).2)
    rw [exec_Assign_Name_used _ _ _ _ hsw]
    refine wpAny_bind (wpAny_standAt (wpAny_bind ?_))
    show wpAny _ A (do let _ ← comprehension (.ListComp elt [⟨.Name x px, iter, ifs, 0⟩] sc pos) sc env _ (newList []) false (eval iter env) (some (assign (.Name y py) env))) _ _ s
    refine wpAny_bind (wpAny_mono (wpAny_comprehension_free (use := some (assign (.Name y py) env)) (Q := fun _ s' => OutS env z σ s Q .next s') rfl (folded_plain hit) hclos (by simpa using h1) (fun y hy hl => by
        have := List.all_eq_true.mp h3 y hy
        simpa [hl] using this)
      (wpAny_mono (hi A env z σ s _ E hA hE.ok hz F R H) (fun av s₁ h₁ => ?_) fun _ _ e => e)) (fun _ s' hq => wpAny_pure (wpAny_pure hq)) fun _ _ e => e)
    obtain ⟨a, σ₁, z₁, q₁, v₁, F₁, R₁, e₁, X₁⟩ := h₁
    cases ei : iter? σ₁.heap a with
    | none => rw [ei] at q₁; exact q₁.elim
    | some vs =>
      rw [ei] at q₁
      obtain ⟨hlen, q₁⟩ := q₁
      refine comp_run (Rr := fun acc Cn => compPost (model C.prog C.w) A E (some (assign (.Name y py) env)) (fun _ s' => OutS env z σ s Q .next s') acc Cn) hA hE.ok hs hcl hfr he ht (hz.mono X₁.zle) F₁ R₁ v₁ ei hlen q₁ ?_
      intro D Cn s' v h' z' hC hcn hq hv R' X' hzc hhc
      obtain ⟨mm, hmm⟩ := hcn
      have F' := F₁.ext X'
      have hCn : ¬ OwnA env Cn := fun ho => by
        rcases ho with rfl | ⟨y, hy⟩
        · obtain ⟨m, ⟨o, _, _, ho, _⟩, _⟩ := F₁.loc; rw [hC] at ho; cases ho
        · obtain ⟨v, o, ho, _⟩ := F₁.cells y Cn hy; rw [hC] at ho; cases ho
      show wpAny _ A (assign (.Name y py) env (.ref D)) _ _ _
      refine wpAny_assign_Name (st_var hE hy F' R' hv fun s₂ F₂ R₂ X₂ => ?_)
      obtain ⟨o, es, ep, ho, r⟩ := hmm
      refine ⟨mm, ⟨o, es, ep, X₂.pres _ _ ho hhc hCn, r⟩, fun hh hsb => ?_⟩
      have hk : ∀ b o, b ≠ Cn → s₂.heap.get? b = some o → hh.get? b = some o := fun b o hb e => (hsb.2 b hb).trans e
      have R₃ := R₂.other (tk := s₂.toks) hk hzc hhc
      have X₃ : ExtO (OwnA env) s σ.heap z { s₂ with heap := hh } h' z' := by
        have X₀ := (F₁.toO X').trans X₂
        refine (F.toO X₁).trans ⟨by obtain ⟨a, b, rfl⟩ := X₀.same; exact ⟨hh, _, rfl⟩, X₀.zle, fun b o e hb hno => hk b o (by rintro rfl; rw [hC] at e; cases e) (X₀.pres b o e hb hno), fun b o hb e => ?_, X₀.newz, X₀.newh⟩
        obtain ⟨o', e'⟩ := X₀.live b o hb e
        exact ⟨o', hk b o' (by rintro rfl; exact hCn hb) e'⟩
      have F₃ : FRep env z' ((σ₁.hp h').put y v) { s₂ with heap := hh } := by
        refine ⟨?_, F₂.kind, fun y' v' hv' hk' => ?_, fun y' c hc' => ?_, F₂.ownz, F₂.ownh⟩
        · obtain ⟨m, ⟨o, es, ep, ho, r⟩, hm⟩ := F₂.loc
          exact ⟨m, ⟨o, es, ep, hk _ _ (by rintro rfl; exact hCn (.inl rfl)) ho, r⟩, hm⟩
        · obtain ⟨c, val, q1, ⟨o, ho, hd⟩, q3⟩ := F₂.cell y' v' hv' hk'
          exact ⟨c, val, q1, ⟨o, hk _ _ (by rintro rfl; exact hCn (.inr ⟨y', mem_of_lookup q1⟩)) ho, hd⟩, q3⟩
        · obtain ⟨v', o, ho, hd⟩ := F₂.cells y' c hc'
          exact ⟨v', o, hk _ _ (by rintro rfl; exact hCn (.inr ⟨y', hc'⟩)) ho, hd⟩
      exact ⟨.next, (σ₁.hp h').put y v, z', hq, rfl, F₃, R₃, X₃⟩


theorem ss_setitem {o i e : PySem.Expr} {p pos : Pos} {mo mi me : ME} (ho : SE C K Φ ns o mo) (hi : SE C K Φ ns i mi) (he : SE C K Φ ns e me) : SS C K Φ ns (.Assign [.Subscript o i p] e pos) (.setitem mo mi me) := fun A env z σ s Q E hA hE hz F R H => by
  simp only [uS_setitem] at H
  have hsw : swapsWith e (some (.Subscript o i p)) pos.line env = pure false := by cases e <;> rfl
  refine wpAny_Assign_Subscript (wpAny_mono (he A env z σ s _ E hA hE.ok hz F R H) (fun val s₁ h₁ => ?_) fun _ _ e => e) hsw
  obtain ⟨v, σ₁, z₁, q₁, v₁, F₁, R₁, e₁, X₁⟩ := h₁
  refine wpAny_mono (ho A env z₁ σ₁ s₁ _ E hA hE.ok (hz.mono X₁.zle) F₁ R₁ q₁) (fun x s₂ h₂ => ?_) fun _ _ e => e
  obtain ⟨a, σ₂, z₂, q₂, v₂, F₂, R₂, e₂, X₂⟩ := h₂
  refine wpAny_mono (hi A env z₂ σ₂ s₂ _ E hA hE.ok ((hz.mono X₁.zle).mono X₂.zle) F₂ R₂ q₂) (fun y s₃ h₃ => ?_) fun _ _ e => e
  obtain ⟨b, σ₃, z₃, q₃, v₃, F₃, R₃, e₃, X₃⟩ := h₃
  refine wpAny_mono (s_set R₃ (by have := hA.units; omega) (v₂.mono X₃.zle) v₃ (v₁.mono (X₂.zle.trans X₃.zle)) q₃) (fun _ s₄ h₄ => ?_) fun _ _ e => e
  obtain ⟨h', z', hq, R', X'⟩ := h₄
  exact ⟨.next, σ₃.hp h', z', hq, rfl, F₃.ext X', R', F.toO (((X₁.trans X₂).trans X₃).trans X')⟩

theorem ss_aug {x : Str} {px pos : Pos} {op : Operator} {e : PySem.Expr} {me : ME} (hx : storable ns x = true) (hcd : (x == ("__classdict__" : Str)) = false) (he : SE C K Φ ns e me) : SS C K Φ ns (.AugAssign (.Name x px) op e pos) (.aug x op me) := fun A env z σ s Q E hA hE hz F R H => by
  simp only [uS_aug] at H
  cases ex : σ.vars x with
  | none => rw [ex] at H; exact H.elim
  | some a =>
    rw [ex] at H
    simp only [ofSome_some] at H
    refine wpAny_AugAssign_Name (load_var hE.ok.kind F ex hcd fun old hold => ?_)
    refine wpAny_mono (he A env z σ s _ E hA hE.ok hz F R H) (fun y s₁ h₁ => ?_) fun _ _ e => e
    obtain ⟨b, σ₁, z₁, q₁, v₁, F₁, R₁, X₁⟩ := h₁.toS F
    split at q₁
    · rename_i i j
      simp only [VRel] at hold v₁
      obtain ⟨t, rfl⟩ := hold
      obtain ⟨u, rfl⟩ := v₁
      refine P.iadd_int ?_
      obtain ⟨R₂, X₂⟩ := R₁.toks (s₁.toks + 1)
      exact st_var hE hx (F₁.ext X₂) R₂ (vint _ _) fun s₃ F₃ R₃ X₃ => ⟨.next, _, z₁, q₁, rfl, F₃, R₃, X₁.trans ((F₁.toO X₂).trans X₃)⟩
    · exact q₁.elim

theorem ss_expr {e : PySem.Expr} {me : ME} {pos : Pos} (he : SE C K Φ ns e me) (hc : notComp e = true) : SS C K Φ ns (.Expr e pos) (.expr me) := fun A env z σ s Q E hA hE hz F R H => by
  simp only [uS_expr] at H
  refine wpAny_Expr (wpAny_mono (he A env z σ s _ E hA hE.ok hz F R H) (fun val s₁ h₁ => ?_) fun _ _ e => e) (by simp [interactive, hE.ok.kind]) (swaps_plain hc)
  obtain ⟨v, σ₁, z₁, q₁, v₁, F₁, R₁, X₁⟩ := h₁.toS F
  cases v <;> simp only at q₁
  simp only [VRel] at v₁; subst v₁
  exact ⟨.next, σ₁, z₁, q₁, rfl, F₁, R₁, X₁⟩

theorem ss_ret {e : PySem.Expr} {me : ME} {pos : Pos} (he : SE C K Φ ns e me) : SS C K Φ ns (.Return (some e) pos) (.ret me) := fun A env z σ s Q E hA hE hz F R H => by
  simp only [uS_ret] at H
  refine wpAny_Return_some (wpAny_mono (he A env z σ s _ E hA hE.ok hz F R H) (fun val s₁ h₁ => ?_) fun _ _ e => e)
  obtain ⟨v, σ₁, z₁, q₁, v₁, F₁, R₁, X₁⟩ := h₁.toS F
  exact ⟨.ret v, σ₁, z₁, q₁, ⟨val, rfl, v₁⟩, F₁, R₁, X₁⟩

theorem ss_ite {t : PySem.Expr} {b o : List Stmt} {pos : Pos} {mt : MT} {mb mo : MSs} (ht : ST C K Φ ns t mt) (hb : SSs C K Φ ns b mb) (ho : SSs C K Φ ns o mo) : SS C K Φ ns (.If t b o pos) (.ite mt mb mo) := fun A env z σ s Q E hA hE hz F R H => by
  simp only [uS_ite] at H
  refine wpAny_If (wpAny_mono (ht A env z σ s _ E hA hE.ok hz F R H) (fun c s₁ h₁ => ?_) fun _ _ e => e)
  obtain ⟨σ₁, z₁, q₁, F₁, R₁, e₁, X₁⟩ := h₁
  cases c with
  | true =>
    simp only [if_true] at q₁ ⊢
    exact wpAny_mono (hb A env z₁ σ₁ s₁ Q E hA hE (hz.mono X₁.zle) F₁ R₁ q₁) (fun f s₂ h₂ => h₂.after (F.toO X₁)) fun _ _ e => e
  | false =>
    simp only [Bool.false_eq_true, if_false] at q₁ ⊢
    exact wpAny_mono (ho A env z₁ σ₁ s₁ Q E hA hE (hz.mono X₁.zle) F₁ R₁ q₁) (fun f s₂ h₂ => h₂.after (F.toO X₁)) fun _ _ e => e

theorem ss_whl {t : PySem.Expr} {b : List Stmt} {pos : Pos} {mt : MT} {mb : MSs} (ht : ST C K Φ ns t mt) (hb : SSs C K Φ ns b mb) : SS C K Φ ns (.While t b [] pos) (.whl mt mb) := fun A env z σ s Q E hA hE hz F R H => by
  simp only [uS_whl] at H
  obtain ⟨I, ⟨n, hn⟩, step⟩ := H
  refine wpAny_While (codeAny_whileLoop (I := fun n s' => ∃ σ' z', I n σ' ∧ FRep env z' σ' s' ∧ HRep z' σ'.heap s' ∧ ExtO (OwnA env) s σ.heap z s' σ'.heap z') ?_ n ⟨σ, z, hn, F, R, ExtO.refl _ _ _ _⟩)
  rintro n s₁ ⟨σ₁, z₁, hI, F₁, R₁, X₁⟩
  refine wpAny_mono (ht A env z₁ σ₁ s₁ _ _ hA hE.ok (hz.mono X₁.zle) F₁ R₁ (step n σ₁ hI)) (fun c s₂ h₂ => ?_) fun _ _ e => e
  obtain ⟨σ₂, z₂, q₂, F₂, R₂, e₂, X₂⟩ := h₂
  have X₁₂ := X₁.trans (F₁.toO X₂)
  cases c with
  | true =>
    simp only [if_true] at q₂ ⊢
    refine wpAny_mono (hb A env z₂ σ₂ s₂ _ _ hA hE (hz.mono X₁₂.zle) F₂ R₂ q₂) (fun f s₃ h₃ => ?_) fun _ _ e => e
    obtain ⟨fl, σ₃, z₃, q₃, v₃, F₃, R₃, X₃⟩ := h₃
    cases fl with
    | next => simp only [FlRel] at v₃; subst v₃; obtain ⟨k, hk, hI'⟩ := q₃; exact ⟨k, hk, σ₃, z₃, hI', F₃, R₃, X₁₂.trans X₃⟩
    | cont => simp only [FlRel] at v₃; subst v₃; obtain ⟨k, hk, hI'⟩ := q₃; exact ⟨k, hk, σ₃, z₃, hI', F₃, R₃, X₁₂.trans X₃⟩
    | brk => simp only [FlRel] at v₃; subst v₃; exact ⟨.next, σ₃, z₃, q₃, rfl, F₃, R₃, X₁₂.trans X₃⟩
    | ret w => simp only [FlRel] at v₃; obtain ⟨val, rfl, hv⟩ := v₃; exact ⟨.ret w, σ₃, z₃, q₃, ⟨val, rfl, hv⟩, F₃, R₃, X₁₂.trans X₃⟩
  | false =>
    simp only [Bool.false_eq_true, if_false] at q₂ ⊢
    exact wpAny_execs_nil ⟨.next, σ₂, z₂, q₂, rfl, F₂, R₂, X₁₂⟩

end
end Mine

namespace Mine
open PySem

section
variable {C : Ctx} {K : Nat} {Φ : FEnv} {ns : List (Str × NameKind)}

structure FInv (env : Env) (s₁ : Shared) (σ₀ : St) (z₁ : Zh) (I : Addr) (St : Nat → Heap → Prop) (i : Nat) (σ : Mine.St) (z : Zh) (s : Shared) : Prop where
  F : FRep env z σ s
  R : HRep z σ.heap s
  X : ExtO (OwnA env) s₁ σ₀.heap z₁ s σ.heap z
  st : St i s.heap
  off : z I = none ∧ σ.heap I = none

/-- a target and the names it binds -/
noncomputable def TA (ns : List (Str × NameKind)) (prog : Program) (w : World) (tg : PySem.Expr) (xs : List Str) : Prop :=
  ∀ (A : Around) (env : Env) (z : Zh) (σ σ₁ : St) (s : Shared) (v : V) (val : Value) (E : Value → Shared → Prop) (Q : Unit → Shared → Prop), A.handled = none → EnvS env ns → FRep env z σ s → HRep z σ.heap s → VRel z v val → bindT xs v σ = some σ₁ →
    (∀ s', FRep env z σ₁ s' → HRep z σ.heap s' → ExtO (OwnA env) s σ.heap z s' σ.heap z → Q () s') → wpAny (model prog w) A (assign tg env val) Q E s
theorem bindT_heap : ∀ {xs : List Str} {v : V} {σ σ₁ : St}, bindT xs v σ = some σ₁ → σ₁.heap = σ.heap := by
  have fold : ∀ (l : List (Str × V)) (σ : St), (l.foldl (fun σ p => σ.put p.1 p.2) σ).heap = σ.heap := by
    intro l
    induction l with
    | nil => intro σ; rfl
    | cons p r ih => intro σ; rw [List.foldl_cons, ih]; rfl
  intro xs v σ σ₁ h
  unfold bindT at h
  split at h
  · cases h; rfl
  · split at h
    · cases h; exact fold _ _
    · cases h
  · cases h
theorem ta_name {x : Str} {px : Pos} (hx : storable ns x = true) : TA ns C.prog C.w (.Name x px) [x] := fun A env z σ σ₁ s v val E Q _ hE F R hv hb h => by
  simp only [bindT, Option.some.injEq] at hb
  subst hb
  exact wpAny_assign_Name (st_var hE hx F R hv h)
theorem ss_forT {tg : PySem.Expr} {xs : List Str} {pos : Pos} {iter : PySem.Expr} {b : List Stmt} {mi : ME} {mb : MSs} (htg : TA ns C.prog C.w tg xs) (hit : notSet iter = true) (hi : SE C K Φ ns iter mi) (hb : SSs C K Φ ns b mb) :
    SS C K Φ ns (.For tg iter b [] pos) (.for_ xs mi mb) := fun A env z σ s Q E hA hE hz F R H => by
  simp only [uS_for_] at H
  refine wpAny_For (wpAny_mono (hi A env z σ s _ E hA hE.ok hz F R H) (fun av s₁ h₁ => ?_) fun _ _ e => e) (folded_plain hit)
  obtain ⟨a, σ₁, z₁, q₁, v₁, F₁, R₁, e₁, X₁⟩ := h₁
  cases ei : iter? σ₁.heap a with
  | none => rw [ei] at q₁; exact q₁.elim
  | some vs =>
    rw [ei] at q₁
    obtain ⟨hlen, q₁⟩ := q₁
    refine iter_it hA.hand R₁ v₁ ei fun oI St W st0 hfI => ?_
    obtain ⟨I, hI⟩ : ∃ I, s₁.heap.objs.size = I := ⟨_, rfl⟩
    have hI0 : s₁.heap.get? I = none := by rw [← hI]; exact size_fresh s₁
    rw [hI] at W
    simp only [hI]
    have hIown : ¬ OwnA env I := fun ho => by
      rcases ho with rfl | ⟨y, hy⟩
      · obtain ⟨m, ⟨o, _, _, ho, _⟩, _⟩ := F₁.loc; rw [hI0] at ho; cases ho
      · obtain ⟨v, o, ho, _⟩ := F₁.cells y I hy; rw [hI0] at ho; cases ho
    have zI : z₁ I = none := by
      cases q : z₁ I with
      | none => rfl
      | some o => have := R₁.zsub I o q; rw [hI0] at this; cases this
    have hhI : σ₁.heap I = none := by
      cases q : σ₁.heap I with
      | none => rfl
      | some o => obtain ⟨ob, h1, _⟩ := R₁.obj I o q; rw [hI0] at h1; cases h1
    obtain ⟨R₂, X₂⟩ := R₁.grow (s' := { s₁ with heap := s₁.heap.push oI }) ⟨_, _, rfl⟩ (fun b o e => Heap.get?_push_of_some _ e) (ZLe.refl z₁) fun _ _ e => .inl e
    have V₀ : FInv env s₁ σ₁ z₁ I St 0 σ₁ z₁ { s₁ with heap := s₁.heap.push oI } := ⟨F₁.ext X₂, R₂, F₁.toO X₂, st0, zI, hhI⟩
    refine codeAny_forLoop_any (I := fun n s' => ∃ i σ' z', i + n = vs.length ∧ FInv env s₁ σ₁ z₁ I St i σ' z' s' ∧ forL (wpSs Φ C.G mb) xs (vs.drop i) σ' Q) ?_ vs.length ⟨0, σ₁, z₁, by omega, V₀, by simpa using q₁⟩
    clear V₀ q₁ X₂ R₂
    rintro n s₂ ⟨i, σ₂, z₂, hn, V, H₂⟩
    obtain ⟨F₂, R₂, X₂, st, off⟩ := V
    have XX : ExtO (OwnA env) s σ.heap z s₂ σ₂.heap z₂ := (F.toO X₁).trans X₂
    -- the iterator's step
    have stepI : ∀ {h' : Heap} {tk : Nat}, (∀ b o, b ≠ I → s₂.heap.get? b = some o → h'.get? b = some o) → FRep env z₂ σ₂ { s₂ with heap := h', toks := tk } ∧ HRep z₂ σ₂.heap { s₂ with heap := h', toks := tk } ∧ ExtO (OwnA env) s₁ σ₁.heap z₁ { s₂ with heap := h', toks := tk } σ₂.heap z₂ := by
      intro h' tk hk
      refine ⟨⟨?_, F₂.kind, fun y v hv hk' => ?_, fun y c hc => ?_, F₂.ownz, F₂.ownh⟩, R₂.other hk off.1 off.2, ⟨by obtain ⟨a, b, rfl⟩ := X₂.same; exact ⟨h', tk, rfl⟩, X₂.zle, fun b o e hb hno => hk b o (by rintro rfl; rw [hI0] at e; cases e) (X₂.pres b o e hb hno), fun b o hb e => ?_, X₂.newz, X₂.newh⟩⟩
      · obtain ⟨m, ⟨o, es, ep, ho, r⟩, hm⟩ := F₂.loc
        exact ⟨m, ⟨o, es, ep, hk _ _ (by rintro rfl; exact hIown (.inl rfl)) ho, r⟩, hm⟩
      · obtain ⟨c, val, q1, ⟨o, ho, hd⟩, q3⟩ := F₂.cell y v hv hk'
        exact ⟨c, val, q1, ⟨o, hk _ _ (by rintro rfl; exact hIown (.inr ⟨y, mem_of_lookup q1⟩)) ho, hd⟩, q3⟩
      · obtain ⟨v', o, ho, hd⟩ := F₂.cells y c hc
        exact ⟨v', o, hk _ _ (by rintro rfl; exact hIown (.inr ⟨y, hc⟩)) ho, hd⟩
      · obtain ⟨o', e'⟩ := X₂.live b o hb e
        exact ⟨o', hk b o' (by rintro rfl; exact hIown hb) e'⟩
    cases n with
    | zero =>
      have hi' : i = vs.length := by omega
      subst hi'
      simp only [List.drop_length, forL] at H₂
      refine W.done s₂ _ _ st fun h' tk hk => ?_
      obtain ⟨F₃, R₃, X₃⟩ := stepI (tk := tk) hk
      exact wpAny_execs_nil ⟨.next, σ₂, z₂, H₂, rfl, F₃, R₃, (F.toO X₁).trans X₃⟩
    | succ n =>
      have hi' : i < vs.length := by omega
      have hv : vs[i]? = some vs[i] := by simp [hi']
      have hdrop : vs.drop i = vs[i] :: vs.drop (i + 1) := List.drop_eq_getElem_cons hi'
      rw [hdrop] at H₂
      simp only [forL] at H₂
      cases hbt : bindT xs vs[i] σ₂ with
      | none => rw [hbt] at H₂; exact H₂.elim
      | some σb =>
      rw [hbt] at H₂
      simp only [ofSome_some] at H₂
      have hσ := bindT_heap hbt
      refine W.item i vs[i] s₂ _ _ hv st fun val h₃ tk₃ hval st₃ hk => ?_
      obtain ⟨F₃, R₃, X₃⟩ := stepI (tk := tk₃) hk
      obtain ⟨oI', nI, hoI, hcI, hnI⟩ := W.ex _ _ st₃
      refine go_plain hoI hcI hnI ?_
      refine htg A env z₂ σ₂ σb _ _ val _ _ hA.hand hE F₃ R₃ (hval.mono X₂.zle) hbt fun s₄ F₄ R₄ X₄ => ?_
      have st₄ : St (i + 1) s₄.heap := W.frame _ _ _ st₃ (fun o e => X₄.pres _ _ e off.2 hIown) (fun a o e => R₃.zsub a o (X₂.zle a o e)) (fun a o e => R₄.zsub a o (X₂.zle a o e))
      have hoI₄ : s₄.heap.get? I = some oI' := X₄.pres _ _ hoI off.2 hIown
      refine wpAny_mono (hb A env z₂ σb s₄ _ _ hA hE (hz.mono XX.zle) F₄ (by rw [hσ]; exact R₄) H₂) (fun f s₅ h₅ => ?_) fun _ _ e => e
      obtain ⟨fl, σ₅, z₅, q₅, v₅, F₅, R₅, X₅⟩ := h₅
      rw [hσ] at X₅
      have X₁₅ := (X₃.trans X₄).trans X₅
      have XX₅ := (F.toO X₁).trans X₁₅
      have nxt : forL (wpSs Φ C.G mb) xs (vs.drop (i + 1)) σ₅ Q → ∃ m, m < n + 1 ∧ ∃ i σ' z', i + m = vs.length ∧ FInv env s₁ σ₁ z₁ I St i σ' z' s₅ ∧ forL (wpSs Φ C.G mb) xs (vs.drop i) σ' Q := fun q => by
        refine ⟨n, Nat.lt_succ_self n, i + 1, σ₅, z₅, by omega, ⟨F₅, R₅, X₁₅, ?_, ?_, ?_⟩, q⟩
        · exact W.frame _ _ _ st₄ (fun o e => X₅.pres _ _ e off.2 hIown) (fun a o e => R₄.zsub a o (X₂.zle a o e)) (fun a o e => R₅.zsub a o (X₅.zle a o (X₂.zle a o e)))
        · cases q : z₅ I with
          | none => rfl
          | some o =>
            rcases X₅.newz I o q with q1 | q1 | ⟨o', q1⟩
            · rw [off.1] at q1; cases q1
            · rw [hoI₄] at q1; cases q1
            · have q2 : σ₂.heap I = some o' := q1; rw [off.2] at q2; cases q2
        · cases q : σ₅.heap I with
          | none => rfl
          | some o =>
            rcases X₅.newh I o q with q1 | ⟨o', q1⟩
            · rw [hoI₄] at q1; cases q1
            · have q2 : σ₂.heap I = some o' := q1; rw [off.2] at q2; cases q2
      cases fl with
      | next => simp only [FlRel] at v₅; subst v₅; exact nxt q₅
      | cont => simp only [FlRel] at v₅; subst v₅; exact nxt q₅
      | brk => simp only [FlRel] at v₅; subst v₅; exact ⟨.next, σ₅, z₅, q₅, rfl, F₅, R₅, XX₅⟩
      | ret w => simp only [FlRel] at v₅; obtain ⟨val', rfl, hv'⟩ := v₅; exact ⟨.ret w, σ₅, z₅, q₅, ⟨val', rfl, hv'⟩, F₅, R₅, XX₅⟩

theorem ss_for {x : Str} {px pos : Pos} {iter : PySem.Expr} {b : List Stmt} {mi : ME} {mb : MSs} (hx : storable ns x = true) (hit : notSet iter = true) (hi : SE C K Φ ns iter mi) (hb : SSs C K Φ ns b mb) :
    SS C K Φ ns (.For (.Name x px) iter b [] pos) (.for_ [x] mi mb) := ss_forT (ta_name hx) hit hi hb

end
end Mine

namespace Mine
open PySem

section
variable {C : Ctx} {K : Nat} {Φ : FEnv} {ns : List (Str × NameKind)}

theorem cells_keys : ∀ (names : List (Str × NameKind)) (n : Nat) (acc : List (Str × Addr)), (cellsFrom n names acc).map (·.1) = ((names.filter fun p => p.2 == .cell).map (·.1)).reverse ++ acc.map (·.1)
  | [], n, acc => by simp [cellsFrom]
  | (x, k) :: r, n, acc => by
    unfold cellsFrom
    by_cases hk : (k == NameKind.cell) = true
    · rw [if_pos hk, cells_keys r]; simp [hk]
    · rw [if_neg hk, cells_keys r]
      have : (k == NameKind.cell) = false := by simpa using hk
      simp [this]

theorem lookup_nodup {α : Type} : ∀ {l : List (Str × α)}, (l.map (·.1)).Nodup → ∀ {x : Str} {c : α}, (x, c) ∈ l → l.lookup x = some c
  | (y, d) :: r, hn, x, c, hm => by
    simp only [List.map_cons, List.nodup_cons] at hn
    rw [List.lookup_cons]
    rcases List.mem_cons.mp hm with e | hm'
    · cases e; simp
    · have hne : (x == y) = false := by
        cases q : x == y with
        | false => rfl
        | true => have := beq_iff_eq.mp q; subst this; exact absurd (List.mem_map_of_mem (f := fun p : Str × α => p.1) hm') hn.1
      rw [hne]; exact lookup_nodup hn.2 hm'

theorem bind_at {z : Zh} {kindOf : Str → Option NameKind} : ∀ {ps : List Str} {vs : List V} {xs : List Value}, ps.Nodup → vs.length = ps.length → VRels z vs xs → ∀ (m cm : Str → Option Value) (x : Str),
    (x ∉ ps → bindL kindOf (ps.zip xs) m x = m x ∧ bindC kindOf (ps.zip xs) cm x = cm x) ∧
    (∀ v, bindP ps vs x = some v → ∃ val, VRel z v val ∧ (kindOf x = some .local → bindL kindOf (ps.zip xs) m x = some val) ∧ (kindOf x ≠ some .local → bindC kindOf (ps.zip xs) cm x = some val))
  | [], [], xs, _, _, hv, m, cm, x => by
    simp only [VRels] at hv; subst hv
    exact ⟨fun _ => ⟨rfl, rfl⟩, fun v h => by simp [bindP] at h⟩
  | [], _ :: _, _, _, h, _, _, _, _ => by simp at h
  | _ :: _, [], _, _, h, _, _, _, _ => by simp at h
  | p :: ps, v :: vs, xs, hn, hl, hv, m, cm, x => by
    simp only [VRels] at hv
    obtain ⟨y, r, rfl, h1, h2⟩ := hv
    simp only [List.nodup_cons] at hn
    simp only [List.zip_cons_cons, bindL, bindC]
    have ih := bind_at (kindOf := kindOf) hn.2 (by simpa using hl) h2
    constructor
    · intro hx
      simp only [List.mem_cons, not_or] at hx
      obtain ⟨i1, i2⟩ := (ih (if kindOf p = some .local then fun z => if z = p then some y else m z else m) (if kindOf p = some .local then cm else fun z => if z = p then some y else cm z) x).1 hx.2
      rw [i1, i2]
      constructor
      · split
        · exact if_neg hx.1
        · rfl
      · split
        · rfl
        · exact if_neg hx.1
    · intro w hw
      simp only [bindP] at hw
      by_cases e : x = p
      · rw [if_pos e] at hw; cases hw
        subst e
        obtain ⟨i1, i2⟩ := (ih (if kindOf x = some .local then fun z => if z = x then some y else m z else m) (if kindOf x = some .local then cm else fun z => if z = x then some y else cm z) x).1 hn.1
        refine ⟨y, h1, fun hk => ?_, fun hk => ?_⟩
        · rw [i1, if_pos hk]; exact if_pos rfl
        · rw [i2, if_neg hk]; exact if_pos rfl
      · rw [if_neg e] at hw
        exact (ih _ _ x).2 w hw

theorem s_fun {f : Fn} {a : Addr} {o : Obj} {name : Str} {params : Arguments} {body : List Stmt} {scope : Scope} {pm cd doc : Value} (hC : C.Ok) (ho : C.h₀.get? a = some o) (hd : o.data = .func (Calls.docDef name params body scope pm cd doc)) (hcd : C.h₀.CodeRec cd name)
    (hbind : ∀ vals : List Value, vals.length = f.params.length → bindArgs (Calls.docDef name params body scope pm cd doc) ⟨vals, []⟩ = pure (f.params.zip vals))
    (hpar : (f.params.all fun x => storable scope.names x) = true) (hnd : f.params.Nodup) (hnames : (scope.names.map (·.1)).Nodup) (hfree : ∀ p ∈ scope.names, p.2 ≠ .free) (hk : scope.kind = .function) (hco : scope.isCoroutine = false) (hgen : scope.isGenerator = false)
    (hbody : SSs C K Φ scope.names body f.body) {args : List V} {h : Hp} {Q : V → Hp → Prop} (H : wpF Φ C.G f args h Q) {A : Around} {z : Zh} {s : Shared} {xs : List Value} {E : Value → Shared → Prop} (hA : Room (K + 1) A) (hz : C.In z) (R : HRep z h s) (hxs : VRels z args xs) :
    wpAny (model C.prog C.w) A (call (.ref a) xs) (OutH z h s Q) E s := by
  obtain ⟨hlen, H⟩ := H
  have hk' := heap_in hz R
  have hcells : ∀ x c, (cellsFrom (s.heap.objs.size + 1) scope.names []).lookup x = some c ↔ (x, c) ∈ cellsFrom (s.heap.objs.size + 1) scope.names [] := fun x c => by
    refine ⟨mem_of_lookup, lookup_nodup ?_⟩
    rw [cells_keys]
    simp only [List.map_nil, List.append_nil]
    exact List.pairwise_reverse.mpr ((hnames.sublist (List.filter_sublist.map _)).imp fun h => Ne.symm h)
  have hcellname : ∀ x, scope.names.lookup x = some .cell → ∃ c, (cellsFrom (s.heap.objs.size + 1) scope.names []).lookup x = some c := fun x hx => by
    have : x ∈ (cellsFrom (s.heap.objs.size + 1) scope.names []).map (·.1) := by
      rw [cells_keys]
      simp only [List.map_nil, List.append_nil, List.mem_reverse]
      exact List.mem_map.mpr ⟨(x, .cell), List.mem_filter.mpr ⟨mem_of_lookup hx, rfl⟩, rfl⟩
    obtain ⟨p, hp, rfl⟩ := List.mem_map.mp this
    exact ⟨p.2, (hcells p.1 p.2).mpr hp⟩
  have hdep := hA.depth
  have hun := hA.units
  refine wpAny_call (codeAny_call_cells (fd := Calls.docDef name params body scope pm cd doc) (body := body) (by omega) (hk' _ _ ho) hd (hC.lim.keeps hk') (hcd.keeps hk') rfl (hbind xs (by rw [hxs.length, hlen])) rfl ?_ ?_ hco hgen hk)
  · intro p hp
    obtain ⟨x, y⟩ := p
    have hx : x ∈ f.params := (List.of_mem_zip hp).1
    have := List.all_eq_true.mp hpar x hx
    simp only [storable, Bool.or_eq_true, beq_iff_eq] at this
    rcases this with q | q
    · exact .inl q
    · obtain ⟨c, hc⟩ := hcellname x q
      exact .inr ⟨q, by show (List.lookup x (cellsFrom _ _ _)).isSome = true; rw [show List.lookup x (cellsFrom (s.heap.objs.size + 1) (Calls.docDef name params body scope pm cd doc).scope.names []) = some c from hc]; rfl⟩
  · intro s₁ x
    generalize henv : callEnvC (Calls.docDef name params body scope pm cd doc) s.heap.objs.size a = env at x ⊢
    have e_loc : env.locals = s.heap.objs.size := by rw [← henv]; rfl
    have e_cells : env.cells = cellsFrom (s.heap.objs.size + 1) scope.names [] := by rw [← henv]; rfl
    have e_kind : ∀ y, env.kindOf y = scope.names.lookup y := fun y => by rw [← henv]; rfl
    obtain ⟨⟨⟨hh, tk, es⟩, xns, xkeep, xfresh⟩, xcell, xapart, xabove⟩ := x
    have fresh : ∀ b, s.heap.objs.size ≤ b → s.heap.get? b = none := fun b hb => by
      cases q : s.heap.get? b with
      | none => rfl
      | some o' => exact absurd (Heap.lt_size q) (Nat.not_lt.mpr hb)
    have ownfresh : ∀ b, OwnA env b → s.heap.get? b = none := fun b hb => by
      rcases hb with rfl | ⟨y, hy⟩
      · exact fresh _ (by rw [e_loc]; exact Nat.le_refl _)
      · have := xabove y b hy
        exact fresh b (by rw [e_loc] at this; exact Nat.le_of_lt this)
    have zown : ∀ b, OwnA env b → z b = none := fun b hb => by
      cases q : z b with
      | none => rfl
      | some o' => have := R.zsub b o' q; rw [ownfresh b hb] at this; cases this
    have hown : ∀ b, OwnA env b → h b = none := fun b hb => by
      cases q : h b with
      | none => rfl
      | some o' => obtain ⟨ob, h1, _⟩ := R.obj b o' q; rw [ownfresh b hb] at h1; cases h1
    obtain ⟨R₁, X₁⟩ := R.grow (s' := s₁) ⟨hh, tk, es⟩ xkeep (ZLe.refl z) fun _ _ e => .inl e
    have hb := bind_at (z := z) (kindOf := env.kindOf) hnd hlen hxs (fun _ => none) (fun _ => none)
    have inpar : ∀ y v, bindP f.params args y = some v → y ∈ f.params := fun y v hv => Classical.byContradiction fun hn => by
      have : bindP f.params args y = none := by
        clear hv hb hbind hpar hnd hlen H hxs
        generalize f.params = ps at hn
        induction ps generalizing args with
        | nil => cases args <;> rfl
        | cons p ps ih =>
          simp only [List.mem_cons, not_or] at hn
          cases args with
          | nil => rfl
          | cons v vs => simp only [bindP]; rw [if_neg hn.1]; exact ih hn.2
      rw [this] at hv; cases hv
    have F₁ : FRep env z ⟨bindP f.params args, h⟩ s₁ := by
      refine ⟨⟨_, xns, fun y v hv hl => ?_⟩, fun y v hv => ?_, fun y v hv hl => ?_, fun y c hc => ?_, zown, hown⟩
      · obtain ⟨val, q1, q2, _⟩ := (hb y).2 v hv
        exact ⟨val, q2 hl, q1⟩
      · have := List.all_eq_true.mp hpar y (inpar y v hv)
        simp only [storable, Bool.or_eq_true, beq_iff_eq] at this
        rw [e_kind]
        rcases this with q | q
        · exact .inl q
        · exact .inr (.inl q)
      · obtain ⟨val, q1, _, q3⟩ := (hb y).2 v hv
        have := List.all_eq_true.mp hpar y (inpar y v hv)
        simp only [storable, Bool.or_eq_true, beq_iff_eq] at this
        rw [e_kind] at hl
        rcases this with q | q
        · exact absurd q hl
        · obtain ⟨c, hc⟩ := hcellname y q
          refine ⟨c, val, by rw [e_cells]; exact hc, ?_, q1⟩
          have := xcell y c (by rw [e_cells]; exact hc)
          rw [q3 (by rw [e_kind]; exact hl)] at this
          exact this
      · rw [e_cells] at hc
        exact ⟨_, xcell y c (by rw [e_cells]; exact (hcells y c).mpr hc)⟩
    have hE : EnvS env scope.names := by
      refine ⟨⟨by rw [← henv]; exact hk, by rw [← henv]; rfl, by rw [← henv]; rfl, fun y k hy => ?_⟩, xapart, fun y c hc => Nat.ne_of_gt (xabove y c hc), fun y hy => by rw [e_kind]; exact hy⟩
      cases k with
      | «local» => simpa [kLike, e_kind] using hy
      | cell => simp only [kLike]; exact ⟨.inl (by rw [e_kind]; exact hy), by rw [e_cells]; exact hcellname y hy⟩
      | free => exact absurd rfl (hfree _ (mem_of_lookup hy))
      | globalImplicit => simpa [kLike, e_kind] using hy
      | globalExplicit => trivial
    have hA' : Room K (A.deeper env) := ⟨hA.hand, by show A.depth + 1 + K + 10 < _; omega, by show A.units + 3 + 4 * K + 200 < _; omega⟩
    refine wpAny_mono (hbody (A.deeper env) env z ⟨bindP f.params args, h⟩ s₁ _ _ hA' hE hz F₁ R₁ H) (fun fl s₂ h₂ => ?_) fun _ _ e => e
    obtain ⟨fl', σ₂, z₂, q₂, v₂, F₂, R₂, X₂⟩ := h₂
    have X : Ext s h z s₂ σ₂.heap z₂ := by
      refine ⟨?_, X₂.zle, fun b o' e hb' => X₂.pres b o' (xkeep b o' e) hb' (fun ho' => by rw [ownfresh b ho'] at e; cases e), fun b o' e => ?_, fun b o' e => ?_⟩
      · obtain ⟨a1, b1, e1⟩ := X₂.same
        rw [e1, es]; exact ⟨a1, b1, rfl⟩
      · rcases X₂.newz b o' e with q | q | q
        · exact .inl q
        · refine .inr (.inl ?_)
          cases q3 : s.heap.get? b with
          | none => rfl
          | some o3 => rw [xkeep b o3 q3] at q; cases q
        · exact .inr (.inr q)
      · rcases X₂.newh b o' e with q | q
        · refine .inl ?_
          cases q3 : s.heap.get? b with
          | none => rfl
          | some o3 => rw [xkeep b o3 q3] at q; cases q
        · exact .inr q
    cases fl' with
    | next => simp only [FlRel] at v₂; subst v₂; exact ⟨.none, σ₂.heap, z₂, q₂, by simp [VRel], R₂, X⟩
    | ret v => simp only [FlRel] at v₂; obtain ⟨val, rfl, hv⟩ := v₂; exact ⟨v, σ₂.heap, z₂, q₂, hv, R₂, X⟩
    | brk => exact q₂.elim
    | cont => exact q₂.elim

end
end Mine

namespace Mine
open PySem

structure Cfg where
  muts : List (Nat × Nat)
  frz : List (Nat × Str)
  fns : List Str

noncomputable def grd {α : Type} (b : Bool) (x : Option α) : Option α := match b with | true => x | false => none
theorem grd_some {α : Type} {b : Bool} {x : Option α} {a : α} (h : grd b x = some a) : b = true ∧ x = some a := by
  cases b <;> simp_all [grd]

noncomputable def Cfg.mut (c : Cfg) (p : Pos) : Bool := c.muts.contains (p.line, p.col)
noncomputable def Cfg.mutB (c : Cfg) (p : Pos) : Bool := c.muts.contains (p.line, 1000 + p.endCol)

noncomputable def isVar (ns : List (Str × NameKind)) (x : Str) : Bool := match ns.lookup x with
  | some .local => true
  | some .cell => true
  | some .free => true
  | _ => false

noncomputable def prOf (f : Str) : Option Pr :=
  if f = "len" then some .len else if f = "range" then some .range else if f = "type" then some .type else if f = "max" then some .max else if f = "min" then some .min else if f = "list" then some .list else if f = "chr" then some .chr else if f = "str" then some .str else if f = "int" then some .int else none
theorem prOf_name {f : Str} {p : Pr} (h : prOf f = some p) : f = prName p := by
  unfold prOf at h
  repeat' split at h
  all_goals first | (cases h; assumption) | cases h

noncomputable def one? {α : Type} : List α → Option α
  | [x] => some x
  | _ => none
theorem one?_eq {α : Type} {l : List α} {x : α} (h : one? l = some x) : l = [x] := by
  cases l with
  | nil => exact nomatch (show (none : Option α) = some x from h)
  | cons y r => cases r with
    | nil => cases (show some y = some x from h); rfl
    | cons z r => exact nomatch (show (none : Option α) = some x from h)
noncomputable def strX : PySem.Expr → Option Str
  | .Constant (.str s) _ _ => some s
  | _ => none
theorem strX_eq {e : PySem.Expr} {x : Str} (h : strX e = some x) : ∃ k p, e = .Constant (.str x) k p := by
  cases e with
  | Constant k a p => cases k with
    | str s => cases (show some s = some x from h); exact ⟨a, p, rfl⟩
    | _ => exact nomatch (show (none : Option Str) = some x from h)
  | _ => exact nomatch (show (none : Option Str) = some x from h)
noncomputable def attrX : PySem.Expr → Option (PySem.Expr × Str × Pos)
  | .Attribute o a p => some (o, a, p)
  | _ => none
theorem attrX_eq {e : PySem.Expr} {x : PySem.Expr × Str × Pos} (h : attrX e = some x) : e = .Attribute x.1 x.2.1 x.2.2 := by
  cases e with
  | Attribute o a p => cases (show some (o, a, p) = some x from h); rfl
  | _ => exact nomatch (show (none : Option (PySem.Expr × Str × Pos)) = some x from h)
noncomputable def subX : PySem.Expr → Option (PySem.Expr × PySem.Expr)
  | .Subscript o i _ => some (o, i)
  | _ => none
theorem subX_eq {e : PySem.Expr} {x : PySem.Expr × PySem.Expr} (h : subX e = some x) : ∃ p, e = .Subscript x.1 x.2 p := by
  cases e with
  | Subscript o a p => cases (show some (o, a) = some x from h); exact ⟨p, rfl⟩
  | _ => exact nomatch (show (none : Option (PySem.Expr × PySem.Expr)) = some x from h)
noncomputable def sliceX : PySem.Expr → Option (Option PySem.Expr × Option PySem.Expr)
  | .Slice lo hi none _ => some (lo, hi)
  | _ => none
theorem sliceX_eq {e : PySem.Expr} {x : Option PySem.Expr × Option PySem.Expr} (h : sliceX e = some x) : ∃ p, e = .Slice x.1 x.2 none p := by
  cases e with
  | Slice lo hi st p => cases st with
    | none => cases (show some (lo, hi) = some x from h); exact ⟨p, rfl⟩
    | some _ => exact nomatch (show (none : Option (Option PySem.Expr × Option PySem.Expr)) = some x from h)
  | _ => exact nomatch (show (none : Option (Option PySem.Expr × Option PySem.Expr)) = some x from h)

noncomputable def mapE (f : PySem.Expr → Option ME) : List PySem.Expr → Option MEs
  | [] => some .nil
  | e :: r => grd (notStar e) ((f e).bind fun a => (mapE f r).map (.cons a))
noncomputable def mapT (f : PySem.Expr → Option MT) : List PySem.Expr → Option MTs
  | [] => some .nil
  | e :: r => (f e).bind fun a => (mapT f r).map (.cons a)
noncomputable def optE (f : PySem.Expr → Option ME) : Option PySem.Expr → Option ME
  | none => some .none
  | some e => f e


noncomputable def constE : Const → Option ME
  | .int i => some (.int i)
  | .str s => grd (PyData.strOk s && decide (s.length ≤ 1000)) (some (.str s))
  | .bool b => some (.bool b)
  | .none => some .none
  | _ => none
noncomputable def nameE (ns : List (Str × NameKind)) (x : Str) : Option ME := grd (x != "__debug__" && x != "__classdict__") (
      if isVar ns x then some (.var x)
      else grd (ns.lookup x == some .globalImplicit) (match used.lookup x with
        | some (.type t) => some (.typ t)
        | some _ => none
        | none => some (.glob x)))
noncomputable def cmpE {α : Type} (f : PySem.Expr → Option ME) (g : CmpOp → ME → ME → α) (l : PySem.Expr) (ops : List CmpOp) (rs : List PySem.Expr) : Option α :=
  (one? ops).bind fun op => (one? rs).bind fun r => grd (!behindInMarks op r) ((f l).bind fun a => (f r).map (g op a))
noncomputable def callE (c : Cfg) (fE : List (Str × NameKind) → PySem.Expr → Option ME) (ns : List (Str × NameKind)) (f : PySem.Expr) (args : List PySem.Expr) (pos : Pos) : Option ME := match nameX f with
  | some f => grd (ns.lookup f == some .globalImplicit && f != "__debug__" && args.all notStar) (match prOf f with
      | some p => (mapE (fE ns) args).map (.prim p)
      | none => grd (c.fns.contains f) ((mapE (fE ns) args).map (.call f)))
  | none => (attrX f).bind fun o => (one? args).bind fun x => grd (notStar x && o.2.2.endLine == pos.line) (match strX o.1 with
      | some _ => none
      | none => grd (o.2.1 == "append" && notSuper o.1) ((fE ns o.1).bind fun a => (fE ns x).map (.append a)))
noncomputable def subE (fE : List (Str × NameKind) → PySem.Expr → Option ME) (ns : List (Str × NameKind)) (o i : PySem.Expr) : Option ME := match sliceX i with
  | some l => (fE ns o).bind fun a => (optE (fE ns) l.1).bind fun b => (optE (fE ns) l.2).map (.slice a b)
  | none => grd (notSlice i) ((fE ns o).bind fun a => (fE ns i).map (.item a))
noncomputable def compE (c : Cfg) (fE : List (Str × NameKind) → PySem.Expr → Option ME) (fT : List (Str × NameKind) → PySem.Expr → Option MT) (ns : List (Str × NameKind)) (elt : PySem.Expr) (gens : List Comprehension) (sc : Scope) (pos : Pos) : Option ME :=
  (one? gens).bind fun g => (nameX g.target).bind fun x => grd (scopeOk ns sc x && notSet g.iter && g.is_async == 0) ((fE sc.names elt).bind fun a => (fE ns g.iter).bind fun b => (mapT (fT sc.names) g.ifs).map (.comp (c.mut pos) a x (frees sc) b))
noncomputable def stepE (c : Cfg) (fE : List (Str × NameKind) → PySem.Expr → Option ME) (fT : List (Str × NameKind) → PySem.Expr → Option MT) (ns : List (Str × NameKind)) : PySem.Expr → Option ME
  | .Constant k _ _ => constE k
  | .Name x _ => nameE ns x
  | .BinOp l op r pos => (fE ns l).bind fun a => (fE ns r).map (.bin (c.mutB pos) op a)
  | .UnaryOp .USub x _ => (fE ns x).map .neg
  | .Compare l ops rs _ => cmpE (fE ns) .cmp l ops rs
  | .Call f args kws pos => grd kws.isEmpty (callE c fE ns f args pos)
  | .Subscript o i _ => subE fE ns o i
  | .List es pos => (mapE (fE ns) es).map (.list (c.mut pos))
  | .Tuple es _ _ => (mapE (fE ns) es).map .tup
  | .Dict ks vs _ => grd (ks.isEmpty && vs.isEmpty) (some .dict0)
  | .ListComp elt gens sc pos => compE c fE fT ns elt gens sc pos
  | _ => none
noncomputable def stepT (fE : List (Str × NameKind) → PySem.Expr → Option ME) (fT : List (Str × NameKind) → PySem.Expr → Option MT) (ns : List (Str × NameKind)) : PySem.Expr → Option MT
  | .UnaryOp .Not x _ => (fT ns x).map .not
  | .BoolOp .And vs _ => (mapT (fT ns) vs).map .and
  | .BoolOp .Or vs _ => (mapT (fT ns) vs).map .or
  | .Compare l ops rs _ => cmpE (fE ns) .cmp l ops rs
  | e => grd (plainTest e) ((fE ns e).map .val)
noncomputable def tr (c : Cfg) : Nat → (List (Str × NameKind) → PySem.Expr → Option ME) × (List (Str × NameKind) → PySem.Expr → Option MT)
  | 0 => (fun _ _ => none, fun _ _ => none)
  | n + 1 => (stepE c (tr c n).1 (tr c n).2, stepT (tr c n).1 (tr c n).2)
noncomputable def trE (c : Cfg) (n : Nat) := (tr c n).1
noncomputable def trT (c : Cfg) (n : Nat) := (tr c n).2

section
variable {C : Ctx} {K : Nat} {Φ : FEnv}

theorem mapE_ok {ns : List (Str × NameKind)} {f : PySem.Expr → Option ME} (hf : ∀ e me, f e = some me → SE C K Φ ns e me) : ∀ {es : List PySem.Expr} {mes : MEs}, mapE f es = some mes → SEs C K Φ ns es mes
  | [], mes, h => by simp only [mapE, Option.some.injEq] at h; subst h; exact ses_nil
  | e :: r, mes, h => by
    simp only [mapE] at h
    obtain ⟨h1, h⟩ := grd_some h
    obtain ⟨a, ha, h⟩ := Option.bind_eq_some_iff.mp h
    obtain ⟨b, hb, rfl⟩ := Option.map_eq_some_iff.mp h
    exact ses_cons (hf e a ha) (mapE_ok hf hb) h1
theorem mapT_and {ns : List (Str × NameKind)} {f : PySem.Expr → Option MT} {pos : Pos} (hf : ∀ e me, f e = some me → ST C K Φ ns e me) : ∀ {es : List PySem.Expr} {mes : MTs}, mapT f es = some mes → ST C K Φ ns (.BoolOp .And es pos) (.and mes)
  | [], mes, h => by simp only [mapT, Option.some.injEq] at h; subst h; exact st_and_nil
  | e :: r, mes, h => by
    simp only [mapT] at h
    obtain ⟨a, ha, h⟩ := Option.bind_eq_some_iff.mp h
    obtain ⟨b, hb, rfl⟩ := Option.map_eq_some_iff.mp h
    exact st_and_cons (hf e a ha) (mapT_and hf hb)
theorem mapT_or {ns : List (Str × NameKind)} {f : PySem.Expr → Option MT} {pos : Pos} (hf : ∀ e me, f e = some me → ST C K Φ ns e me) : ∀ {es : List PySem.Expr} {mes : MTs}, mapT f es = some mes → ST C K Φ ns (.BoolOp .Or es pos) (.or mes)
  | [], mes, h => by simp only [mapT, Option.some.injEq] at h; subst h; exact st_or_nil
  | e :: r, mes, h => by
    simp only [mapT] at h
    obtain ⟨a, ha, h⟩ := Option.bind_eq_some_iff.mp h
    obtain ⟨b, hb, rfl⟩ := Option.map_eq_some_iff.mp h
    exact st_or_cons (hf e a ha) (mapT_or hf hb)
theorem mapT_sts {ns : List (Str × NameKind)} {f : PySem.Expr → Option MT} (hf : ∀ e me, f e = some me → ST C K Φ ns e me) : ∀ {es : List PySem.Expr} {mes : MTs}, mapT f es = some mes → STs C K Φ ns es mes
  | [], mes, h => by simp only [mapT, Option.some.injEq] at h; subst h; exact sts_nil
  | e :: r, mes, h => by
    simp only [mapT] at h
    obtain ⟨a, ha, h⟩ := Option.bind_eq_some_iff.mp h
    obtain ⟨b, hb, rfl⟩ := Option.map_eq_some_iff.mp h
    exact sts_cons (hf e a ha) (mapT_sts hf hb)
theorem optE_ok {ns : List (Str × NameKind)} {f : PySem.Expr → Option ME} (hf : ∀ e me, f e = some me → SE C K Φ ns e me) : ∀ {e : Option PySem.Expr} {me : ME}, optE f e = some me → SEo C K Φ ns e me
  | none, me, h => by simp only [optE, Option.some.injEq] at h; subst h; exact seo_none
  | some e, me, h => seo_some (hf e me h)
theorem cmpE_ok {α : Type} {f : PySem.Expr → Option ME} {g : CmpOp → ME → ME → α} {l : PySem.Expr} {ops : List CmpOp} {rs : List PySem.Expr} {m : α} (h : cmpE f g l ops rs = some m) :
    ∃ op r a b, ops = [op] ∧ rs = [r] ∧ behindInMarks op r = false ∧ f l = some a ∧ f r = some b ∧ m = g op a b := by
  unfold cmpE at h
  obtain ⟨op, h1, h'⟩ := Option.bind_eq_some_iff.mp h
  clear h; have h := h'; clear h'
  obtain ⟨r, h2, h'⟩ := Option.bind_eq_some_iff.mp h
  clear h; have h := h'; clear h'
  obtain ⟨h3, h'⟩ := grd_some h
  clear h; have h := h'; clear h'
  obtain ⟨a, h4, h'⟩ := Option.bind_eq_some_iff.mp h
  clear h; have h := h'; clear h'
  obtain ⟨b, h5, h'⟩ := Option.map_eq_some_iff.mp h
  clear h; have h := h'; clear h'
  exact ⟨op, r, a, b, one?_eq h1, one?_eq h2, by simpa using h3, h4, h5, h.symm⟩
theorem compE_ok {c : Cfg} {fE : List (Str × NameKind) → PySem.Expr → Option ME} {fT : List (Str × NameKind) → PySem.Expr → Option MT} {ns : List (Str × NameKind)} {elt : PySem.Expr} {gens : List Comprehension} {sc : Scope} {pos : Pos} {m : ME} (h : compE c fE fT ns elt gens sc pos = some m) :
    ∃ x px iter ifs a b d, gens = [⟨.Name x px, iter, ifs, 0⟩] ∧ scopeOk ns sc x = true ∧ notSet iter = true ∧ fE sc.names elt = some a ∧ fE ns iter = some b ∧ mapT (fT sc.names) ifs = some d ∧ m = .comp (c.mut pos) a x (frees sc) b d := by
  unfold compE at h
  obtain ⟨⟨tg, iter, ifs, k⟩, h1, h'⟩ := Option.bind_eq_some_iff.mp h
  clear h; have h := h'; clear h'
  obtain ⟨x, h2, h'⟩ := Option.bind_eq_some_iff.mp h
  clear h; have h := h'; clear h'
  obtain ⟨h3, h'⟩ := grd_some h
  clear h; have h := h'; clear h'
  simp only [Bool.and_eq_true] at h3
  obtain ⟨a, ha, h'⟩ := Option.bind_eq_some_iff.mp h
  clear h; have h := h'; clear h'
  obtain ⟨b, hb, h'⟩ := Option.bind_eq_some_iff.mp h
  clear h; have h := h'; clear h'
  obtain ⟨d, hd, h'⟩ := Option.map_eq_some_iff.mp h
  clear h; have h := h'; clear h'
  obtain ⟨px, h4⟩ := nameX_eq h2
  have hk : k = 0 := by simpa using h3.2
  have h1 := one?_eq h1
  have h4 : tg = .Name x px := h4
  subst hk h4
  exact ⟨x, px, iter, ifs, a, b, d, h1, h3.1.1, h3.1.2, ha, hb, hd, h.symm⟩
theorem callE_ok {c : Cfg} (hC : C.Ok) (hfns : ∀ f, c.fns.contains f = true → f ∈ C.fns) (hΦ : SPhi C K Φ) {fE : List (Str × NameKind) → PySem.Expr → Option ME} (ihE : ∀ ns e me, fE ns e = some me → SE C K Φ ns e me)
    {ns : List (Str × NameKind)} {f : PySem.Expr} {args : List PySem.Expr} {pos : Pos} {me : ME} (h : callE c fE ns f args pos = some me) : SE C K Φ ns (.Call f args [] pos) me := by
  unfold callE at h
  cases hf : nameX f with
  | some f' =>
    rw [hf] at h
    obtain ⟨fp, rfl⟩ := nameX_eq hf
    obtain ⟨h1, h'⟩ := grd_some h
    clear h; have h := h'; clear h'
    simp only [Bool.and_eq_true, beq_iff_eq, bne_iff_ne, ne_eq] at h1
    have hd : (f' == ("__debug__" : Str)) = false := by simpa using h1.1.2
    cases hp : prOf f' with
    | some q =>
      rw [hp] at h
      obtain ⟨b, hb, rfl⟩ := Option.map_eq_some_iff.mp h
      cases prOf_name hp
      exact se_prim hC h1.1.1 (mapE_ok (ihE ns) hb) h1.2
    | none =>
      rw [hp] at h
      obtain ⟨h2, h'⟩ := grd_some h
      clear h; have h := h'; clear h'
      obtain ⟨b, hb, rfl⟩ := Option.map_eq_some_iff.mp h
      exact se_call hC hΦ h1.1.1 (hfns _ h2) hd (mapE_ok (ihE ns) hb) h1.2
  | none =>
    rw [hf] at h
    obtain ⟨⟨o, a, apos⟩, ha, h'⟩ := Option.bind_eq_some_iff.mp h
    clear h; have h := h'; clear h'
    obtain ⟨x, hx, h'⟩ := Option.bind_eq_some_iff.mp h
    clear h; have h := h'; clear h'
    cases attrX_eq ha
    cases one?_eq hx
    obtain ⟨h1, h'⟩ := grd_some h
    clear h; have h := h'; clear h'
    simp only [Bool.and_eq_true] at h1
    cases hs : strX o with
    | some sep =>
      simp only [hs] at h
      exact nomatch h
    | none =>
      simp only [hs] at h
      obtain ⟨h2, h'⟩ := grd_some h
      clear h; have h := h'; clear h'
      simp only [Bool.and_eq_true, beq_iff_eq] at h2
      obtain ⟨b, hb, h'⟩ := Option.bind_eq_some_iff.mp h
      clear h; have h := h'; clear h'
      obtain ⟨d, hd, rfl⟩ := Option.map_eq_some_iff.mp h
      cases h2.1
      exact se_append (ihE _ _ _ hb) (ihE _ _ _ hd) h1.1 h2.2 h1.2
theorem nameE_ok (hC : C.Ok) {ns : List (Str × NameKind)} {x : Str} {p : Pos} {me : ME} (h : nameE ns x = some me) : SE C K Φ ns (.Name x p) me := by
  unfold nameE at h
  obtain ⟨h1, h'⟩ := grd_some h
  clear h; have h := h'; clear h'
  simp only [Bool.and_eq_true, bne_iff_ne, ne_eq] at h1
  have hd : (x == ("__debug__" : Str)) = false := by simpa using h1.1
  have hcd : (x == ("__classdict__" : Str)) = false := by simpa using h1.2
  split at h
  · cases h; exact se_var hd hcd
  · obtain ⟨h2, h⟩ := grd_some h
    have hx : ns.lookup x = some .globalImplicit := by simpa using h2
    split at h
    · rename_i t ht
      cases h; exact se_typ hC hx (mem_of_lookup ht) hd
    · cases h
    · cases h; exact se_glob hC hx hd
theorem subE_ok {fE : List (Str × NameKind) → PySem.Expr → Option ME} (ihE : ∀ ns e me, fE ns e = some me → SE C K Φ ns e me) {ns : List (Str × NameKind)} {o i : PySem.Expr} {p : Pos} {me : ME} (h : subE fE ns o i = some me) : SE C K Φ ns (.Subscript o i p) me := by
  unfold subE at h
  cases hs : sliceX i with
  | some l =>
    rw [hs] at h
    obtain ⟨q, rfl⟩ := sliceX_eq hs
    obtain ⟨a, ha, h'⟩ := Option.bind_eq_some_iff.mp h
    clear h; have h := h'; clear h'
    obtain ⟨b, hb, h'⟩ := Option.bind_eq_some_iff.mp h
    clear h; have h := h'; clear h'
    obtain ⟨d, hd, rfl⟩ := Option.map_eq_some_iff.mp h
    exact se_slice (ihE _ _ _ ha) (optE_ok (ihE ns) hb) (optE_ok (ihE ns) hd)
  | none =>
    rw [hs] at h
    obtain ⟨h1, h'⟩ := grd_some h
    clear h; have h := h'; clear h'
    obtain ⟨a, ha, h'⟩ := Option.bind_eq_some_iff.mp h
    clear h; have h := h'; clear h'
    obtain ⟨b, hb, rfl⟩ := Option.map_eq_some_iff.mp h
    exact se_item (ihE _ _ _ ha) (ihE _ _ _ hb) h1
theorem constE_ok {ns : List (Str × NameKind)} {k : Const} {a} {p : Pos} {me : ME} (h : constE k = some me) : SE C K Φ ns (.Constant k a p) me := by
  cases k with
  | int i => cases (show some (ME.int i) = some me from h); exact se_int
  | bool i => cases (show some (ME.bool i) = some me from h); exact se_bool
  | none => cases (show some ME.none = some me from h); exact se_none
  | str s =>
    obtain ⟨h1, h'⟩ := grd_some (show grd (PyData.strOk s && decide (s.length ≤ 1000)) (some (ME.str s)) = some me from h)
    clear h; have h := h'; clear h'
    simp only [Bool.and_eq_true, decide_eq_true_eq] at h1
    cases h; exact se_str h1.1 (by rw [sizeLine_eq]; omega)
  | _ => exact nomatch (show (none : Option ME) = some me from h)

theorem stepE_ok {c : Cfg} (hC : C.Ok) (hfns : ∀ f, c.fns.contains f = true → f ∈ C.fns) (hΦ : SPhi C K Φ) {fE : List (Str × NameKind) → PySem.Expr → Option ME} {fT : List (Str × NameKind) → PySem.Expr → Option MT} (ihE : ∀ ns e me, fE ns e = some me → SE C K Φ ns e me) (ihT : ∀ ns e mt, fT ns e = some mt → ST C K Φ ns e mt)
    {ns : List (Str × NameKind)} {e : PySem.Expr} {me : ME} (h : stepE c fE fT ns e = some me) : SE C K Φ ns e me := by
  cases e with
  | Constant k a p => exact constE_ok h
  | Name x p => exact nameE_ok hC h
  | BinOp l op r p =>
    obtain ⟨a, ha, h'⟩ := Option.bind_eq_some_iff.mp (show ((fE ns l).bind fun a => (fE ns r).map (.bin (c.mutB p) op a)) = some me from h)
    clear h; have h := h'; clear h'
    obtain ⟨b, hb, rfl⟩ := Option.map_eq_some_iff.mp h
    exact se_bin (ihE _ _ _ ha) (ihE _ _ _ hb)
  | UnaryOp op x p =>
    cases op with
    | USub =>
      obtain ⟨a, ha, rfl⟩ := Option.map_eq_some_iff.mp (show (fE ns x).map .neg = some me from h)
      exact se_neg (ihE _ _ _ ha)
    | _ => exact nomatch (show (none : Option ME) = some me from h)
  | Compare l ops rs p =>
    obtain ⟨op, r, a, b, rfl, rfl, h1, h2, h3, rfl⟩ := cmpE_ok (show cmpE (fE ns) .cmp l ops rs = some me from h)
    exact se_cmp (ihE _ _ _ h2) (ihE _ _ _ h3) h1
  | Call f args kws p =>
    obtain ⟨h1, h'⟩ := grd_some (show grd kws.isEmpty (callE c fE ns f args p) = some me from h)
    clear h; have h := h'; clear h'
    cases List.isEmpty_iff.mp h1
    exact callE_ok hC hfns hΦ ihE h
  | Subscript o i p => exact subE_ok ihE h
  | List es p =>
    obtain ⟨b, hb, rfl⟩ := Option.map_eq_some_iff.mp (show (mapE (fE ns) es).map (.list (c.mut p)) = some me from h)
    exact se_list (mapE_ok (ihE ns) hb)
  | Tuple es k p =>
    obtain ⟨b, hb, rfl⟩ := Option.map_eq_some_iff.mp (show (mapE (fE ns) es).map .tup = some me from h)
    exact se_tup (mapE_ok (ihE ns) hb)
  | Dict ks vs p =>
    obtain ⟨h1, h'⟩ := grd_some (show grd (ks.isEmpty && vs.isEmpty) (some ME.dict0) = some me from h)
    simp only [Bool.and_eq_true] at h1
    cases List.isEmpty_iff.mp h1.1; cases List.isEmpty_iff.mp h1.2
    cases h'; exact se_dict0
  | ListComp elt gens sc p =>
    obtain ⟨x, px, iter, ifs, a, b, d, rfl, h1, h2, h3, h4, h5, rfl⟩ := compE_ok (show compE c fE fT ns elt gens sc p = some me from h)
    exact se_comp h1 h2 (ihE _ _ _ h4) (ihE _ _ _ h3) (mapT_sts (ihT sc.names) h5)
  | _ => exact nomatch (show (none : Option ME) = some me from h)
theorem stepT_ok {fE : List (Str × NameKind) → PySem.Expr → Option ME} {fT : List (Str × NameKind) → PySem.Expr → Option MT} (ihE : ∀ ns e me, fE ns e = some me → SE C K Φ ns e me) (ihT : ∀ ns e mt, fT ns e = some mt → ST C K Φ ns e mt)
    {ns : List (Str × NameKind)} {e : PySem.Expr} {mt : MT} (h : stepT fE fT ns e = some mt) : ST C K Φ ns e mt := by
  have dflt : grd (plainTest e) ((fE ns e).map .val) = some mt → ST C K Φ ns e mt := fun h => by
    obtain ⟨h1, h'⟩ := grd_some h
    clear h; have h := h'; clear h'
    obtain ⟨b, hb, rfl⟩ := Option.map_eq_some_iff.mp h
    exact st_val (ihE _ _ _ hb) h1
  cases e with
  | UnaryOp op x p =>
    cases op with
    | Not =>
      obtain ⟨b, hb, rfl⟩ := Option.map_eq_some_iff.mp (show (fT ns x).map .not = some mt from h)
      exact st_not (ihT _ _ _ hb)
    | _ => exact dflt h
  | BoolOp op vs p =>
    cases op with
    | And =>
      obtain ⟨b, hb, rfl⟩ := Option.map_eq_some_iff.mp (show (mapT (fT ns) vs).map .and = some mt from h)
      exact mapT_and (ihT ns) hb
    | Or =>
      obtain ⟨b, hb, rfl⟩ := Option.map_eq_some_iff.mp (show (mapT (fT ns) vs).map .or = some mt from h)
      exact mapT_or (ihT ns) hb
  | Compare l ops rs p =>
    obtain ⟨op, r, a, b, rfl, rfl, h1, h2, h3, rfl⟩ := cmpE_ok (show cmpE (fE ns) .cmp l ops rs = some mt from h)
    exact st_cmp (ihE _ _ _ h2) (ihE _ _ _ h3) h1
  | _ => exact dflt h
theorem tr_ok (c : Cfg) (hC : C.Ok) (hfns : ∀ f, c.fns.contains f = true → f ∈ C.fns) (hΦ : SPhi C K Φ) : ∀ n : Nat, (∀ ns e me, trE c n ns e = some me → SE C K Φ ns e me) ∧ (∀ ns e mt, trT c n ns e = some mt → ST C K Φ ns e mt)
  | 0 => ⟨fun _ _ me h => (nomatch (show (none : Option ME) = some me from h)), fun _ _ mt h => (nomatch (show (none : Option MT) = some mt from h))⟩
  | n + 1 => ⟨fun _ _ _ h => stepE_ok hC hfns hΦ (tr_ok c hC hfns hΦ n).1 (tr_ok c hC hfns hΦ n).2 h, fun _ _ _ h => stepT_ok (tr_ok c hC hfns hΦ n).1 (tr_ok c hC hfns hΦ n).2 h⟩
end

/-! statements -/
noncomputable def frzs (c : Cfg) (l : Nat) (k : MSs) : MSs := (c.frz.filter fun p => p.1 == l).foldr (fun p k => .cons (.freeze p.2) k) k

noncomputable def lineOf : Stmt → Nat
  | .Assign _ _ p => p.line
  | .AugAssign _ _ _ p => p.line
  | .Expr _ p => p.line
  | .If _ _ _ p => p.line
  | .While _ _ _ p => p.line
  | .For _ _ _ _ p => p.line
  | .Return _ p => p.line
  | _ => 0

noncomputable def mapS (c : Cfg) (f : Stmt → Option MS) : List Stmt → Option MSs
  | [] => some .nil
  | s :: r => (f s).bind fun a => (mapS c f r).map fun b => frzs c (lineOf s) (.cons a b)
noncomputable def assE (fE : List (Str × NameKind) → PySem.Expr → Option ME) (ns : List (Str × NameKind)) (t e : PySem.Expr) : Option MS := match nameX t with
  | some x => grd (storable ns x) ((fE ns e).map (.assign x))
  | none => (subX t).bind fun o => (fE ns o.1).bind fun a => (fE ns o.2).bind fun b => (fE ns e).map (.setitem a b)
noncomputable def forE (fE : List (Str × NameKind) → PySem.Expr → Option ME) (fS : List (Str × NameKind) → List Stmt → Option MSs) (ns : List (Str × NameKind)) (t i : PySem.Expr) (a : List Stmt) : Option MS := match nameX t with
  | some x => grd (storable ns x && notSet i) ((fE ns i).bind fun i => (fS ns a).map (.for_ [x] i))
  | none => none
noncomputable def stepS (fE : List (Str × NameKind) → PySem.Expr → Option ME) (fT : List (Str × NameKind) → PySem.Expr → Option MT) (fS : List (Str × NameKind) → List Stmt → Option MSs) (ns : List (Str × NameKind)) : Stmt → Option MS
  | .Assign ts e _ => (one? ts).bind fun t => assE fE ns t e
  | .AugAssign t op e _ => (nameX t).bind fun x => grd (storable ns x && x != "__classdict__") ((fE ns e).map (.aug x op))
  | .Expr e _ => grd (notComp e) ((fE ns e).map .expr)
  | .If t a b _ => (fT ns t).bind fun t => (fS ns a).bind fun a => (fS ns b).map (.ite t a)
  | .While t a b _ => grd b.isEmpty ((fT ns t).bind fun t => (fS ns a).map (.whl t))
  | .For t i a b _ => grd b.isEmpty (forE fE fS ns t i a)
  | .Return e _ => e.bind fun e => (fE ns e).map .ret
  | .Raise _ _ _ => some .raise_
  | .Try b hs o f _ => grd (!hs.isEmpty && o.isEmpty && f.isEmpty) ((fS ns b).map .try_)
  | _ => none
noncomputable def trS (c : Cfg) : Nat → List (Str × NameKind) → Stmt → Option MS
  | 0, _, _ => none
  | n + 1, ns, s => stepS (trE c n) (trT c n) (fun ns => mapS c (trS c n ns)) ns s
noncomputable def trSs (c : Cfg) (n : Nat) (ns : List (Str × NameKind)) (l : List Stmt) : Option MSs := mapS c (trS c n ns) l

section
variable {C : Ctx} {K : Nat} {Φ : FEnv}
theorem frzs_ok {c : Cfg} {l : Nat} {ns : List (Str × NameKind)} {sts : List Stmt} {k : MSs} (h : SSs C K Φ ns sts k) : SSs C K Φ ns sts (frzs c l k) := by
  unfold frzs
  generalize c.frz.filter (fun p => p.1 == l) = ps
  induction ps with
  | nil => exact h
  | cons p r ih => exact sss_freeze ih
theorem mapS_ok {c : Cfg} {ns : List (Str × NameKind)} {f : Stmt → Option MS} (hf : ∀ s m, f s = some m → SS C K Φ ns s m) : ∀ {l : List Stmt} {m : MSs}, mapS c f l = some m → SSs C K Φ ns l m
  | [], m, h => by cases (show some MSs.nil = some m from h); exact sss_nil
  | s :: r, m, h => by
    obtain ⟨a, ha, h'⟩ := Option.bind_eq_some_iff.mp (show ((f s).bind fun a => (mapS c f r).map fun b => frzs c (lineOf s) (.cons a b)) = some m from h)
    clear h; have h := h'; clear h'
    obtain ⟨b, hb, rfl⟩ := Option.map_eq_some_iff.mp h
    exact frzs_ok (sss_cons (hf _ _ ha) (mapS_ok hf hb))
theorem ss_assign_any {ns : List (Str × NameKind)} {x : Str} {px pos : Pos} {e : PySem.Expr} {me : ME} {c : Cfg} {n : Nat} (hx : storable ns x = true) (hE : ∀ n ns e me, trE c n ns e = some me → SE C K Φ ns e me) (hT : ∀ n ns e me, trT c n ns e = some me → ST C K Φ ns e me)
    (h : trE c n ns e = some me) : SS C K Φ ns (.Assign [.Name x px] e pos) (.assign x me) := by
  cases hc : notComp e with
  | true => exact ss_assign hx (hE _ _ _ _ h) hc
  | false =>
    cases n with
    | zero => exact nomatch (show (none : Option ME) = some me from h)
    | succ n =>
      cases e with
      | ListComp elt gens sc p =>
        obtain ⟨x, px, iter, ifs, a, b, d, rfl, h1, h2, h3, h4, h5, rfl⟩ := compE_ok (show compE c (trE c n) (trT c n) ns elt gens sc p = some me from h)
        exact ss_assign_comp hx h1 h2 (hE _ _ _ _ h4) (hE _ _ _ _ h3) (mapT_sts (hT n sc.names) h5)
      | SetComp => exact nomatch (show (none : Option ME) = some me from h)
      | DictComp => exact nomatch (show (none : Option ME) = some me from h)
      | _ => exact nomatch (show true = false from hc)
theorem assE_ok {c : Cfg} {n : Nat} (hE : ∀ n ns e me, trE c n ns e = some me → SE C K Φ ns e me) (hT : ∀ n ns e me, trT c n ns e = some me → ST C K Φ ns e me) {ns : List (Str × NameKind)} {t e : PySem.Expr} {p : Pos} {m : MS} (h : assE (trE c n) ns t e = some m) : SS C K Φ ns (.Assign [t] e p) m := by
  unfold assE at h
  cases hx : nameX t with
  | some x =>
    rw [hx] at h
    obtain ⟨q, rfl⟩ := nameX_eq hx
    obtain ⟨h1, h'⟩ := grd_some h
    clear h; have h := h'; clear h'
    obtain ⟨a, ha, rfl⟩ := Option.map_eq_some_iff.mp h
    exact ss_assign_any h1 hE hT ha
  | none =>
    rw [hx] at h
    obtain ⟨o, ho, h'⟩ := Option.bind_eq_some_iff.mp h
    clear h; have h := h'; clear h'
    obtain ⟨q, rfl⟩ := subX_eq ho
    obtain ⟨a, ha, h'⟩ := Option.bind_eq_some_iff.mp h
    clear h; have h := h'; clear h'
    obtain ⟨b, hb, h'⟩ := Option.bind_eq_some_iff.mp h
    clear h; have h := h'; clear h'
    obtain ⟨d, hd, rfl⟩ := Option.map_eq_some_iff.mp h
    exact ss_setitem (hE _ _ _ _ ha) (hE _ _ _ _ hb) (hE _ _ _ _ hd)
theorem forE_ok {fE : List (Str × NameKind) → PySem.Expr → Option ME} {fS : List (Str × NameKind) → List Stmt → Option MSs} (ihE : ∀ ns e me, fE ns e = some me → SE C K Φ ns e me) (ihS : ∀ ns l m, fS ns l = some m → SSs C K Φ ns l m)
    {ns : List (Str × NameKind)} {t i : PySem.Expr} {a : List Stmt} {p : Pos} {m : MS} (h : forE fE fS ns t i a = some m) : SS C K Φ ns (.For t i a [] p) m := by
  unfold forE at h
  cases hx : nameX t with
  | some x =>
    rw [hx] at h
    obtain ⟨q, rfl⟩ := nameX_eq hx
    obtain ⟨h1, h'⟩ := grd_some h
    clear h; have h := h'; clear h'
    simp only [Bool.and_eq_true] at h1
    obtain ⟨b, hb, h'⟩ := Option.bind_eq_some_iff.mp h
    clear h; have h := h'; clear h'
    obtain ⟨d, hd, rfl⟩ := Option.map_eq_some_iff.mp h
    exact ss_for h1.1 h1.2 (ihE _ _ _ hb) (ihS _ _ _ hd)
  | none =>
    rw [hx] at h
    exact nomatch h
theorem trS_one (c : Cfg) (hE : ∀ n ns e me, trE c n ns e = some me → SE C K Φ ns e me) (hT : ∀ n ns e me, trT c n ns e = some me → ST C K Φ ns e me) : ∀ (n : Nat) ns s m, trS c n ns s = some m → SS C K Φ ns s m
  | 0, _, _, m, h => nomatch (show (none : Option MS) = some m from h)
  | n + 1, ns, s, m, h => by
    have ihS : ∀ ns l m, mapS c (trS c n ns) l = some m → SSs C K Φ ns l m := fun ns l m h => mapS_ok (fun s m => trS_one c hE hT n ns s m) h
    cases s with
    | Assign ts v p =>
      obtain ⟨t, ht, h'⟩ := Option.bind_eq_some_iff.mp (show ((one? ts).bind fun t => assE (trE c n) ns t v) = some m from h)
      clear h; have h := h'; clear h'
      cases one?_eq ht
      exact assE_ok hE hT h
    | AugAssign t op v p =>
      obtain ⟨x, hx, h'⟩ := Option.bind_eq_some_iff.mp (show ((nameX t).bind fun x => grd (storable ns x && x != "__classdict__") ((trE c n ns v).map (.aug x op))) = some m from h)
      clear h; have h := h'; clear h'
      obtain ⟨q, rfl⟩ := nameX_eq hx
      obtain ⟨h1, h'⟩ := grd_some h
      clear h; have h := h'; clear h'
      simp only [Bool.and_eq_true, bne_iff_ne, ne_eq] at h1
      obtain ⟨a, ha, rfl⟩ := Option.map_eq_some_iff.mp h
      exact ss_aug h1.1 (by simpa using h1.2) (hE _ _ _ _ ha)
    | Expr v p =>
      obtain ⟨h1, h'⟩ := grd_some (show grd (notComp v) ((trE c n ns v).map .expr) = some m from h)
      clear h; have h := h'; clear h'
      obtain ⟨a, ha, rfl⟩ := Option.map_eq_some_iff.mp h
      exact ss_expr (hE _ _ _ _ ha) h1
    | If t a b p =>
      obtain ⟨t', ht, h'⟩ := Option.bind_eq_some_iff.mp (show ((trT c n ns t).bind fun t => (mapS c (trS c n ns) a).bind fun a => (mapS c (trS c n ns) b).map (.ite t a)) = some m from h)
      clear h; have h := h'; clear h'
      obtain ⟨a', ha, h'⟩ := Option.bind_eq_some_iff.mp h
      clear h; have h := h'; clear h'
      obtain ⟨b', hb, rfl⟩ := Option.map_eq_some_iff.mp h
      exact ss_ite (hT _ _ _ _ ht) (ihS _ _ _ ha) (ihS _ _ _ hb)
    | While t a b p =>
      obtain ⟨h1, h'⟩ := grd_some (show grd b.isEmpty ((trT c n ns t).bind fun t => (mapS c (trS c n ns) a).map (.whl t)) = some m from h)
      clear h; have h := h'; clear h'
      cases List.isEmpty_iff.mp h1
      obtain ⟨t', ht, h'⟩ := Option.bind_eq_some_iff.mp h
      clear h; have h := h'; clear h'
      obtain ⟨a', ha, rfl⟩ := Option.map_eq_some_iff.mp h
      exact ss_whl (hT _ _ _ _ ht) (ihS _ _ _ ha)
    | For t i a b p =>
      obtain ⟨h1, h'⟩ := grd_some (show grd b.isEmpty (forE (trE c n) (fun ns => mapS c (trS c n ns)) ns t i a) = some m from h)
      clear h; have h := h'; clear h'
      cases List.isEmpty_iff.mp h1
      exact forE_ok (hE n) ihS h
    | Return v p =>
      obtain ⟨e, rfl, h'⟩ := Option.bind_eq_some_iff.mp (show (v.bind fun e => (trE c n ns e).map .ret) = some m from h)
      clear h; have h := h'; clear h'
      obtain ⟨a, ha, rfl⟩ := Option.map_eq_some_iff.mp h
      exact ss_ret (hE _ _ _ _ ha)
    | Raise a b p => cases (show some MS.raise_ = some m from h); exact ss_raise
    | Try b hs o f p =>
      obtain ⟨h1, h'⟩ := grd_some (show grd (!hs.isEmpty && o.isEmpty && f.isEmpty) ((mapS c (trS c n ns) b).map .try_) = some m from h)
      obtain ⟨a', ha, rfl⟩ := Option.map_eq_some_iff.mp h'
      simp only [Bool.and_eq_true, Bool.not_eq_true', List.isEmpty_iff] at h1
      obtain ⟨⟨h1, rfl⟩, rfl⟩ := h1
      cases hs with
      | nil => cases h1
      | cons h₀ hs => exact ss_try (ihS _ _ _ ha)
    | _ => exact nomatch (show (none : Option MS) = some m from h)
theorem trS_ok (c : Cfg) (hC : C.Ok) (hfns : ∀ f, c.fns.contains f = true → f ∈ C.fns) (hΦ : SPhi C K Φ) (n : Nat) : ∀ ns l m, trSs c n ns l = some m → SSs C K Φ ns l m := fun ns _ _ h =>
  mapS_ok (trS_one c (fun n => (tr_ok c hC hfns hΦ n).1) (fun n => (tr_ok c hC hfns hΦ n).2) n ns) h
end
end Mine

namespace Mine
open PySem

theorem filterMap_cong {α β : Type} {f g : α → Option β} : ∀ {l : List α}, (∀ x ∈ l, f x = g x) → l.filterMap f = l.filterMap g
  | [], _ => rfl
  | x :: l, h => by
    have hx := h x (by simp)
    have := filterMap_cong (l := l) fun y hy => h y (by simp [hy])
    simp only [List.filterMap_cons, hx, this]
theorem zip_lookup : ∀ {ps : List Str} {xs : List Value}, ps.Nodup → xs.length = ps.length → ps.filterMap (fun n => ((ps.zip xs).lookup n).map (n, ·)) = ps.zip xs ∧ ∀ n ∈ ps, ((ps.zip xs).lookup n).isSome = true
  | [], xs, _, _ => by simp
  | p :: ps, [], _, h => by simp at h
  | p :: ps, x :: xs, hn, h => by
    simp only [List.nodup_cons] at hn
    obtain ⟨i1, i2⟩ := zip_lookup hn.2 (xs := xs) (by simpa using h)
    constructor
    · rw [List.filterMap_cons_some (b := (p, x)) (by simp)]
      simp only [List.zip_cons_cons]
      congr 1
      refine Eq.trans ?_ i1
      refine filterMap_cong fun n hnm => ?_
      have : (n == p) = false := by
        cases q : n == p with
        | false => rfl
        | true => have := beq_iff_eq.mp q; subst this; exact absurd hnm hn.1
      simp [List.lookup_cons, this]
    · intro n hnm
      simp only [List.zip_cons_cons, List.lookup_cons]
      split
      · rfl
      · rename_i q
        rcases List.mem_cons.mp hnm with e | e
        · subst e; simp at q
        · exact i2 n e


theorem bind_plain {name : Str} {args : List Arg} {kd : List (Option PySem.Expr)} {dfs : List PySem.Expr} {body : List Stmt} {scope : Scope} {pm cd doc : Value} (hn : (args.map (·.arg)).Nodup) {vals : List Value} (hl : vals.length = (args.map (·.arg)).length) :
    bindArgs (Calls.docDef name ⟨[], args, none, [], kd, none, dfs⟩ body scope pm cd doc) ⟨vals, []⟩ = pure ((args.map (·.arg)).zip vals) := by
  obtain ⟨i1, i2⟩ := zip_lookup (ps := args.map (·.arg)) (xs := vals) hn hl
  unfold bindArgs
  simp only [Calls.docDef]
  have e : seqItems? Value.none = pure none := rfl
  rw [e]
  show (if _ then _ else _) = _
  rw [if_neg (by simp [hl])]
  show (if _ then _ else _) = _
  rw [if_neg (by
    simp only [Option.getD_none, List.toList_toArray, List.map_nil, List.nil_append, List.drop_nil, List.length_nil, Nat.sub_zero, List.take_length, Bool.not_eq_true', Bool.not_eq_false', List.isEmpty_iff, List.filter_eq_nil_iff]
    simp
    intro a ha
    have := i2 a.arg (List.mem_map_of_mem (f := fun x : Arg => x.arg) ha)
    simpa using this)]
  simp only [Option.getD_none, List.map_nil, List.nil_append, List.drop_nil, List.length_nil, Nat.sub_zero, List.append_nil]
  have e2 : (List.map (fun x : Arg => x.arg) args).drop ((List.map (fun x : Arg => x.arg) args).length) = [] := by simp
  simp
  rw [List.filterMap_map] at i1
  rw [i1]
end Mine

namespace Mine
open PySem PyProof.Rows PySem.W

noncomputable def parOf (a : Arguments) : Option (List Arg) := grd ((a.posonlyargs.isEmpty && a.vararg.isNone) && (a.kwonlyargs.isEmpty && a.kwarg.isNone)) (some a.args)
theorem parOf_eq {a : Arguments} {args : List Arg} (h : parOf a = some args) : ∃ kd dfs, a = ⟨[], args, none, [], kd, none, dfs⟩ := by
  obtain ⟨p, as, v, k, kd, kw, dfs⟩ := a
  obtain ⟨h1, h2⟩ := grd_some h
  simp only [Bool.and_eq_true, List.isEmpty_iff, Option.isNone_iff_eq_none] at h1
  obtain ⟨⟨rfl, rfl⟩, rfl, rfl⟩ := h1
  cases h2
  exact ⟨kd, dfs, rfl⟩

noncomputable def fnOf (p : Program) (c : Cfg) (n : Nat) (name : Str) : Option Fn :=
  ((recsOf p).find? (fun d => d.name == name)).bind fun d => (parOf d.params).bind fun args =>
    grd (((args.map (·.arg)).all (fun x => storable d.scope.names x) && decide (args.map (·.arg)).Nodup) && (decide (d.scope.names.map (·.1)).Nodup && d.scope.names.all (fun p => p.2 != .free)) && (d.scope.kind == .function && !d.scope.isCoroutine && !d.scope.isGenerator))
      ((trSs c n d.scope.names d.body).map fun b => ⟨name, args.map (·.arg), b⟩)
noncomputable def fnsOf (p : Program) (c : Cfg) (n : Nat) : List Str → Option (List Fn)
  | [] => some []
  | x :: r => (fnOf p c n x).bind fun f => (fnsOf p c n r).map (f :: ·)

theorem Room.less {K : Nat} {A : Around} (h : Room (K + 1) A) : Room K A := ⟨h.hand, by have := h.depth; omega, by have := h.units; omega⟩

theorem phi_ok {p : Program} {C : Ctx} {c : Cfg} {n : Nat} (hC : C.Ok) (hfns : ∀ f, c.fns.contains f = true → f ∈ C.fns)
    (T : ∀ d ∈ recsOf p, ∃ a o pm code doc, C.mg d.name = some (.ref a) ∧ C.h₀.get? a = some o ∧ o.data = .func (Calls.docDef d.name d.params d.body d.scope pm code doc) ∧ C.h₀.CodeRec code d.name) :
    ∀ {names : List Str} {fs : List Fn}, fnsOf p c n names = some fs → SPhi C fs.length (Phi C.G fs)
  | [], fs, h => by simp only [fnsOf, Option.some.injEq] at h; subst h; exact fun f args h Q hf => hf.elim
  | x :: r, fs, h => by
    simp only [fnsOf] at h
    obtain ⟨f, hf, h⟩ := Option.bind_eq_some_iff.mp h
    obtain ⟨fs', hr, rfl⟩ := Option.map_eq_some_iff.mp h
    have ih := phi_ok hC hfns T hr
    unfold fnOf at hf
    obtain ⟨d, hd, hf⟩ := Option.bind_eq_some_iff.mp hf
    obtain ⟨args, ha, hf⟩ := Option.bind_eq_some_iff.mp hf
    obtain ⟨hk, hf⟩ := grd_some hf
    obtain ⟨b, hb, rfl⟩ := Option.map_eq_some_iff.mp hf
    simp only [Bool.and_eq_true, decide_eq_true_eq, Bool.not_eq_true'] at hk
    obtain ⟨⟨⟨k1, k2⟩, k3, k4⟩, ⟨k5, k6⟩, k7⟩ := hk
    have hdn : d.name = x := by simpa using List.find?_some hd
    obtain ⟨a, o, pm, code, doc, t1, t2, t3, t4⟩ := T d (List.mem_of_find?_eq_some hd)
    have hpar := parOf_eq ha
    obtain ⟨kd, dfs, hpar⟩ := hpar
    intro g args' h' Q hq a' ha' A z s xs E hA hz R hxs
    simp only [Phi] at hq
    by_cases hg : g = x
    · rw [if_pos hg] at hq
      subst hg
      rw [hdn] at t1
      rw [t1] at ha'
      cases ha'
      rw [hpar] at t3
      refine s_fun (f := ⟨g, args.map (·.arg), b⟩) hC t2 t3 t4 (fun vals hl => bind_plain k2 hl) k1 k2 k3 (fun p hp => ?_) (by simpa using k5) k6 k7 (trS_ok c hC hfns ih n _ _ _ hb) hq hA hz R hxs
      have := List.all_eq_true.mp k4 p hp
      simpa using this
    · rw [if_neg hg] at hq
      exact ih g args' h' Q hq a' ha' A z s xs E hA.less hz R hxs

/-! the globals that are data -/
mutual
noncomputable def vread (h : Heap) : Nat → Value → Option V
  | 0, _ => none
  | _ + 1, .none => some .none
  | _ + 1, .bool b => some (.bool b)
  | _ + 1, .int i _ => some (.int i)
  | _ + 1, .str s _ => grd (PyData.strOk s && decide (s.length ≤ 1000)) (some (.str s))
  | n + 1, .ref a => (match h.get? a with
    | some ⟨.type c, none, .seq items _, sl⟩ => grd (decide (items.size ≤ 1000) && decide (sl.size = 0)) ((vreads h n items.toList).bind fun vs => if c = "list" then some (.list vs) else if c = "tuple" then some (.tup vs) else none)
    | _ => none)
  | _, _ => none
noncomputable def vreads (h : Heap) : Nat → List Value → Option (List V)
  | 0, _ => none
  | _ + 1, [] => some []
  | n + 1, v :: r => (vread h n v).bind fun a => (vreads h n r).map (a :: ·)
end
noncomputable def GSays (gl : List (Str × V)) (h : Heap) : Prop := ∀ p ∈ gl, ∃ o es ep val, h.get? mainGlobals = some o ∧ o.data = .dict es ep ∧ nsFind es p.1 = some val ∧ VRel h.get? p.2 val
theorem GSays.keeps {gl : List (Str × V)} {h h' : Heap} (x : GSays gl h) (hk : ∀ b o, h.get? b = some o → h'.get? b = some o) : GSays gl h' := fun p hp => by
  obtain ⟨o, es, ep, val, ho, hd, hf, hv⟩ := x p hp
  exact ⟨o, es, ep, val, hk _ _ ho, hd, hf, hv.mono hk⟩
noncomputable def freeOk (p : Program) (loose : List Str) : Bool := used.all fun q => !startupNames.contains q.1 && !loose.contains q.1 && !((recsOf p).map (·.name)).contains q.1 && !((litsOf p).map (·.1)).contains q.1 && !((clssOf p loose).map (·.name)).contains q.1
noncomputable def bootOk : Bool := used.all fun q => q.1 != "__name__" && (match bootBuiltins q.1, q.2 with
  | some (.builtin a), .builtin b => a == b
  | some (.type a), .type b => a == b
  | _, _ => false)
theorem bootOk_true : bootOk = true := by decide +kernel

theorem vwell {P : Params} {hh : Heap} {z : Zh} : ∀ {xs : List Value} {ns : List Int}, WellAll P hh xs (ofPys (ns.map PyData.int)) → VRels z (ns.map .int) xs
  | _, [], h => by cases (show WellAll P hh _ [] from h); exact VRels.nil
  | _, n :: r, h => by
    cases (show WellAll P hh _ (WData.int n :: ofPys (r.map PyData.int)) from h) with
    | cons h1 h2 =>
      cases h1
      exact VRels.cons (vint _ _) (vwell h2)

end Mine

namespace Mine
open PySem

theorem ofString_eq (a b : String) : (Str.ofString a = Str.ofString b) = (a = b) := by
  refine propext ⟨fun h => ?_, fun h => by rw [h]⟩
  have h1 : (a.toList.map (·.toNat)) = (b.toList.map (·.toNat)) := by
    have := congrArg (fun s : Str => s.cps.toList) h
    simpa [Str.ofString_eq_toList] using this
  have h2 : a.toList = b.toList := by
    refine List.map_inj_right (f := fun c : Char => c.toNat) ?_ |>.mp h1
    intro x y e
    exact Char.toNat_inj.mp e
  exact String.toList_inj.mp h2

section
variable {Φ : FEnv} {G : Str → Option V} {σ : St}

/-- what follows a statement -/
noncomputable def thenQ (Φ : FEnv) (G : Str → Option V) (r : MSs) (Q : Fl → St → Prop) : Fl → St → Prop := fun f σ => match f with
  | .next => wpSs Φ G r σ Q
  | f => Q f σ
theorem t_next {r : MSs} {Q : Fl → St → Prop} (h : wpSs Φ G r σ Q) : thenQ Φ G r Q .next σ := h
theorem t_ret {r : MSs} {Q : Fl → St → Prop} {v : V} (h : Q (.ret v) σ) : thenQ Φ G r Q (.ret v) σ := h

theorem c_nil {Q : Fl → St → Prop} (h : Q .next σ) : wpSs Φ G .nil σ Q := h
theorem c_assign {x : Str} {e : ME} {r : MSs} {Q : Fl → St → Prop} (h : wpE Φ G e σ fun v σ₁ => wpSs Φ G r (σ₁.put x v) Q) : wpSs Φ G (.cons (.assign x e) r) σ Q := h
theorem c_ret {e : ME} {r : MSs} {Q : Fl → St → Prop} (h : wpE Φ G e σ fun v σ₁ => Q (.ret v) σ₁) : wpSs Φ G (.cons (.ret e) r) σ Q := h
theorem c_ite {t : MT} {a b : MSs} {r : MSs} {Q : Fl → St → Prop} (h : wpT Φ G t σ fun c σ₁ => if c then wpSs Φ G a σ₁ (thenQ Φ G r Q) else wpSs Φ G b σ₁ (thenQ Φ G r Q)) : wpSs Φ G (.cons (.ite t a b) r) σ Q := h
theorem c_aug {x : Str} {e : ME} {r : MSs} {Q : Fl → St → Prop} {i : Int} (hx : σ.vars x = some (.int i)) (h : wpE Φ G e σ fun b σ₁ => match b with | .int j => wpSs Φ G r (σ₁.put x (.int (i + j))) Q | _ => False) : wpSs Φ G (.cons (.aug x .Add e) r) σ Q := by
  rw [uSs_cons, uS_aug, hx]
  show wpE Φ G e σ _
  refine Eq.mp (congrArg _ (funext fun b => funext fun σ₁ => ?_)) h
  cases b <;> rfl
/-! expressions -/
variable {K : V → St → Prop}
theorem x_bool {b : Bool} (h : K (.bool b) σ) : wpE Φ G (.bool b) σ K := h
theorem x_int {i : Int} (h : K (.int i) σ) : wpE Φ G (.int i) σ K := h
theorem x_str {i : Str} (h : K (.str i) σ) : wpE Φ G (.str i) σ K := h
theorem x_typ {i : String} (h : K (.typ i) σ) : wpE Φ G (.typ i) σ K := h
theorem x_var {x : Str} {v : V} (hx : σ.vars x = some v) (h : K v σ) : wpE Φ G (.var x) σ K := by rw [uE_var, hx]; exact h
theorem x_bin {m : Bool} {op : Operator} {l r : ME} (h : wpE Φ G l σ fun a σ₁ => wpE Φ G r σ₁ fun b σ₂ => wBin m op a b σ₂.heap fun v h => K v (σ₂.hp h)) : wpE Φ G (.bin m op l r) σ K := h
theorem x_neg {e : ME} (h : wpE Φ G e σ fun a σ₁ => match a with | .int i => K (.int (-i)) σ₁ | _ => False) : wpE Φ G (.neg e) σ K := h
theorem x_call {f : Str} {as : MEs} (h : wpEs Φ G as σ fun vs σ₁ => Φ f vs σ₁.heap fun v h => K v (σ₁.hp h)) : wpE Φ G (.call f as) σ K := h
theorem x_prim {f : Pr} {as : MEs} (h : wpEs Φ G as σ fun vs σ₁ => wPrim f vs σ₁.heap fun v h => K v (σ₁.hp h)) : wpE Φ G (.prim f as) σ K := h
theorem x_item {o i : ME} (h : wpE Φ G o σ fun a σ₁ => wpE Φ G i σ₁ fun b σ₂ => wItem a b σ₂.heap fun v => K v σ₂) : wpE Φ G (.item o i) σ K := h
theorem x_list {m : Bool} {es : MEs} (h : wpEs Φ G es σ fun vs σ₁ => mk m vs σ₁.heap fun v h => K v (σ₁.hp h)) : wpE Φ G (.list m es) σ K := h
theorem xs_nil {K : List V → St → Prop} (h : K [] σ) : wpEs Φ G .nil σ K := h
theorem xs_cons {K : List V → St → Prop} {e : ME} {r : MEs} (h : wpE Φ G e σ fun v σ₁ => wpEs Φ G r σ₁ fun vs σ₂ => K (v :: vs) σ₂) : wpEs Φ G (.cons e r) σ K := h

/-! tests -/
variable {T : Bool → St → Prop}
theorem q_not {t : MT} (h : wpT Φ G t σ fun b σ₁ => T (!b) σ₁) : wpT Φ G (.not t) σ T := h
theorem q_cmp {op : CmpOp} {l r : ME} (h : wpE Φ G l σ fun a σ₁ => wpE Φ G r σ₁ fun b σ₂ => wCmp op a b σ₂.heap fun v => T v σ₂) : wpT Φ G (.cmp op l r) σ T := h
end

/-! primitives -/
section
variable {h : Hp} {m : Bool} {K : V → Hp → Prop}
theorem b_sub {x y : Int} (k : K (.int (x - y)) h) : wBin m .Sub (.int x) (.int y) h K := k
theorem b_mod {x y : Int} (hy : y ≠ 0) (k : K (.int (x.fmod y)) h) : wBin m .Mod (.int x) (.int y) h K := ⟨hy, k⟩
theorem b_div {x y : Int} (hy : y ≠ 0 ∧ y.natAbs < 1073741824) (k : K (.int (x.fdiv y)) h) : wBin m .FloorDiv (.int x) (.int y) h K := ⟨hy, k⟩
theorem b_sadd {x y : Str} (hy : lenOk (x.length + y.length)) (k : K (.str (x ++ y)) h) : wBin m .Add (.str x) (.str y) h K := ⟨hy, k⟩
theorem k_false {vs : List V} (hl : lenOk vs.length) (k : K (.list vs) h) : mk false vs h K := ⟨hl, k⟩
variable {B : Bool → Prop}
theorem r_lt {x y : Int} (k : B (decide (x < y))) : wCmp .Lt (.int x) (.int y) h B := k
theorem r_eqi {x y : Int} (k : B (decide (x = y))) : wCmp .Eq (.int x) (.int y) h B := ⟨⟨rfl, rfl⟩, k⟩
theorem i_dec {p : Prop} [Decidable p] {a b : Prop} (h1 : p → a) (h2 : ¬p → b) : if decide p then a else b := by
  by_cases q : p
  · simpa [q] using h1 q
  · simpa [q] using h2 q
end

section
variable {Φ : FEnv} {G : Str → Option V} {σ : St} {K : V → St → Prop} {h : Hp} {B : Bool → Prop}
theorem i_nt {a b : Prop} (k : b) : if (!true) = true then a else b := by simpa using k
theorem r_same {x : String} (k : B true) : wCmp .Is (.typ x) (.typ x) h B := by show B (x == x); simpa using k
theorem p_len {vs : List V} {K : V → Hp → Prop} (k : K (.int vs.length) h) : wPrim .len [.list vs] h K := k
theorem p_type {v : V} {t : String} {K : V → Hp → Prop} (ht : typ? h v = some t) (k : K (.typ t) h) : wPrim .type [v] h K := by
  show ofSome (typ? h v) _
  rw [ht]; exact k
variable {P : V → Prop}
theorem seq_get {vs : List V} {i : Int} {v : V} (hi : 0 ≤ i) (hv : vs[i.toNat]? = some v) : seqIndex? i vs.length = some i.toNat :=
  seq_idx hi (by have := (List.getElem?_eq_some_iff.mp hv).1; omega)
theorem n_list {vs : List V} {i : Int} {v : V} (hi : 0 ≤ i) (hv : vs[i.toNat]? = some v) (k : P v) : wItem (.list vs) (.int i) h P := by
  have : seqIndex? i vs.length = some i.toNat := seq_get hi hv
  simp only [wItem, seq?, lst?, ofSome_some, this, Option.bind_some, hv]; exact k
end

theorem phi_here {G : Str → Option V} {f : Fn} {r : List Fn} {g : Str} {args : List V} {h : Hp} {Q : V → Hp → Prop} (e : g = f.name) (k : wpF (Phi G r) G f args h Q) : Phi G (f :: r) g args h Q := by
  simp only [Phi]; rw [if_pos e]; exact k
theorem phi_next {G : Str → Option V} {f : Fn} {r : List Fn} {g : Str} {args : List V} {h : Hp} {Q : V → Hp → Prop} (e : g ≠ f.name) (k : Phi G r g args h Q) : Phi G (f :: r) g args h Q := by
  simp only [Phi]; rw [if_neg e]; exact k
theorem ofString_ne {a b : String} (h : a ≠ b) : Str.ofString a ≠ Str.ofString b := fun e => h ((ofString_eq a b).mp e)
theorem fmod_range {x : Int} {n : Int} (hn : 0 < n) : 0 ≤ x.fmod n ∧ x.fmod n < n := ⟨Int.fmod_nonneg_of_pos x hn, Int.fmod_lt_of_pos x hn⟩
theorem St.put_hp (σ : St) (x : Str) (v : V) (h : Hp) : (σ.put x v).hp h = (σ.hp h).put x v := rfl
theorem St.hp_hp (σ : St) (h h' : Hp) : (σ.hp h).hp h' = σ.hp h' := rfl
theorem St.mk_hp (vs : Str → Option V) (h h' : Hp) : (St.mk vs h).hp h' = ⟨vs, h'⟩ := rfl
section
variable {h : Hp} {P : V → Prop}
end

theorem eqb_refl : ∀ (n : Nat) (v : V), V.plainN n v = true → V.eqb v v = true := by
  have key : ∀ (n : Nat), (∀ v, V.plainN n v = true → V.eqb v v = true) → ∀ vs : List V, vs.all (V.plainN n) = true → V.eqbs vs vs = true := by
    intro n hn vs
    induction vs with
    | nil => intro _; simp [V.eqbs]
    | cons v r ih => intro h; simp only [List.all_cons, Bool.and_eq_true] at h; simp [V.eqbs, hn v h.1, ih h.2]
  intro n
  induction n with
  | zero => intro v h; cases v <;> simp_all [V.plainN, V.eqb]
  | succ n ih =>
    intro v h
    cases v with
    | list vs => simp only [V.plainN] at h; simp only [V.eqb]; exact key n ih vs h
    | tup vs => simp only [V.plainN] at h; simp only [V.eqb]; exact key n ih vs h
    | _ => simp_all [V.plainN, V.eqb]
theorem r_ne_same {h : Hp} {B : Bool → Prop} {a b x : V} (ha : res h a = x) (hb : res h b = x) (hx : x.plain = true) (k : B (!true)) : wCmp .NotEq a b h B := by
  show (_ ∧ _) ∧ _
  rw [ha, hb]
  exact ⟨⟨hx, hx⟩, by rw [eqb_refl 8 x hx]; exact k⟩
end Mine

namespace Mine
open PySem

noncomputable def sL (ss : List Str) : List V := ss.map V.str
@[simp] theorem sL_nil : sL [] = [] := rfl
@[simp] theorem sL_cons (s : Str) (ss : List Str) : sL (s :: ss) = .str s :: sL ss := rfl
@[simp] theorem sL_append (a b : List Str) : sL (a ++ b) = sL a ++ sL b := by simp [sL]
@[simp] theorem sL_length (a : List Str) : (sL a).length = a.length := by simp [sL]
theorem sL_get (a : List Str) (i : Nat) : (sL a)[i]? = (a[i]?).map .str := by simp [sL]
section
variable {h : Hp} {B : Bool → Prop}
end

structure Rel2 (R : V → V → Prop) (vs ws : List V) : Prop where
  len : ws.length = vs.length
  rel : ∀ (i : Nat) v w, vs[i]? = some v → ws[i]? = some w → R v w
theorem Rel2.all {R : V → V → Prop} {vs ws : List V} (x : Rel2 R vs ws) : ∀ w ∈ ws, ∃ v ∈ vs, R v w := fun w hw => by
  obtain ⟨i, hi, e⟩ := List.getElem_of_mem hw
  have hi' : i < vs.length := by rw [← x.len]; exact hi
  exact ⟨vs[i], List.getElem_mem hi', x.rel i _ _ (by simp [hi']) (by simp [hi, e])⟩
theorem i_mid {Φ : FEnv} {G : Str → Option V} {p : Prop} [Decidable p] {a b r : MSs} {Q : Fl → St → Prop} {σ : St} (I : St → Prop)
    (h : ∀ P : Fl → St → Prop, (∀ σ', I σ' → P .next σ') → if decide p then wpSs Φ G a σ P else wpSs Φ G b σ P) (k : ∀ σ', I σ' → wpSs Φ G r σ' Q) :
    if decide p then wpSs Φ G a σ (thenQ Φ G r Q) else wpSs Φ G b σ (thenQ Φ G r Q) := h _ fun σ' hi => k σ' hi

/-! cells -/
noncomputable def cell (ns : List Int) (i : Int) : Int := (ns[i.toNat]?).getD 0

/-! subsequences -/
noncomputable def lL (ts : List (List Str)) : List V := ts.map fun t => .list (sL t)
@[simp] theorem lL_length (ts : List (List Str)) : (lL ts).length = ts.length := by simp [lL]
theorem str_len_app (x y : Str) : (x ++ y).length = x.length + y.length := by
  show (x.cps ++ y.cps).size = _
  rw [Array.size_append]; rfl
/-! the selections of a list by the bits of a number -/
/-! texts joined -/
/-- a text, closed with a line feed -/
noncomputable def cl (s : Str) : Str := match s.cps.toList.getLast? with
  | none => s
  | some c => if c = 10 then s else s ++ "\n"
end Mine

local macro_rules | `(tactic| got_up) => `(tactic| (first | assumption | simp only [Mine.St.put_vars, Mine.St.hp_vars, Mine.St.put_heap, Mine.St.hp_heap, Mine.bindP, Mine.compVars, List.mem_cons, List.not_mem_nil, or_false, false_or, or_true, true_or, Mine.ofString_eq, String.reduceEq, reduceIte] <;> first | rfl | assumption))
local macro_rules | `(tactic| mem_news) => `(tactic| repeat' (first
  | with_reducible apply Mine.c_assign
  | with_reducible apply Mine.c_ret
  | with_reducible apply Mine.c_ite
  | with_reducible apply Mine.c_set
  | with_reducible apply Mine.c_for
  | with_reducible apply Mine.c_expr
  | with_reducible refine Mine.c_aug (by first | assumption | simp only [Mine.St.put_vars, Mine.St.hp_vars, Mine.St.put_heap, Mine.St.hp_heap, Mine.bindP, Mine.compVars, List.mem_cons, List.not_mem_nil, or_false, false_or, or_true, true_or, Mine.ofString_eq, String.reduceEq, reduceIte] <;> first | rfl | assumption) ?_
  | with_reducible apply Mine.c_nil
  | with_reducible apply Mine.x_none
  | with_reducible apply Mine.x_bool
  | with_reducible apply Mine.x_int
  | with_reducible apply Mine.x_str
  | with_reducible apply Mine.x_typ
  | with_reducible refine Mine.x_var (by first | assumption | simp only [Mine.St.put_vars, Mine.St.hp_vars, Mine.St.put_heap, Mine.St.hp_heap, Mine.bindP, Mine.compVars, List.mem_cons, List.not_mem_nil, or_false, false_or, or_true, true_or, Mine.ofString_eq, String.reduceEq, reduceIte] <;> first | rfl | assumption) ?_
  | with_reducible apply Mine.x_bin
  | with_reducible apply Mine.x_neg
  | with_reducible apply Mine.x_cmp
  | with_reducible apply Mine.x_call
  | with_reducible apply Mine.x_prim
  | with_reducible apply Mine.x_item
  | with_reducible apply Mine.x_slice
  | with_reducible apply Mine.x_join
  | with_reducible apply Mine.x_list
  | with_reducible apply Mine.x_tup
  | with_reducible apply Mine.x_comp
  | with_reducible apply Mine.xs_nil
  | with_reducible apply Mine.xs_cons
  | with_reducible apply Mine.q_not
  | with_reducible apply Mine.q_and
  | with_reducible apply Mine.q_or
  | with_reducible apply Mine.q_cmp
  | with_reducible apply Mine.q_val
  | with_reducible apply Mine.a_nil
  | with_reducible apply Mine.a_cons
  | with_reducible apply Mine.o_nil
  | with_reducible apply Mine.o_cons
  | with_reducible apply Mine.t_next
  | with_reducible apply Mine.t_ret
  | (with_reducible apply Mine.b_add; try dsimp only [Mine.St.put_hp, Mine.St.hp_hp, Mine.St.mk_hp, Mine.St.put_heap, Mine.St.hp_heap, Mine.St.hp_self])
  | (with_reducible apply Mine.b_sub; try dsimp only [Mine.St.put_hp, Mine.St.hp_hp, Mine.St.mk_hp, Mine.St.put_heap, Mine.St.hp_heap, Mine.St.hp_self])
  | (with_reducible refine Mine.b_mod (by decide) ?_; try dsimp only [Mine.St.put_hp, Mine.St.hp_hp, Mine.St.mk_hp, Mine.St.put_heap, Mine.St.hp_heap, Mine.St.hp_self])
  | (with_reducible refine Mine.b_div (by decide) ?_; try dsimp only [Mine.St.put_hp, Mine.St.hp_hp, Mine.St.mk_hp, Mine.St.put_heap, Mine.St.hp_heap, Mine.St.hp_self])
  | with_reducible apply Mine.r_lt
  | with_reducible apply Mine.r_le
  | with_reducible apply Mine.r_gt
  | with_reducible apply Mine.r_ge
  | with_reducible apply Mine.r_eqi
  | with_reducible apply Mine.r_nei
  | with_reducible apply Mine.r_eqs
  | with_reducible apply Mine.r_nes
  | with_reducible apply Mine.r_neSs
  | with_reducible apply Mine.r_eqS
  | with_reducible apply Mine.r_neS
  | with_reducible apply Mine.r_same
  | with_reducible apply Mine.r_nsame
  | with_reducible apply Mine.r_isbs
  | with_reducible apply Mine.r_isnbs
  | with_reducible apply Mine.r_isntf
  | with_reducible apply Mine.r_isnft
  | with_reducible apply Mine.i_t
  | with_reducible apply Mine.i_f
  | with_reducible apply Mine.i_nt
  | with_reducible apply Mine.i_nf
  | with_reducible apply Mine.s_full
  | (with_reducible refine Mine.p_type rfl ?_; try dsimp only [Mine.St.put_hp, Mine.St.hp_hp, Mine.St.mk_hp, Mine.St.put_heap, Mine.St.hp_heap, Mine.St.hp_self])
  | (with_reducible apply Mine.p_len; try dsimp only [Mine.St.put_hp, Mine.St.hp_hp, Mine.St.mk_hp, Mine.St.put_heap, Mine.St.hp_heap, Mine.St.hp_self])
  | (with_reducible apply Mine.p_lens; try dsimp only [Mine.St.put_hp, Mine.St.hp_hp, Mine.St.mk_hp, Mine.St.put_heap, Mine.St.hp_heap, Mine.St.hp_self])
  | (with_reducible apply Mine.p_lent; try dsimp only [Mine.St.put_hp, Mine.St.hp_hp, Mine.St.mk_hp, Mine.St.put_heap, Mine.St.hp_heap, Mine.St.hp_self])
  | (with_reducible apply Mine.p_max; try dsimp only [Mine.St.put_hp, Mine.St.hp_hp, Mine.St.mk_hp, Mine.St.put_heap, Mine.St.hp_heap, Mine.St.hp_self])
  | (with_reducible apply Mine.p_min; try dsimp only [Mine.St.put_hp, Mine.St.hp_hp, Mine.St.mk_hp, Mine.St.put_heap, Mine.St.hp_heap, Mine.St.hp_self])
  | (with_reducible apply Mine.p_list; try dsimp only [Mine.St.put_hp, Mine.St.hp_hp, Mine.St.mk_hp, Mine.St.put_heap, Mine.St.hp_heap, Mine.St.hp_self])
  | (with_reducible apply Mine.p_listt; try dsimp only [Mine.St.put_hp, Mine.St.hp_hp, Mine.St.mk_hp, Mine.St.put_heap, Mine.St.hp_heap, Mine.St.hp_self])
  | (with_reducible refine Mine.k_false (by first | decide | (simp only [List.length_cons, List.length_nil, List.length_append, List.length_map]; omega)) ?_; try dsimp only [Mine.St.put_hp, Mine.St.hp_hp, Mine.St.mk_hp, Mine.St.put_heap, Mine.St.hp_heap, Mine.St.hp_self])
  | with_reducible refine ⟨(by first | decide | (simp only [List.length_cons, List.length_nil, List.length_append, List.length_map]; omega)), ?_⟩
  | fail "no step"))
local macro_rules | `(tactic| top_name) => `(tactic| repeat' (first
  | with_reducible apply Mine.c_assign
  | with_reducible apply Mine.c_ret
  | with_reducible apply Mine.c_ite
  | with_reducible apply Mine.c_set
  | with_reducible apply Mine.c_for
  | with_reducible apply Mine.c_expr
  | with_reducible refine Mine.c_aug (by first | assumption | simp only [Mine.St.put_vars, Mine.St.hp_vars, Mine.St.put_heap, Mine.St.hp_heap, Mine.bindP, Mine.compVars, List.mem_cons, List.not_mem_nil, or_false, false_or, or_true, true_or, Mine.ofString_eq, String.reduceEq, reduceIte] <;> first | rfl | assumption) ?_
  | with_reducible apply Mine.c_nil
  | with_reducible apply Mine.x_none
  | with_reducible apply Mine.x_bool
  | with_reducible apply Mine.x_int
  | with_reducible apply Mine.x_str
  | with_reducible apply Mine.x_typ
  | with_reducible refine Mine.x_var (by first | assumption | simp only [Mine.St.put_vars, Mine.St.hp_vars, Mine.St.put_heap, Mine.St.hp_heap, Mine.bindP, Mine.compVars, List.mem_cons, List.not_mem_nil, or_false, false_or, or_true, true_or, Mine.ofString_eq, String.reduceEq, reduceIte] <;> first | rfl | assumption) ?_
  | with_reducible apply Mine.x_bin
  | with_reducible apply Mine.x_neg
  | with_reducible apply Mine.x_cmp
  | with_reducible apply Mine.x_call
  | with_reducible apply Mine.x_prim
  | with_reducible apply Mine.x_item
  | with_reducible apply Mine.x_slice
  | with_reducible apply Mine.x_join
  | with_reducible apply Mine.x_list
  | with_reducible apply Mine.x_tup
  | with_reducible apply Mine.x_comp
  | with_reducible apply Mine.xs_nil
  | with_reducible apply Mine.xs_cons
  | with_reducible apply Mine.q_not
  | with_reducible apply Mine.q_and
  | with_reducible apply Mine.q_or
  | with_reducible apply Mine.q_cmp
  | with_reducible apply Mine.q_val
  | with_reducible apply Mine.a_nil
  | with_reducible apply Mine.a_cons
  | with_reducible apply Mine.o_nil
  | with_reducible apply Mine.o_cons
  | with_reducible apply Mine.t_next
  | with_reducible apply Mine.t_ret
  | (with_reducible apply Mine.b_add; try dsimp only [Mine.St.put_hp, Mine.St.hp_hp, Mine.St.mk_hp, Mine.St.put_heap, Mine.St.hp_heap, Mine.St.hp_self])
  | (with_reducible apply Mine.b_sub; try dsimp only [Mine.St.put_hp, Mine.St.hp_hp, Mine.St.mk_hp, Mine.St.put_heap, Mine.St.hp_heap, Mine.St.hp_self])
  | (with_reducible refine Mine.b_mod (by decide) ?_; try dsimp only [Mine.St.put_hp, Mine.St.hp_hp, Mine.St.mk_hp, Mine.St.put_heap, Mine.St.hp_heap, Mine.St.hp_self])
  | (with_reducible refine Mine.b_div (by decide) ?_; try dsimp only [Mine.St.put_hp, Mine.St.hp_hp, Mine.St.mk_hp, Mine.St.put_heap, Mine.St.hp_heap, Mine.St.hp_self])
  | with_reducible apply Mine.r_lt
  | with_reducible apply Mine.r_le
  | with_reducible apply Mine.r_gt
  | with_reducible apply Mine.r_ge
  | with_reducible apply Mine.r_eqi
  | with_reducible apply Mine.r_nei
  | with_reducible apply Mine.r_eqs
  | with_reducible apply Mine.r_nes
  | with_reducible apply Mine.r_neSs
  | with_reducible apply Mine.r_eqS
  | with_reducible apply Mine.r_neS
  | with_reducible apply Mine.r_same
  | with_reducible apply Mine.r_nsame
  | with_reducible apply Mine.r_isbs
  | with_reducible apply Mine.r_isnbs
  | with_reducible apply Mine.r_isntf
  | with_reducible apply Mine.r_isnft
  | with_reducible apply Mine.i_t
  | with_reducible apply Mine.i_f
  | with_reducible apply Mine.i_nt
  | with_reducible apply Mine.i_nf
  | with_reducible apply Mine.s_full
  | (with_reducible refine Mine.p_type rfl ?_; try dsimp only [Mine.St.put_hp, Mine.St.hp_hp, Mine.St.mk_hp, Mine.St.put_heap, Mine.St.hp_heap, Mine.St.hp_self])
  | (with_reducible apply Mine.p_len; try dsimp only [Mine.St.put_hp, Mine.St.hp_hp, Mine.St.mk_hp, Mine.St.put_heap, Mine.St.hp_heap, Mine.St.hp_self])
  | (with_reducible apply Mine.p_lens; try dsimp only [Mine.St.put_hp, Mine.St.hp_hp, Mine.St.mk_hp, Mine.St.put_heap, Mine.St.hp_heap, Mine.St.hp_self])
  | (with_reducible apply Mine.p_lent; try dsimp only [Mine.St.put_hp, Mine.St.hp_hp, Mine.St.mk_hp, Mine.St.put_heap, Mine.St.hp_heap, Mine.St.hp_self])
  | (with_reducible apply Mine.p_max; try dsimp only [Mine.St.put_hp, Mine.St.hp_hp, Mine.St.mk_hp, Mine.St.put_heap, Mine.St.hp_heap, Mine.St.hp_self])
  | (with_reducible apply Mine.p_min; try dsimp only [Mine.St.put_hp, Mine.St.hp_hp, Mine.St.mk_hp, Mine.St.put_heap, Mine.St.hp_heap, Mine.St.hp_self])
  | (with_reducible apply Mine.p_list; try dsimp only [Mine.St.put_hp, Mine.St.hp_hp, Mine.St.mk_hp, Mine.St.put_heap, Mine.St.hp_heap, Mine.St.hp_self])
  | (with_reducible apply Mine.p_listt; try dsimp only [Mine.St.put_hp, Mine.St.hp_hp, Mine.St.mk_hp, Mine.St.put_heap, Mine.St.hp_heap, Mine.St.hp_self])
  | (with_reducible refine Mine.k_false (by first | decide | (simp only [List.length_cons, List.length_nil, List.length_append, List.length_map]; omega)) ?_; try dsimp only [Mine.St.put_hp, Mine.St.hp_hp, Mine.St.mk_hp, Mine.St.put_heap, Mine.St.hp_heap, Mine.St.hp_self])
  | with_reducible refine ⟨(by first | decide | (simp only [List.length_cons, List.length_nil, List.length_append, List.length_map]; omega)), ?_⟩
  | with_reducible refine Mine.i_dec (fun _ => ?_) (fun _ => ?_)
  | with_reducible refine Mine.i_ndec (fun _ => ?_) (fun _ => ?_)
  | fail "no step"))
namespace Mine
open PySem PySem.NumText PySem.W PyProof.Rows

theorem fold_none {c : Nat} (hb : ∀ p, step 10 p c = none) : ∀ {cs : List Nat}, c ∈ cs → ∀ p, cs.foldlM (step 10) p = none
  | x :: r, hc, p => by
    rw [List.foldlM_cons]
    rcases List.mem_cons.mp hc with e | e
    · subst e; rw [hb]; rfl
    · cases step 10 p x with
      | none => rfl
      | some p' => exact fold_none hb e p'
theorem digits_none {c : Nat} (hb : ∀ p, step 10 p c = none) {cs : List Nat} (hc : c ∈ cs) : digits? 10 cs = none := by
  unfold digits?; rw [fold_none hb hc]; rfl
theorem no_tail {x : PySem.Str} {ds tl : List Nat} (hx : x.cps.toList = ds ++ tl) (hd : AllDigits ds) (h1 : ds ≠ []) (ht : ∀ c ∈ tl, c < 128 ∧ c ≠ 0) {l : Nat} {r : List Nat} (hl : tl.reverse = l :: r) (hlb : blank l = false) {c : Nat} (hc : c ∈ tl) (hb : ∀ p, step 10 p c = none) : PySem.intText? x = none := by
  have hall : ∀ c ∈ x.cps.toList, c < 128 ∧ c ≠ 0 := by
    rw [hx]; intro c hc
    rcases List.mem_append.mp hc with h | h
    · have := hd c h; omega
    · exact ht c h
  have e1 : numTextOf x = ds ++ tl := by
    show (if x.cps.all (· < 128) then x.cps.toList else _) = _
    rw [if_pos (by rw [← Array.all_toList, List.all_eq_true]; intro c hc; simpa using (hall c hc).1), hx]
  have e2 : numSeenOf x = ds ++ tl := by
    show (numTextOf x).takeWhile (· != 0) = _
    rw [e1]
    rw [hx] at hall
    exact takeWhile_all fun c hc => by simpa using (hall c hc).2
  have hcore : core (ds ++ tl) = ds ++ tl := by
    obtain ⟨a, ds', rfl⟩ := List.exists_cons_of_ne_nil h1
    have ha := hd a (by simp)
    have hba : blank a = false := by unfold blank; simp; omega
    have es : sign ((a :: ds' ++ tl).dropWhile blank) = (false, a :: ds' ++ tl) := by
      rw [List.cons_append, List.dropWhile_cons_of_neg (by simp [hba])]
      exact sign_of (by omega) (by omega)
    unfold core
    rw [es]
    show ((a :: ds' ++ tl).reverse.dropWhile blank).reverse = _
    rw [List.reverse_append, hl, List.cons_append, List.dropWhile_cons_of_neg (by simp [hlb]), ← List.cons_append, ← hl, ← List.reverse_append, List.reverse_reverse]
  unfold PySem.intText?
  rw [e2, e1, hcore, digits_none hb (List.mem_append_right _ hc)]
  simp
theorem num_digits (m : Nat) : AllDigits ((Nat.toDigits 10 m).map Char.toNat) ∧ (Nat.toDigits 10 m).map Char.toNat ≠ [] := by
  refine ⟨fun c hc => ?_, fun e => ?_⟩
  · obtain ⟨ch, hch, e⟩ := List.mem_map.mp hc
    have r := PyProof.Rows.digit_range (Nat.isDigit_of_mem_toDigits (by decide) (by decide) hch)
    rw [← e]; exact r
  · have h := toDigits_len_ge 10 m
    rw [List.map_eq_nil_iff.mp e] at h
    exact absurd h (by decide)
theorem num18 {m : Nat} (h : m < 10 ^ 18) : PySem.intText? (PySem.Str.ofString (toString ((m : Nat) : Int))) = some (m : Int) := by
  obtain ⟨hd, hne⟩ := num_digits m
  have hs := KIN.signs_num m
  have hl := PyProof.Rows.digits10_le (k := 18) (by decide) h
  have e := intText_digits (x := PySem.Str.ofString (toString ((m : Nat) : Int))) (by rw [hs]; exact hd) (by rw [hs]; exact hne) (by
    have : (PySem.Str.ofString (toString ((m : Nat) : Int))).length = (Nat.toDigits 10 m).length := by
      show (PySem.Str.ofString (toString ((m : Nat) : Int))).cps.size = _
      rw [← Array.length_toList, hs, List.length_map]
    omega)
  rw [hs, KIN.val_back] at e
  exact e
theorem neg18 {m : Nat} (h : m < 10 ^ 18) : PySem.intText? (PySem.Str.ofString (toString (-(m : Int) - 1))) = some (-(m : Int) - 1) := by
  have e0 : -(m : Int) - 1 = Int.negSucc m := by omega
  rw [e0]
  obtain ⟨hd, hne⟩ := num_digits (m + 1)
  have hs : (PySem.Str.ofString (toString (Int.negSucc m))).cps.toList = 45 :: (Nat.toDigits 10 (m + 1)).map Char.toNat := by
    rw [signs_ofString]
    show ("-" ++ Nat.repr (m + 1)).toList.map Char.toNat = _
    rw [String.toList_append, Nat.toList_repr]; rfl
  have hl := PyProof.Rows.digits10_le (k := 19) (n := m + 1) (by decide) (by omega)
  have e := intText_neg hs hd hne (by
    have : (PySem.Str.ofString (toString (Int.negSucc m))).length = (Nat.toDigits 10 (m + 1)).length + 1 := by
      show (PySem.Str.ofString (toString (Int.negSucc m))).cps.size = _
      rw [← Array.length_toList, hs, List.length_cons, List.length_map]
    omega)
  rw [KIN.val_back] at e
  rw [e]; simp; omega
theorem bad_no (c : Nat) (h1 : (c == 95) = false) (h2 : ∀ d, digit? c = some d → ¬ d < 10) : ∀ p, step 10 p c = none := by
  intro p
  unfold NumText.step
  rw [h1]
  cases e : digit? c with
  | none => rfl
  | some d => simp [h2 d e]
noncomputable def tails6 : List Str := ["x", ".5", "-1", " 2", ",3"]
theorem tail_no {m : Nat} {t : Str} (ht : t ∈ tails6) : PySem.intText? (PySem.Str.ofString (toString ((m : Nat) : Int)) ++ t) = none := by
  obtain ⟨hd, hne⟩ := num_digits m
  have hx : ∀ t : Str, (PySem.Str.ofString (toString ((m : Nat) : Int)) ++ t).cps.toList = (Nat.toDigits 10 m).map Char.toNat ++ t.cps.toList := fun t => by
    show ((PySem.Str.ofString (toString ((m : Nat) : Int))).cps ++ t.cps).toList = _
    rw [Array.toList_append, KIN.signs_num]
  simp only [tails6, List.mem_cons, List.not_mem_nil, or_false] at ht
  rcases ht with rfl | rfl | rfl | rfl | rfl
  · exact no_tail (tl := [120]) (hx _) hd hne (by decide) (l := 120) (r := []) rfl (by decide) (c := 120) (by decide) (bad_no _ (by decide) (by decide))
  · exact no_tail (tl := [46, 53]) (hx _) hd hne (by decide) (l := 53) (r := [46]) rfl (by decide) (c := 46) (by decide) (bad_no _ (by decide) (by decide))
  · exact no_tail (tl := [45, 49]) (hx _) hd hne (by decide) (l := 49) (r := [45]) rfl (by decide) (c := 45) (by decide) (bad_no _ (by decide) (by decide))
  · exact no_tail (tl := [32, 50]) (hx _) hd hne (by decide) (l := 50) (r := [32]) rfl (by decide) (c := 32) (by decide) (bad_no _ (by decide) (by decide))
  · exact no_tail (tl := [44, 51]) (hx _) hd hne (by decide) (l := 51) (r := [44]) rfl (by decide) (c := 44) (by decide) (bad_no _ (by decide) (by decide))
noncomputable def words6 : List Str := ["", "three", "-", "x1", "--2"]
theorem word_no : ∀ t ∈ words6, PySem.intText? t = none := by decide +kernel
end Mine

namespace Mine
open PySem PySem.W PyProof.Rows
open Sem (wp)

/-- the claim's caller stands there -/
noncomputable def called (st : List (Code × Pos)) : Bool := st.any fun x => x.1.isCaller
noncomputable def Cl (Γ : PySem.Ctx) : Prop := Γ.code.isCaller = true ∨ called Γ.below = true
theorem Cl.at {Γ : PySem.Ctx} (h : Cl Γ) (p : Pos) : called ((Γ.code, p) :: Γ.below) = true := by
  show (Γ.code.isCaller || called Γ.below) = true
  rcases h with h | h <;> simp [h]
theorem Cl.of {Γ : PySem.Ctx} {p : Pos} (h : called ((Γ.code, p) :: Γ.below) = true) : Cl Γ := by
  have h : (Γ.code.isCaller || called Γ.below) = true := h
  simpa [Cl] using h
/-- asked of the contexts that the caller stands in alone -/
noncomputable def wpC {α : Type} (M : Model) (A : Around) (t : Sem α) (Q : α → Shared → Prop) (E : Value → Shared → Prop) (s : Shared) : Prop :=
  ∀ (Γ : PySem.Ctx) p, Γ.In A → Cl Γ → wp M Γ t (fun a _ s' => Q a s') (fun e _ s' => E e s') p s
noncomputable def codeC (M : Model) (A : Around) (c : Code) (R : Result → Shared → Prop) (s : Shared) : Prop :=
  ∀ (Γ : PySem.Ctx) p, Γ.code = c → Γ.Below A → called Γ.below = true → wpCode M Γ R p s

theorem wpC_checked {α : Type} {M : Model} {A : Around} {t : Sem α} {v : α} {Q : α → Shared → Prop} {E : Value → Shared → Prop} {s : Shared} (h : wpC M A t Q E s) (hv : Q v s) :
    wpAny M A (.stack fun st => if called st then t else .pure v) Q E s := fun Γ p hΓ => by
  show wp M Γ (if called ((Γ.code, p) :: Γ.below) = true then t else .pure v) _ _ p s
  cases hc : called ((Γ.code, p) :: Γ.below) with
  | true => rw [if_pos rfl]; exact h Γ p hΓ (.of hc)
  | false => rw [if_neg (by simp)]; exact hv

theorem holds_called {c : ClaimW} {tree : List Value → Sem Fin} {X : Fin} {defs kps : List Str} {writes : Bool}
    (H : c.HoldsOpenBy (fun vs => ⟨.stack fun st => if called st then tree vs else .pure X, .builtin "claim.caller" {}, default, []⟩) defs kps writes) :
    c.HoldsOpenBy (fun vs => ⟨tree vs, .builtin "claim.caller" {}, default, []⟩) defs kps writes := by
  obtain ⟨h1, h2, h3⟩ := H
  refine ⟨h1, h2, fun w => ⟨(h3 w).1, fun s hs => ?_⟩⟩
  obtain ⟨s₀, a1, a2, s₁, a3, a4, a5, a6, a7⟩ := (h3 w).2 s hs
  refine ⟨s₀, a1, a2, s₁, a3, a4, a5, a6, fun args hpre hlay ord hord => ?_⟩
  obtain ⟨vs, s₂, hlaid, n, o, s', hsched, rest⟩ := a7 args hpre hlay ord hord
  have z0 : s.asleep := AfterImport.life hs
  have z1 : s₀.asleep := Shared.asleep_of_life (fence_lifeW a1) z0
  have z2 : s₁.asleep := Shared.asleep_of_life a3.2.1 z1
  have z3 : s₂.asleep := Shared.asleep_of_life (layAllW_rest _ _ _ hlaid).2.2.2 z2
  refine ⟨vs, s₂, hlaid, ?_⟩
  cases n with
  | zero => cases hsched
  | succ n =>
    refine ⟨n, o, s', ?_, rest⟩
    have hstep : sstep (denote table) c.prog w (.single s₂ ⟨.stack fun st => if called st then tree vs else .pure X, .builtin "claim.caller" {}, default, []⟩) = .go (.single s₂ ⟨tree vs, .builtin "claim.caller" {}, default, []⟩) := by
      rcases sstep_single (denote table) c.prog w s₂ ⟨.stack fun st => if called st then tree vs else .pure X, .builtin "claim.caller" {}, default, []⟩ rfl z3 with h | h
      · rw [h]; rfl
      · cases h
    simp only [schedN] at hsched
    rw [hstep] at hsched
    exact hsched

theorem holds_openK {r : OpenRow} {q : Program} {loose : List Str} {Xt : Shared → Bool} {XP : (Str → Option Value) → Heap → Prop} {α : Type} {Yf : Shared → α} {Ya : World → α} {YP : World → Heap → Prop} {d : DefRec} {kwd : List (Str × PySem.Expr)} {N : Nat}
    (left : LeftO r.prog q loose Xt Yf Ya N) (hY : ∀ w s, Yf s = Ya w → YP w s.heap) (hYk : ∀ w h h', YP w h → (∀ b o, h.get? b = some o → h'.get? b = some o) → YP w h')
    (hX : ∀ s, Xt s = true → XP (s.heap.nsMap mainGlobals) s.heap) (hXk : ∀ mg h h', XP mg h → (∀ b o, h.get? b = some o → h'.get? b = some o) → XP mg h')
    (hdef : defOf q r.name = some (d, kwd)) (hp : r.prog.theDef r.name = some (d.params, d.body, d.scope)) (hk : kwWritten? d.params.kwonlyargs d.params.kw_defaults = some kwd) (hRf : ∀ s, Xt s = true → RecFacts r.records s.heap) (hwr : (!r.writes || r.records.isEmpty) = true)
    (k1 : r.wellSaid = true) (ok : (chainsOk q && opensWell r.prog && (PySem.W.frees r.toRowW && r.within.isEmpty)) = true) (hb : r.prog.bare) (hw : r.toRowW.promised)
    (walk : WalkO q loose XP YP r.toRowW d kwd fun f vs => .stack fun st => if called st then PySem.call f vs else .pure (.bool true)) : r.Holds := by
  refine ⟨k1, hw, holds_called (X := .done (.ret (.bool true))) (open_anyG (r := r.toRowW) (run := fun f vs => .stack fun st => if called st then PySem.call f vs else .pure (.bool true))
    left hY hYk hX hXk hRf hwr ok hb hw (fun vs w s mg f Q E hg hf h => fun Γ p hΓ => ?_) (fun w s hg G n hn => ?_) fun w s₀ s₁ mg mb G Y args vs as hpre hlay L low => ?_)⟩
  · have h' := h Γ p hΓ
    change wp _ Γ (if called ((Γ.code, p) :: Γ.below) = true then _ else _) _ _ p s at h' ⊢
    cases hc : called ((Γ.code, p) :: Γ.below) with
    | true =>
      rw [hc, if_pos rfl] at h'
      rw [if_pos rfl, Sem.wp_bind', Sem.wp_nsGet _ Γ _ p s (show s.heap.Ns mainNs mg from hg), hf]
      show wp _ Γ (PySem.call f vs >>= fun v => ret v) _ _ p s
      rw [Sem.wp_bind']
      exact h'
    | false =>
      rw [hc, if_neg (by simp)] at h'
      rw [if_neg (by simp)]; exact h'
  · obtain rfl : n = r.name := by split at hn <;> simp_all
    exact pinned_of_view hg G hdef hp hk
  · obtain ⟨a, o, pm, cd, doc, dV, kV, h1, h2, h3, h4, h5⟩ := G.fn hdef
    exact ⟨.ref a, h1, walk w s₀ s₁ mg mb G Y a o pm cd doc dV kV h2 h3 h4 h5 (defOf_name hdef ▸ h1) L.gens args vs as hpre hlay L.reads L.well (L.low low)⟩
end Mine

namespace Mine
open PySem PySem.W PyProof.Rows
open Sem (wp)

section
variable {α β : Type} {M : Model} {A : Around} {E : Value → Shared → Prop} {s : Shared}

theorem wpC_of_any {t : Sem α} {Q : α → Shared → Prop} (h : wpAny M A t Q E s) : wpC M A t Q E s := fun Γ p hΓ _ => h Γ p hΓ
theorem wpC_mono {t : Sem α} {Q Q' : α → Shared → Prop} {E' : Value → Shared → Prop} (h : wpC M A t Q E s) (hQ : ∀ a s, Q a s → Q' a s) (hE : ∀ e s, E e s → E' e s) : wpC M A t Q' E' s :=
  fun Γ p hΓ hc => Sem.wp_mono M Γ t (fun a _ s => hQ a s) (fun e _ s => hE e s) p s (h Γ p hΓ hc)
theorem wpC_bind {m : Sem α} {f : α → Sem β} {Q : β → Shared → Prop} (h : wpC M A m (fun a s' => wpC M A (f a) Q E s') E s) : wpC M A (m >>= f) Q E s := fun Γ p hΓ hc => by
  rw [Sem.wp_bind']
  exact Sem.wp_mono M Γ m (fun a p' s' h' => h' Γ p' hΓ hc) (fun _ _ _ h' => h') p s (h Γ p hΓ hc)
theorem wpC_bindA {m : Sem α} {f : α → Sem β} {Q : β → Shared → Prop} (h : wpAny M A m (fun a s' => wpC M A (f a) Q E s') E s) : wpC M A (m >>= f) Q E s := wpC_bind (wpC_of_any h)
/-- it raises: what comes after is not met -/
theorem wpC_bindR {m : Sem α} {f : α → Sem β} {Q : β → Shared → Prop} (h : wpC M A m (fun _ _ => False) E s) : wpC M A (m >>= f) Q E s := wpC_bind (wpC_mono h (fun _ _ x => x.elim) fun _ _ x => x)
theorem wpC_holding {vs : List Value} {m : Sem α} {Q : α → Shared → Prop} (h : wpC M A m Q E s) : wpC M A (holding vs m) Q E s :=
  fun Γ p hΓ hc => by rw [Sem.wp_holding]; exact h Γ p hΓ hc
theorem wpC_keep {vs : List Value} {m : Sem α} {Q : α → Shared → Prop} (h : wpC M A m Q E s) : wpC M A (m.keep vs) Q E s :=
  fun Γ p hΓ hc => by rw [Sem.wp_keep]; exact h Γ p hΓ hc
theorem wpC_onRaise {m : Sem α} {k : Value → Sem Unit} {Q : α → Shared → Prop}
    (h : wpC M A m Q (fun e s' => wpAny M A (k e) (fun _ s'' => E e s'') E s') s) : wpC M A (m.onRaise k) Q E s := fun Γ p hΓ hc => by
  rw [Sem.wp_onRaise]
  exact Sem.wp_mono M Γ m (fun _ _ _ h' => h') (fun e p' s' h' => h' Γ p' hΓ) p s (h Γ p hΓ hc)
theorem wpC_attempt {m : Sem α} {Q : Except Value α → Shared → Prop} (h : wpC M A m (fun a => Q (.ok a)) (fun e => Q (.error e)) s) :
    wpC M A m.attempt Q E s := fun Γ p hΓ hc => by rw [Sem.wp_attempt]; exact h Γ p hΓ hc
theorem Cl.enter {Γ : PySem.Ctx} (h : Cl Γ) (c : Code) (hd : Option Value) (p : Pos) : called (Γ.enter c hd p).below = true := h.at p
theorem wpC_call {f : Value} {pos : List Value} {kw : List (Str × Value)} {Q : Value → Shared → Prop}
    (h : codeC M A (.call f ⟨pos, kw⟩) (fun r s' => match r with | .ok (.ret v) => Q v s' | .ok _ => False | .error e => E e s') s) : wpC M A (call f pos kw) Q E s := fun Γ p hΓ hc => by
  show wp M Γ (runValue _) _ _ p s
  rw [Sem.wp_runValue]
  exact h _ p rfl (hΓ.enter _ none p (by intro x; cases x)) (hc.enter _ _ _)
theorem codeC_mono {c : Code} {R R' : Result → Shared → Prop} (h : codeC M A c R s) (hR : ∀ r s, R r s → R' r s) : codeC M A c R' s :=
  fun Γ p hc hΓ hcl => wpCode_mono hR (h Γ p hc hΓ hcl)
theorem codeC_of_tree {c : Code} {R : Result → Shared → Prop}
    (h : wpC M (A.under c) (M.den c) (fun fin s' => match fin with | .done f => R (.ok f) s' | .again c' => c'.quiet = true ∧ codeC M A c' R s') (fun e s' => R (.error e) s') s) : codeC M A c R s := fun Γ p hc hΓ hcl => by
  rw [wpCode_iff_wp, hc]
  refine Sem.wp_mono M Γ _ (fun fin p' s' h' => ?_) (fun _ _ _ h' => h') p s (h Γ p (hc ▸ hΓ.in) (.inr hcl))
  cases fin with
  | done f => exact h'
  | again c' => exact ⟨h'.1, h'.2 (Γ.goto c') p' rfl (hΓ.goto c') hcl⟩
/-- no mark is written -/
theorem wpC_mark {own : List String} {e : Value} {Q : Unit → Shared → Prop} (h : Q () s) : wpC M A (markTheRefusal own e) Q E s := fun Γ p hΓ hc => by
  unfold markTheRefusal
  rw [Sem.wp_bind']
  show wp M Γ (if pythonCodeMadeTheCall own (((Γ.code, p) :: Γ.below).map (·.1)) = true then _ else _) _ _ p s
  have hf : pythonCodeMadeTheCall own (((Γ.code, p) :: Γ.below).map (·.1)) = false := by
    have h1 := hc.at p
    have h2 : (((Γ.code, p) :: Γ.below).map (·.1)).any Code.isCaller = true := by
      rw [List.any_map]; exact h1
    have h3 : ∀ (a b c : Bool), a = true → ((!a && b) && c) = false := by intro a b c e; rw [e]; rfl
    exact h3 _ _ _ h2
  rw [if_neg (by rw [hf]; simp)]
  exact h
end

section
variable {prog : Program} {w : World} {A : Around} {E : Value → Shared → Prop} {s : Shared} {R : Result → Shared → Prop}

theorem codeC_builtin {id : String} {args : Args} {b : Builtin} (hb : entryFor table id = some b)
    (h : wpC (model prog w) (A.under (.builtin id args)) (b args)
      (fun fin s' => match fin with | .done f => R (.ok f) s' | .again c' => c'.quiet = true ∧ codeC (model prog w) A c' R s') (fun e s' => R (.error e) s') s) :
    codeC (model prog w) A (.builtin id args) R s := by
  refine codeC_of_tree ?_
  show wpC _ _ (match entryFor table id with | some b => b args | none => unsupported ((withoutEnding? id "#data").getD id)) _ _ s
  rw [hb]; exact h

theorem codeC_func {body : List Stmt} {env : Env}
    (h : wpC (model prog w) (A.deeper env) (execs body env) (fun f s' => R (.ok (.ret (match f with | .ret v => v | _ => .none))) s')
      (fun e s' => wpAny (model prog w) (A.deeper env) (leaving env e) (fun _ s'' => R (.error e) s'') (fun e' s'' => R (.error e') s'') s') s) :
    codeC (model prog w) A (.func body env) R s := by
  refine codeC_of_tree ?_
  show wpC _ (A.deeper env) (do point; match ← (execs body env).onRaise (leaving env) with | .ret v => ret v | _ => ret .none) _ _ s
  refine wpC_bindA (wpAny_point (wpC_bind (wpC_onRaise (wpC_mono h (fun f s' h' => ?_) fun _ _ h' => h'))))
  cases f <;> exact wpC_of_any (wpAny_pure h')

theorem codeC_call_cells {a : Addr} {o : Obj} {fd : FuncData} {body : List Stmt} {vals : List Value} {binds : List (Str × Value)}
    (hroom : A.depth < recursionLimit) (ho : s.heap.get? a = some o) (hdata : o.data = .func fd) (hlim : s.heap.NoLimit) (hcd : s.heap.CodeRec fd.code fd.qualname)
    (hbody : fd.body = .stmts body) (hbind : bindArgs fd ⟨vals, []⟩ = pure binds) (hclo : fd.closure = [])
    (hkind : ∀ x ∈ binds, fd.scope.names.lookup x.1 = some .local ∨ (fd.scope.names.lookup x.1 = some .cell ∧ ((cellsFrom (s.heap.objs.size + 1) fd.scope.names []).lookup x.1).isSome = true))
    (h : ∀ s₁, InCallC s (callEnvC fd s.heap.objs.size a).locals (bindL (callEnvC fd s.heap.objs.size a).kindOf binds fun _ => none) (callEnvC fd s.heap.objs.size a).cells
        (bindC (callEnvC fd s.heap.objs.size a).kindOf binds fun _ => none) s₁ →
      wpC (model prog w) (A.deeper (callEnvC fd s.heap.objs.size a)) (execs body (callEnvC fd s.heap.objs.size a)) (fun f s' => R (.ok (.ret (match f with | .ret v => v | _ => .none))) s')
        (fun e s' => wpAny (model prog w) (A.deeper (callEnvC fd s.heap.objs.size a)) (leaving (callEnvC fd s.heap.objs.size a) e) (fun _ s'' => R (.error e) s'') (fun e' s'' => R (.error e') s'') s') s₁)
    (hco : fd.scope.isCoroutine = false := by rfl) (hgen : fd.scope.isGenerator = false := by rfl) (hk : fd.scope.kind = .function := by rfl) :
    codeC (model prog w) A (.call (.ref a) ⟨vals, []⟩) R s := by
  refine codeC_of_tree ?_
  show wpC _ A.in1 (callAny (.ref a) ⟨vals, []⟩) _ _ s
  simp only [callAny]
  refine wpC_bindA (wpAny_load ho ?_)
  obtain ⟨c, oc, vs, tq, hc, hoc, hdc, hq⟩ := hcd
  simp only [hdata, callFunction, hco, hgen, hbody, hc]
  refine wpC_bindA (m := field (.ref c) 1) (wpAny_field hoc hdc hq (wpC_bindA (wpAny_pure ?_)))
  rw [hbind, hclo]
  rw [← hc]
  refine wpC_bindA (wpAny_pure (wpC_bindA (wpAny_newFunctionEnv_cells hk hkind fun env he s' x => ?_)))
  subst he
  exact wpC_bindA (wpAny_enterFrame (hlim.keeps x.toInCall.keep) hroom (wpC_of_any (wpAny_pure ⟨rfl, codeC_func (h s' x)⟩)))
end

/-! statements and expressions -/
section
variable {M : Model} {A : Around} {E : Value → Shared → Prop} {s : Shared} {env : Env}

theorem wpC_execs_cons {st : Stmt} {rest : List Stmt} {Q : Flow → Shared → Prop}
    (h : wpC M A (exec st env) (fun f s' => match f with | .next => wpC M A (execs rest env) Q E s' | f => Q f s') E s) : wpC M A (execs (st :: rest) env) Q E s := fun Γ p hΓ hc => by
  rw [execs_cons, Sem.wp_bind']
  refine Sem.wp_mono M Γ _ (fun f p' s' h' => ?_) (fun _ _ _ h' => h') _ _ (h Γ p hΓ hc)
  cases f <;> first | exact h' Γ p' hΓ hc | exact h'
theorem wpC_If {test : PySem.Expr} {body orelse : List Stmt} {pos : Pos} {Q : Flow → Shared → Prop}
    (h : wpC M A (isTrue test env (eval test env)) (fun b s₂ => if b then wpC M A (execs body env) Q E s₂ else wpC M A (execs orelse env) Q E s₂) E s) :
    wpC M A (exec (.If test body orelse pos) env) Q E s := fun Γ p hΓ hc => by
  simp only [exec_If, Sem.wp_bind', Sem.wp_cmd_standAt]
  refine Sem.wp_mono M Γ _ (fun b p₂ s₂ h₂ => ?_) (fun _ _ _ h' => h') _ _ (h Γ _ hΓ hc)
  cases b <;> exact h₂ Γ p₂ hΓ hc
theorem wpC_isTrue_Compare1 {l r : PySem.Expr} {op : CmpOp} {pos : Pos} {whole : Sem Value} {Q : Bool → Shared → Prop}
    (h : wpC M A (eval l env) (fun a s₁ => wpAny M A (eval r env) (fun b s₂ => wpAny M A (compareOp op a b) (fun c s₃ => wpAny M A (truthy c) Q E s₃) E s₂) E s₁) E s)
    (hm : behindInMarks op r = false) : wpC M A (isTrue (.Compare l [op] [r] pos) env whole) Q E s := fun Γ p hΓ hc => by
  simp only [isTrue_Compare1, markedBehindIn_of_false hm, Sem.wp_bind', Sem.wp_holding, Sem.wp_cmd_standAt, Sem.wp_operate]
  exact Sem.wp_mono M Γ _ (fun a p₁ s₁ h₁ => Sem.wp_mono M Γ _ (fun b _ s₂ h₂ => Sem.wp_mono M Γ _ (fun c p₃ s₃ h₃ => h₃ Γ p₃ hΓ)
    (fun _ _ _ h' => h') _ _ (h₂ Γ _ hΓ)) (fun _ _ _ h' => h') _ _ (h₁ Γ p₁ hΓ)) (fun _ _ _ h' => h') _ _ (h Γ p hΓ hc)
theorem wpC_Call {func : PySem.Expr} {args : List PySem.Expr} {pos : Pos} {Q : Value → Shared → Prop}
    (h : wpAny M A (eval func env) (fun f s₁ => wpC M A (callWith pos f [] (backTo pos (starEach args env)) []) Q E s₁) E s)
    (he : eval (.Call func args [] pos) env = (do callWith pos (← eval func env) [] (backTo pos (starEach args env)) (backToKw pos (keywordEach [] env))) := by rfl) :
    wpC M A (eval (.Call func args [] pos) env) Q E s := by
  rw [he]; exact wpC_bindA h
theorem wpC_callWith_type {pos : Pos} {T : String} {args : List (Bool × Sem Value)} {Q : Value → Shared → Prop} (hplain : args.any (·.1) = false)
    (h : wpAny M A (evalArgs (.type T) true args []) (fun a s₁ => wpC M A (call (.type T) a.pos a.kw) Q E s₁) E s) : wpC M A (callWith pos (.type T) [] args []) Q E s := by
  unfold callWith
  refine wpC_bindA (wpAny_holding (wpAny_mono h (fun a s₁ h₁ => ?_) fun _ _ x => x))
  refine wpC_bindA (wpAny_standAt ?_)
  simp only [hplain, List.any_nil, Bool.or_false]
  refine wpC_bindA (wpAny_pure ?_)
  exact wpC_bind (wpC_mono h₁ (fun r s₂ hr => wpC_bindA (wpAny_holding (wpAny_point (wpC_of_any (wpAny_pure hr))))) fun _ _ x => x)
theorem wpC_callWith_function {pos : Pos} {a : Addr} {args : List (Bool × Sem Value)} {Q : Value → Shared → Prop} (hplain : args.any (·.1) = false)
    (h : wpAny M A (evalArgs (.ref a) true args []) (fun x s₁ => (∃ o fd, s₁.heap.get? a = some o ∧ o.data = .func fd) ∧ wpC M A (call (.ref a) x.pos x.kw) Q E s₁) E s) :
    wpC M A (callWith pos (.ref a) [] args []) Q E s := by
  unfold callWith
  refine wpC_bindA (wpAny_holding (wpAny_mono h (fun x s₁ h₁ => ?_) fun _ _ x => x))
  refine wpC_bindA (wpAny_standAt ?_)
  simp only [hplain, List.any_nil, Bool.or_false]
  refine wpC_bindA (m := keeperOf (.ref a)) ?_
  unfold keeperOf
  obtain ⟨⟨o, fd, ho, hd⟩, h₁⟩ := h₁
  refine wpAny_bind (wpAny_load ho ?_)
  rw [hd]
  refine wpAny_pure ?_
  have tail : ∀ {t : Sem Value}, wpC M A t Q E s₁ → wpC M A (t >>= fun r => holding [r] point >>= fun _ => pure r) Q E s₁ :=
    fun ht => wpC_bind (wpC_mono ht (fun r s₂ hr => wpC_bindA (wpAny_holding (wpAny_point (wpC_of_any (wpAny_pure hr))))) fun _ _ x => x)
  show wpC M A (if args.length + 2 * [].length > 30 then _ else _) Q E s₁
  split
  · exact tail h₁
  · exact tail (by unfold callMarked; exact wpC_keep h₁)
theorem wpC_Assign_Name {x : Str} {pos' pos : Pos} {value : PySem.Expr} {Q : Flow → Shared → Prop} (h : wpC M A (eval value env) (fun _ _ => False) E s)
    (hs : swapsWith value (some (.Name x pos')) pos.line env = pure false := by rfl) : wpC M A (exec (.Assign [.Name x pos'] value pos) env) Q E s := fun Γ p hΓ hc => by
  simp only [exec_Assign_Name env x pos' value pos hs, Sem.wp_bind', Sem.wp_cmd_standAt, Sem.wp_bindName, Sem.wp_pure']
  exact Sem.wp_mono M Γ _ (fun v _ s₁ h₁ => h₁.elim) (fun _ _ _ h' => h') _ _ (h Γ _ hΓ hc)
theorem wpC_Try_except {body orelse : List Stmt} {h₀ : ExceptHandler} {hs : List ExceptHandler} {pos : Pos} {Q : Flow → Shared → Prop}
    (h : wpC M A (execs body env) (fun _ _ => False) (fun e s₁ => wpAny M A (leaving env e) (fun _ s₃ => wpAny M A (handleBy e env (h₀ :: hs)) Q E s₃) E s₁) s) :
    wpC M A (exec (.Try body (h₀ :: hs) orelse [] pos) env) Q E s := by
  rw [arm_exec_Try]
  refine wpC_bindA (wpAny_standAt ?_)
  unfold tryStmt
  simp only [List.isEmpty_nil, if_true, List.isEmpty_cons, Bool.false_and, Bool.false_eq_true, if_false]
  refine wpC_bind (wpC_attempt (wpC_mono h (fun f s₁ h₁ => h₁.elim) fun e s₁ h₁ => ?_))
  refine wpC_of_any ?_
  have h2 : wpAny M A (leaving env e >>= fun _ => handleBy e env (h₀ :: hs)) Q E s₁ := wpAny_bind h₁
  unfold leaving at h2
  rw [bind_assoc] at h2
  exact h2
end
end Mine

set_option maxRecDepth 100000
namespace Mine
open PySem PySem.NumText PySem.W

section
variable {prog : Program} {w : World} {A : Around} {E : Value → Shared → Prop} {s : Shared}

theorem wpC_ite_false {α : Type} {M : Model} {c : Prop} [Decidable c] {a b : Sem α} {Q : α → Shared → Prop} (hc : decide c = false) (h : wpC M A b Q E s) : wpC M A (if c then a else b) Q E s := by
  rw [if_neg (of_decide_eq_false hc)]; exact h
theorem wpC_ite_true {α : Type} {M : Model} {c : Prop} [Decidable c] {a b : Sem α} {Q : α → Shared → Prop} (hc : decide c = true) (h : wpC M A a Q E s) : wpC M A (if c then a else b) Q E s := by
  rw [if_pos (of_decide_eq_true hc)]; exact h

theorem callC_int {x : Value} (hnew : codeC (model prog w) A.in1 (.call (.builtin "int.__new__") ⟨[.type "int", x], []⟩) (fun r s' => match r with | .ok _ => False | .error e => E e s') s) :
    wpC (model prog w) A (call (.type "int") [x]) (fun _ _ => False) E s := by
  refine wpC_call (codeC_of_tree ?_)
  show wpC _ _ (callAny (.type "int") _) _ _ _
  refine wpC_of_any (wpAny_pure ⟨Code.quiet_builtin _ (by decide +kernel), codeC_builtin F.entry_type_call ?_⟩)
  rw [Around.under_plain (weight_type_call_type "int" [x] []) (units_type_call_type "int" [x] [])]
  have h1 := F.called_int.notType
  have h2 := F.called_int.canCreate
  have h3 := F.called_int.made
  have h4 := F.typeCall_int_1 x
  have h5 := F.mro_int
  unfold Builtin.«type.__call__»
  simp only [h1, h3, h4, h5, pure_bind, Bool.false_eq_true, if_false, List.isEmpty_cons]
  exact wpC_ite_false (by simp [h2]) (wpC_bindR (wpC_holding (wpC_call (codeC_mono hnew fun r s' hr => by cases r with | ok f => exact hr.elim | error e => exact hr))))
theorem codeC_call_builtin {id : String} {args : Args} {b : Builtin} {R : Result → Shared → Prop} (hq : plainId id = true) (hb : entryFor table id = some b) (hk : checkBuiltinCall id args = pure ())
    (h : wpC (model prog w) A.in1 (b args) (fun fin s' => match fin with | .done f => R (.ok f) s' | .again c' => c'.quiet = true ∧ codeC (model prog w) A c' R s') (fun e s' => R (.error e) s') s) :
    codeC (model prog w) A (.call (.builtin id) args) R s := by
  refine codeC_of_tree ?_
  show wpC _ A.in1 (do checkBuiltinCall id args; again (.builtin id args)) _ _ s
  rw [hk]
  exact wpC_bindA (wpAny_pure (wpC_of_any (wpAny_pure ⟨plainId_quiet hq args, codeC_builtin hb (by rw [Around.under_plainId hq args]; exact h)⟩)))
theorem codeC_new {x : PySem.Str} {u : Tok} (h : wpC (model prog w) A.in1 ((int_private% "intFromText") (.str x u) (numTextOf x) 10) (fun _ _ => False) E s) :
    codeC (model prog w) A (.call (.builtin "int.__new__") ⟨[.type "int", .str x u], []⟩) (fun r s' => match r with | .ok _ => False | .error e => E e s') s := by
  refine codeC_call_builtin F.called_int.plain F.entry_int_new (F.newCall_int_1 _) ?_
  have f1 := F.conv_sub_int
  have f2 := F.madeHere_int
  have f3 := KIN.str_int
  have f4 := KIN.str_idx
  have f5 := KIN.str_trunc
  have f6 : typeOf (.str x u) = pure (.type "str") := rfl
  refine wpC_bindA (m := isType (.type "int")) (wpAny_of_eq (a := true) rfl ?_)
  refine wpC_ite_false rfl ?_
  refine wpC_bindA (m := isSubtype (.type "int") (.type "int")) (wpAny_of_eq f1 ?_)
  refine wpC_ite_false rfl ?_
  refine wpC_bindA (m := Bind.madeHere "int.__new__" (.type "int")) (wpAny_of_eq f2 ?_)
  refine wpC_ite_false rfl ?_
  refine wpC_ite_false rfl ?_
  refine wpC_bindA (wpAny_pure ?_)
  refine wpC_bindR (m := (int_private% "intFromObject") (.str x u)) ?_
  refine wpC_bindA (m := callSpecial? (.str x u) "__int__") ?_
  repeat (any_goals (first | assumption | wp_step))
set_option maxHeartbeats 2000000 in
theorem wpC_no {x : PySem.Str} {u : Tok} {Q : Value → Shared → Prop} (hs : (numSeenOf x).length ≤ 640)
    (hr : (int_private% "readNumeral") 0 10 (numSeenOf x) = int_private% "Numeral.invalid" ∨ ∃ i, (int_private% "readNumeral") 0 10 (numSeenOf x) = (int_private% "Numeral.value") i ∧ ¬ ((numSeenOf x).length == (numTextOf x).length) = true)
    (hA : A.handled = none) (hlen : x.length ≤ 640) (hok : ∀ c ∈ x.cps.toList, c < 16 ^ 8)
    (hE : ∀ h₁ e tk args, Heap.MadeExc s.heap h₁ e "ValueError" args → E (.ref e) { s with heap := h₁, toks := tk }) :
    wpC (model prog w) A ((int_private% "intFromText") (.str x u) (numTextOf x) 10) Q E s := by
  have lenA : ∀ y : Str, (Str.ofString (toString "invalid literal for int() with base " ++ toString 10 ++ toString ": ") ++ (⟨y.cps.extract 0 200⟩ : Str)).length ≤ sizeLine := fun y => by
    rw [Str.length_append, sizeLine_eq]
    have h1 : Str.length (Str.ofString (toString "invalid literal for int() with base " ++ toString 10 ++ toString ": ")) ≤ 100 := by decide +kernel
    have h2 : Str.length ⟨y.cps.extract 0 200⟩ ≤ 200 := by simp only [Str.length, Array.size_extract]; omega
    omega
  have lenB : (reprText x).length ≤ sizeLine := by
    have := StrLaws.reprText_len x hok
    rw [sizeLine_eq]; omega
  have hs' : ((numTextOf x).takeWhile (· != 0)).length ≤ 640 := hs
  refine wpC_ite_true (c := ((numTextOf x).takeWhile (· != 0)).length ≤ 640) (decide_eq_true hs') ?_
  refine wpC_bindA (wpAny_pure ?_)
  rcases hr with hr | ⟨i, hr, hne⟩
  · have hr' : (int_private% "readNumeral") 0 10 ((numTextOf x).takeWhile (· != 0)) = int_private% "Numeral.invalid" := hr
    dsimp only
    rw [hr']
    dsimp only
    refine wpC_bindA (wpAny_of_eq (a := none) rfl ?_)
    rw [if_neg (by simp)]
    refine wpC_bindA (wpAny_rule ?_)
    refine wpC_bindA (wpAny_of_eq (a := none) rfl ?_)
    dsimp only
    refine wpC_bindA (wpAny_pyRepr_str ?_ lenB)
    refine wpC_bindA (wpAny_mkStr ?_ (lenA _))
    refine wpC_bindA (wpAny_newExc_plain plainExc_ValueError fun h₁ e he => ?_)
    refine wpC_bind (wpC_mark ?_)
    exact wpC_of_any (wpAny_raiseNew_none hA (hE _ _ _ _ he))
  · have hr' : (int_private% "readNumeral") 0 10 ((numTextOf x).takeWhile (· != 0)) = (int_private% "Numeral.value") i := hr
    dsimp only
    rw [hr']
    dsimp only
    rw [if_neg hne]
    refine wpC_bindA (wpAny_rule ?_)
    refine wpC_bindA (wpAny_of_eq (a := none) rfl ?_)
    dsimp only
    refine wpC_bindA (wpAny_pyRepr_str ?_ lenB)
    refine wpC_bindA (wpAny_mkStr ?_ (lenA _))
    refine wpC_bindA (wpAny_newExc_plain plainExc_ValueError fun h₁ e he => ?_)
    refine wpC_bind (wpC_mark ?_)
    exact wpC_of_any (wpAny_raiseNew_none hA (hE _ _ _ _ he))
theorem callC_int_no {x : PySem.Str} {u : Tok} (hlen : x.length ≤ 640) (hok : ∀ c ∈ x.cps.toList, c < 16 ^ 8) (hn : PySem.intText? x = none) (hA : A.handled = none)
    (hE : ∀ h₁ e tk args, Heap.MadeExc s.heap h₁ e "ValueError" args → E (.ref e) { s with heap := h₁, toks := tk }) :
    wpC (model prog w) A (call (.type "int") [.str x u]) (fun _ _ => False) E s := by
  have hs : (numSeenOf x).length ≤ 640 := Nat.le_trans (seen_length x) hlen
  refine callC_int (codeC_new (wpC_no hs ?_ hA hlen hok hE))
  rcases read0 x hs with ⟨m, h1, h2, h3⟩ | ⟨_, h1⟩
  · rw [hn] at h1; cases h1
  · exact h1
end
end Mine

namespace Mine
open PySem
noncomputable def f__law_outcome : Fn := ⟨"_law_outcome", ["text"],
  (.cons (.try_
    (.cons (.assign "size" (.call "context_size" (.cons (.var "text") .nil))) .nil))
  (.cons (.ret (.list false (.cons (.str "size") (.cons (.var "size") .nil)))) .nil))⟩
noncomputable def f_context_size : Fn := ⟨"context_size", ["text"],
  (.cons (.assign "size" (.prim .int (.cons (.var "text") .nil)))
  (.cons (.ite (.cmp .Lt (.var "size") (.int (0)))
    (.cons .raise_ .nil) .nil)
  (.cons (.ret (.var "size")) .nil)))⟩
noncomputable def f__law_cell : Fn := ⟨"_law_cell", ["script", "place"],
  (.cons (.ite (.cmp .Lt (.var "place") (.prim .len (.cons (.var "script") .nil)))
    (.cons (.ret (.item (.var "script") (.var "place"))) .nil) .nil)
  (.cons (.ret (.int (0))) .nil))⟩
noncomputable def f__law_WORDS : Fn := ⟨"_law_WORDS", [],
  (.cons (.ret (.list false (.cons (.str "") (.cons (.str "three") (.cons (.str "-") (.cons (.str "x1") (.cons (.str "--2") .nil))))))) .nil)⟩
noncomputable def f__law_TAILS : Fn := ⟨"_law_TAILS", [],
  (.cons (.ret (.list false (.cons (.str "x") (.cons (.str ".5") (.cons (.str "-1") (.cons (.str " 2") (.cons (.str ",3") .nil))))))) .nil)⟩
noncomputable def lawp : MSs :=
  (.cons (.assign "kind" (.bin false .Mod (.call "_law_cell" (.cons (.var "script") (.cons (.int (0)) .nil))) (.int (8))))
  (.cons (.assign "n" (.bin false .Mod (.call "_law_cell" (.cons (.var "script") (.cons (.int (1)) .nil))) (.int (1000000000000000000))))
  (.cons (.assign "pick" (.bin false .Mod (.call "_law_cell" (.cons (.var "script") (.cons (.int (2)) .nil))) (.int (5))))
  (.cons (.ite (.cmp .Eq (.bin false .Mod (.var "kind") (.int (2))) (.int (0)))
    (.cons (.assign "n" (.bin false .Mod (.var "n") (.int (4)))) .nil) .nil)
  (.cons (.assign "case" (.bin false .FloorDiv (.var "kind") (.int (2))))
  (.cons (.ite (.cmp .Eq (.var "case") (.int (0)))
    (.cons (.assign "got" (.call "_law_outcome" (.cons (.prim .str (.cons (.var "n") .nil)) .nil)))
    (.cons (.ite (.cmp .NotEq (.var "got") (.list false (.cons (.str "size") (.cons (.var "n") .nil))))
      (.cons (.ret (.bool false)) .nil) .nil)
    (.cons (.assign "size" (.item (.var "got") (.int (1))))
    (.cons (.ite (.not (.cmp .Is (.prim .type (.cons (.var "size") .nil)) (.typ "int")))
      (.cons (.ret (.bool false)) .nil) .nil)
    (.cons (.ret (.bool true)) .nil))))) .nil)
  (.cons (.ite (.cmp .Eq (.var "case") (.int (1)))
    (.cons (.assign "text" (.prim .str (.cons (.bin false .Sub (.neg (.var "n")) (.int (1))) .nil))) .nil)
    (.cons (.ite (.cmp .Eq (.var "case") (.int (2)))
      (.cons (.assign "text" (.bin false .Add (.prim .str (.cons (.var "n") .nil)) (.item (.call "_law_TAILS" .nil) (.var "pick")))) .nil)
      (.cons (.assign "text" (.item (.call "_law_WORDS" .nil) (.var "pick"))) .nil)) .nil)) .nil)))))))
theorem fn_cell {Φ : FEnv} {G : Str → Option V} {ns : List Int} {i : Int} {h : Hp} {Q : V → Hp → Prop} (hi : 0 ≤ i) (q : Q (.int (cell ns i)) h) : wpF Φ G f__law_cell [.list (ns.map .int), .int i] h Q := by
  refine ⟨rfl, ?_⟩
  unfold f__law_cell
  dsimp only
  mem_news
  refine i_dec (fun hk => ?_) (fun hk => ?_)
  · mem_news
    have hl : i.toNat < ns.length := by simp at hk; omega
    refine n_list (v := .int (cell ns i)) hi (by simp [cell, hl]) ?_
    mem_news
    exact q
  · mem_news
    have : cell ns i = 0 := by
      have hl : ns.length ≤ i.toNat := by simp at hk; omega
      simp [cell, hl]
    rw [this] at q
    exact q

theorem num_len {m : Nat} (h : m < 10 ^ 18) : (PySem.Str.ofString (toString ((m : Nat) : Int))).length ≤ 18 := by
  have hs := PySem.W.KIN.signs_num m
  have hl := PyProof.Rows.digits10_le (k := 18) (by decide) h
  show (PySem.Str.ofString (toString ((m : Nat) : Int))).cps.size ≤ 18
  rw [← Array.length_toList, hs, List.length_map]; exact hl
theorem neg_len {m : Nat} (h : m < 10 ^ 18) : (PySem.Str.ofString (toString (-(m : Int) - 1))).length ≤ 640 := by
  have e0 : -(m : Int) - 1 = Int.negSucc m := by omega
  rw [e0]
  have hs : (PySem.Str.ofString (toString (Int.negSucc m))).cps.toList = 45 :: (Nat.toDigits 10 (m + 1)).map Char.toNat := by
    rw [PyProof.Rows.signs_ofString]
    show ("-" ++ Nat.repr (m + 1)).toList.map Char.toNat = _
    rw [String.toList_append, Nat.toList_repr]; rfl
  have hl := PyProof.Rows.digits10_le (k := 19) (n := m + 1) (by decide) (by omega)
  show (PySem.Str.ofString (toString (Int.negSucc m))).cps.size ≤ 640
  rw [← Array.length_toList, hs, List.length_cons, List.length_map]
  omega
theorem p_str {h : Hp} {i : Int} {K : V → Hp → Prop} (h1 : i.natAbs < 10 ^ 20) (h2 : (Str.ofString (toString i)).length ≤ 640) (k : K (.str (Str.ofString (toString i))) h) : wPrim .str [.int i] h K := ⟨⟨h1, h2⟩, k⟩
theorem p_int {h : Hp} {x : Str} {n : Int} {K : V → Hp → Prop} (h1 : x.length ≤ 640) (h2 : PySem.intText? x = some n) (k : K (.int n) h) : wPrim .int [.str x] h K := ⟨h1, by rw [h2]; exact k⟩
theorem c_try {Φ : FEnv} {G : Str → Option V} {σ : St} {b r : MSs} {Q : Fl → St → Prop} (h : wpSs Φ G b σ (thenQ Φ G r Q)) : wpSs Φ G (.cons (.try_ b) r) σ Q := h
theorem fn_ctx {Φ : FEnv} {G : Str → Option V} {x : Str} {n : Int} {h : Hp} {Q : V → Hp → Prop} (h1 : x.length ≤ 640) (h2 : PySem.intText? x = some n) (h3 : 0 ≤ n) (q : Q (.int n) h) : wpF Φ G f_context_size [.str x] h Q := by
  refine ⟨rfl, ?_⟩
  unfold f_context_size
  dsimp only
  mem_news
  refine p_int h1 h2 ?_
  mem_news
  refine i_dec (fun q => absurd q (by omega)) (fun _ => ?_)
  mem_news
  exact q
theorem fn_out {r : List Fn} {G : Str → Option V} {x : Str} {n : Int} {h : Hp} {Q : V → Hp → Prop} (h1 : x.length ≤ 640) (h2 : PySem.intText? x = some n) (h3 : 0 ≤ n) (q : Q (.list [.str "size", .int n]) h) : wpF (Phi G (f_context_size :: r)) G f__law_outcome [.str x] h Q := by
  refine ⟨rfl, ?_⟩
  unfold f__law_outcome
  dsimp only
  refine c_try ?_
  mem_news
  refine phi_here rfl (fn_ctx h1 h2 h3 ?_)
  mem_news
  exact q
theorem fn_tails {Φ : FEnv} {G : Str → Option V} {h : Hp} {Q : V → Hp → Prop} (q : Q (.list (sL tails6)) h) : wpF Φ G f__law_TAILS [] h Q := by
  refine ⟨rfl, ?_⟩
  unfold f__law_TAILS
  dsimp only
  mem_news
  exact q
theorem fn_words {Φ : FEnv} {G : Str → Option V} {h : Hp} {Q : V → Hp → Prop} (q : Q (.list (sL words6)) h) : wpF Φ G f__law_WORDS [] h Q := by
  refine ⟨rfl, ?_⟩
  unfold f__law_WORDS
  dsimp only
  mem_news
  exact q
theorem pick5 (l : List Str) (h5 : l.length = 5) (_ : True) (hl : (l.all fun t => decide (t.length ≤ 10)) = true) {p : Int} (hp : 0 ≤ p ∧ p < 5) : ∃ t, (sL l)[p.toNat]? = some (.str t) ∧ t ∈ l ∧ t.length ≤ 10 := by
  have hi : p.toNat < l.length := by omega
  refine ⟨l[p.toNat], by rw [sL_get]; simp [hi], List.getElem_mem hi, ?_⟩
  have := List.all_eq_true.mp hl _ (List.getElem_mem hi)
  simpa using this
noncomputable def Bad (x : Str) : Prop := x.length ≤ 640 ∧ (PySem.intText? x = none ∨ ∃ n, PySem.intText? x = some n ∧ n < 0)
noncomputable def fs0006 : List Fn := [f__law_outcome, f_context_size, f__law_cell, f__law_WORDS, f__law_TAILS]
theorem law_0006 (ns : List Int) : wpSs (Phi (fun _ => none) fs0006) (fun _ => none) lawp ⟨bindP ["script"] [.list (ns.map .int)], fun _ => none⟩ fun fl σ => match fl with
    | .ret v => v = .bool true
    | .next => ∃ x, σ.vars "text" = some (.str x) ∧ Bad x
    | _ => False := by
  unfold fs0006 lawp
  mem_news
  refine phi_next (ofString_ne (by decide)) (phi_next (ofString_ne (by decide)) (phi_here rfl (fn_cell (by decide) ?_)))
  mem_news
  have m1 := fmod_range (x := cell ns 0) (n := 8) (by decide)
  generalize (cell ns 0).fmod 8 = kind at m1 ⊢
  refine phi_next (ofString_ne (by decide)) (phi_next (ofString_ne (by decide)) (phi_here rfl (fn_cell (by decide) ?_)))
  mem_news
  have m2 := fmod_range (x := cell ns 1) (n := 1000000000000000000) (by decide)
  generalize (cell ns 1).fmod 1000000000000000000 = n at m2 ⊢
  refine phi_next (ofString_ne (by decide)) (phi_next (ofString_ne (by decide)) (phi_here rfl (fn_cell (by decide) ?_)))
  mem_news
  have m3 := fmod_range (x := cell ns 2) (n := 5) (by decide)
  generalize (cell ns 2).fmod 5 = pick at m3 ⊢
  refine i_mid (fun σ => (∃ m : Nat, m < 10 ^ 18 ∧ σ.vars "n" = some (.int m)) ∧ σ.vars "kind" = some (.int kind) ∧ σ.vars "pick" = some (.int pick)) ?_ ?_
  · intro P hP
    refine i_dec (fun _ => ?_) (fun _ => ?_)
    · mem_news
      have m4 := fmod_range (x := n) (n := 4) (by decide)
      exact hP _ ⟨⟨(n.fmod 4).toNat, by omega, by rw [show (((n.fmod 4).toNat : Nat) : Int) = n.fmod 4 by omega]; got_up⟩, by got_up, by got_up⟩
    · mem_news
      exact hP _ ⟨⟨n.toNat, by omega, by rw [show ((n.toNat : Nat) : Int) = n by omega]; got_up⟩, by got_up, by got_up⟩
  rintro σ ⟨⟨m, hm, v1⟩, v2, v3⟩
  clear m2
  have hl := num_len hm
  mem_news
  refine i_dec (fun c0 => ?_) (fun c0 => ?_)
  · mem_news
    refine p_str (by omega) (by omega) ?_
    mem_news
    refine phi_here rfl (fn_out (by omega) (num18 hm) (by omega) ?_)
    mem_news
    refine r_ne_same rfl rfl rfl ?_
    mem_news
    refine n_list (v := .int m) (by decide) rfl ?_
    mem_news
    rfl
  · mem_news
    refine i_dec (fun c1 => ?_) (fun c1 => ?_)
    · mem_news
      have hn := neg_len hm
      refine p_str (by omega) (by omega) ?_
      mem_news
      exact ⟨_, by got_up, by omega, .inr ⟨_, neg18 hm, by omega⟩⟩
    · mem_news
      refine i_dec (fun c2 => ?_) (fun c2 => ?_)
      · mem_news
        refine p_str (by omega) (by omega) ?_
        mem_news
        refine phi_next (ofString_ne (by decide)) (phi_next (ofString_ne (by decide)) (phi_next (ofString_ne (by decide)) (phi_next (ofString_ne (by decide)) (phi_here rfl (fn_tails ?_)))))
        mem_news
        obtain ⟨t, ht, hmem, htl⟩ := pick5 tails6 rfl (by decide) (by decide +kernel) m3
        refine n_list m3.1 ht ?_
        refine b_sadd (by show _ ≤ _; omega) ?_
        mem_news
        exact ⟨_, by got_up, by rw [str_len_app]; omega, .inl (tail_no hmem)⟩
      · mem_news
        refine phi_next (ofString_ne (by decide)) (phi_next (ofString_ne (by decide)) (phi_next (ofString_ne (by decide)) (phi_here rfl (fn_words ?_))))
        mem_news
        obtain ⟨t, ht, hmem, htl⟩ := pick5 words6 rfl (by decide) (by decide +kernel) m3
        refine n_list m3.1 ht ?_
        mem_news
        exact ⟨_, by got_up, by omega, .inl (word_no t hmem)⟩

end Mine

set_option maxRecDepth 100000
namespace Mine
open PySem PySem.W PyProof.Rows

section
variable {prog : Program} {w : World} {A : Around} {E : Value → Shared → Prop} {s : Shared}

theorem enter1 {a : Addr} {o : Obj} {name : Str} {ar : Arg} {kd : List (Option PySem.Expr)} {dfs : List PySem.Expr} {body : List Stmt} {sc : Scope} {pm cd doc v : Value} {R : Result → Shared → Prop}
    (ho : s.heap.get? a = some o) (hd : o.data = .func (Calls.docDef name ⟨[], [ar], none, [], kd, none, dfs⟩ body sc pm cd doc)) (hlim : s.heap.NoLimit) (hcd : s.heap.CodeRec cd name) (hroom : A.depth < recursionLimit)
    (hpar : sc.names.lookup ar.arg = some .local) (hco : sc.isCoroutine = false) (hgen : sc.isGenerator = false) (hk : sc.kind = .function)
    (h : ∀ (env : Env) (s₁ : Shared) m, env.scope = sc → env.frame = some env.locals → env.globals = mainGlobals → env.builtins = builtinsNs → env.locals = s.heap.objs.size → InCall s env.locals m s₁ → m ar.arg = some v →
      wpC (model prog w) (A.deeper env) (execs body env) (fun f s' => R (.ok (.ret (match f with | .ret v => v | _ => .none))) s')
        (fun e s' => wpAny (model prog w) (A.deeper env) (leaving env e) (fun _ s'' => R (.error e) s'') (fun e' s'' => R (.error e') s'') s') s₁) :
    codeC (model prog w) A (.call (.ref a) ⟨[v], []⟩) R s := by
  refine codeC_call_cells (fd := Calls.docDef name ⟨[], [ar], none, [], kd, none, dfs⟩ body sc pm cd doc) (body := body) hroom ho hd hlim hcd rfl (bind_plain (by simp) rfl) rfl (fun x hx => ?_) (fun s₁ ic => ?_) hco hgen hk
  · simp only [List.map_cons, List.map_nil, List.zip_cons_cons, List.zip_nil_right, List.mem_singleton] at hx
    subst hx; exact .inl hpar
  · refine h _ s₁ _ rfl rfl rfl rfl rfl ic.toInCall ?_
    have hk' : (callEnvC (Calls.docDef name ⟨[], [ar], none, [], kd, none, dfs⟩ body sc pm cd doc) s.heap.objs.size a).kindOf ar.arg = some .local := hpar
    show bindL _ [(ar.arg, v)] (fun _ => none) ar.arg = some v
    simp only [bindL]
    rw [if_pos hk', if_pos rfl]

/-- what a raised ValueError leaves on its way -/
noncomputable def Flies (base : Heap) (l : List Env) (s : Shared) (e : Value) (s' : Shared) : Prop := ∃ a, e = .ref a ∧ Heap.Flying base l a (.type "ValueError") s'.heap ∧ ∃ hh tk, s' = { s with heap := hh, toks := tk }

structure G6 (base : Heap) (mg mb : Str → Option Value) : Prop where
  g : base.Ns mainGlobals mg
  b : base.Ns builtinsNs mb
  lim : base.NoLimit
  int : mg "int" = none ∧ mb "int" = some (.type "int")
  ve : mg "ValueError" = none ∧ mb "ValueError" = some (.type "ValueError")

theorem sub_ve : isSubtype (.type "ValueError") (.type "ValueError") = pure true := by rw [isSubtype_type]; kernel_rfl

theorem ve_base : isSubtype (.type "ValueError") (.type "BaseException") = pure true := by rw [isSubtype_type]; kernel_rfl
theorem ve_tuple : isSubtype (.type ((Manifest.find? "ValueError").elim "type" fun x => x.metatype)) (.type "tuple") = pure false := by rw [isSubtype_type]; kernel_rfl

theorem ctx_bad {base : Heap} {mg mb : Str → Option Value} {a : Addr} {o : Obj} {name : Str} {an : Option PySem.Expr} {ap : Pos} {kd : List (Option PySem.Expr)} {dfs : List PySem.Expr} {sc : Scope} {pm cd doc : Value} {x : Str} {t : Tok} {outer : List Env}
    {p1 p2 p3 p4 p5 p6 p7 p8 p9 p10 p11 : Pos} {k : Nat} {rest : List Stmt}
    (G : G6 base mg mb) (ho : base.get? a = some o)
    (hd : o.data = .func (Calls.docDef name ⟨[], [⟨"text", an, ap⟩], none, [], kd, none, dfs⟩ (.Assign [.Name "size" p1] (.Call (.Name "int" p2) [.Name "text" p3] [] p4) p5 ::
      .If (.Compare (.Name "size" p6) [.Lt] [.Constant (.int 0) k p7] p8) [.Raise (some (.Name "ValueError" p9)) none p10] [] p11 :: rest) sc pm cd doc))
    (hcd : base.CodeRec cd name) (hroom : A.depth + 10 < recursionLimit) (hA : A.handled = none) (hu : A.units + 100 < cLine) (hfr : A.frames = some outer)
    (hsc : sc.names.lookup ("text" : Str) = some .local ∧ sc.names.lookup ("size" : Str) = some .local ∧ sc.names.lookup ("int" : Str) = some .globalImplicit ∧ sc.names.lookup ("ValueError" : Str) = some .globalImplicit)
    (hco : sc.isCoroutine = false) (hgen : sc.isGenerator = false) (hk : sc.kind = .function) (hkb : base.StaysIn s.heap) (hl : s.heap.FunFrames base outer)
    (hx : Bad x) (hok : PyData.strOk x = true) :
    codeC (model prog w) A (.call (.ref a) ⟨[.str x t], []⟩) (fun r s' => match r with | .error e => Flies base outer s e s' | .ok _ => False) s := by
  refine enter1 (hkb _ _ ho) hd (G.lim.keeps hkb) (hcd.keeps hkb) (by omega) hsc.1 hco hgen hk fun env s₁ m e1 e2 e3 e4 e5 ic hm => ?_
  have kind : ∀ y, env.kindOf y = sc.names.lookup y := fun y => by rw [← e1]; rfl
  have hkf : env.scope.kind = .function := by rw [e1]; exact hk
  have hkb₁ : base.StaysIn s₁.heap := fun b o e => ic.keep b o (hkb b o e)
  have hnew : base.get? env.locals = none := by rw [e5]; exact hkb.fresh
  have hg₁ : s₁.heap.Ns env.globals mg := by rw [e3]; exact G.g.keeps hkb₁
  have hb₁ : s₁.heap.Ns env.builtins mb := by rw [e4]; exact G.b.keeps hkb₁
  have hfr₁ : (A.deeper env).frames = some (env :: outer) := Around.frames_deeper hfr
  have fly : ∀ {s₂ : Shared} {h' : Heap} {e : Addr} {tk : Nat} {m₂ : Str → Option Value}, (∃ hh tk, s₂ = { s with heap := hh, toks := tk }) → base.StaysIn s₂.heap → s₂.heap.Ns env.locals m₂ → s₂.heap.FunFrames base outer → Heap.NewExc s₂.heap h' e "ValueError" →
      wpAny (model prog w) (A.deeper env) (leaving env (.ref e)) (fun _ s'' => Flies base outer s (.ref e) s'') (fun e' s'' => Flies base outer s e' s'') { s₂ with heap := h', toks := tk } := by
    intro s₂ h' e tk m₂ hs₂ hk₂ hn₂ hl₂ hx
    refine wpAny_leaves_new (h := s₂.heap) hfr₁ e2 hk₂ (.cons (by rw [hkf]; simp) e2 hn₂ hnew hl₂) hx fun h'' hfl => ?_
    obtain ⟨hh, tk', rfl⟩ := hs₂
    exact ⟨e, rfl, hfl, _, _, rfl⟩
  have hl₁ : s₁.heap.FunFrames base outer := hl.of_keeps fun b o hb _ => ⟨o, ic.keep b o hb, rfl⟩
  have hokc : ∀ c ∈ x.cps.toList, c < 16 ^ 8 := fun c hc => by
    have := strOk_mem.mp hok c hc
    omega
  have args : ∀ {Q : List Value → Shared → Prop} {E' : Value → Shared → Prop}, Q [.str x t] s₁ → wpAny (model prog w) (A.deeper env) (spliced (backTo p4 (starEach [.Name "text" p3] env))) Q E' s₁ := fun q =>
    PyProof.Rows.args_cons (wpAny_Name (wpAny_loadName_local hkf (by rw [kind]; exact hsc.1) ic.ns hm (PyProof.Rows.args_nil q)) (by decide)) (starEach_cons rfl)
  have nameInt : ∀ {Q : Value → Shared → Prop} {E' : Value → Shared → Prop}, Q (.type "int") s₁ → wpAny (model prog w) (A.deeper env) (eval (.Name "int" p2) env) Q E' s₁ := fun q =>
    Calls.Name_function_global hkf (by rw [kind]; exact hsc.2.2.1) (Calls.loadGlobal_builtin hg₁ G.int.1 hb₁ G.int.2 q) (by decide)
  rcases hx.2 with hn | ⟨n, hn, hneg⟩
  · refine wpC_execs_cons (wpC_Assign_Name (wpC_Call (nameInt ?_)))
    refine wpC_callWith_type (plainArgs (es := [.Name "text" p3]) rfl) (wpAny_mono (evalArgs_ses (es := [.Name "text" p3]) (Q := fun vs s' => vs = [.str x t] ∧ s' = s₁) rfl (args ⟨rfl, rfl⟩)) (fun ar s₂ h₂ => ?_) fun _ _ e => e)
    obtain ⟨q1, q2, rfl⟩ := h₂
    rw [q1, q2]
    refine callC_int_no hx.1 hokc hn hA fun h₁ e tk args he => ?_
    exact fly ic.same hkb₁ ic.ns hl₁ he.newExc
  · refine wpC_of_any (wpAny_execs_cons (wpAny_Assign_Name (PyProof.Rows.Call_ (nameInt ?_))))
    refine PyProof.Rows.callWith_type (plainArgs (es := [.Name "text" p3]) rfl) (wpAny_mono (evalArgs_ses (es := [.Name "text" p3]) (Q := fun vs s' => vs = [.str x t] ∧ s' = s₁) rfl (args ⟨rfl, rfl⟩)) (fun ar s₂ h₂ => ?_) fun _ _ e => e)
    obtain ⟨q1, q2, rfl⟩ := h₂
    rw [q1, q2]
    refine KIN.call_text hn hx.1 ?_
    refine wpAny_storeName_local (by rw [kind]; exact hsc.2.1) ic.ns (fun h' hn' hs' => ?_) (by rw [hkf]; rfl)
    have up : ∀ b o, b ≠ env.locals → s₂.heap.get? b = some o → h'.get? b = some o := fun b o hb e => hs'.extBut b o hb e
    have hkb₂ : base.StaysIn h' := fun b o e => up b o (by rintro rfl; rw [hnew] at e; cases e) (hkb₁ b o e)
    have hl₂ : h'.FunFrames base outer := hl.of_keeps fun b o hb _ => ⟨o, up b o (fun q => by rw [q, e5] at hb; exact absurd (Heap.lt_size hb) (Nat.lt_irrefl _)) (ic.keep b o hb), rfl⟩
    have hg₂ : h'.Ns env.globals mg := by rw [e3]; exact G.g.keeps hkb₂
    have hb₂ : h'.Ns env.builtins mb := by rw [e4]; exact G.b.keeps hkb₂
    refine wpAny_execs_cons (wpAny_If (wpAny_isTrue_Compare1 (wpAny_Name (wpAny_loadName_local hkf (by rw [kind]; exact hsc.2.1) hn' (if_pos rfl) ?_) (by decide)) rfl))
    refine wpAny_Constant_int ?_
    have R₀ : ∀ st : Shared, HRep (fun _ => none) (fun _ => none) st := fun st => ⟨fun _ _ e => (by cases e), fun _ _ e => (by cases e), fun _ _ e => (by cases e)⟩
    refine wpAny_mono (s_cmp (op := .Lt) (a := .int n) (b := .int 0) (Q := fun b => b = true) (R₀ _) (by show A.units + 3 + 64 < cLine; omega) (vint _ _) (vint _ _) (by show decide (n < 0) = true; simpa using hneg)) (fun v s₃ h₃ => ?_) fun _ _ e => e
    obtain ⟨b, rfl, rfl, R₃, X₃⟩ := h₃
    obtain ⟨h₃, tk₃, rfl⟩ := X₃.same
    have keep₃ : ∀ b o, h'.get? b = some o → h₃.get? b = some o := fun b o e => X₃.pres b o e rfl
    refine wpAny_truthy_bool ?_
    rw [if_pos rfl]
    refine wpAny_execs_cons (Raise_classB hA excClass_ValueError sub_ve ?_ fun h₄ e he => ?_)
    · exact Calls.Name_function_global hkf (by rw [kind]; exact hsc.2.2.2) (Calls.loadGlobal_builtin (hg₂.keeps keep₃) G.ve.1 (hb₂.keeps keep₃) G.ve.2 ⟨rfl, rfl⟩) (by decide)
    · refine fly (s₂ := { s₂ with heap := h₃, toks := tk₃ }) ?_ (fun b o e => keep₃ b o (hkb₂ b o e)) (hn'.keeps keep₃) (hl₂.of_keeps fun b o hb _ => ⟨o, keep₃ b o hb, rfl⟩) he
      obtain ⟨hh, tk, e⟩ := ic.same; rw [e]; exact ⟨_, _, rfl⟩
/-- a list that is made of one text -/
theorem one_list {M : Model} {env : Env} {k : Nat} {p q : Pos} {y : Str} {Q : Value → Shared → Prop}
    (hQ : Q (.ref s.heap.objs.size) { s with heap := s.heap.push { cls := .type "list", data := .seq #[.str y s.toks] }, toks := s.toks + 1 }) : wpAny M A (eval (.List [.Constant (.str y) k p] q) env) Q E s := by
  refine PyProof.Rows.List_ (PyProof.Rows.args_cons (Calls.Constant_str (PyProof.Rows.args_nil ?_)) (starEach_cons rfl))
  exact wpAny_newObj_type hQ (show (1 : Nat) ≤ sizeLine by rw [sizeLine_eq]; decide)

theorem out_bad {base : Heap} {mg mb : Str → Option Value} {a actx : Addr} {o octx : Obj} {name nctx : Str} {an an' : Option PySem.Expr} {ap ap' : Pos} {kd kd' : List (Option PySem.Expr)} {dfs dfs' : List PySem.Expr} {sc sctx : Scope} {pm cd doc pm' cd' doc' : Value} {x : Str} {t : Tok} {outer : List Env}
    {p1 p2 p3 p4 p5 p6 p7 p8 p9 p10 p11 : Pos} {k : Nat} {rest : List Stmt} {q1 q2 q3 q4 q5 q6 q7 q8 q9 q10 q11 : Pos} {k' : Nat} {rest' : List Stmt}
    (G : G6 base mg mb) (ho : base.get? a = some o)
    (hd : o.data = .func (Calls.docDef name ⟨[], [⟨"text", an, ap⟩], none, [], kd, none, dfs⟩ (.Try [.Assign [.Name "size" p1] (.Call (.Name "context_size" p2) [.Name "text" p3] [] p4) p5]
      [.ExceptHandler (some (.Name "ValueError" p6)) none [.Return (some (.List [.Constant (.str "refused") k p7] p8)) p9] p10] [] [] p11 :: rest) sc pm cd doc))
    (hcd : base.CodeRec cd name) (hctx : mg "context_size" = some (.ref actx)) (hoc : base.get? actx = some octx)
    (hdc : octx.data = .func (Calls.docDef nctx ⟨[], [⟨"text", an', ap'⟩], none, [], kd', none, dfs'⟩ (.Assign [.Name "size" q1] (.Call (.Name "int" q2) [.Name "text" q3] [] q4) q5 ::
      .If (.Compare (.Name "size" q6) [.Lt] [.Constant (.int 0) k' q7] q8) [.Raise (some (.Name "ValueError" q9)) none q10] [] q11 :: rest') sctx pm' cd' doc'))
    (hcc : base.CodeRec cd' nctx) (hroom : A.depth + 20 < recursionLimit) (hA : A.handled = none) (hu : A.units + 200 < cLine) (hfr : A.frames = some outer)
    (hsc : sc.names.lookup ("text" : Str) = some .local ∧ sc.names.lookup ("context_size" : Str) = some .globalImplicit ∧ sc.names.lookup ("ValueError" : Str) = some .globalImplicit)
    (hscc : sctx.names.lookup ("text" : Str) = some .local ∧ sctx.names.lookup ("size" : Str) = some .local ∧ sctx.names.lookup ("int" : Str) = some .globalImplicit ∧ sctx.names.lookup ("ValueError" : Str) = some .globalImplicit)
    (hco : sc.isCoroutine = false) (hgen : sc.isGenerator = false) (hk : sc.kind = .function) (hco' : sctx.isCoroutine = false) (hgen' : sctx.isGenerator = false) (hk' : sctx.kind = .function) (hkb : base.StaysIn s.heap) (hl : s.heap.FunFrames base outer)
    (hx : Bad x) (hok : PyData.strOk x = true) :
    codeC (model prog w) A (.call (.ref a) ⟨[.str x t], []⟩) (fun r s' => ∃ l tk, r = .ok (.ret (.ref l)) ∧ s'.heap.get? l = some { cls := .type "list", data := .seq #[.str "refused" tk] } ∧ base.StaysIn s'.heap ∧ ∃ hh tk, s' = { s with heap := hh, toks := tk }) s := by
  refine enter1 (hkb _ _ ho) hd (G.lim.keeps hkb) (hcd.keeps hkb) (by omega) hsc.1 hco hgen hk fun env s₁ m e1 e2 e3 e4 e5 ic hm => ?_
  have kind : ∀ y, env.kindOf y = sc.names.lookup y := fun y => by rw [← e1]; rfl
  have hkf : env.scope.kind = .function := by rw [e1]; exact hk
  have hkb₁ : base.StaysIn s₁.heap := fun b o e => ic.keep b o (hkb b o e)
  have hnew : base.get? env.locals = none := by rw [e5]; exact hkb.fresh
  have hfr₁ : (A.deeper env).frames = some (env :: outer) := Around.frames_deeper hfr
  have hl₁ : s₁.heap.FunFrames base (env :: outer) := .cons (by rw [hkf]; simp) e2 ic.ns hnew (hl.of_keeps fun b o hb _ => ⟨o, ic.keep b o hb, rfl⟩)
  have hg₁ : s₁.heap.Ns env.globals mg := by rw [e3]; exact G.g.keeps hkb₁
  refine wpC_execs_cons (wpC_Try_except (wpC_execs_cons (wpC_Assign_Name (wpC_Call ?_))))
  refine Calls.Name_function_global hkf (by rw [kind]; exact hsc.2.1) (Calls.loadGlobal_global hg₁ hctx ?_) (by decide)
  refine wpC_callWith_function (plainArgs (es := [.Name "text" p3]) rfl) (wpAny_mono (evalArgs_ses (es := [.Name "text" p3]) (Q := fun vs s' => vs = [.str x t] ∧ s' = s₁) rfl
    (PyProof.Rows.args_cons (wpAny_Name (wpAny_loadName_local hkf (by rw [kind]; exact hsc.1) ic.ns hm (PyProof.Rows.args_nil ⟨rfl, rfl⟩)) (by decide)) (starEach_cons rfl))) (fun ar s₂ h₂ => ?_) fun _ _ e => e)
  obtain ⟨r1, r2, rfl⟩ := h₂
  rw [r1, r2]
  refine ⟨⟨_, _, hkb₁ _ _ hoc, hdc⟩, wpC_call (codeC_mono (ctx_bad (base := base) G hoc hdc hcc (by show A.depth + 1 + 10 < _; omega) hA (by show A.units + 3 + 100 < _; omega) hfr₁ hscc hco' hgen' hk' hkb₁ hl₁ hx hok) fun r s₃ hr => ?_)⟩
  cases r with
  | ok f => exact hr.elim
  | error e =>
  obtain ⟨ea, rfl, hfl, hh₃, tk₃, es₃⟩ := hr
  show wpAny (model prog w) (A.deeper env) (leaving env (.ref ea)) _ _ s₃
  refine wpAny_leaves_on hfr₁ e2 hfl fun h₄ hfl₄ => ?_
  obtain ⟨f1, f2, f3, oe, vs, T, oT, ts, g1, g2, g3, g4, g5, g6, g7, g8, g9⟩ := hfl₄
  have gl : ∀ {Q : Value → Shared → Prop} {E' : Value → Shared → Prop} {A' : Around}, Q (.type "ValueError") { s₃ with heap := h₄ } → wpAny (model prog w) A' (eval (.Name "ValueError" p6) env) Q E' { s₃ with heap := h₄ } := fun q =>
    Calls.Name_function_global hkf (by rw [kind]; exact hsc.2.2) (Calls.loadGlobal_builtin (by rw [e3]; exact G.g.keeps f1) G.ve.1 (by rw [e4]; exact G.b.keeps f1) G.ve.2 q) (by decide)
  refine wpAny_handleBy_builtin (X := "ValueError") (T := "ValueError") (b := true) ve_base ve_tuple sub_ve (gl ⟨rfl, ⟨oe, g1, g2⟩, ?_⟩)
  rw [if_pos rfl]
  refine wpAny_setFlight_none g1 g3 g4 g7 g8 (Array.getElem?_eq_some_iff.mp g9).1 ?_
  refine wpAny_execs_cons (wpAny_Return_some (one_list ?_))
  refine ⟨_, _, rfl, Heap.get?_push_size _ rfl, fun b o hb => Heap.get?_push_of_some _ ((Heap.get?_update_ne _ _ _ _ (fun q => by rw [q, g5] at hb; cases hb)).trans (f1 b o hb)), ?_⟩
  obtain ⟨hh, tk, e⟩ := ic.same
  rw [es₃, e]; exact ⟨_, _, rfl⟩
end
end Mine

set_option maxRecDepth 100000
namespace Mine
open PySem PySem.W PyProof.Rows

theorem execs_app {env : Env} : ∀ (l r : List Stmt), execs (l ++ r) env = (execs l env >>= fun f => match f with | .next => execs r env | f => pure f)
  | [], r => by show execs r env = (pure Flow.next >>= _); rw [pure_bind]
  | st :: l, r => by
    rw [List.cons_append, execs_cons, execs_cons, bind_assoc]
    congr 1
    funext f
    cases f with
    | next => exact execs_app l r
    | _ => rw [pure_bind]
theorem wpC_execs_app {M : Model} {A : Around} {E : Value → Shared → Prop} {s : Shared} {env : Env} {l r : List Stmt} {Q : Flow → Shared → Prop}
    (h : wpAny M A (execs l env) (fun f s' => match f with | .next => wpC M A (execs r env) Q E s' | f => Q f s') E s) : wpC M A (execs (l ++ r) env) Q E s := by
  rw [execs_app]
  refine wpC_bindA (wpAny_mono h (fun f s' h' => ?_) fun _ _ e => e)
  cases f with
  | next => exact h'
  | _ => exact wpC_of_any (wpAny_pure h')

section
variable {C : Ctx} {K : Nat} {Φ : FEnv}
theorem enter_fn {f : Fn} {a : Addr} {o : Obj} {name : Str} {params : Arguments} {body : List Stmt} {scope : Scope} {pm cd doc : Value} (hC : C.Ok) (ho : C.h₀.get? a = some o) (hd : o.data = .func (Calls.docDef name params body scope pm cd doc)) (hcd : C.h₀.CodeRec cd name)
    (hbind : ∀ vals : List Value, vals.length = f.params.length → bindArgs (Calls.docDef name params body scope pm cd doc) ⟨vals, []⟩ = pure (f.params.zip vals))
    (hpar : (f.params.all fun x => scope.names.lookup x == some .local) = true) (hnd : f.params.Nodup) (hcell : ∀ p ∈ scope.names, p.2 ≠ .cell) (hfree : ∀ p ∈ scope.names, p.2 ≠ .free) (hk : scope.kind = .function) (hco : scope.isCoroutine = false) (hgen : scope.isGenerator = false)
    {args : List V} {h : Hp} {A : Around} {z : Zh} {s : Shared} {xs : List Value} {Rr : Result → Shared → Prop} (hlen : args.length = f.params.length) (hA : Room (K + 1) A) (hz : C.In z) (R : HRep z h s) (hxs : VRels z args xs)
    (k : ∀ (env : Env) (s₁ : Shared), EnvS env scope.names → FRep env z ⟨bindP f.params args, h⟩ s₁ → HRep z h s₁ → (∃ hh tk, s₁ = { s with heap := hh, toks := tk }) → (∀ b o, s.heap.get? b = some o → s₁.heap.get? b = some o) →
      env.frame = some env.locals → env.locals = s.heap.objs.size → env.scope = scope → Room K (A.deeper env) →
      wpC (model C.prog C.w) (A.deeper env) (execs body env) (fun f s' => Rr (.ok (.ret (match f with | .ret v => v | _ => .none))) s')
        (fun e s' => wpAny (model C.prog C.w) (A.deeper env) (leaving env e) (fun _ s'' => Rr (.error e) s'') (fun e' s'' => Rr (.error e') s'') s') s₁) :
    codeC (model C.prog C.w) A (.call (.ref a) ⟨xs, []⟩) Rr s := by
  have hk' := heap_in hz R
  have hdep := hA.depth
  have hun := hA.units
  have nocell : ∀ {l : List (Str × NameKind)} {n : Nat} {acc : List (Str × Addr)}, (∀ p ∈ l, p.2 ≠ .cell) → cellsFrom n l acc = acc := by
    intro l
    induction l with
    | nil => intro n acc _; rfl
    | cons p r ih =>
      intro n acc hl
      obtain ⟨y, kd⟩ := p
      unfold cellsFrom
      rw [if_neg (by have := hl (y, kd) List.mem_cons_self; simpa using this)]
      exact ih fun q hq => hl q (List.mem_cons_of_mem _ hq)
  refine codeC_call_cells (fd := Calls.docDef name params body scope pm cd doc) (body := body) (by omega) (hk' _ _ ho) hd (hC.lim.keeps hk') (hcd.keeps hk') rfl (hbind xs (by rw [hxs.length, hlen])) rfl ?_ ?_ hco hgen hk
  · intro p hp
    obtain ⟨x, y⟩ := p
    have hx : x ∈ f.params := (List.of_mem_zip hp).1
    have := List.all_eq_true.mp hpar x hx
    exact .inl (show scope.names.lookup x = some .local from by simpa using this)
  · intro s₁ x
    have e_cells0 : (callEnvC (Calls.docDef name params body scope pm cd doc) s.heap.objs.size a).cells = [] := nocell hcell
    refine k _ s₁ ?_ ?_ ?_ x.toInCall.same x.toInCall.keep rfl rfl rfl ⟨hA.hand, by show A.depth + 1 + K + 10 < _; omega, by show A.units + 3 + 4 * K + 200 < _; omega⟩
    · refine ⟨⟨hk, rfl, rfl, fun y kd hy => ?_⟩, (by rw [e_cells0]; exact .nil), fun y c hc => (by rw [e_cells0] at hc; cases hc), fun y hy => absurd rfl (hcell _ (mem_of_lookup hy))⟩
      cases kd with
      | «local» => exact hy
      | cell => exact absurd rfl (hcell _ (mem_of_lookup hy))
      | free => exact absurd rfl (hfree _ (mem_of_lookup hy))
      | globalImplicit => exact hy
      | globalExplicit => trivial
    · have fresh : ∀ b, OwnA (callEnvC (Calls.docDef name params body scope pm cd doc) s.heap.objs.size a) b → s.heap.get? b = none := fun b hb => by
        rcases hb with rfl | ⟨y, hy⟩
        · show s.heap.get? s.heap.objs.size = none
          cases q : s.heap.get? s.heap.objs.size with
          | none => rfl
          | some o' => exact absurd (Heap.lt_size q) (Nat.lt_irrefl _)
        · rw [e_cells0] at hy; cases hy
      have hb := bind_at (z := z) (kindOf := (callEnvC (Calls.docDef name params body scope pm cd doc) s.heap.objs.size a).kindOf) hnd hlen hxs (fun _ => none) (fun _ => none)
      have inpar : ∀ y v, bindP f.params args y = some v → scope.names.lookup y = some .local := fun y v hv => by
        have hy : y ∈ f.params := Classical.byContradiction fun hn => by
          have : bindP f.params args y = none := by
            clear hv hb hbind hpar hnd hlen hxs k
            generalize f.params = ps at hn
            induction ps generalizing args with
            | nil => cases args <;> rfl
            | cons p ps ih =>
              simp only [List.mem_cons, not_or] at hn
              cases args with
              | nil => rfl
              | cons v vs => simp only [bindP]; rw [if_neg hn.1]; exact ih hn.2
          rw [this] at hv; cases hv
        have := List.all_eq_true.mp hpar y hy
        simpa using this
      refine ⟨⟨_, x.toInCall.ns, fun y v hv hl => ?_⟩, fun y v hv => .inl (inpar y v hv), fun y v hv hl => absurd (inpar y v hv) hl, fun y c hc => (by rw [e_cells0] at hc; cases hc), fun b hb' => ?_, fun b hb' => ?_⟩
      · obtain ⟨val, q1, q2, _⟩ := (hb y).2 v hv
        exact ⟨val, q2 hl, q1⟩
      · cases q : z b with
        | none => rfl
        | some o' => have := R.zsub b o' q; rw [fresh b hb'] at this; cases this
      · show h b = none
        cases q : h b with
        | none => rfl
        | some o' => obtain ⟨ob, h1, _⟩ := R.obj b o' q; rw [fresh b hb'] at h1; cases h1
    · obtain ⟨hh, tk, es⟩ := x.toInCall.same
      exact (R.grow (s' := s₁) ⟨hh, tk, es⟩ x.toInCall.keep (ZLe.refl z) fun _ _ e => .inl e).1
end

/-- what is said of a function of the program -/
noncomputable def FnIs (base : Heap) (mg : Str → Option Value) (name : Str) (params : Arguments) (body : List Stmt) (sc : Scope) : Prop :=
  ∃ a o pm cd doc, mg name = some (.ref a) ∧ base.get? a = some o ∧ o.data = .func (Calls.docDef name params body sc pm cd doc) ∧ base.CodeRec cd name

section
variable {prog : Program} {w : World} {A : Around} {E : Value → Shared → Prop} {s : Shared}
theorem law_tail {base : Heap} {mg mb : Str → Option Value} {env : Env} {an an' : Option PySem.Expr} {ap ap' : Pos} {kd kd' : List (Option PySem.Expr)} {dfs dfs' : List PySem.Expr} {sc sctx : Scope} {x : Str} {m : Str → Option Value} {t : Tok}
    {p1 p2 p3 p4 p5 p6 p7 p8 p9 p10 p11 : Pos} {k : Nat} {rest : List Stmt} {q1 q2 q3 q4 q5 q6 q7 q8 q9 q10 q11 : Pos} {k' : Nat} {rest' : List Stmt} {r1 r2 r3 r4 r5 r6 r7 r8 r9 : Pos} {k1 k2 : Nat} {b1 : List Stmt}
    (G : G6 base mg mb)
    (hout : FnIs base mg "_law_outcome" ⟨[], [⟨"text", an, ap⟩], none, [], kd, none, dfs⟩ (.Try [.Assign [.Name "size" p1] (.Call (.Name "context_size" p2) [.Name "text" p3] [] p4) p5]
      [.ExceptHandler (some (.Name "ValueError" p6)) none [.Return (some (.List [.Constant (.str "refused") k p7] p8)) p9] p10] [] [] p11 :: rest) sc)
    (hctx : FnIs base mg "context_size" ⟨[], [⟨"text", an', ap'⟩], none, [], kd', none, dfs'⟩ (.Assign [.Name "size" q1] (.Call (.Name "int" q2) [.Name "text" q3] [] q4) q5 ::
      .If (.Compare (.Name "size" q6) [.Lt] [.Constant (.int 0) k' q7] q8) [.Raise (some (.Name "ValueError" q9)) none q10] [] q11 :: rest') sctx)
    (hroom : A.depth + 20 < recursionLimit) (hA : A.handled = none) (hu : A.units + 200 < cLine) (hfr : A.frames = some [env])
    (hsc : sc.names.lookup ("text" : Str) = some .local ∧ sc.names.lookup ("context_size" : Str) = some .globalImplicit ∧ sc.names.lookup ("ValueError" : Str) = some .globalImplicit)
    (hscc : sctx.names.lookup ("text" : Str) = some .local ∧ sctx.names.lookup ("size" : Str) = some .local ∧ sctx.names.lookup ("int" : Str) = some .globalImplicit ∧ sctx.names.lookup ("ValueError" : Str) = some .globalImplicit)
    (hco : sc.isCoroutine = false) (hgen : sc.isGenerator = false) (hk : sc.kind = .function) (hco' : sctx.isCoroutine = false) (hgen' : sctx.isGenerator = false) (hk' : sctx.kind = .function)
    (hkf : env.scope.kind = .function) (h1 : env.kindOf "text" = some .local) (h2 : env.kindOf "_law_outcome" = some .globalImplicit) (h3 : env.globals = mainGlobals) (h4 : env.frame = some env.locals) (hn : s.heap.Ns env.locals m) (hm : m "text" = some (.str x t))
    (hnew : base.get? env.locals = none) (hkb : base.StaysIn s.heap) (hx : Bad x) (hok : PyData.strOk x = true) :
    wpC (model prog w) A (execs [.If (.Compare (.Call (.Name "_law_outcome" r1) [.Name "text" r2] [] r3) [.NotEq] [.List [.Constant (.str "refused") k1 r4] r5] r6) b1 [] r7, .Return (some (.Constant (.bool true) k2 r8)) r9] env)
      (fun f s' => f = .ret (.bool true) ∧ base.StaysIn s'.heap ∧ ∃ hh tk, s' = { s with heap := hh, toks := tk }) E s := by
  obtain ⟨ao, oo, pm, cd, doc, o1, o2, o3, o4⟩ := hout
  obtain ⟨ac, oc, pm', cd', doc', c1, c2, c3, c4⟩ := hctx
  have hl : s.heap.FunFrames base [env] := .cons (by rw [hkf]; simp) h4 hn hnew trivial
  have hg : s.heap.Ns env.globals mg := by rw [h3]; exact G.g.keeps hkb
  refine wpC_execs_cons (wpC_If (wpC_isTrue_Compare1 (wpC_Call ?_) rfl))
  refine Calls.Name_function_global hkf h2 (Calls.loadGlobal_global hg o1 ?_) (by decide)
  refine wpC_callWith_function (plainArgs (es := [.Name "text" r2]) rfl) (wpAny_mono (evalArgs_ses (es := [.Name "text" r2]) (Q := fun vs s' => vs = [.str x t] ∧ s' = s) rfl
    (PyProof.Rows.args_cons (wpAny_Name (wpAny_loadName_local hkf h1 hn hm (PyProof.Rows.args_nil ⟨rfl, rfl⟩)) (by decide)) (starEach_cons rfl))) (fun ar s₂ h₂ => ?_) fun _ _ e => e)
  obtain ⟨e1, e2, rfl⟩ := h₂
  rw [e1, e2]
  refine ⟨⟨_, _, hkb _ _ o2, o3⟩, wpC_call (codeC_mono (out_bad (base := base) G o2 o3 o4 c1 c2 c3 c4 hroom hA hu hfr hsc hscc hco hgen hk hco' hgen' hk' hkb hl hx hok) fun r s₃ hr => ?_)⟩
  obtain ⟨l, tk, rfl, hl₃, hkb₃, hh₃, tk₃, rfl⟩ := hr
  show wpAny _ _ (eval (.List [.Constant (.str "refused") k1 r4] r5) env) _ _ _
  refine one_list ?_
  have hl₄ := Heap.get?_push_of_some (h := hh₃) { cls := .type "list", data := .seq #[.str "refused" tk₃] } hl₃
  generalize hs₄ : ({ s₂ with heap := hh₃.push { cls := .type "list", data := .seq #[.str "refused" tk₃] }, toks := tk₃ + 1 } : Shared) = s₄
  have g1 : s₄.heap.get? l = some { cls := .type "list", data := .seq #[.str "refused" tk] } := by rw [← hs₄]; exact hl₄
  have g2 : s₄.heap.get? hh₃.objs.size = some { cls := .type "list", data := .seq #[.str "refused" tk₃] } := by rw [← hs₄]; exact Heap.get?_push_size _ rfl
  have hkb₄ : base.StaysIn s₄.heap := fun b o e => by rw [← hs₄]; exact Heap.get?_push_of_some _ (hkb₃ b o e)
  have R₄ : HRep s₄.heap.get? (fun _ => none) s₄ := ⟨fun _ _ e => e, fun _ _ e => (by cases e), fun _ _ e => (by cases e)⟩
  have vr : ∀ b tk, s₄.heap.get? b = some { cls := .type "list", data := .seq #[.str "refused" tk] } → VRel s₄.heap.get? (.list [.str "refused"]) (.ref b) := fun b tk e => by
    simp only [VRel]
    exact ⟨b, _, _, rfl, e, (by show (1 : Nat) ≤ sizeLine; rw [sizeLine_eq]; decide), VRels.cons (by simp only [VRel]; exact ⟨⟨strOk_txt _, by show (7 : Nat) ≤ sizeLine; rw [sizeLine_eq]; decide⟩, _, rfl⟩) VRels.nil⟩
  show wpAny _ _ (compareOp .NotEq (.ref l) (.ref hh₃.objs.size)) _ _ s₄
  refine wpAny_mono (s_cmp (op := .NotEq) (a := .list [.str "refused"]) (b := .list [.str "refused"]) (Q := fun b => b = false) R₄ (by omega) (vr _ _ g1) (vr _ _ g2) ⟨⟨rfl, rfl⟩, by rw [eqb_refl 8 _ rfl]; rfl⟩) (fun v s₅ h₅ => ?_) fun _ _ e => e
  obtain ⟨b, rfl, rfl, R₅, X₅⟩ := h₅
  refine wpAny_truthy_bool ?_
  rw [if_neg (by simp)]
  refine wpC_of_any (wpAny_pure ?_)
  show wpC _ _ (execs [.Return (some (.Constant (.bool true) k2 r8)) r9] env) _ _ s₅
  refine wpC_of_any (wpAny_execs_cons (wpAny_Return_some (PyProof.Rows.Constant_bool ?_)))
  refine ⟨rfl, fun b o e => X₅.pres b o (hkb₄ b o e) rfl, ?_⟩
  obtain ⟨hh₅, tk₅, e₅⟩ := X₅.same
  rw [e₅, ← hs₄]; exact ⟨_, _, rfl⟩
end
end Mine

set_option maxRecDepth 100000
namespace Mine
open PySem PySem.W PyProof.Rows

noncomputable def free1 (p : Program) (loose : List Str) (x : Str) : Bool := !startupNames.contains x && !loose.contains x && !((recsOf p).map (·.name)).contains x && !((litsOf p).map (·.1)).contains x && !((clssOf p loose).map (·.name)).contains x
noncomputable def plainScope (sc : Scope) : Bool := sc.names.all (fun p => p.2 != .cell && p.2 != .free) && sc.kind == .function && !sc.isCoroutine && !sc.isGenerator
noncomputable def looks (sc : Scope) (x : Str) (k : NameKind) : Bool := sc.names.lookup x == some k

theorem law_end {p prog : Program} {loose : List Str} {mean : ExcName → Option Value} {mg mb : Str → Option Value} {w : World} {s₁ : Shared} {P : Params} {c : Cfg} {n : Nat} {names : List Str} {fa a : Addr} {ns : List Int} {E : Value → Shared → Prop}
    {an0 an an' : Option PySem.Expr} {ap0 ap ap' : Pos} {kd0 kd kd' : List (Option PySem.Expr)} {dfs0 dfs dfs' : List PySem.Expr} {scL sc sctx : Scope} {pos0 pos1 pos2 : Pos} {bodyL : List Stmt}
    {p1 p2 p3 p4 p5 p6 p7 p8 p9 p10 p11 : Pos} {k : Nat} {rest : List Stmt} {q1 q2 q3 q4 q5 q6 q7 q8 q9 q10 q11 : Pos} {k' : Nat} {rest' : List Stmt} {r1 r2 r3 r4 r5 r6 r7 r8 r9 : Pos} {k1 k2 : Nat} {b1 : List Stmt}
    (T : Top p loose mean mg mb s₁.heap) (hfree : freeOk p loose = true) (hve : free1 p loose "ValueError" = true) (hfs : fnsOf p c n names = some fs0006) (hin : (c.fns.all fun f => ((recsOf p).map (·.name)).contains f) = true)
    (hL : (recsOf p).find? (fun d => d.name == ("law" : Str)) = some ⟨"law", ⟨[], [⟨"script", an0, ap0⟩], none, [], kd0, none, dfs0⟩, bodyL, scL, pos0⟩)
    (hO : (recsOf p).find? (fun d => d.name == ("_law_outcome" : Str)) = some ⟨"_law_outcome", ⟨[], [⟨"text", an, ap⟩], none, [], kd, none, dfs⟩, .Try [.Assign [.Name "size" p1] (.Call (.Name "context_size" p2) [.Name "text" p3] [] p4) p5]
      [.ExceptHandler (some (.Name "ValueError" p6)) none [.Return (some (.List [.Constant (.str "refused") k p7] p8)) p9] p10] [] [] p11 :: rest, sc, pos1⟩)
    (hX : (recsOf p).find? (fun d => d.name == ("context_size" : Str)) = some ⟨"context_size", ⟨[], [⟨"text", an', ap'⟩], none, [], kd', none, dfs'⟩, .Assign [.Name "size" q1] (.Call (.Name "int" q2) [.Name "text" q3] [] q4) q5 ::
      .If (.Compare (.Name "size" q6) [.Lt] [.Constant (.int 0) k' q7] q8) [.Raise (some (.Name "ValueError" q9)) none q10] [] q11 :: rest', sctx, pos2⟩)
    (hT : bodyL.drop 7 = [.If (.Compare (.Call (.Name "_law_outcome" r1) [.Name "text" r2] [] r3) [.NotEq] [.List [.Constant (.str "refused") k1 r4] r5] r6) b1 [] r7, .Return (some (.Constant (.bool true) k2 r8)) r9])
    (hpre : trSs c n scL.names (bodyL.take 7) = some lawp)
    (sL : (plainScope scL && looks scL "script" .local && looks scL "text" .local && looks scL "_law_outcome" .globalImplicit) = true)
    (sO : (plainScope sc && looks sc "text" .local && looks sc "context_size" .globalImplicit && looks sc "ValueError" .globalImplicit) = true)
    (sX : (plainScope sctx && looks sctx "text" .local && looks sctx "size" .local && looks sctx "int" .globalImplicit && looks sctx "ValueError" .globalImplicit) = true)
    (hlaw : mg "law" = some (.ref fa)) (hI : Well P s₁.heap (.ref a) (ofPy (.list (ns.map .int)))) (hn : ns.length < 64) :
    wpC (model prog w) callerA (call (.ref fa) [.ref a]) (fun v s' => v = .bool true ∧ (∀ b o, s₁.heap.get? b = some o → s'.heap.get? b = some o) ∧ s'.os = s₁.os ∧ s'.gens = s₁.gens) E s₁ := by
  let C : Ctx := ⟨prog, w, s₁.heap, mg, mb, fun _ => none, c.fns⟩
  have hb := bootOk_true
  have hC : C.Ok := by
    refine ⟨T.g, T.b, T.nolimit, fun q hq => ?_, fun x v hx => (by cases hx), fun f hf => ?_⟩
    · have h1 := List.all_eq_true.mp hfree q hq
      simp only [Bool.and_eq_true, Bool.not_eq_true', List.contains_eq_mem, decide_eq_false_iff_not] at h1
      have h2 := List.all_eq_true.mp hb q hq
      simp only [Bool.and_eq_true, bne_iff_ne, ne_eq] at h2
      refine ⟨T.free _ h1.1.1.1.1 h1.1.1.1.2 h1.1.1.2 h1.1.2 h1.2, ?_⟩
      show mb q.1 = _
      rw [T.builtins _ h2.1]
      have h3 := h2.2
      split at h3
      · rename_i e1 e2; rw [e1, e2, beq_iff_eq.mp h3]
      · rename_i e1 e2; rw [e1, e2, beq_iff_eq.mp h3]
      · cases h3
    · have h1 := List.all_eq_true.mp hin f hf
      obtain ⟨d, hd, rfl⟩ := List.mem_map.mp (List.contains_iff_mem.mp h1)
      obtain ⟨a, o, pm, code, doc, t1, t2, t3, _⟩ := T.fn d hd
      exact ⟨a, o, _, t1, t2, t3⟩
  have hP : SPhi C fs0006.length (Phi C.G fs0006) := phi_ok hC (fun f hf => by simpa using hf) T.fn hfs
  have hG : G6 s₁.heap mg mb := by
    refine ⟨T.g, T.b, T.nolimit, hC.bi ("int", .type "int") (List.mem_of_getElem? (i := 9) rfl), ?_⟩
    simp only [free1, Bool.and_eq_true, Bool.not_eq_true', List.contains_eq_mem, decide_eq_false_iff_not] at hve
    refine ⟨T.free _ hve.1.1.1.1 hve.1.1.1.2 hve.1.1.2 hve.1.2 hve.2, ?_⟩
    rw [T.builtins _ (by decide)]
    exact excClass_ValueError.boot
  have cD : callerA.depth + 110 < recursionLimit := by decide +kernel
  have cU : callerA.units + 600 < cLine := by decide +kernel
  have hA : Room (fs0006.length + 1) callerA := ⟨rfl, by show callerA.depth + 6 + 10 < _; omega, by show callerA.units + 4 * 6 + 200 < _; omega⟩
  simp only [plainScope, looks, Bool.and_eq_true, beq_iff_eq, Bool.not_eq_true', List.all_eq_true, bne_iff_ne, ne_eq] at sL sO sX
  obtain ⟨⟨⟨⟨⟨⟨l1, l2⟩, l3⟩, l4⟩, l5⟩, l6⟩, l7⟩ := sL
  obtain ⟨⟨⟨⟨⟨⟨o1, o2⟩, o3⟩, o4⟩, o5⟩, o6⟩, o7⟩ := sO
  obtain ⟨⟨⟨⟨⟨⟨⟨x1, x2⟩, x3⟩, x4⟩, x5⟩, x6⟩, x7⟩, x8⟩ := sX
  obtain ⟨fa', of, pm, cd, doc, t1, t2, t3, t4⟩ := T.fn _ (List.mem_of_find?_eq_some hL)
  obtain rfl : fa' = fa := by
    have t1 : mg "law" = some (.ref fa') := t1
    rw [hlaw] at t1; cases t1; rfl
  have hOut : FnIs s₁.heap mg "_law_outcome" _ _ sc := T.fn _ (List.mem_of_find?_eq_some hO)
  have hCtx : FnIs s₁.heap mg "context_size" _ _ sctx := T.fn _ (List.mem_of_find?_eq_some hX)
  have pre : SSs C fs0006.length (Phi C.G fs0006) scL.names (bodyL.take 7) lawp := trS_ok c hC (fun f hf => by simpa using hf) hP n _ _ _ hpre
  have hargs : VRels s₁.heap.get? [.list (ns.map .int)] [.ref a] := by
    refine VRels.cons ?_ VRels.nil
    cases (show Well P s₁.heap (.ref a) (.list (ofPys (ns.map .int))) from hI) with
    | @list _ vs _ ho hv =>
      simp only [VRel]
      refine ⟨a, vs.toArray, 0, rfl, ho, ?_, by rw [List.toList_toArray]; exact vwell hv⟩
      have := (vwell (z := fun _ => none) hv).length
      rw [sizeLine_eq, List.size_toArray]
      simp at this
      omega
  refine wpC_call (enter_fn (C := C) (K := fs0006.length) (f := ⟨"law", ["script"], .nil⟩) (args := [.list (ns.map .int)]) (h := fun _ => none) (z := s₁.heap.get?) hC t2 t3 t4 (fun vals hl => bind_plain (by simp) hl) (by simpa using l5) (by simp) (fun p hp => (l1 p hp).1) (fun p hp => (l1 p hp).2) l2 l3 l4 rfl hA
    (fun _ _ e => e) ⟨fun _ _ e => e, fun _ _ e => (by cases e), fun _ _ e => (by cases e)⟩ hargs fun env s₂ hE F R₂ hsame hkeep hfrm hloc hscope hroom => ?_)
  show wpC _ _ (execs bodyL env) _ _ s₂
  rw [← List.take_append_drop 7 bodyL]
  refine wpC_execs_app (wpAny_mono (pre (callerA.deeper env) env s₁.heap.get? ⟨bindP ["script"] [.list (ns.map .int)], fun _ => none⟩ s₂ _ _ hroom hE (fun _ _ e => e) F R₂ (law_0006 ns)) (fun f s₃ h₃ => ?_) fun _ _ e => e)
  obtain ⟨fl, σ₃, z₃, q₃, v₃, F₃, R₃, X₃⟩ := h₃
  have hkb : s₁.heap.StaysIn s₃.heap := fun b o e => R₃.zsub b o (X₃.zle b o e)
  have hs₃ : ∃ hh tk, s₃ = { s₁ with heap := hh, toks := tk } := by
    obtain ⟨hh, tk, e⟩ := X₃.same
    obtain ⟨hh', tk', e'⟩ := hsame
    rw [e, e']; exact ⟨_, _, rfl⟩
  cases fl with
  | brk => exact q₃.elim
  | cont => exact q₃.elim
  | ret v =>
    simp only [FlRel] at v₃
    obtain ⟨val, rfl, hv⟩ := v₃
    have q₃ : v = .bool true := q₃
    subst q₃
    simp only [VRel] at hv
    subst hv
    obtain ⟨hh, tk, e⟩ := hs₃
    exact ⟨rfl, hkb, by rw [e], by rw [e]⟩
  | next =>
    simp only [FlRel] at v₃
    subst v₃
    obtain ⟨x, hx, hbad⟩ : ∃ x, σ₃.vars "text" = some (.str x) ∧ Bad x := q₃
    have hscope : env.scope = scL := hscope
    have kind : ∀ y, env.kindOf y = scL.names.lookup y := fun y => by show env.scope.names.lookup y = _; rw [hscope]
    obtain ⟨m, hm, hmv⟩ := F₃.loc
    obtain ⟨val, hmt, hvr⟩ := hmv _ _ hx (by rw [kind]; exact l6)
    simp only [VRel] at hvr
    obtain ⟨⟨hok, _⟩, t, rfl⟩ := hvr
    show wpC _ _ (execs (bodyL.drop 7) env) _ _ s₃
    rw [hT]
    refine wpC_mono (law_tail (base := s₁.heap) hG hOut hCtx (by show callerA.depth + 1 + 20 < _; omega) rfl (by show callerA.units + 3 + 200 < _; omega) (Around.frames_deeper rfl) ⟨o5, o6, o7⟩ ⟨x5, x6, x7, x8⟩ o3 o4 o2 x3 x4 x2
      hE.ok.kind (by rw [kind]; exact l6) (by rw [kind]; exact l7) hE.ok.glob hfrm hm hmt (by rw [hloc]; exact Heap.StaysIn.fresh (fun _ _ e => e)) hkb hbad hok) (fun f s₄ h₄ => ?_) fun _ _ e => e
    obtain ⟨rfl, hkb₄, hh₄, tk₄, e₄⟩ := h₄
    obtain ⟨hh, tk, e⟩ := hs₃
    exact ⟨rfl, hkb₄, by rw [e₄, e], by rw [e₄, e]⟩
end Mine

namespace Mine
open PySem PySem.W PyProof.Rows
noncomputable def isDef : Stmt → Bool
  | .FunctionDef .. => true
  | _ => false
noncomputable def q6 : Program := { PySem.Challenge.pw_k17_0006 with main := { PySem.Challenge.pw_k17_0006.main with body := PySem.Challenge.pw_k17_0006.main.body.filter isDef } }
set_option maxRecDepth 100000 in
theorem left6 : LeftO PySem.Challenge.rw_k17_0006.row.prog q6 [] (fun s => xlAt q6 [] s && recOk (RowW.records PySem.Challenge.rw_k17_0006.row.toRowW) s) (Hook.obs Hook.none) (Hook.val Hook.none) 880 := by
  intro w; kernel_rfl
noncomputable def cfg0006 : Cfg := ⟨[], [], ["context_size", "_law_TAILS", "_law_WORDS", "_law_cell", "_law_outcome"]⟩
end Mine
open PySem PySem.W PyProof.Rows
set_option maxRecDepth 100000 in
set_option maxHeartbeats 8000000 in
theorem PySem.Challenge.cw_k17_0006_holds : PySem.Challenge.rw_k17_0006.Holds := by
  w_on; o_law
  refine Mine.holds_openK (q := Mine.q6) (loose := []) (Xt := fun s => xlAt Mine.q6 [] s && recOk (RowW.records PySem.Challenge.rw_k17_0006.row.toRowW) s) (XP := XL Mine.q6 []) (Yf := Hook.obs Hook.none) (Ya := Hook.val Hook.none) (YP := Hook.says Hook.none) (N := 880) Mine.left6 (Hook.of Hook.none) (Hook.keeps Hook.none) (fun s e => xl_of s (Bool.and_eq_true_iff.mp e).1) XL.keeps (by rfl) (by rfl) (by rfl) (fun s e => recFacts_of (Bool.and_eq_true_iff.mp e).2) (by rfl) (by assumption) (by decide +kernel) ⟨rfl, rfl, rfl, rfl, rfl, by decide +kernel⟩ ?hw ?hc
  (case hw => w_witness2)
  intro w s₀ s₁ mg mb G Y fa o pm cd doc dV kV ho hd hcd hD hmg hg args vals as hpre hlay hrd hwl hlo
  refine Ground.open G ?_
  intro T B D TE TW
  clear hd hcd hD ho
  wrow_args hpre hlay hrd hwl hlo
  refine Mine.wpC_checked (Mine.wpC_mono (Mine.law_end (c := Mine.cfg0006) (n := 200) (names := ["_law_outcome", "context_size", "_law_cell", "_law_WORDS", "_law_TAILS"]) T (by decide +kernel) (by decide +kernel) (by kernel_rfl) (by decide +kernel) rfl rfl rfl rfl (by kernel_rfl) (by decide +kernel) (by decide +kernel) (by decide +kernel) hmg (by assumption) (by omega)) ?_ (fun _ _ e => e)) ?_
  · rintro v s' ⟨rfl, hk, hos, hgens⟩
    refine GoodW.toG ⟨.inl ⟨_, .bool true, [], rfl, raisesW_false ?_, .bool true, ?_, fun _ => ⟨List.nodup_nil, by simp⟩⟩, hk, hos, hgens.trans hg⟩
    · wrow_none_raised
    · wrow_post
  · refine GoodW.toG ⟨.inl ⟨_, .bool true, [], rfl, raisesW_false ?_, .bool true, ?_, fun _ => ⟨List.nodup_nil, by simp⟩⟩, fun _ _ e => e, rfl, hg⟩
    · wrow_none_raised
    · wrow_post

