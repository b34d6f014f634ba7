import PyProof.Rows.All
import Wide.All
import OpenK.AllK
import Wide.FinOn
import Lean
import PySem.Challenge.RW_og0261_01
set_option autoImplicit false
set_option maxRecDepth 100000
set_option linter.unusedVariables false
set_option linter.unusedSimpArgs false
set_option genInjectivity false
set_option genSizeOf false
set_option Elab.async false
section
namespace Vm
open PySem PySem.W PyProof.Rows
inductive AV where
  | none
  | bool (b : Bool)
  | int (i : Int)
  | str (s : Str)
  | bytes (b : List Int)
  | val (v : Value)
  | obj (i : Nat)
inductive AO where
  | list (xs : List AV)
  | tuple (xs : List AV)
  | inst (C : Addr) (d : Nat)
  | dict (es : List (Str × AV))
  | barr (b : List Int)
noncomputable abbrev Ost := List AO
noncomputable abbrev Locs := List (Str × AV)
inductive AF where
  | next | brk | cont
  | ret (v : AV)
structure Cx where
  names : List (Str × NameKind)
structure Fn where
  qual : Str
  params : List Str
  dflts : List AV
  body : List Stmt
  scope : Scope
structure Tb where
  glob : Str → Option AV
  seqs : List (Addr × (Bool × List AV))
  fns : List (Addr × Fn)
  clss : List (Addr × Option Addr)
  meths : List (Addr × List (Str × Addr))
  fields : List (Addr × List Str)
inductive Rs where
  | v (v : AV) (O : List AO)
  | f (f : AF) (l : List (Str × AV)) (O : List AO)
  | vs (l : List AV) (O : List AO)
inductive Tr where
  | fail
  | done (x : Rs)
  | gd (G : Prop) (t : Tr)
  | br (b : Bool) (x y : Tr)
  | look (O : List AO) (i : Nat) (k : AO → Tr)
  | opt {α : Type} (o : Option α) (k : α → Tr)
  | call (P : AV → List AO → Prop) (k : AV → List AO → Tr)
  | loop (P : AF → List (Str × AV) → List AO → Prop) (k : AF → List (Str × AV) → List AO → Tr)
  | comp (P : List AV → List AO → Prop) (k : List AV → List AO → Tr)
noncomputable def Tr.holds (D : Rs → Prop) : Tr → Prop
  | .fail => False
  | .done x => D x
  | .gd G t => G ∧ t.holds D
  | .br b x y => (match b with | true => x.holds D | false => y.holds D)
  | .look O i k => ∃ o, O[i]? = some o ∧ (k o).holds D
  | .opt o k => ∃ a, o = some a ∧ (k a).holds D
  | .call P k => ∃ v O, P v O ∧ (k v O).holds D
  | .loop P k => ∃ f l O, P f l O ∧ (k f l O).holds D
  | .comp P k => ∃ v O, P v O ∧ (k v O).holds D
noncomputable def Tr.gives (t : Tr) (x : Rs) : Prop := t.holds fun y => y = x
noncomputable abbrev br (b : Bool) (x y : Tr) : Tr := .br b x y
noncomputable abbrev gd (G : Prop) (t : Tr) : Tr := .gd G t
noncomputable abbrev look (O : Ost) (i : Nat) (k : AO → Tr) : Tr := .look O i k
noncomputable def iEq (a b : Int) : Bool := decide (a = b)
noncomputable def iLt (a b : Int) : Bool := decide (a < b)
noncomputable def iLe (a b : Int) : Bool := decide (a ≤ b)
noncomputable def sEq (a b : Str) : Bool := decide (a = b)
noncomputable def bEq (a b : List Int) : Bool := decide (a = b)
noncomputable def setL (x : Str) (v : AV) : Locs → Locs
  | [] => [(x, v)]
  | (y, w) :: r => match y == x with
    | true => (y, v) :: r
    | false => (y, w) :: setL x v r
noncomputable def cut {α : Type} (xs : List α) (lo hi : Option Int) : List α :=
  (xs.drop (lo.elim 0 (clipAt xs.length))).take (hi.elim xs.length (clipAt xs.length) - lo.elim 0 (clipAt xs.length))
noncomputable def rep {α : Type} (xs : List α) (n : Nat) : List α := (List.replicate n xs).flatten
structure Rec where
  E : Cx → Locs → Expr → Ost → (AV → Ost → Tr) → Tr
  T : Cx → Locs → Expr → Ost → (Bool → Ost → Tr) → Tr
  S : Cx → Locs → Stmt → Ost → (AF → Locs → Ost → Tr) → Tr
  C : Addr → List AV → Ost → AV → Ost → Prop
  W : Cx → Expr → List Stmt → Locs → Ost → AF → Locs → Ost → Prop
noncomputable abbrev CallC (r : Rec) (a : Addr) (vs : List AV) (O : Ost) (k : AV → Ost → Tr) : Tr := .call (r.C a vs O) k
noncomputable abbrev LoopW (r : Rec) (Γ : Cx) (t : Expr) (b : List Stmt) (l : Locs) (O : Ost) (k : AF → Locs → Ost → Tr) : Tr := .loop (r.W Γ t b l O) k
noncomputable def constV (c : Const) (k : AV → Tr) : Tr := match c with
  | .none => k .none
  | .bool b => k (.bool b)
  | .int i => k (.int i)
  | .str s => k (.str s)
  | .bytes b => k (.bytes (b.map fun c => ((c.toNat : Nat) : Int)))
  | _ => .fail
noncomputable def truthV (v : AV) (k : Bool → Tr) : Tr := match v with
  | .bool b => k b
  | .none => k false
  | _ => .fail
noncomputable def optC {α : Type} (o : Option α) (k : α → Tr) (t : Tr) : Tr := match o with | some a => k a | none => t
noncomputable def ifT (b : Bool) (t : Tr) : Tr := match b with | true => t | false => .fail
noncomputable def oneV (vs : List AV) (k : AV → Tr) : Tr := match vs with
  | [] => .fail
  | v :: r => (match r with | [] => k v | _ => .fail)
noncomputable def twoV (vs : List AV) (k : AV → AV → Tr) : Tr := match vs with
  | [] => .fail
  | v :: r => oneV r fun w => k v w
noncomputable def objV (O : Ost) (v : AV) (k : Nat → AO → Tr) : Tr := match v with
  | .obj i => look O i (k i)
  | _ => .fail
noncomputable def listV (O : Ost) (v : AV) (k : Nat → List AV → Tr) : Tr := match v with
  | .obj i => look O i fun o => (match o with | .list xs => k i xs | _ => .fail)
  | _ => .fail
noncomputable def barrV (O : Ost) (v : AV) (k : Nat → List Int → Tr) : Tr := match v with
  | .obj i => look O i fun o => (match o with | .barr xs => k i xs | _ => .fail)
  | _ => .fail
noncomputable def dictV (O : Ost) (v : AV) (k : Nat → List (Str × AV) → Tr) : Tr := match v with
  | .obj i => look O i fun o => (match o with | .dict xs => k i xs | _ => .fail)
  | _ => .fail
noncomputable def intV (v : AV) (k : Int → Tr) : Tr := match v with | .int n => k n | _ => .fail
noncomputable def strV (v : AV) (k : Str → Tr) : Tr := match v with | .str n => k n | _ => .fail
noncomputable def bytesV (v : AV) (k : List Int → Tr) : Tr := match v with | .bytes n => k n | _ => .fail
noncomputable def three {α : Type} (l : List α) (k : α → α → α → Tr) : Tr := match l with
  | [] => .fail
  | p :: l => (match l with
    | [] => .fail
    | q :: l => (match l with
      | [] => .fail
      | r :: l => (match l with | [] => k p q r | _ => .fail)))
noncomputable def single {α : Type} (l : List α) (k : α → Tr) : Tr := match l with
  | [] => .fail
  | p :: l => (match l with | [] => k p | _ => .fail)
noncomputable def optT {α : Type} (o : Option α) (k : α → Tr) : Tr := match o with | some a => k a | none => .fail
noncomputable def nameV (tb : Tb) (Γ : Cx) (l : Locs) (x : Str) (k : AV → Tr) : Tr := match Γ.names.lookup x with
  | none => .fail
  | some n => (match n with
    | .local => optT (l.lookup x) k
    | .cell => optT (l.lookup x) k
    | .globalImplicit => optT (tb.glob x) k
    | _ => .fail)
noncomputable def smallI (x : Int) : Prop := x.natAbs < 1073741824
noncomputable def intOp (op : Operator) (x y : Int) (k : Int → Tr) : Tr := match op with
  | .Add => k (x + y)
  | .Sub => k (x - y)
  | .Mult => gd (smallI x) (k (x * y))
  | .FloorDiv => gd (y ≠ 0 ∧ smallI y) (k (x.fdiv y))
  | .Mod => gd (y ≠ 0) (k (x.fmod y))
  | .Pow => gd (smallI x ∧ 0 ≤ y ∧ y ≤ 1000) (k (x ^ y.toNat))
  | .BitAnd => k (Builtin.bitAnd x y)
  | .BitOr => k (Builtin.bitOr x y)
  | .LShift => gd (smallI x ∧ 0 ≤ y ∧ y ≤ 1000) (k (x * 2 ^ y.toNat))
  | .RShift => gd (0 ≤ y) (k (x.fdiv (2 ^ y.toNat)))
  | _ => .fail
noncomputable def addT (op : Operator) (t : Tr) : Tr := match op with | .Add => t | _ => .fail
noncomputable def binV (op : Operator) (a b : AV) (O : Ost) (k : AV → Ost → Tr) : Tr := match a with
  | .int x => intV b fun y => intOp op x y fun z => k (.int z) O
  | .bytes x => (match op with
    | .Add => bytesV b fun y => gd (x.length + y.length ≤ 16777216) (k (.bytes (x ++ y)) O)
    | .Mult => intV b fun y => gd (0 ≤ y ∧ y ≤ 1000 ∧ x ≠ [] ∧ x.length ≤ 16) (k (.bytes (rep x y.toNat)) O)
    | _ => .fail)
  | .str x => addT op (strV b fun y => gd (x.length + y.length ≤ 16777216) (k (.str (x ++ y)) O))
  | .obj i => addT op (listV O (.obj i) fun _ xs => listV O b fun _ ys => gd (xs.length + ys.length ≤ 16777216) (k (.obj O.length) (O ++ [.list (xs ++ ys)])))
  | _ => .fail
noncomputable def unV (op : UnaryOp) (a : AV) (k : AV → Tr) : Tr := match op with
  | .USub => intV a fun x => k (.int (-x))
  | .Invert => intV a fun x => k (.int (Builtin.bitNot x))
  | .Not => truthV a fun c => k (.bool (!c))
  | _ => .fail
noncomputable def eqS (a b : AV) : Option Bool := match a with
  | .none => (match b with | .none => some true | .int _ => some false | .str _ => some false | _ => none)
  | .int x => (match b with | .int y => some (iEq x y) | .none => some false | _ => none)
  | .str x => (match b with | .str y => some (sEq x y) | .none => some false | _ => none)
  | .bytes x => (match b with | .bytes y => some (bEq x y) | _ => none)
  | _ => none
noncomputable def oB (f : Bool → Bool → Bool) (x y : Option Bool) : Option Bool := match x with
  | some a => (match y with | some b => some (f a b) | none => none)
  | none => none
noncomputable def eqAll : List AV → List AV → Option Bool
  | [], bs => (match bs with | [] => some true | _ => some false)
  | a :: as, bs => (match bs with
    | [] => some false
    | b :: bs => oB and (eqS a b) (eqAll as bs))
noncomputable def tupV (O : Ost) (v : AV) (k : Nat → List AV → Tr) : Tr := match v with
  | .obj i => look O i fun o => (match o with | .tuple xs => k i xs | _ => .fail)
  | _ => .fail
noncomputable def eqO (i : Nat) (b : AV) (O : Ost) (k : Bool → Tr) : Tr := look O i fun x => (match x with
  | .list xs => listV O b fun _ ys => optT (eqAll xs ys) k
  | .tuple xs => (match b with
    | .none => k false
    | b => tupV O b fun _ ys => gd (xs.length = ys.length) (optT (eqAll xs ys) k))
  | .barr c => bytesV b fun d => k (bEq c d)
  | _ => .fail)
noncomputable def eqV (a b : AV) (O : Ost) (k : Bool → Tr) : Tr := match a with
  | .obj i => eqO i b O k
  | a => (match b with
    | .obj i => tupV O (.obj i) fun _ _ => (match a with | .none => k false | _ => .fail)
    | b => optT (eqS a b) k)
noncomputable def isNoneV (a : AV) (k : Bool → Tr) : Tr := match a with
  | .none => k true
  | .val _ => .fail
  | _ => k false
noncomputable def inAll (a : AV) : List AV → Option Bool
  | [] => some false
  | b :: bs => oB or (eqS b a) (inAll a bs)
noncomputable def refSeq (tb : Tb) (v : Value) (k : Addr → Bool → List AV → Tr) : Tr := match v with
  | .ref a => optT (tb.seqs.lookup a) fun p => k a p.1 p.2
  | _ => .fail
noncomputable def seqV (tb : Tb) (b : AV) (O : Ost) (k : List AV → Tr) : Tr := match b with
  | .obj i => look O i fun o => (match o with
    | .list xs => k xs
    | .tuple xs => k xs
    | _ => .fail)
  | .val v => refSeq tb v fun _ _ xs => k xs
  | _ => .fail
noncomputable def intC (a b : AV) (k : Int → Int → Tr) : Tr := intV a fun x => intV b fun y => k x y
noncomputable def isBarrEq (a b : AV) : Bool := match a with | .obj _ => (match b with | .bytes _ => true | _ => false) | _ => false
noncomputable def isNone (b : AV) : Bool := match b with | .none => true | _ => false
noncomputable def cmpV (tb : Tb) (op : CmpOp) (a b : AV) (O : Ost) (k : Bool → Tr) : Tr := match op with
  | .Eq => eqV a b O k
  | .NotEq => ifT (!isBarrEq a b) (eqV a b O fun c => k (!c))
  | .Lt => intC a b fun x y => k (iLt x y)
  | .LtE => intC a b fun x y => k (iLe x y)
  | .Gt => intC a b fun x y => k (iLt y x)
  | .GtE => intC a b fun x y => k (iLe y x)
  | .Is => ifT (isNone b) (isNoneV a k)
  | .IsNot => ifT (isNone b) (isNoneV a fun c => k (!c))
  | .In => seqV tb b O fun xs => .opt (inAll a xs) k
  | .NotIn => seqV tb b O fun xs => .opt (inAll a xs) fun c => k (!c)
noncomputable def ifIdx {α : Type} (n m : Nat) (f : n = m → α) : Option α := match Nat.decEq n m with
  | .isTrue h => some (f h)
  | .isFalse _ => none
theorem ifIdx_some {α : Type} {n m : Nat} {f : n = m → α} {q : α} (h : ifIdx n m f = some q) : n = m := by
  unfold ifIdx at h
  cases hd : Nat.decEq n m with
  | isTrue h => exact h
  | isFalse _ => rw [hd] at h; cases h
noncomputable def nameOf (e : Expr) : Option (Str × Pos) := ifIdx e.ctorIdx 23 fun h => Expr.Name.elim (motive_1 := fun _ => Str × Pos) e h fun x p => (x, p)
theorem nameOf_some {e : Expr} {q : Str × Pos} (h : nameOf e = some q) : e = .Name q.1 q.2 :=
  Expr.Name.elim (motive_1 := fun e => nameOf e = some q → e = .Name q.1 q.2) e (ifIdx_some h) (fun x p hq => Option.some.inj (show some (x, p) = some q from hq) ▸ rfl) h
noncomputable def constOf (e : Expr) : Option (Const × Nat × Pos) := ifIdx e.ctorIdx 19 fun h => Expr.Constant.elim (motive_1 := fun _ => Const × Nat × Pos) e h fun c n p => (c, n, p)
theorem constOf_some {e : Expr} {q : Const × Nat × Pos} (h : constOf e = some q) : e = .Constant q.1 q.2.1 q.2.2 :=
  Expr.Constant.elim (motive_1 := fun e => constOf e = some q → e = .Constant q.1 q.2.1 q.2.2) e (ifIdx_some h) (fun c n p hq => Option.some.inj (show some (c, n, p) = some q from hq) ▸ rfl) h
noncomputable def attrOf (e : Expr) : Option (Expr × Str × Pos) := ifIdx e.ctorIdx 20 fun h => Expr.Attribute.elim (motive_1 := fun _ => Expr × Str × Pos) e h fun o x p => (o, x, p)
theorem attrOf_some {e : Expr} {q : Expr × Str × Pos} (h : attrOf e = some q) : e = .Attribute q.1 q.2.1 q.2.2 :=
  Expr.Attribute.elim (motive_1 := fun e => attrOf e = some q → e = .Attribute q.1 q.2.1 q.2.2) e (ifIdx_some h) (fun o x p hq => Option.some.inj (show some (o, x, p) = some q from hq) ▸ rfl) h
noncomputable def subOf (e : Expr) : Option (Expr × Expr × Pos) := ifIdx e.ctorIdx 21 fun h => Expr.Subscript.elim (motive_1 := fun _ => Expr × Expr × Pos) e h fun o i p => (o, i, p)
theorem subOf_some {e : Expr} {q : Expr × Expr × Pos} (h : subOf e = some q) : e = .Subscript q.1 q.2.1 q.2.2 :=
  Expr.Subscript.elim (motive_1 := fun e => subOf e = some q → e = .Subscript q.1 q.2.1 q.2.2) e (ifIdx_some h) (fun o i p hq => Option.some.inj (show some (o, i, p) = some q from hq) ▸ rfl) h
noncomputable def sliceOf (e : Expr) : Option (Option Expr × Option Expr × Option Expr × Pos) := ifIdx e.ctorIdx 26 fun h => Expr.Slice.elim (motive_1 := fun _ => Option Expr × Option Expr × Option Expr × Pos) e h fun l u s p => (l, u, s, p)
theorem sliceOf_some {e : Expr} {q : Option Expr × Option Expr × Option Expr × Pos} (h : sliceOf e = some q) : e = .Slice q.1 q.2.1 q.2.2.1 q.2.2.2 :=
  Expr.Slice.elim (motive_1 := fun e => sliceOf e = some q → e = .Slice q.1 q.2.1 q.2.2.1 q.2.2.2) e (ifIdx_some h) (fun l u s p hq => Option.some.inj (show some (l, u, s, p) = some q from hq) ▸ rfl) h
noncomputable def unOf (e : Expr) : Option (UnaryOp × Expr × Pos) := ifIdx e.ctorIdx 3 fun h => Expr.UnaryOp.elim (motive_1 := fun _ => UnaryOp × Expr × Pos) e h fun o a p => (o, a, p)
theorem unOf_some {e : Expr} {q : UnaryOp × Expr × Pos} (h : unOf e = some q) : e = .UnaryOp q.1 q.2.1 q.2.2 :=
  Expr.UnaryOp.elim (motive_1 := fun e => unOf e = some q → e = .UnaryOp q.1 q.2.1 q.2.2) e (ifIdx_some h) (fun o a p hq => Option.some.inj (show some (o, a, p) = some q from hq) ▸ rfl) h
noncomputable def callOf (e : Expr) : Option (Expr × List Expr × List Keyword × Pos) := ifIdx e.ctorIdx 16 fun h => Expr.Call.elim (motive_1 := fun _ => Expr × List Expr × List Keyword × Pos) e h fun f as ks p => (f, as, ks, p)
theorem callOf_some {e : Expr} {q : Expr × List Expr × List Keyword × Pos} (h : callOf e = some q) : e = .Call q.1 q.2.1 q.2.2.1 q.2.2.2 :=
  Expr.Call.elim (motive_1 := fun e => callOf e = some q → e = .Call q.1 q.2.1 q.2.2.1 q.2.2.2) e (ifIdx_some h) (fun f as ks p hq => Option.some.inj (show some (f, as, ks, p) = some q from hq) ▸ rfl) h
noncomputable def tupOf (e : Expr) : Option (List Expr × Nat × Pos) := ifIdx e.ctorIdx 25 fun h => Expr.Tuple.elim (motive_1 := fun _ => List Expr × Nat × Pos) e h fun es n p => (es, n, p)
theorem tupOf_some {e : Expr} {q : List Expr × Nat × Pos} (h : tupOf e = some q) : e = .Tuple q.1 q.2.1 q.2.2 :=
  Expr.Tuple.elim (motive_1 := fun e => tupOf e = some q → e = .Tuple q.1 q.2.1 q.2.2) e (ifIdx_some h) (fun es n p hq => Option.some.inj (show some (es, n, p) = some q from hq) ▸ rfl) h
noncomputable def compOf (e : Expr) : Option (Expr × List Comprehension × Scope × Pos) := ifIdx e.ctorIdx 8 fun h => Expr.ListComp.elim (motive_1 := fun _ => Expr × List Comprehension × Scope × Pos) e h fun e gs sc p => (e, gs, sc, p)
theorem compOf_some {e : Expr} {q : Expr × List Comprehension × Scope × Pos} (h : compOf e = some q) : e = .ListComp q.1 q.2.1 q.2.2.1 q.2.2.2 :=
  Expr.ListComp.elim (motive_1 := fun e => compOf e = some q → e = .ListComp q.1 q.2.1 q.2.2.1 q.2.2.2) e (ifIdx_some h) (fun e gs sc p hq => Option.some.inj (show some (e, gs, sc, p) = some q from hq) ▸ rfl) h
noncomputable def boolOf (e : Expr) : Option (BoolOp × List Expr × Pos) := ifIdx e.ctorIdx 0 fun h => Expr.BoolOp.elim (motive_1 := fun _ => BoolOp × List Expr × Pos) e h fun op es p => (op, es, p)
noncomputable def cmpOf (e : Expr) : Option (Expr × List CmpOp × List Expr × Pos) := ifIdx e.ctorIdx 15 fun h => Expr.Compare.elim (motive_1 := fun _ => Expr × List CmpOp × List Expr × Pos) e h fun a os es p => (a, os, es, p)
noncomputable def isStarred (e : Expr) : Bool := Nat.beq e.ctorIdx 22
noncomputable def isCall (e : Expr) : Bool := Nat.beq e.ctorIdx 16
noncomputable def isSetE (e : Expr) : Bool := Nat.beq e.ctorIdx 7
noncomputable def isName (e : Expr) : Bool := Nat.beq e.ctorIdx 23
noncomputable def isIfE (e : Expr) : Bool := Nat.beq e.ctorIdx 5
noncomputable def isComp (e : Expr) : Bool := Nat.ble 8 e.ctorIdx && Nat.ble e.ctorIdx 10
section
variable (tb : Tb) (r : Rec)
noncomputable def evs (Γ : Cx) (l : Locs) : List Expr → Ost → (List AV → Ost → Tr) → Tr
  | [], O, k => k [] O
  | e :: es, O, k => ifT (!isStarred e) (r.E Γ l e O fun v O1 => evs Γ l es O1 fun vs O2 => k (v :: vs) O2)
noncomputable def evsN (Γ : Cx) (l : Locs) (es : List Expr) (O : Ost) (k : List AV → Ost → Tr) : Tr := ifT (!es.any isStarred) (evs r Γ l es O k)
noncomputable def exs (Γ : Cx) : List Stmt → Locs → Ost → (AF → Locs → Ost → Tr) → Tr
  | [], l, O, k => k .next l O
  | s :: ss, l, O, k => r.S Γ l s O fun f l1 O1 => (match f with
    | .next => exs Γ ss l1 O1 k
    | f => k f l1 O1)
noncomputable def chainV (Γ : Cx) (l : Locs) : List CmpOp → AV → List Expr → Ost → (Bool → Ost → Tr) → Tr
  | [], _, _, _, _ => .fail
  | op :: ops, a, es, O, k => (match es with
    | [] => .fail
    | e :: es => ifT (Nat.beq ops.length es.length) (r.E Γ l e O fun b O1 => cmpV tb op a b O1 fun c => (match ops with
        | [] => k c O1
        | _ :: _ => br c (chainV Γ l ops b es O1 k) (k false O1))))
noncomputable def boolV (Γ : Cx) (l : Locs) (op : BoolOp) : List Expr → Ost → (AV → Ost → Tr) → Tr
  | [], _, _ => .fail
  | e :: es, O, k => (match es with
    | [] => r.E Γ l e O k
    | _ :: _ => r.E Γ l e O fun v O1 => truthV v fun c => (match op with
      | .And => br c (boolV Γ l op es O1 k) (k v O1)
      | .Or => br c (k v O1) (boolV Γ l op es O1 k)))
noncomputable def boolT (Γ : Cx) (l : Locs) (op : BoolOp) : List Expr → Ost → (Bool → Ost → Tr) → Tr
  | [], O, k => k (match op with | .And => true | .Or => false) O
  | e :: es, O, k => r.T Γ l e O fun c O1 => (match op with
    | .And => br c (boolT Γ l op es O1 k) (k false O1)
    | .Or => br c (k true O1) (boolT Γ l op es O1 k))
end
inductive Mt where
  | fn (f : Addr)
  | listAppend | barrAppend | dictGet | split | bjoin | bfind | sjoin
noncomputable def methOf (tb : Tb) (ov : AV) (nm : Str) (O : Ost) (k : Mt → Tr) : Tr := match ov with
  | .obj i => look O i fun o => (match o with
    | .list _ => ifT (nm == ("append" : Str)) (k .listAppend)
    | .barr _ => ifT (nm == ("append" : Str)) (k .barrAppend)
    | .dict _ => ifT (nm == ("get" : Str)) (k .dictGet)
    | .inst C d => look O d fun od => (match od with
      | .dict es => optC (es.lookup nm) (fun _ => .fail) (optT (tb.meths.lookup C) fun ms => optT (ms.lookup nm) fun f => k (.fn f))
      | _ => .fail)
    | _ => .fail)
  | .bytes _ => (match nm == ("split" : Str) with
    | true => k .split
    | false => (match nm == ("join" : Str) with
      | true => k .bjoin
      | false => ifT (nm == ("find" : Str)) (k .bfind)))
  | .str _ => ifT (nm == ("join" : Str)) (k .sjoin)
  | _ => .fail
noncomputable def dgetD (es : List (Str × AV)) (s : Str) (d : AV) : AV := match es.lookup s with
  | some v => v
  | none => d
noncomputable def splitB (c : Int) : List Int → List (List Int)
  | [] => [[]]
  | x :: xs => if x = c then [] :: splitB c xs else (match splitB c xs with
    | [] => [[x]]
    | p :: ps => (x :: p) :: ps)
noncomputable def bytesAll : List AV → Option (List (List Int))
  | [] => some []
  | .bytes b :: r => (bytesAll r).map (b :: ·)
  | _ => none
noncomputable def strsAll : List AV → Option (List Str)
  | [] => some []
  | .str b :: r => (strsAll r).map (b :: ·)
  | _ => none
noncomputable def intsAll : List AV → Option (List Int)
  | [] => some []
  | .int b :: r => (intsAll r).map (b :: ·)
  | _ => none
noncomputable def joinB (sep : List Int) : List (List Int) → List Int
  | [] => []
  | [x] => x
  | x :: r => x ++ sep ++ joinB sep r
noncomputable def findFrom (c : List Int) : Nat → List Int → Int
  | at_, [] => if c = [] then at_ else -1
  | at_, x :: r => if c.isPrefixOf (x :: r) then at_ else findFrom c (at_ + 1) r
noncomputable def primM (m : Mt) (ov : AV) (vs : List AV) (O : Ost) (k : AV → Ost → Tr) : Tr := match m with
  | .listAppend => oneV vs fun v => listV O ov fun i xs => gd (xs.length ≤ 1000000) (k .none (O.set i (.list (xs ++ [v]))))
  | .barrAppend => oneV vs fun v => intV v fun n => barrV O ov fun i b => gd (0 ≤ n ∧ n < 256 ∧ b.length ≤ 1000000) (k .none (O.set i (.barr (b ++ [n]))))
  | .dictGet => twoV vs fun v d => strV v fun s => dictV O ov fun i es => k (dgetD es s d) O
  | .split => oneV vs fun v => bytesV v fun cs => single cs fun c => bytesV ov fun b => gd (b.length ≤ 1000000) (k (.obj O.length) (O ++ [.list ((splitB c b).map AV.bytes)]))
  | .bjoin => oneV vs fun v => listV O v fun i xs => .opt (bytesAll xs) fun bs => three bs fun p q r => bytesV ov fun b => gd ((joinB b [p, q, r]).length ≤ 1000000) (k (.bytes (joinB b [p, q, r])) O)
  | .bfind => twoV vs fun v u => bytesV v fun c => intV u fun n => bytesV ov fun b => gd (0 ≤ n ∧ n ≤ b.length ∧ b.length ≤ 1000000) (k (.int (findFrom c n.toNat (b.drop n.toNat))) O)
  | .sjoin => oneV vs fun v => listV O v fun i xs => .opt (strsAll xs) fun bs => strV ov fun b => gd ((bs.map (·.length)).sum + bs.length * b.length ≤ 16777216) (k (.str (Str.join b bs)) O)
  | .fn _ => .fail
noncomputable def itemV (xs : List AV) (i : Int) (k : AV → Tr) : Tr := gd (0 ≤ i ∧ i < 1000000) (.opt xs[i.toNat]? k)
noncomputable def subV (o i : AV) (O : Ost) (k : AV → Ost → Tr) : Tr := match o with
  | .obj x => (match i with
    | .int n => look O x fun ob => (match ob with
      | .list xs => itemV xs n fun v => k v O
      | .tuple xs => itemV xs n fun v => k v O
      | _ => .fail)
    | .str s => look O x fun ob => (match ob with
      | .dict es => optT (es.lookup s) fun v => k v O
      | _ => .fail)
    | _ => .fail)
  | .bytes b => (match i with
    | .int n => gd (0 ≤ n ∧ n < b.length ∧ b.length ≤ 1000000) (k (.int (b.getD n.toNat 0)) O)
    | _ => .fail)
  | _ => .fail
noncomputable def cutV (tb : Tb) (o : AV) (lo hi : Option Int) (O : Ost) (k : AV → Ost → Tr) : Tr := match o with
  | .bytes b => gd (b.length ≤ 1000000) (k (.bytes (cut b lo hi)) O)
  | .obj x => look O x fun ob => (match ob with
    | .list xs => gd (xs.length ≤ 1000000) (k (.obj O.length) (O ++ [.list (cut xs lo hi)]))
    | .barr b => gd (b.length ≤ 1000000) (k (.obj O.length) (O ++ [.barr (cut b lo hi)]))
    | _ => .fail)
  | .val v => refSeq tb v fun _ c xs => ifT c (gd (xs.length ≤ 1000000) (k (.obj O.length) (O ++ [.list (cut xs lo hi)])))
  | _ => .fail
noncomputable def revV (o : AV) (O : Ost) (k : AV → Ost → Tr) : Tr := listV O o fun _ xs => gd (xs.length ≤ 1000000) (k (.obj O.length) (O ++ [.list xs.reverse]))
noncomputable def boundV (v : AV) (k : Option Int → Tr) : Tr := match v with
  | .none => k none
  | .int i => k (some i)
  | _ => .fail
noncomputable def notVal (v : AV) (k : AV → Tr) : Tr := match v with
  | .val _ => .fail
  | v => k v
noncomputable def instV (tb : Tb) (o : AV) (nm : Str) (O : Ost) (k : Nat → List (Str × AV) → Tr) : Tr := match o with
  | .obj i => look O i fun ob => (match ob with
    | .inst C d => optT (tb.fields.lookup C) fun fs => ifT (fs.contains nm) (look O d fun od => (match od with
        | .dict es => k d es
        | _ => .fail))
    | _ => .fail)
  | _ => .fail
noncomputable def attrV (tb : Tb) (o : AV) (nm : Str) (O : Ost) (k : AV → Tr) : Tr := instV tb o nm O fun _ es => optT (es.lookup nm) fun v => notVal v k
noncomputable def setAttrV (tb : Tb) (o : AV) (nm : Str) (v : AV) (O : Ost) (k : Ost → Tr) : Tr := instV tb o nm O fun d es => gd (es.length ≤ 500) (k (O.set d (.dict (setL nm v es))))
noncomputable def setItemV (o i v : AV) (O : Ost) (k : Ost → Tr) : Tr := strV i fun s => dictV O o fun x es => gd (es.length ≤ 500) (k (O.set x (.dict (setL s v es))))
noncomputable def delCutV (o : AV) (lo : Int) (O : Ost) (k : Ost → Tr) : Tr := barrV O o fun x b => gd (0 ≤ lo ∧ lo ≤ b.length ∧ b.length ≤ 1000000) (k (O.set x (.barr (b.take lo.toNat))))
noncomputable def lenV (v : AV) (O : Ost) (k : Nat → Tr) : Tr := match v with
  | .bytes b => gd (b.length ≤ 1000000) (k b.length)
  | .obj i => look O i fun o => (match o with
    | .list xs => gd (xs.length ≤ 1000000) (k xs.length)
    | .barr b => gd (b.length ≤ 1000000) (k b.length)
    | _ => .fail)
  | _ => .fail
inductive Bi where
  | len | abs | max | ord | sum
inductive Ty where
  | int | str | bytearray | bytes
noncomputable def biId (id : String) : Option Bi := match id == "len" with
  | true => some .len
  | false => (match id == "abs" with
    | true => some .abs
    | false => (match id == "max" with
      | true => some .max
      | false => (match id == "ord" with
        | true => some .ord
        | false => (match id == "sum" with | true => some .sum | false => none))))
noncomputable def tyId (id : String) : Option Ty := match id == "int" with
  | true => some .int
  | false => (match id == "str" with
    | true => some .str
    | false => (match id == "bytearray" with
      | true => some .bytearray
      | false => (match id == "bytes" with | true => some .bytes | false => none)))
noncomputable def Bi.s : Bi → String
  | .len => "len" | .abs => "abs" | .max => "max" | .ord => "ord" | .sum => "sum"
noncomputable def Ty.s : Ty → String
  | .int => "int" | .str => "str" | .bytearray => "bytearray" | .bytes => "bytes"
noncomputable def biV (id : Bi) (vs : List AV) (O : Ost) (k : AV → Ost → Tr) : Tr := match id with
  | .len => oneV vs fun v => lenV v O fun n => k (.int (n : Int)) O
  | .abs => oneV vs fun v => intV v fun x => k (.int (x.natAbs : Int)) O
  | .max => twoV vs fun v u => intV v fun x => intV u fun y => k (.int (max x y)) O
  | .ord => oneV vs fun v => strV v fun s => single s.cps.toList fun c => k (.int (c : Int)) O
  | .sum => oneV vs fun v => listV O v fun _ xs => .opt (intsAll xs) fun ns => k (.int ns.sum) O
noncomputable def tyV (t : Ty) (vs : List AV) (O : Ost) (k : AV → Ost → Tr) : Tr := match t with
  | .int => oneV vs fun v => (match v with
    | .int x => k (.int x) O
    | .bool b => k (.int (match b with | true => 1 | false => 0)) O
    | _ => .fail)
  | .str => oneV vs fun v => intV v fun x => gd (0 ≤ x ∧ smallI x) (k (.str (Str.ofString (toString x))) O)
  | .bytearray => (match vs with | [] => k (.obj O.length) (O ++ [.barr []]) | _ => .fail)
  | .bytes => oneV vs fun v => objV O v fun _ o => (match o with
    | .list xs => .opt (intsAll xs) fun ns => gd (ns.length ≤ 1000000 ∧ ∀ n ∈ ns, 0 ≤ n ∧ n < 256) (k (.bytes ns) O)
    | .barr b => gd (b.length ≤ 1000000) (k (.bytes b) O)
    | _ => .fail)
noncomputable def bindP (fn : Fn) (vs : List AV) (k : Locs → Tr) : Tr := ifT (decide (vs.length ≤ fn.params.length) && decide (fn.params.length ≤ vs.length + fn.dflts.length))
  (k (fn.params.zip (vs ++ fn.dflts.drop (fn.dflts.length - (fn.params.length - vs.length)))))
inductive ItK where
  | led (i : Nat) (o : AO) (xs : List AV)
  | glob (a : Addr) (xs : List AV)
  | bytes (b : List Int)
  | str (s : Str)
  | range (n : Int)
  | enumB (b : List Int)
noncomputable def ItK.items : ItK → List AV
  | .led _ _ xs => xs
  | .glob _ xs => xs
  | .bytes b => b.map AV.int
  | .str s => s.cps.toList.map fun c => AV.str ⟨#[c]⟩
  | .range n => (List.range n.toNat).map fun (k : Nat) => AV.int (k : Int)
  | .enumB b => b.map AV.int
noncomputable def ItK.still (K : ItK) (O : Ost) : Prop := match K with
  | .led i o _ => O[i]? = some o
  | _ => True
noncomputable def iterV (tb : Tb) (v : AV) (O : Ost) (k : ItK → Tr) : Tr := match v with
  | .obj i => look O i fun o => (match o with
    | .list xs => k (.led i (.list xs) xs)
    | .tuple xs => k (.led i (.tuple xs) xs)
    | _ => .fail)
  | .val v => refSeq tb v fun a c xs => ifT (!c) (k (.glob a xs))
  | .bytes b => k (.bytes b)
  | .str s => k (.str s)
  | _ => .fail
inductive Tg where
  | one (x : Str)
  | two (x y : Str)
inductive CK where
  | fn (a : Addr)
  | cls (a ini : Addr)
  | ty (t : Ty)
  | bi (b : Bi)
noncomputable def callK (tb : Tb) (f : AV) (k : CK → Tr) : Tr := match f with
  | .val v => (match v with
    | .ref a => optC (tb.fns.lookup a) (fun _ => k (.fn a)) (optT (tb.clss.lookup a) fun c => optT c fun ini => k (.cls a ini))
    | .type t => optT (tyId t) fun t => k (.ty t)
    | .builtin id => optT (biId id) fun b => k (.bi b)
    | _ => .fail)
  | _ => .fail
section
variable (tb : Tb) (r : Rec)
noncomputable def callC (c : CK) (vs : List AV) (O : Ost) (k : AV → Ost → Tr) : Tr := match c with
  | .fn a => CallC r a vs O k
  | .cls a ini => CallC r ini (.obj (O.length + 1) :: vs) (O ++ [.dict [], .inst a O.length]) fun v O1 => ifT (isNone v) (k (.obj (O.length + 1)) O1)
  | .ty t => tyV t vs O k
  | .bi b => biV b vs O k
noncomputable def optE (Γ : Cx) (l : Locs) (e : Option Expr) (O : Ost) (k : Option Int → Ost → Tr) : Tr := match e with
  | none => k none O
  | some e => r.E Γ l e O fun v O1 => boundV v fun b => k b O1
noncomputable def strOf (c : Const) : Option Str := match c with | .str s => some s | _ => none
noncomputable def keyOf (o : Option Expr) : Option Str := o.bind fun e => (constOf e).bind fun c => strOf c.1
noncomputable def keyNames : List (Option Expr) → Option (List Str)
  | [] => some []
  | k :: ks => (keyOf k).bind fun s => (keyNames ks).bind fun r => some (s :: r)
noncomputable def oIf {α : Type} (b : Bool) (x : α) : Option α := match b with | true => some x | false => none
noncomputable def sing {α : Type} (l : List α) : Option α := match l with
  | [] => none
  | a :: r => (match r with | [] => some a | _ => none)
noncomputable def pairOf {α : Type} (l : List α) : Option (α × α) := match l with
  | [] => none
  | a :: r => (sing r).bind fun b => some (a, b)
noncomputable def testsT (Γ : Cx) (l : Locs) (ifs : List Expr) (O : Ost) (k : Bool → Ost → Tr) : Tr := match ifs with
  | [] => k true O
  | e :: es => (match es with | [] => r.T Γ l e O k | _ => .fail)
noncomputable def compL (Γ : Cx) (l : Locs) (x : Str) (ifs : List Expr) (elt : Expr) (K : ItK) : List AV → List AV → Ost → (List AV → Ost → Tr) → Tr
  | [], acc, O, k => gd (K.still O) (k acc O)
  | v :: vs, acc, O, k => gd (K.still O ∧ acc.length ≤ 1000000) (testsT r Γ ((x, v) :: l) ifs O fun c O1 =>
      br c (r.E Γ ((x, v) :: l) elt O1 fun w O2 => compL Γ l x ifs elt K vs (acc ++ [w]) O2 k) (compL Γ l x ifs elt K vs acc O1 k))
noncomputable def bindT (t : Tg) (i : Nat) (v : AV) (l : Locs) : Locs := match t with
  | .one x => setL x v l
  | .two x y => setL y v (setL x (.int (i : Int)) l)
noncomputable def forL (Γ : Cx) (t : Tg) (body : List Stmt) (K : ItK) : Nat → List AV → Locs → Ost → (AF → Locs → Ost → Tr) → Tr
  | _, [], l, O, k => gd (K.still O) (k .next l O)
  | i, v :: vs, l, O, k => gd (K.still O) (exs r Γ body (bindT t i v l) O fun f l1 O1 => (match f with
      | .next => forL Γ t body K (i + 1) vs l1 O1 k
      | .cont => forL Γ t body K (i + 1) vs l1 O1 k
      | .brk => k .next l1 O1
      | .ret w => k (.ret w) l1 O1))
noncomputable def relK (Γ : Cx) (p : Str × NameKind) : NameKind := match decide (p.2 = .free) && decide (Γ.names.lookup p.1 = some .cell) with
  | true => .cell
  | false => p.2
noncomputable def relabelNames (Γ : Cx) (names : List (Str × NameKind)) : List (Str × NameKind) := names.map fun p => (p.1, relK Γ p)
noncomputable def isGlobal (Γ : Cx) (x : Str) : Bool := decide (Γ.names.lookup x = some .globalImplicit)
noncomputable def nameCall (e : Expr) : Option (Str × Expr) := (callOf e).bind fun q => (nameOf q.1).bind fun x => (sing q.2.1).bind fun a => oIf q.2.2.1.isEmpty (x.1, a)
noncomputable def tyNamed (o : Option AV) (t : String) : Bool := match o with
  | some v => (match v with
    | .val u => (match u with | .type n => n == t | _ => false)
    | _ => false)
  | none => false
noncomputable def tyCall (Γ : Cx) (t : String) (e : Expr) : Option Expr := (nameCall e).bind fun p => oIf (!isStarred p.2 && isGlobal Γ p.1 && tyNamed (tb.glob p.1) t) p.2
noncomputable def iterE (Γ : Cx) (l : Locs) (e : Expr) (O : Ost) (k : ItK → Ost → Tr) : Tr := optC (tyCall tb Γ "range" e) (fun a => r.E Γ l a O fun v O1 => intV v fun n => gd (0 ≤ n ∧ n ≤ 1000000) (k (.range n) O1))
  (r.E Γ l e O fun v O1 => iterV tb v O1 fun K => k K O1)
noncomputable def compOk1 (Γ : Cx) (l : Locs) (x : Str) (p : Str × NameKind) : Bool :=
  (decide (p.2 = .local) && (p.1 == x || p.1 == (".0" : Str))) || (decide (p.2 = .free) && decide (Γ.names.lookup p.1 = some .cell) && (l.lookup p.1).isSome) || decide (p.2 = .globalImplicit)
noncomputable def compOk (Γ : Cx) (l : Locs) (x : Str) (names : List (Str × NameKind)) : Bool :=
  decide (names.lookup x = some .local) && (l.lookup (".0" : Str)).isNone && (names.lookup ("__debug__" : Str)).isNone &&
  decide (names.map (·.1)).Nodup && names.all (compOk1 Γ l x)
noncomputable def compP (Γ : Cx) (l : Locs) (x : Str) (ifs : List Expr) (elt : Expr) (K : ItK) (O : Ost) (acc : List AV) (O1 : Ost) : Prop := (compL r Γ l x ifs elt K K.items [] O fun acc O1 => .done (.vs acc O1)).gives (.vs acc O1)
noncomputable def forP (Γ : Cx) (t : Tg) (body : List Stmt) (K : ItK) (l : Locs) (O : Ost) (f : AF) (l1 : Locs) (O1 : Ost) : Prop := (forL r Γ t body K 0 K.items l O fun f l1 O1 => .done (.f f l1 O1)).gives (.f f l1 O1)
noncomputable def compE (Γ : Cx) (l : Locs) (elt : Expr) (x : Str) (iter : Expr) (ifs : List Expr) (a : Int) (sc : Scope) (O : Ost) (k : List AV → Ost → Tr) : Tr :=
  ifT (decide (a = 0) && decide (sc.kind = .function) && !isSetE iter && compOk Γ l x sc.names) (r.E Γ l iter O fun v O1 => iterV tb v O1 fun K => .comp (compP r ⟨relabelNames Γ sc.names⟩ l x ifs elt K O1) k)
noncomputable def gen1 (gs : List Comprehension) : Option (Str × Expr × List Expr × Int) := (sing gs).bind fun g => (nameOf g.target).bind fun x => some (x.1, g.iter, g.ifs, g.is_async)
noncomputable def isNeg1 (s : Expr) : Bool := match unOf s with
  | some q => (match q.1 with
    | .USub => (match constOf q.2.1 with
      | some c => (match c.1 with | .int n => decide (n = 1) | _ => false)
      | none => false)
    | _ => false)
  | none => false
inductive SubK where
  | rev | no | item
  | cut (lo hi : Option Expr)
noncomputable def subK (i : Expr) : SubK := match sliceOf i with
  | some q => (match q.2.2.1 with
    | none => .cut q.1 q.2.1
    | some s => (match q.1.isNone && q.2.1.isNone && isNeg1 s with | true => .rev | false => .no))
  | none => .item
noncomputable def stepE (Γ : Cx) (l : Locs) (e : Expr) (O : Ost) (k : AV → Ost → Tr) : Tr := match e with
  | .Constant c _ _ => constV c fun v => k v O
  | .Name x _ => nameV tb Γ l x fun v => k v O
  | .BoolOp op es _ => boolV r Γ l op es O k
  | .BinOp a op b _ => r.E Γ l a O fun va O1 => r.E Γ l b O1 fun vb O2 => binV op va vb O2 k
  | .UnaryOp op a _ => r.E Γ l a O fun v O1 => unV op v fun w => k w O1
  | .IfExp t a b _ => r.T Γ l t O fun c O1 => br c (r.E Γ l a O1 k) (r.E Γ l b O1 k)
  | .Compare a ops bs _ => ifT (!lastMarks ops bs) (r.E Γ l a O fun va O1 => chainV tb r Γ l ops va bs O1 fun c O2 => k (.bool c) O2)
  | .List es _ => evs r Γ l es O fun vs O1 => gd (vs.length ≤ 1000000) (k (.obj O1.length) (O1 ++ [.list vs]))
  | .Tuple es _ _ => evs r Γ l es O fun vs O1 => gd (vs.length ≤ 1000000) (k (.obj O1.length) (O1 ++ [.tuple vs]))
  | .Dict ks vs _ => optT (keyNames ks) fun ns => ifT (decide (ns.length = vs.length) && decide (ns.length ≤ 15) && decide ns.Nodup) (evs r Γ l vs O fun us O1 => k (.obj O1.length) (O1 ++ [.dict (ns.zip us)]))
  | .ListComp elt gs sc _ => optT (gen1 gs) fun g => compE tb r Γ l elt g.1 g.2.1 g.2.2.1 g.2.2.2 sc O fun acc O2 => k (.obj O2.length) (O2 ++ [.list acc])
  | .Call f args kws pos => (match kws with
    | [] => (match attrOf f with
      | some q => ifT (!isCall q.1 && decide (q.2.2.endLine = pos.line) && decide (args.length < 30) && !args.any isStarred)
        (r.E Γ l q.1 O fun ov O1 => methOf tb ov q.2.1 O1 fun m => evs r Γ l args O1 fun vs O2 => (match m with
          | .fn f => CallC r f (ov :: vs) O2 k
          | m => primM m ov vs O2 k))
      | none => r.E Γ l f O fun fv O1 => callK tb fv fun c => evsN r Γ l args O1 fun vs O2 => callC r c vs O2 k)
    | _ => .fail)
  | .Attribute o nm _ => ifT (!isCall o) (r.E Γ l o O fun ov O1 => attrV tb ov nm O1 fun v => k v O1)
  | .Subscript o i _ => (match subK i with
    | .rev => r.E Γ l o O fun ov O1 => revV ov O1 k
    | .cut lo hi => r.E Γ l o O fun ov O1 => optE r Γ l lo O1 fun b O2 => optE r Γ l hi O2 fun c O3 => cutV tb ov b c O3 k
    | .item => r.E Γ l o O fun ov O1 => r.E Γ l i O1 fun iv O2 => subV ov iv O2 k
    | .no => .fail)
  | _ => .fail
noncomputable def truthE (Γ : Cx) (l : Locs) (e : Expr) (O : Ost) (k : Bool → Ost → Tr) : Tr := r.E Γ l e O fun v O1 => truthV v fun c => k c O1
noncomputable def stepT (Γ : Cx) (l : Locs) (e : Expr) (O : Ost) (k : Bool → Ost → Tr) : Tr := match unOf e with
  | some q => (match q.1 with
    | .Not => r.T Γ l q.2.1 O fun c O1 => k (!c) O1
    | _ => truthE r Γ l e O k)
  | none => (match boolOf e with
    | some q => boolT r Γ l q.1 q.2.1 O k
    | none => (match cmpOf e with
      | some q => ifT (!lastMarks q.2.1 q.2.2.1) (r.E Γ l q.1 O fun va O1 => chainV tb r Γ l q.2.1 va q.2.2.1 O1 k)
      | none => ifT (!isIfE e) (truthE r Γ l e O k)))
noncomputable def isLoc (Γ : Cx) (x : Str) : Bool := decide (Γ.names.lookup x = some .local)
noncomputable def assignV (Γ : Cx) (l : Locs) (t : Expr) (v : AV) (O : Ost) (k : Locs → Ost → Tr) : Tr := match nameOf t with
  | some q => ifT (isLoc Γ q.1) (k (setL q.1 v l) O)
  | none => (match attrOf t with
    | some q => ifT (!isCall q.1) (r.E Γ l q.1 O fun ov O1 => setAttrV tb ov q.2.1 v O1 fun O2 => k l O2)
    | none => optT (subOf t) fun q => ifT (isName q.2.1) (r.E Γ l q.1 O fun ov O1 => r.E Γ l q.2.1 O1 fun iv O2 => setItemV ov iv v O2 fun O3 => k l O3))
noncomputable def allLocal (Γ : Cx) : List Expr → Bool
  | [] => true
  | e :: r => (match nameOf e with
    | some x => isLoc Γ x.1 && allLocal Γ r
    | none => false)
noncomputable def nameList : List Expr → List Str
  | [] => []
  | e :: r => (match nameOf e with
    | some x => x.1 :: nameList r
    | none => nameList r)
noncomputable def plainPair (e : Expr) : Bool := match tupOf e with
  | some q => !q.1.all (constantsAlone 8) && !q.1.any isStarred
  | none => true
noncomputable def tgOf (t : Expr) : Option Tg := match nameOf t with
  | some x => some (.one x.1)
  | none => (tupOf t).bind fun q => (pairOf (nameList q.1)).bind fun p => oIf (q.1.all isName) (.two p.1 p.2)
noncomputable def delOf (ts : List Expr) : Option (Expr × Expr) := (sing ts).bind fun t => (subOf t).bind fun q => (sliceOf q.2.1).bind fun c => c.1.bind fun lo => oIf (c.2.1.isNone && c.2.2.1.isNone) (q.1, lo)
noncomputable def asgComp (t e : Expr) : Option ((Str × Pos) × (Expr × List Comprehension × Scope × Pos) × (Str × Expr × List Expr × Int)) := (nameOf t).bind fun y => (compOf e).bind fun c => (gen1 c.2.1).bind fun g => some (y, c, g)
noncomputable def asgTup (Γ : Cx) (l : Locs) (es : List Expr) (e : Expr) (O : Ost) (k : AF → Locs → Ost → Tr) : Tr := ifT (allLocal Γ es && decide (nameList es).Nodup && plainPair e)
  (r.E Γ l e O fun v O1 => tupV O1 v fun _ vs => ifT (decide (es.length = vs.length)) (k .next (((nameList es).zip vs).foldl (fun l p => setL p.1 p.2 l) l) O1))
noncomputable def asgComp1 (Γ : Cx) (l : Locs) (q : (Str × Pos) × (Expr × List Comprehension × Scope × Pos) × (Str × Expr × List Expr × Int)) (O : Ost) (k : AF → Locs → Ost → Tr) : Tr :=
  ifT (isLoc Γ q.1.1 && (q.1.2.line == q.2.1.2.2.2.line) && !(q.2.1.2.2.1.names.any fun p => p.1 == q.1.1 && (p.2 == .local || p.2 == .cell)))
    (compE tb r Γ l q.2.1.1 q.2.2.1 q.2.2.2.1 q.2.2.2.2.1 q.2.2.2.2.2 q.2.1.2.2.1 O fun acc O2 => k .next (setL q.1.1 (.obj O2.length) l) (O2 ++ [.list acc]))
noncomputable def asgS (Γ : Cx) (l : Locs) (t e : Expr) (O : Ost) (k : AF → Locs → Ost → Tr) : Tr := match tupOf t with
  | some es => asgTup r Γ l es.1 e O k
  | none => (match asgComp t e with
    | some q => asgComp1 tb r Γ l q O k
    | none => ifT (isName t && !isComp e || Nat.beq t.ctorIdx 20 || Nat.beq t.ctorIdx 21) (r.E Γ l e O fun v O1 => assignV tb r Γ l t v O1 fun l2 O2 => k .next l2 O2))
noncomputable def forS (Γ : Cx) (l : Locs) (t e : Expr) (b : List Stmt) (O : Ost) (k : AF → Locs → Ost → Tr) : Tr := optT (tgOf t) fun tg => (match tg with
  | .one x => ifT (isLoc Γ x && !isSetE e) (iterE tb r Γ l e O fun K O1 => .loop (forP r Γ (.one x) b K l O1) k)
  | .two x y => ifT (isLoc Γ x && isLoc Γ y) (optT (tyCall tb Γ "enumerate" e) fun a => r.E Γ l a O fun v O1 => bytesV v fun d => .loop (forP r Γ (.two x y) b (.enumB d) l O1) k))
noncomputable def stepS (Γ : Cx) (l : Locs) (s : Stmt) (O : Ost) (k : AF → Locs → Ost → Tr) : Tr := match s with
  | .Return e _ => optT e fun e => r.E Γ l e O fun v O1 => k (.ret v) l O1
  | .If t a b _ => r.T Γ l t O fun c O1 => br c (exs r Γ a l O1 k) (exs r Γ b l O1 k)
  | .While t b els _ => (match els with | [] => LoopW r Γ t b l O k | _ => .fail)
  | .For t e b els _ => (match els with | [] => forS tb r Γ l t e b O k | _ => .fail)
  | .Assign ts e _ => single ts fun t => asgS tb r Γ l t e O k
  | .Expr e _ => ifT (!isComp e) (r.E Γ l e O fun v O1 => ifT (isNone v) (k .next l O1))
  | .Delete ts _ => optT (delOf ts) fun q => r.E Γ l q.1 O fun ov O1 => r.E Γ l q.2 O1 fun b O2 => intV b fun n => delCutV ov n O2 fun O3 => k .next l O3
  | _ => .fail
noncomputable def stepC (a : Addr) (vs : List AV) (O : Ost) (k : AV → Ost → Tr) : Tr := optT (tb.fns.lookup a) fun fn => bindP fn vs fun l => exs r ⟨fn.scope.names⟩ fn.body l O fun f _ O1 => (match f with
    | .ret v => k v O1
    | .next => k .none O1
    | _ => .fail)
noncomputable def stepW (Γ : Cx) (t : Expr) (b : List Stmt) (l : Locs) (O : Ost) (k : AF → Locs → Ost → Tr) : Tr :=
  r.T Γ l t O fun c O1 => br c (exs r Γ b l O1 fun f l2 O2 => (match f with
    | .next => LoopW r Γ t b l2 O2 k
    | .cont => LoopW r Γ t b l2 O2 k
    | .brk => k .next l2 O2
    | .ret v => k (.ret v) l2 O2)) (k .next l O1)
noncomputable def step : Rec where
  E := stepE tb r
  T := stepT tb r
  S := stepS tb r
  C := fun a vs O v O1 => (stepC tb r a vs O fun v O1 => .done (.v v O1)).gives (.v v O1)
  W := fun Γ t b l O f l1 O1 => (stepW r Γ t b l O fun f l1 O1 => .done (.f f l1 O1)).gives (.f f l1 O1)
end
noncomputable def bot : Rec where
  E := fun _ _ _ _ _ => .fail
  T := fun _ _ _ _ _ => .fail
  S := fun _ _ _ _ _ => .fail
  C := fun _ _ _ _ _ => False
  W := fun _ _ _ _ _ _ _ _ => False
noncomputable def R (tb : Tb) : Nat → Rec
  | 0 => bot
  | n + 1 => step tb (R tb n)
end Vm
end
section
namespace Vm
open PySem PySem.W PyProof.Rows
noncomputable def fnOf (s : Option Stmt) (d : List AV) : Fn := match s with
  | some (.FunctionDef name args body _ _ _ scope _ _ _) => ⟨name, args.args.map (·.arg), d, body, scope⟩
  | _ => ⟨"", [], [], [], default⟩
noncomputable def topS (i : Nat) : Option Stmt := PySem.Challenge.pw_og0261_01.main.body[i]?
noncomputable def inS (i j : Nat) : Option Stmt := match topS i with
  | some (.ClassDef _ _ _ body _ _ _ _ _ _ _) => body[j]?
  | _ => none
noncomputable abbrev S_ (x : String) : AV := .str (Str.ofString x)
noncomputable def fnTab : List (Addr × Fn) := [
  (21, fnOf (topS 3) []), (28, fnOf (topS 4) []), (38, fnOf (topS 9) []), (52, fnOf (inS 10 0) []), (59, fnOf (inS 10 1) []), (66, fnOf (inS 10 2) []),
  (80, fnOf (topS 11) []), (87, fnOf (topS 12) []), (103, fnOf (inS 33 0) [.int 0]), (117, fnOf (topS 34) []), (124, fnOf (topS 35) []), (131, fnOf (topS 36) []), (138, fnOf (topS 37) []),
  (145, fnOf (topS 38) []), (150, fnOf (topS 39) []), (155, fnOf (topS 40) []), (163, fnOf (topS 41) [.int 1, .int 1]), (170, fnOf (topS 42) []), (177, fnOf (topS 43) []), (184, fnOf (topS 44) []),
  (189, fnOf (topS 45) []), (197, fnOf (topS 46) [.int 0, .bool false, .int 0, .int 0]), (211, fnOf (inS 47 0) []), (216, fnOf (inS 47 1) []), (224, fnOf (inS 47 2) [.int 1, .int 1]),
  (245, fnOf (topS 48) []), (252, fnOf (topS 49) []), (259, fnOf (topS 50) []), (266, fnOf (topS 51) []), (274, fnOf (topS 52) [.int 0]),
  (281, fnOf (topS 54) []), (286, fnOf (topS 55) []), (291, fnOf (topS 56) []), (298, fnOf (topS 57) []), (305, fnOf (topS 58) []), (312, fnOf (topS 59) []), (319, fnOf (topS 60) []),
  (326, fnOf (topS 61) []), (333, fnOf (topS 62) []), (340, fnOf (topS 63) []), (347, fnOf (topS 64) []), (354, fnOf (topS 65) []), (359, fnOf (topS 66) [])]
noncomputable def seqTab : List (Addr × (Bool × List AV)) := [
  (29, (false, [S_ "mouse_x10", S_ "mouse_click", S_ "mouse_drag", S_ "mouse_all"])),
  (30, (false, [S_ "mouse_utf8", S_ "mouse_sgr", S_ "mouse_urxvt", S_ "mouse_pixels"])),
  (31, (false, [S_ "send_receive", S_ "autowrap", S_ "autorepeat", S_ "show_cursor", S_ "num_lock"])),
  (88, (false, [.bytes [27, 91, 50, 48, 49, 126], .bytes [155, 50, 48, 49, 126], .bytes [194, 155, 50, 48, 49, 126]]))]
noncomputable def hashS (x : Str) : Nat := x.cps.toList.foldl (fun h c => (h * 31 + c) % 1000003) 7
noncomputable def hashed : List (Nat × Str × AV) := [
  (459147, Str.ofString "LINE_FEED", (AV.int 10)),
  (399969, Str.ofString "RETURN", (AV.int 13)),
  (891094, Str.ofString "MOUSE_MODIFIERS", (AV.int 7)),
  (432883, Str.ofString "NO_BUTTON", (AV.int 0)),
  (907477, Str.ofString "FIRST_WHEEL", (AV.int 4)),
  (365745, Str.ofString "LAST_WHEEL", (AV.int 7)),
  (594882, Str.ofString "LAST_BUTTON", (AV.int 11)),
  (577640, Str.ofString "CODE_NONE", (AV.int 3)),
  (89007, Str.ofString "CODE_MODIFIERS", (AV.int 28)),
  (548097, Str.ofString "CODE_MOVE", (AV.int 32)),
  (1341, Str.ofString "CODE_WHEEL", (AV.int 64)),
  (180911, Str.ofString "CODE_OTHERS", (AV.int 128)),
  (863062, Str.ofString "OCTET_ADDED", (AV.int 32)),
  (493156, Str.ofString "OCTET_MOST", (AV.int 223)),
  (648037, Str.ofString "UTF8_MOST", (AV.int 2015)),
  (285938, Str.ofString "UTF8_TWO", (AV.int 128)),
  (505095, Str.ofString "MOUSE_HEAD", (AV.bytes [27, 91, 77])),
  (131883, Str.ofString "MOUSE_SGR_HEAD", (AV.bytes [27, 91, 60])),
  (218166, Str.ofString "PASTE_BEGIN", (AV.bytes [27, 91, 50, 48, 48, 126])),
  (796310, Str.ofString "PASTE_END", (AV.bytes [27, 91, 50, 48, 49, 126])),
  (576397, Str.ofString "MOUSE_MODES", (AV.val (.ref 29))),
  (963960, Str.ofString "MOUSE_ENCODINGS", (AV.val (.ref 30))),
  (967531, Str.ofString "FIRST_ON", (AV.val (.ref 31))),
  (685621, Str.ofString "PASTE_ENDS", (AV.val (.ref 88))),
  (920499, Str.ofString "Modes", (AV.val (.ref 69))),
  (390040, Str.ofString "MouseEvent", (AV.val (.ref 106))),
  (256040, Str.ofString "MouseState", (AV.val (.ref 234))),
  (671732, Str.ofString "decimal_octets", (AV.val (.ref 21))),
  (779440, Str.ofString "number_of", (AV.val (.ref 28))),
  (721692, Str.ofString "modes_group", (AV.val (.ref 38))),
  (88039, Str.ofString "mouse_mode", (AV.val (.ref 80))),
  (557424, Str.ofString "mouse_encoding", (AV.val (.ref 87))),
  (175740, Str.ofString "mouse_is_wheel", (AV.val (.ref 117))),
  (43880, Str.ofString "mouse_number", (AV.val (.ref 124))),
  (721241, Str.ofString "mouse_button", (AV.val (.ref 131))),
  (213559, Str.ofString "mouse_is_told", (AV.val (.ref 138))),
  (565669, Str.ofString "mouse_code_octets", (AV.val (.ref 145))),
  (490210, Str.ofString "mouse_plain_octets", (AV.val (.ref 150))),
  (235954, Str.ofString "mouse_decimals", (AV.val (.ref 155))),
  (261503, Str.ofString "mouse_octets", (AV.val (.ref 163))),
  (367258, Str.ofString "mouse_event_of", (AV.val (.ref 170))),
  (846216, Str.ofString "mouse_code_at", (AV.val (.ref 177))),
  (3398, Str.ofString "mouse_read_plain", (AV.val (.ref 184))),
  (378945, Str.ofString "mouse_decimals_at", (AV.val (.ref 189))),
  (584429, Str.ofString "read_mouse", (AV.val (.ref 197))),
  (84595, Str.ofString "focus_octets", (AV.val (.ref 245))),
  (732042, Str.ofString "paste_lines", (AV.val (.ref 252))),
  (435880, Str.ofString "paste_cleaned", (AV.val (.ref 259))),
  (218212, Str.ofString "paste_octets", (AV.val (.ref 266))),
  (936021, Str.ofString "read_paste", (AV.val (.ref 274))),
  (38850, Str.ofString "_law_code", (AV.val (.ref 281))),
  (465553, Str.ofString "_law_figures", (AV.val (.ref 286))),
  (281667, Str.ofString "_law_octets", (AV.val (.ref 291))),
  (838643, Str.ofString "_law_is_told", (AV.val (.ref 298))),
  (64044, Str.ofString "_law_number", (AV.val (.ref 305))),
  (463616, Str.ofString "_law_written", (AV.val (.ref 312))),
  (545544, Str.ofString "_law_told", (AV.val (.ref 319))),
  (261276, Str.ofString "_law_event", (AV.val (.ref 326))),
  (323306, Str.ofString "_law_made", (AV.val (.ref 333))),
  (631442, Str.ofString "_law_one_right", (AV.val (.ref 340))),
  (617675, Str.ofString "_law_row_right", (AV.val (.ref 347))),
  (212053, Str.ofString "_law_paste_right", (AV.val (.ref 354))),
  (315566, Str.ofString "len", (AV.val (.builtin "len"))),
  (304907, Str.ofString "abs", (AV.val (.builtin "abs"))),
  (322788, Str.ofString "sum", (AV.val (.builtin "sum"))),
  (316413, Str.ofString "max", (AV.val (.builtin "max"))),
  (318842, Str.ofString "ord", (AV.val (.builtin "ord"))),
  (312968, Str.ofString "int", (AV.val (.type "int"))),
  (322762, Str.ofString "str", (AV.val (.type "str"))),
  (627666, Str.ofString "bytes", (AV.val (.type "bytes"))),
  (878523, Str.ofString "bytearray", (AV.val (.type "bytearray"))),
  (683258, Str.ofString "range", (AV.val (.type "range"))),
  (679386, Str.ofString "enumerate", (AV.val (.type "enumerate")))]
noncomputable def gFind (h : Nat) : List (Nat × Str × AV) → Option (Str × AV)
  | [] => none
  | (m, p) :: r => match Nat.beq h m with
    | true => some p
    | false => gFind h r
noncomputable def globOf (x : Str) : Option AV := match gFind (hashS x) hashed with
  | some p => (match p.1 == x with | true => some p.2 | false => none)
  | none => none
noncomputable def tabs (a : Addr) (ns : List Int) : Tb where
  glob := globOf
  seqs := seqTab ++ [(a, (true, ns.map AV.int))]
  fns := fnTab
  clss := [(69, some 52), (106, some 103), (234, some 211)]
  meths := [(69, [("is_on", 59), ("set", 66)]), (234, [("changed", 216), ("octets", 224)])]
  fields := [(69, ["states", "kept"]), (106, ["kind", "button", "row", "column", "modifiers"]), (234, ["held", "place"])]
end Vm
end
section
namespace Vm
open PySem PySem.W PyProof.Rows PySem.Calls
noncomputable def avIs (a : AV) (v : Value) : Bool := match a with
  | .bool a => (match v with | .bool b => a == b | _ => false)
  | .int a => (match v with | .int b _ => a == b | _ => false)
  | .str a => (match v with | .str b _ => a == b | _ => false)
  | .bytes a => (match v with | .bytes b _ => KBw.bInts b == a | _ => false)
  | .val a => (match a with
    | .ref a => (match v with | .ref b => a == b | _ => false)
    | .type a => (match v with | .type b => a == b | _ => false)
    | .builtin a => (match v with | .builtin b => a == b | _ => false)
    | _ => false)
  | _ => false
noncomputable def avsIs : List AV → List Value → Bool
  | [], [] => true
  | a :: as, v :: vs => avIs a v && avsIs as vs
  | _, _ => false
noncomputable def nameOk (K : Frag) (p : Nat × Str × AV) : Bool := !(p.2.1 == ("__debug__" : Str)) && (match nsIn K mainGlobals p.2.1 with
  | some (some u) => avIs p.2.2 u
  | some none => !(p.2.1 == ("__name__" : Str)) && (match bootBuiltins p.2.1 with | some u => avIs p.2.2 u | none => false)
  | none => false)
noncomputable def seqOk (K : Frag) (p : Addr × (Bool × List AV)) : Bool := !p.2.1 && (match K.lookup p.1 with
  | some o => o.cls == .type "tuple" && (match o.data with | .seq vs _ => avsIs p.2.2 vs.toList | _ => false)
  | none => false)
noncomputable def fieldOk (K : Frag) (C : Addr) (nm : Str) : Bool := plainGet K C nm && hasDictIn K C && (match findIn K (.ref C) nm with | some attr => noGet K attr | none => false) &&
  (findIn K (.ref C) "__setattr__" == some (some (.builtin "object.__setattr__"))) && plainOver K C && (takerIn K C nm == some none)
noncomputable def methOk (K : Frag) (C : Addr) (p : Str × Addr) : Bool := plainGet K C p.1 && (findIn K (.ref C) p.1 == some (some (.ref p.2))) && isFn K (.ref p.2) && keepIn K (.ref p.2)
noncomputable def clsOk (K : Frag) (p : Addr × Option Addr) : Bool := match p.2 with
  | some f => makesIn K p.1 && (findIn K (.ref p.1) "__init__" == some (some (.ref f))) && (typeIn K (.ref f) == some (.type "function")) && keepIn K (.ref p.1)
  | none => true
noncomputable def fdIn (K : Frag) (a : Addr) : Option FuncData := match K.lookup a with
  | some o => (match o.data with | .func fd => some fd | _ => none)
  | none => none
noncomputable def dfltsOk (K : Frag) (fd : FuncData) (fn : Fn) : Bool := match fd.defaults with
  | .none => fn.dflts.isEmpty
  | .ref t => (match K.lookup t with
    | some o => (match o.data with | .seq vs _ => avsIs fn.dflts vs.toList && decide (fn.dflts.length ≤ fn.params.length) | _ => false)
    | none => false)
  | _ => false
noncomputable def fnOk (K : Frag) (p : Addr × Fn) : Bool := match fdIn K p.1 with
  | some fd => codeIn K fd.code fd.qualname && fd.params.posonlyargs.isEmpty && (fd.params.args.map (·.arg) == p.2.params) && fd.params.vararg.isNone && fd.params.kwonlyargs.isEmpty && fd.params.kwarg.isNone &&
    (p.2.scope.kind == .function) && !p.2.scope.isCoroutine && !p.2.scope.isGenerator && keepIn K (.ref p.1) && (p.2.scope.names.lookup ("__debug__" : Str)).isNone && decide p.2.params.Nodup &&
    (p.2.params.all fun x => (p.2.scope.names.lookup x == some .local) || (p.2.scope.names.lookup x == some .cell)) && dfltsOk K fd p.2
  | none => false
noncomputable def fdSees (fd : FuncData) : Scope × FuncBody × List (Str × Addr) × Addr × Addr := (fd.scope, fd.body, fd.closure, fd.globals, fd.builtins)
noncomputable def fnSees (p : Addr × Fn) : Scope × FuncBody × List (Str × Addr) × Addr × Addr := (p.2.scope, .stmts p.2.body, [], mainGlobals, builtinsNs)
theorem mem_lookup {α β : Type} [BEq α] [LawfulBEq α] {a : α} {b : β} : ∀ {l : List (α × β)}, l.lookup a = some b → (a, b) ∈ l
  | [], h => by cases h
  | (x, y) :: l, h => by
    rw [List.lookup_cons] at h
    cases hb : a == x with
    | true => rw [hb] at h; cases h; rw [beq_iff_eq] at hb; subst hb; exact List.mem_cons_self
    | false => rw [hb] at h; exact .tail _ (mem_lookup h)
end Vm
end
section
set_option maxHeartbeats 4000000
open PySem PySem.W PyProof.Rows
namespace Vm
noncomputable abbrev pw : Program := PySem.Challenge.pw_og0261_01
noncomputable def qv : Program := view pw [66]
noncomputable def looseN : List Str := (pw.main.scope.names.map Prod.fst).filter fun x => !(x == Str.ofString "law")
noncomputable def chk1 (K : Frag) : Bool := hashed.all (nameOk K) && seqTab.all (seqOk K)
noncomputable def chk2 (K : Frag) : Bool := fnTab.all (fnOk K) && ((tabs 0 []).clss.all (clsOk K) && (((tabs 0 []).meths.all fun p => p.2.all (methOk K p.1)) && (((tabs 0 []).fields.all fun p => p.2.all (fieldOk K p.1)) &&
  ((match nsIn K mainGlobals (Str.ofString "law") with | some (some (.ref a)) => a == 359 | _ => false) && seqTab.all fun q => ((K.lookup q.1).map fun o => o.cls == .type "tuple") == some true))))
noncomputable def seesOf (K : Frag) := fnTab.map fun p => (fdIn K p.1).map fdSees
noncomputable def TopSays (h : Heap) : Prop := ∃ K : Frag, K.In h ∧ (chk1 K = true ∧ chk2 K = true) ∧ seesOf K = fnTab.map fun p => some (fnSees p)
theorem TopSays.keeps {h h' : Heap} (t : TopSays h) (k : ∀ b o, h.get? b = some o → h'.get? b = some o) : TopSays h' := by
  obtain ⟨K, X, c⟩ := t
  exact ⟨K, fun a o e => k _ _ (X a o e), c⟩
noncomputable def btOf : List Obj → Nat → BT → BT
  | [], _, t => t
  | o :: r, i, t => btOf r (i + 1) (t.ins i o)
noncomputable def T0 (P : Params) : BT := btOf (boot_heap P).objs.toList 0 .nil
noncomputable def topRunT (tb : String → Option Builtin) (p : Program) (w : World) (n₀ : Nat) (ann : Option Value) : Nat → SharedT → Thread → Option SharedT
  | 0, _, _ => none
  | n + 1, s, t => match through t with
    | true => some s
    | false => match stepOk n₀ ann t with
      | false => none
      | true => match PySem.W.stepT (denote tb) p w s t with
        | some (s', t') => topRunT tb p w n₀ ann n s' t'
        | none => none
theorem topRunT_of {tb : String → Option Builtin} {p : Program} {w : World} {n₀ : Nat} {ann : Option Value} : ∀ {n : Nat} {s s' : SharedT} {t : Thread}, topRunT tb p w n₀ ann n s t = some s' → topRun tb p w n₀ ann n s.abs t = some s'.abs
  | 0, _, _, _, h => by cases h
  | n + 1, s, s', t, h => by
    unfold topRunT at h
    unfold topRun
    cases he : through t with
    | true => rw [he] at h; cases h; rfl
    | false =>
      rw [he] at h
      cases hk : stepOk n₀ ann t with
      | false => rw [hk] at h; cases h
      | true =>
        rw [hk] at h
        cases hs : PySem.W.stepT (denote tb) p w s t with
        | none => rw [hs] at h; cases h
        | some r => obtain ⟨s₂, t₂⟩ := r; rw [hs] at h; rw [PySem.W.stepT_spec hs]; exact topRunT_of h
noncomputable def fragT (s : SharedT) : Frag := (List.range s.n).filterMap fun a => ((s.tree.get a).bind alive).map fun o => (a, o)
theorem fragT_in (s : SharedT) : (fragT s).In s.abs.heap := fun a o e => by
  obtain ⟨b, hb, e⟩ := List.mem_filterMap.mp (mem_lookup e)
  obtain ⟨o', ho, e'⟩ := Option.map_eq_some_iff.mp e
  obtain ⟨o₂, h2, h3⟩ := Option.bind_eq_some_iff.mp ho
  cases e'
  exact (abs_get (List.mem_range.mp hb) h2).trans h3
noncomputable def topRunQ (p : Program) (w : World) (n₀ : Nat) (ann : Option Value) : Nat → SharedT → Thread → Option SharedT
  | 0, _, _ => none
  | n + 1, s, t => match through t with
    | true => some s
    | false => match Fast.tw6613529449190102663 n₀ ann t with
      | false => none
      | true => match Fast.tw10156331382660048174 (Fast.tw11892475500146522536 treeTable) p w s t with
        | some (s', t') => topRunQ p w n₀ ann n s' t'
        | none => none
theorem topRunQ_eq {p : Program} {w : World} {n₀ : Nat} {ann : Option Value} : ∀ (n : Nat) (s : SharedT) (t : Thread), topRunQ p w n₀ ann n s t = topRunT treeTable p w n₀ ann n s t
  | 0, _, _ => rfl
  | n + 1, s, t => by
    unfold topRunT topRunQ
    rw [← Fast.te6613529449190102663, ← Fast.te10156331382660048174, ← Fast.te11892475500146522536]
    cases through t with
    | true => rfl
    | false =>
      cases stepOk n₀ ann t with
      | false => rfl
      | true =>
        cases PySem.W.stepT (denote treeTable) p w s t with
        | none => rfl
        | some r => exact topRunQ_eq n r.1 r.2
theorem bsize (P : Params) : (boot_heap P).objs.size = 11 := by kernel_rfl
theorem bns (P : Params) : (boot_heap P).isNs mainGlobals = true := by kernel_rfl
theorem btree (P : Params) : absHeap (T0 P) 11 {} = boot_heap P := by kernel_rfl
noncomputable abbrev bAnn (w : World) := (boot_heap w.params).nsMap mainGlobals "__annotations__"
noncomputable abbrev bRun (w : World) (os : OsState) : Option SharedT := topRunT treeTable pw w 11 (bAnn w) 2500 ⟨T0 w.params, 11, {}, Array.mk [], boot_drawn, boot_toks, os⟩ (topStub pw)
noncomputable abbrev sOk (w : World) (s : Shared) : Bool := staticsOk (importedModules pw.main.body) (boot_heap w.params) s.heap && namesBound pw s.heap && gensDone s && laidKept (boot_heap w.params) s.heap
noncomputable abbrev topSeen (s : Shared) := Fast.tw4187177175401517315 qv looseN (importedModules pw.main.body) (fun _ => true) true s
noncomputable abbrev bRunQ (w : World) (os : OsState) : Option SharedT := topRunQ pw w 11 (bAnn w) 2500 ⟨T0 w.params, 11, {}, Array.mk [], boot_drawn, boot_toks, os⟩ (topStub pw)
theorem topA (w : World) (os : OsState) : (bRunQ w os).map (fun s => (sOk w s.abs, topSeen s.abs, chk1 (fragT s))) = some (true, openGood qv looseN, true) := by kernel_rfl
theorem topB (w : World) (os : OsState) : (bRunQ w os).map (fun s => (chk2 (fragT s), seesOf (fragT s))) = some (true, fnTab.map fun p => some (fnSees p)) := by kernel_rfl
theorem open0 : ∀ w : World, (fencedOpening treeTable pw w 4642).map (fun s => (s.heap, s.gens, s.drawn, s.toks)) = some (boot_heap w.params, Array.mk [], boot_drawn, boot_toks) := boot_open (by kernel_rfl) (by decide) (fun s => by kernel_rfl)
theorem lf1 {w : World} {os : OsState} {s : SharedT} (r : bRun w os = some s) : topRun treeTable pw w 11 (bAnn w) 4642 ⟨boot_heap w.params, Array.mk [], boot_drawn, boot_toks, os⟩ (topStub pw) = some s.abs := by
  have r := topRun_mono 2142 _ _ _ _ (topRunT_of r)
  have e : (SharedT.mk (T0 w.params) 11 {} (Array.mk []) boot_drawn boot_toks os).abs = ⟨boot_heap w.params, Array.mk [], boot_drawn, boot_toks, os⟩ := congrArg (fun h => Shared.mk h (Array.mk []) boot_drawn boot_toks os) (btree w.params)
  rw [e] at r
  exact r
theorem lf2 {w : World} {os : OsState} {s : Shared} (r : topRun treeTable pw w 11 (bAnn w) 4642 ⟨boot_heap w.params, Array.mk [], boot_drawn, boot_toks, os⟩ (topStub pw) = some s) (c1 : sOk w s = true) : topFrom treeTable pw w 4642 ⟨boot_heap w.params, Array.mk [], boot_drawn, boot_toks, os⟩ = some s := by
  unfold topFrom
  dsimp only
  rw [bns, bsize]
  show (topRun treeTable pw w 11 (bAnn w) 4642 _ (topStub pw)).bind _ = _
  rw [r]
  show (match sOk w s with | true => _ | false => _) = _
  rw [c1]
theorem left : LeftO pw qv looseN (fun _ => true) (fun s => TopSays s.heap) (fun _ => True) 4642 := fun w => by
  obtain ⟨⟨h, gs, d, k, os⟩, e, e'⟩ := Option.map_eq_some_iff.mp (open0 w)
  obtain ⟨rfl, rfl, rfl, rfl⟩ : h = boot_heap w.params ∧ gs = Array.mk [] ∧ d = boot_drawn ∧ k = boot_toks := by simpa using e'
  obtain ⟨s, r, c⟩ := Option.map_eq_some_iff.mp (topA w os)
  have d := topB w os
  rw [r] at d
  have d := Option.some.inj d
  have r := (topRunQ_eq _ _ _).symm.trans r
  have c1 := congrArg Prod.fst c
  have c2 := congrArg (fun x => x.2.1) c
  have c3 := congrArg (fun x => x.2.2) c
  have c4 := congrArg Prod.fst d
  have c5 := congrArg Prod.snd d
  have t := lf2 (lf1 r) c1
  unfold openEnds
  rw [e]
  rw [Option.bind_some, t, Option.map_some]
  exact congrArg some (Prod.ext ((congrArg (fun f => f qv looseN (importedModules pw.main.body) (fun _ => true) true s.abs) Fast.te4187177175401517315).trans c2) (eq_true ⟨fragT s, fragT_in s, ⟨c3, c4⟩, c5⟩))
noncomputable def Ok1 {α : Type} (P : α → Bool) (a : α) : Prop := P a = true
theorem Ok1.two {α : Type} {f P Q : α → Bool} {a : α} (e : ∀ x, f x = (P x && Q x)) (p : Ok1 P a) (q : Ok1 Q a) : Ok1 f a := by
  show f a = true
  rw [e, show P a = true from p, show Q a = true from q]; rfl
theorem Ok1.one {α : Type} {f : α → Bool} {a : α} (h : f a = true) : Ok1 f a := h
theorem lo3 : R.allR (Fast.tw18344453789297297638 pw) (fun n => !Fast.tw3471404346716756564 Fast.tw14412699480532031325 n) = true := by kernel_rfl
theorem lo4 : Fast.tw8377067652309620493 pw = true := by kernel_rfl
theorem lo2 : Fast.tw8326940854005059898 { strict := !R.allR (Fast.tw5923862056798008813 pw.main.body) (Fast.tw3471404346716756564 Fast.tw17691160309236699985), foot := none, bare := R.filterR (Fast.tw13343964577679436407 pw pw.main.body) [⟨⟨[118, 97, 114, 115]⟩⟩, ⟨⟨[100, 105, 114]⟩⟩, ⟨⟨[108, 111, 99, 97, 108, 115]⟩⟩] } pw.main.body = true := by kernel_rfl
theorem lo : Ok1 Fast.tw12908688711261696721 pw := by
  refine .two (fun _ => rfl) ?_ (.one (by kernel_rfl))
  refine .two (fun _ => rfl) ?_ (.one lo2)
  refine .two (fun _ => rfl) ?_ (.one lo3)
  refine .two (fun _ => rfl) ?_ (.one lo4)
  exact .one (by kernel_rfl)
theorem lop : (Fast.tw2368527892694137696 PySem.Challenge.rw_og0261_01).toRowW.prog = pw := by kernel_rfl
theorem lo' : Fast.tw12908688711261696721 (Fast.tw2368527892694137696 PySem.Challenge.rw_og0261_01).toRowW.prog = true := lop ▸ lo
theorem said1 : Ok1 Fast.tw9446332074065402090 PySem.Challenge.rw_og0261_01 := by
  iterate 33 refine .two (fun _ => rfl) ?_ (.one (by kernel_rfl))
  exact .one lo'
theorem said : PySem.Challenge.rw_og0261_01.wellSaid = true := (congrFun Fast.te9446332074065402090 _).trans said1
noncomputable def lawRow : OpenRow := PySem.Challenge.rw_og0261_01.row
theorem lawDef_some : (defOf qv (Str.ofString "law")).isSome = true := by kernel_rfl
noncomputable def lawDef := (defOf qv (Str.ofString "law")).get lawDef_some
theorem law_def0 : defOf qv lawRow.name = some (lawDef.1, lawDef.2) := (Option.some_get lawDef_some).symm
theorem law_kw : kwWritten? lawDef.1.params.kwonlyargs lawDef.1.params.kw_defaults = some lawDef.2 := by kernel_rfl
theorem law_def : pw.theDef (Str.ofString "law") = some (lawDef.1.params, lawDef.1.body, lawDef.1.scope) := by kernel_rfl
theorem law_ok : (chainsOk qv && opensWell pw && (frees lawRow.toRowW && lawRow.within.isEmpty)) = true := by kernel_rfl
theorem law_promised : lawRow.toRowW.promised := by
  unfold lawRow
  w_witness2
theorem law_bare : lawRow.prog.bare := ⟨rfl, rfl, rfl, rfl, rfl, by kernel_rfl⟩
end Vm
end
section
namespace Vm
open PySem PySem.W PyProof.Rows PySem.Calls
inductive Fa {α β : Type} (p : α → β → Prop) : List α → List β → Prop
  | nil : Fa p [] []
  | cons {a : α} {b : β} {as : List α} {bs : List β} : p a b → Fa p as bs → Fa p (a :: as) (b :: bs)
namespace Fa
variable {α β : Type} {p q : α → β → Prop}
theorem mono (h : ∀ a b, p a b → q a b) : ∀ {as : List α} {bs : List β}, Fa p as bs → Fa q as bs
  | _, _, .nil => .nil
  | _, _, .cons x r => .cons (h _ _ x) (r.mono h)
theorem uncons {as : List α} {b : β} {bs : List β} (h : Fa p as (b :: bs)) : ∃ a as', as = a :: as' ∧ p a b ∧ Fa p as' bs := by
  cases h with | cons x r => exact ⟨_, _, rfl, x, r⟩
theorem cons_inv {a : α} {as : List α} {bs : List β} (h : Fa p (a :: as) bs) : ∃ b bs', bs = b :: bs' ∧ p a b ∧ Fa p as bs' := by
  cases h with | cons x r => exact ⟨_, _, rfl, x, r⟩
theorem nil_inv {bs : List β} (h : Fa p [] bs) : bs = [] := by cases h; rfl
theorem length : ∀ {as : List α} {bs : List β}, Fa p as bs → as.length = bs.length
  | _, _, .nil => rfl
  | _, _, .cons _ r => by simp [r.length]
theorem append : ∀ {as : List α} {bs : List β} {cs : List α} {ds : List β}, Fa p as bs → Fa p cs ds → Fa p (as ++ cs) (bs ++ ds)
  | _, _, _, _, .nil, y => y
  | _, _, _, _, .cons x r, y => .cons x (r.append y)
theorem get : ∀ {as : List α} {bs : List β} {i : Nat} {a : α}, Fa p as bs → as[i]? = some a → ∃ b, bs[i]? = some b ∧ p a b
  | _, _, i, _, .nil, h => by simp at h
  | _, _, 0, _, .cons x _, h => by simp at h; subst h; exact ⟨_, by simp, x⟩
  | _, _, i + 1, _, .cons _ r, h => by
    simp only [List.getElem?_cons_succ] at h
    obtain ⟨b, e, y⟩ := r.get h
    exact ⟨b, by simpa using e, y⟩
theorem set : ∀ {as : List α} {bs : List β} (i : Nat) {a : α} {b : β}, Fa p as bs → p a b → Fa p (as.set i a) (bs.set i b)
  | _, _, _, _, _, .nil, _ => by simpa using Fa.nil
  | _, _, 0, _, _, .cons _ r, h => by simpa using Fa.cons h r
  | _, _, i + 1, _, _, .cons x r, h => by simpa using Fa.cons x (r.set i h)
theorem drop : ∀ {as : List α} {bs : List β} (n : Nat), Fa p as bs → Fa p (as.drop n) (bs.drop n)
  | _, _, 0, h => by simpa using h
  | _, _, _ + 1, .nil => by simpa using Fa.nil
  | _, _, n + 1, .cons _ r => by simpa using r.drop n
theorem take : ∀ {as : List α} {bs : List β} (n : Nat), Fa p as bs → Fa p (as.take n) (bs.take n)
  | _, _, 0, _ => by simpa using Fa.nil
  | _, _, _ + 1, .nil => by simpa using Fa.nil
  | _, _, n + 1, .cons x r => by simpa using Fa.cons x (r.take n)
theorem reverse : ∀ {as : List α} {bs : List β}, Fa p as bs → Fa p as.reverse bs.reverse
  | _, _, .nil => by simpa using Fa.nil
  | _, _, .cons x r => by simpa using r.reverse.append (.cons x .nil)
end Fa
inductive RV (φ : List Addr) : AV → Value → Prop
  | none : RV φ .none .none
  | bool (b : Bool) : RV φ (.bool b) (.bool b)
  | int (i : Int) (t : Tok) : RV φ (.int i) (.int i t)
  | str (s : Str) (t : Tok) : RV φ (.str s) (.str s t)
  | bytes {b : List Int} {c : Array UInt8} (t : Tok) : KBw.bInts c = b → RV φ (.bytes b) (.bytes c t)
  | val (v : Value) : RV φ (.val v) v
  | obj {i : Nat} {a : Addr} : φ[i]? = some a → RV φ (.obj i) (.ref a)
theorem RV.mono {φ φ' : List Addr} (h : φ <+: φ') {a : AV} {u : Value} (x : RV φ a u) : RV φ' a u := by
  cases x with
  | none => exact .none
  | bool => exact .bool _
  | int => exact .int _ _
  | str => exact .str _ _
  | bytes t e => exact .bytes t e
  | val => exact .val _
  | obj e =>
    obtain ⟨t, rfl⟩ := h
    exact .obj (by rw [List.getElem?_append_left (List.getElem?_eq_some_iff.mp e).1]; exact e)
noncomputable def RE (P : Params) (φ : List Addr) (p : Str × AV) (e : DictEntry) : Prop := (∃ t, e.key = .str p.1 t) ∧ e.hash = PyData.keyHash P p.1 ∧ RV φ p.2 e.val
inductive RO (P : Params) (φ : List Addr) : AO → Obj → Prop
  | list {xs : List AV} {vs : List Value} {n : Nat} : Fa (RV φ) xs vs → RO P φ (.list xs) { cls := .type "list", data := .seq vs.toArray n }
  | tuple {xs : List AV} {vs : List Value} {n : Nat} : Fa (RV φ) xs vs → RO P φ (.tuple xs) { cls := .type "tuple", data := .seq vs.toArray n }
  | inst {C : Addr} {d : Nat} {dx : Addr} : φ[d]? = some dx → RO P φ (.inst C d) (instObj C dx)
  | dict {es : List (Str × AV)} {ds : List DictEntry} {n : Nat} : Fa (RE P φ) es ds → (es.map (·.1)).Nodup → RO P φ (.dict es) (dictOf ds n)
  | barr {b : List Int} {c : Array UInt8} : KBw.bInts c = b → RO P φ (.barr b) { cls := .type "bytearray", data := .bytearray c }
theorem RE.mono {P : Params} {φ φ' : List Addr} (h : φ <+: φ') {p : Str × AV} {e : DictEntry} (x : RE P φ p e) : RE P φ' p e := ⟨x.1, x.2.1, x.2.2.mono h⟩
theorem RO.mono {P : Params} {φ φ' : List Addr} (h : φ <+: φ') {a : AO} {o : Obj} (x : RO P φ a o) : RO P φ' a o := by
  cases x with
  | list c => exact .list (c.mono fun _ _ r => r.mono h)
  | tuple c => exact .tuple (c.mono fun _ _ r => r.mono h)
  | inst e =>
    obtain ⟨t, rfl⟩ := h
    exact .inst (by rw [List.getElem?_append_left (List.getElem?_eq_some_iff.mp e).1]; exact e)
  | dict c nd => exact .dict (c.mono fun _ _ r => r.mono h) nd
  | barr e => exact .barr e
structure Rel (P : Params) (h₀ : Heap) (φ : List Addr) (O : Ost) (X : List (Addr × Obj)) (L : Addr) (m : Str → Option Value) (h : Heap) : Prop where
  F : Fr h₀ L h m
  ex : ∃ cs, Fa (RO P φ) O cs ∧ φ.length = cs.length ∧ News h₀ L h (φ.zip cs ++ X)
  nd : (φ ++ X.map (·.1)).Nodup
  low : ∀ a ∈ φ ++ X.map (·.1), h₀.objs.size ≤ a
section
variable {P : Params} {h₀ h h' : Heap} {φ : List Addr} {O : Ost} {X : List (Addr × Obj)} {L : Addr} {m : Str → Option Value}
theorem Rel.len (x : Rel P h₀ φ O X L m h) : φ.length = O.length := by
  obtain ⟨cs, a, b, _⟩ := x.ex
  rw [b, a.length]
theorem Rel.obj (x : Rel P h₀ φ O X L m h) {i : Nat} {o : AO} (e : O[i]? = some o) : ∃ a c, φ[i]? = some a ∧ h.get? a = some c ∧ RO P φ o c := by
  obtain ⟨cs, fa, hl, N⟩ := x.ex
  obtain ⟨c, ec, r⟩ := fa.get e
  have hi : i < φ.length := by rw [hl]; exact (List.getElem?_eq_some_iff.mp ec).1
  refine ⟨φ[i], c, List.getElem?_eq_getElem hi, ?_, r⟩
  refine (N (φ[i], c) (List.mem_append_left _ ?_)).1
  obtain ⟨hc, rfl⟩ := List.getElem?_eq_some_iff.mp ec
  rw [List.mem_iff_getElem]
  exact ⟨i, by rw [List.length_zip]; omega, by simp⟩
theorem Rel.at_ (x : Rel P h₀ φ O X L m h) {i : Nat} {a : Addr} (e : φ[i]? = some a) : a ≠ L ∧ h₀.get? a = none ∧ ∃ c, h.get? a = some c := by
  obtain ⟨cs, fa, hl, N⟩ := x.ex
  obtain ⟨hi, rfl⟩ := List.getElem?_eq_some_iff.mp e
  have hc : i < cs.length := by omega
  have := N (φ[i], cs[i]) (List.mem_append_left _ (by
    rw [List.mem_iff_getElem]
    exact ⟨i, by rw [List.length_zip]; omega, by simp⟩))
  exact ⟨this.2.1, this.2.2, _, this.1⟩
theorem Rel.raw (x : Rel P h₀ φ O X L m h) {p : Addr × Obj} (hp : p ∈ X) : h.get? p.1 = some p.2 ∧ p.1 ≠ L ∧ h₀.get? p.1 = none := by
  obtain ⟨cs, fa, hl, N⟩ := x.ex
  exact N p (List.mem_append_right _ hp)
theorem Rel.known (x : Rel P h₀ φ O X L m h) {a : Addr} (ha : a ∈ φ ++ X.map (·.1)) : ∃ c, h.get? a = some c := by
  rcases List.mem_append.mp ha with q | q
  · obtain ⟨i, hi⟩ := List.mem_iff_getElem?.mp q
    exact (x.at_ hi).2.2
  · obtain ⟨p, hp, rfl⟩ := List.mem_map.mp q
    exact ⟨_, (x.raw hp).1⟩
theorem Rel.keep (x : Rel P h₀ φ O X L m h) : ∀ b o, h₀.get? b = some o → h.get? b = some o := x.F.keep
theorem Rel.keeps (x : Rel P h₀ φ O X L m h) (k : ∀ b o, h.get? b = some o → h'.get? b = some o) : Rel P h₀ φ O X L m h' := by
  obtain ⟨cs, fa, hl, N⟩ := x.ex
  exact ⟨x.F.keeps k, ⟨cs, fa, hl, fun p hp => ⟨k _ _ (N p hp).1, (N p hp).2⟩⟩, x.nd, x.low⟩
theorem Rel.push (x : Rel P h₀ φ O X L m h) (c : Obj) : Rel P h₀ φ O X L m (h.push c) := x.keeps fun _ _ e => Heap.get?_push_of_some _ e
theorem zip_snoc {α β : Type} : ∀ {l : List α} {r : List β} {a : α} {b : β}, l.length = r.length → (l ++ [a]).zip (r ++ [b]) = l.zip r ++ [(a, b)]
  | [], [], _, _, _ => rfl
  | _ :: _, _ :: _, _, _, h => by
    simp only [List.cons_append, List.zip_cons_cons]
    rw [zip_snoc (by simpa using h)]
  | [], _ :: _, _, _, h => by simp at h
  | _ :: _, [], _, _, h => by simp at h
theorem Rel.newFrame (x : Rel P h₀ φ O X L m h) {a : Addr} (hz : h.objs.size ≤ a) : a ≠ L ∧ h₀.get? a = none ∧ a ∉ φ ++ X.map (·.1) ∧ h₀.objs.size ≤ a := by
  have ha : h.get? a = none := Heap.get?_none_of_le hz
  refine ⟨fun e => ?_, ?_, fun q => ?_, Nat.le_trans x.F.above (Nat.le_trans (Nat.le_of_lt x.F.ns.lt) hz)⟩
  · obtain ⟨oL, _, _, hL, _⟩ := x.F.ns
    rw [e, hL] at ha; cases ha
  · cases q : h₀.get? a with
    | none => rfl
    | some o => rw [x.F.keep _ _ q] at ha; cases ha
  · obtain ⟨c, hc⟩ := x.known q
    rw [hc] at ha; cases ha
theorem Rel.alloc (x : Rel P h₀ φ O X L m h) {a : Addr} {c : Obj} {o : AO} (k : ∀ b o, h.get? b = some o → h'.get? b = some o) (ha : h.objs.size ≤ a) (hc : h'.get? a = some c) (ro : RO P (φ ++ [a]) o c) :
    Rel P h₀ (φ ++ [a]) (O ++ [o]) X L m h' := by
  have x' := x.keeps k
  obtain ⟨n1, n2, n3, n4⟩ := x.newFrame ha
  obtain ⟨cs, fa, hl, N⟩ := x'.ex
  refine ⟨x'.F, ⟨cs ++ [c], ?_, by simp [hl], ?_⟩, ?_, fun b hb => ?_⟩
  · exact (fa.mono fun _ _ r => r.mono (List.prefix_append _ _)).append (.cons ro .nil)
  · rw [zip_snoc hl]
    intro p hp
    rcases List.mem_append.mp hp with q | q
    · rcases List.mem_append.mp q with q | q
      · exact N p (List.mem_append_left _ q)
      · rw [List.mem_singleton] at q
        subst q
        exact ⟨hc, n1, n2⟩
    · exact N p (List.mem_append_right _ q)
  · have e : (φ ++ [a] ++ X.map (·.1)).Perm (a :: (φ ++ X.map (·.1))) := by
      rw [List.append_assoc, List.singleton_append]
      exact List.perm_middle
    exact e.nodup_iff.mpr (List.nodup_cons.mpr ⟨n3, x.nd⟩)
  · rcases List.mem_append.mp hb with q | q
    · rcases List.mem_append.mp q with q | q
      · exact x.low b (List.mem_append_left _ q)
      · rw [List.mem_singleton] at q; rw [q]; exact n4
    · exact x.low b (List.mem_append_right _ q)
theorem Rel.allocPush (x : Rel P h₀ φ O X L m h) {c : Obj} {o : AO} (hf : c.isFreed = false) (ro : RO P (φ ++ [h.objs.size]) o c) :
    Rel P h₀ (φ ++ [h.objs.size]) (O ++ [o]) X L m (h.push c) :=
  x.alloc (fun _ _ e => Heap.get?_push_of_some _ e) (Nat.le_refl _) (Heap.get?_push_size _ hf) ro
theorem get_snoc (x : Rel P h₀ φ O X L m h) (a : Addr) : (φ ++ [a])[O.length]? = some a := by
  rw [← x.len, List.getElem?_append_right (Nat.le_refl _)]
  simp
theorem Rel.upd (x : Rel P h₀ φ O X L m h) {i : Nat} {a : Addr} {c : Obj} {o : AO} (hi : φ[i]? = some a) (hs : ∀ b, b ≠ a → h'.get? b = h.get? b) (hc : h'.get? a = some c) (ro : RO P φ o c) :
    Rel P h₀ φ (O.set i o) X L m h' := by
  obtain ⟨cs, fa, hl, N⟩ := x.ex
  obtain ⟨aL, a0, _⟩ := x.at_ hi
  obtain ⟨hlt, ei⟩ := List.getElem?_eq_some_iff.mp hi
  have nd := x.nd
  have ndφ : φ.Nodup := (List.nodup_append.mp nd).1
  refine ⟨⟨?_, ?_, x.F.above⟩, ⟨cs.set i c, fa.set i ro, by simp [hl], ?_⟩, nd, x.low⟩
  · obtain ⟨oL, es, ep, hL, r⟩ := x.F.ns
    exact ⟨oL, es, ep, (hs L (Ne.symm aL)).trans hL, r⟩
  · intro b o e
    rw [hs b (fun q => by rw [q, a0] at e; cases e)]
    exact x.F.keep b o e
  · intro p hp
    rcases List.mem_append.mp hp with q | q
    · obtain ⟨j, hj⟩ := List.mem_iff_getElem?.mp q
      have hj' : φ[j]? = some p.1 ∧ (cs.set i c)[j]? = some p.2 := by
        rw [List.getElem?_zip_eq_some] at hj
        exact hj
      by_cases hji : j = i
      · subst hji
        have e1 : p.1 = a := by rw [hi] at hj'; exact (Option.some.inj hj'.1).symm
        have e2 : p.2 = c := by
          have := hj'.2
          rw [List.getElem?_set_self (by omega)] at this
          exact (Option.some.inj this).symm
        rw [e1, e2]
        exact ⟨hc, aL, a0⟩
      · have e2 : cs[j]? = some p.2 := by rw [← hj'.2, List.getElem?_set_ne (Ne.symm hji)]
        have hm : (p.1, p.2) ∈ φ.zip cs := List.mem_iff_getElem?.mpr ⟨j, by rw [List.getElem?_zip_eq_some]; exact ⟨hj'.1, e2⟩⟩
        have Np := N p (List.mem_append_left _ hm)
        refine ⟨(hs p.1 fun q => hji ?_).trans Np.1, Np.2⟩
        obtain ⟨h1, e1⟩ := List.getElem?_eq_some_iff.mp hj'.1
        rcases Nat.lt_trichotomy j i with r | r | r
        · exact absurd (e1.trans (q.trans ei.symm)) (List.pairwise_iff_getElem.mp ndφ j i h1 hlt r)
        · exact r
        · exact absurd (e1.trans (q.trans ei.symm)).symm (List.pairwise_iff_getElem.mp ndφ i j hlt h1 r)
    · have Np := N p (List.mem_append_right _ q)
      refine ⟨(hs p.1 fun e => ?_).trans Np.1, Np.2⟩
      exact (List.nodup_append.mp nd).2.2 a (List.mem_iff_getElem?.mpr ⟨i, hi⟩) p.1 (List.mem_map_of_mem q) e.symm
theorem Rel.setLocal (x : Rel P h₀ φ O X L m h) {m' : Str → Option Value} (hn : h'.Ns L m') (hs : Heap.SameBut L h h') : Rel P h₀ φ O X L m' h' := by
  obtain ⟨cs, fa, hl, N⟩ := x.ex
  exact ⟨x.F.set hn hs, ⟨cs, fa, hl, N.set hs⟩, x.nd, x.low⟩
theorem Rel.pushX (x : Rel P h₀ φ O X L m h) {a : Addr} {c : Obj} (k : ∀ b o, h.get? b = some o → h'.get? b = some o) (ha : h.objs.size ≤ a) (hc : h'.get? a = some c) :
    Rel P h₀ φ O ((a, c) :: X) L m h' := by
  have x' := x.keeps k
  obtain ⟨n1, n2, n3, n4⟩ := x.newFrame ha
  obtain ⟨cs, fa, hl, N⟩ := x'.ex
  refine ⟨x'.F, ⟨cs, fa, hl, ?_⟩, ?_, fun b hb => ?_⟩
  · intro p hp
    rcases List.mem_append.mp hp with q | q
    · exact N p (List.mem_append_left _ q)
    · rcases List.mem_cons.mp q with rfl | q
      · exact ⟨hc, n1, n2⟩
      · exact N p (List.mem_append_right _ q)
  · have e : (φ ++ ((a, c) :: X).map (·.1)).Perm (a :: (φ ++ X.map (·.1))) := by
      rw [List.map_cons]
      exact List.perm_middle
    exact e.nodup_iff.mpr (List.nodup_cons.mpr ⟨n3, x.nd⟩)
  · rcases List.mem_append.mp hb with q | q
    · exact x.low b (List.mem_append_left _ q)
    · rw [List.map_cons] at q
      rcases List.mem_cons.mp q with q | q
      · rw [q]; exact n4
      · exact x.low b (List.mem_append_right _ q)
theorem Rel.popX {p : Addr × Obj} (x : Rel P h₀ φ O (p :: X) L m h) : Rel P h₀ φ O X L m h := by
  obtain ⟨cs, fa, hl, N⟩ := x.ex
  refine ⟨x.F, ⟨cs, fa, hl, fun q hq => N q ?_⟩, ?_, fun b hb => x.low b (by
    rcases List.mem_append.mp hb with q | q
    · exact List.mem_append_left _ q
    · exact List.mem_append_right _ (by rw [List.map_cons]; exact .tail _ q))⟩
  · rcases List.mem_append.mp hq with r | r
    · exact List.mem_append_left _ r
    · exact List.mem_append_right _ (.tail _ r)
  · have := x.nd
    rw [List.map_cons] at this
    exact (List.perm_middle.nodup_iff.mp this).of_cons
theorem Rel.dropX {Y : List (Addr × Obj)} (x : Rel P h₀ φ O (Y ++ X) L m h) : Rel P h₀ φ O X L m h := by
  induction Y with
  | nil => exact x
  | cons p r ih => exact ih x.popX
theorem Rel.toLedger {a : Addr} {c : Obj} {o : AO} (x : Rel P h₀ φ O ((a, c) :: X) L m h) (ro : RO P (φ ++ [a]) o c) : Rel P h₀ (φ ++ [a]) (O ++ [o]) X L m h := by
  obtain ⟨cs, fa, hl, N⟩ := x.ex
  have A := N (a, c) (by simp)
  refine ⟨x.F, ⟨cs ++ [c], ?_, by simp [hl], ?_⟩, ?_, by simpa [List.append_assoc] using x.low⟩
  · exact (fa.mono fun _ _ r => r.mono (List.prefix_append _ _)).append (.cons ro .nil)
  · rw [zip_snoc hl]
    intro p hp
    rcases List.mem_append.mp hp with q | q
    · rcases List.mem_append.mp q with q | q
      · exact N p (List.mem_append_left _ q)
      · rw [List.mem_singleton] at q
        subst q
        exact A
    · exact N p (List.mem_append_right _ (.tail _ q))
  · have := x.nd
    rw [List.map_cons] at this
    simpa [List.append_assoc] using this
theorem Rel.enter (x : Rel P h₀ φ O X L m h) {L' : Addr} {m' : Str → Option Value} {Y : List (Addr × Obj)} (k : ∀ b o, h.get? b = some o → h'.get? b = some o) (hn : h'.Ns L' m') (hL' : h.objs.size ≤ L')
    (hY : ∀ p ∈ Y, h'.get? p.1 = some p.2 ∧ L' < p.1) (hYn : (Y.map (·.1)).Nodup) :
    ∃ oL, h.get? L = some oL ∧ (∀ g : Heap, g.get? L = some oL → g.Ns L m) ∧ Rel P h₀ φ O (Y ++ (L, oL) :: X) L' m' h' := by
  obtain ⟨oL, es, ep, hL, r⟩ := x.F.ns
  refine ⟨oL, hL, fun g hg => ⟨oL, es, ep, hg, r⟩, ?_⟩
  obtain ⟨cs, fa, hl, N⟩ := x.ex
  have L0 : h₀.get? L = none := Heap.get?_none_of_le x.F.above
  have old : ∀ {b o}, h.get? b = some o → b < L' := fun e => Nat.lt_of_lt_of_le (Heap.lt_size e) hL'
  have base : ∀ b, L' ≤ b → h₀.get? b = none := fun b hb => by
    cases q : h₀.get? b with
    | none => rfl
    | some o => exact absurd (old (x.F.keep _ _ q)) (Nat.not_lt.mpr hb)
  have big : h₀.objs.size ≤ L' := Nat.le_trans (Nat.le_trans x.F.above (Nat.le_of_lt (Heap.lt_size hL))) hL'
  refine ⟨⟨hn, fun b o e => k _ _ (x.F.keep b o e), big⟩, ⟨cs, fa, hl, ?_⟩, ?_, fun b hb => ?_⟩
  · intro p hp
    rcases List.mem_append.mp hp with q | q
    · have Np := N p (List.mem_append_left _ q)
      exact ⟨k _ _ Np.1, Nat.ne_of_lt (old Np.1), Np.2.2⟩
    · rcases List.mem_append.mp q with q | q
      · exact ⟨(hY p q).1, Nat.ne_of_gt (hY p q).2, base _ (Nat.le_of_lt (hY p q).2)⟩
      · rcases List.mem_cons.mp q with rfl | q
        · exact ⟨k _ _ hL, Nat.ne_of_lt (old hL), L0⟩
        · have Np := N p (List.mem_append_right _ q)
          exact ⟨k _ _ Np.1, Nat.ne_of_lt (old Np.1), Np.2.2⟩
  · have nd := x.nd
    have nL : L ∉ φ ++ X.map (·.1) := fun q => by
      rcases List.mem_append.mp q with q | q
      · obtain ⟨i, hi⟩ := List.mem_iff_getElem?.mp q
        exact (x.at_ hi).1 rfl
      · obtain ⟨p, hp, e⟩ := List.mem_map.mp q
        exact (x.raw hp).2.1 e
    have below : ∀ b ∈ φ ++ X.map (·.1), b < L' := fun b hb => by
      obtain ⟨c, hc⟩ := x.known hb
      exact old hc
    have e : (φ ++ (Y ++ (L, oL) :: X).map (·.1)).Perm (Y.map (·.1) ++ (L :: (φ ++ X.map (·.1)))) := by
      rw [List.map_append, List.map_cons, ← List.append_assoc]
      refine (List.Perm.append_right _ List.perm_append_comm).trans ?_
      rw [List.append_assoc]
      exact List.Perm.append_left _ List.perm_middle
    refine e.nodup_iff.mpr (List.nodup_append.mpr ⟨hYn, List.nodup_cons.mpr ⟨nL, nd⟩, ?_⟩)
    intro a ha b hb hab
    obtain ⟨p, hp, rfl⟩ := List.mem_map.mp ha
    have h1 := (hY p hp).2
    rcases List.mem_cons.mp hb with rfl | hb
    · rw [hab] at h1; exact absurd (old hL) (Nat.not_lt.mpr (Nat.le_of_lt h1))
    · rw [hab] at h1; exact absurd (below _ hb) (Nat.not_lt.mpr (Nat.le_of_lt h1))
  · rcases List.mem_append.mp hb with q | q
    · exact x.low b (List.mem_append_left _ q)
    · rw [List.map_append, List.map_cons] at q
      rcases List.mem_append.mp q with q | q
      · obtain ⟨p, hp, rfl⟩ := List.mem_map.mp q
        exact Nat.le_trans big (Nat.le_of_lt (hY p hp).2)
      · rcases List.mem_cons.mp q with q | q
        · rw [q]; exact x.F.above
        · exact x.low b (List.mem_append_right _ q)
theorem Rel.leave {Y : List (Addr × Obj)} {oL : Obj} {L' : Addr} {m' : Str → Option Value} (x : Rel P h₀ φ O (Y ++ (L, oL) :: X) L' m' h) (hn : ∀ g : Heap, g.get? L = some oL → g.Ns L m) (ha : h₀.objs.size ≤ L) : Rel P h₀ φ O X L m h := by
  have A := x.raw (p := (L, oL)) (by simp)
  have y := x.dropX
  obtain ⟨cs, fa, hl, N⟩ := y.ex
  have nd := y.nd
  have nL : L ∉ φ ++ X.map (·.1) := by
    rw [List.map_cons] at nd
    exact (List.nodup_cons.mp (List.perm_middle.nodup_iff.mp nd)).1
  refine ⟨⟨hn _ A.1, x.F.keep, ha⟩, ⟨cs, fa, hl, fun p hp => ?_⟩, y.popX.nd, y.popX.low⟩
  have hp' : p ∈ φ.zip cs ++ (L, oL) :: X := by
    rcases List.mem_append.mp hp with q | q
    · exact List.mem_append_left _ q
    · exact List.mem_append_right _ (.tail _ q)
  refine ⟨(N p hp').1, fun e => nL ?_, (N p hp').2.2⟩
  rw [← e]
  rcases List.mem_append.mp hp with q | q
  · obtain ⟨j, hj⟩ := List.mem_iff_getElem?.mp q
    have hj' : φ[j]? = some p.1 ∧ cs[j]? = some p.2 := by
      rw [List.getElem?_zip_eq_some] at hj
      exact hj
    exact List.mem_append_left _ (List.mem_iff_getElem?.mpr ⟨j, hj'.1⟩)
  · exact List.mem_append_right _ (List.mem_map_of_mem q)
end
end Vm
end
section
namespace Vm
open PySem PySem.W PyProof.Rows PySem.Calls PySem.SeqAt
structure Base (prog : Program) (w : World) (h₀ : Heap) (tb : Tb) (K : Frag) : Prop where
  kin : K.In h₀
  nolim : h₀.NoLimit
  names : ∀ x v, tb.glob x = some v → ∃ u, RV [] v u ∧ (x == ("__debug__" : Str)) = false ∧ ∀ (A : Around) (E : Value → Shared → Prop) (s : Shared) (Q : Value → Shared → Prop) (env : Env),
    (∀ b o, h₀.get? b = some o → s.heap.get? b = some o) → env.globals = mainGlobals → env.builtins = builtinsNs → env.scope.kind = .function → env.kindOf x = some .globalImplicit → Q u s → wpAny (model prog w) A (loadName env x) Q E s
  seqs : ∀ a b xs, tb.seqs.lookup a = some (b, xs) → ∃ vs : List Value, Fa (RV []) xs vs ∧ (match b with | true => h₀.IsList a vs.toArray | false => h₀.IsTuple a vs.toArray)
  fields : ∀ C fs nm, tb.fields.lookup C = some fs → fs.contains nm = true → plainGet K C nm = true ∧ hasDictIn K C = true ∧ (∃ attr, findIn K (.ref C) nm = some attr ∧ noGet K attr = true) ∧
    findIn K (.ref C) "__setattr__" = some (some (.builtin "object.__setattr__")) ∧ plainOver K C = true ∧ takerIn K C nm = some none
  meths : ∀ C ms nm f, tb.meths.lookup C = some ms → ms.lookup nm = some f → plainGet K C nm = true ∧ findIn K (.ref C) nm = some (some (.ref f)) ∧ isFn K (.ref f) = true ∧ keepIn K (.ref f) = true
  clss : ∀ C f, tb.clss.lookup C = some (some f) → makesIn K C = true ∧ findIn K (.ref C) "__init__" = some (some (.ref f)) ∧ typeIn K (.ref f) = some (.type "function") ∧ keepIn K (.ref C) = true
section
variable {A : Around} {s : Shared}
theorem rc_bytes {b c : Array UInt8} {t u : Tok} : RcAt A s (.bytes b t) (.bytes c u) (b.toList == c.toList) := fun prog w _ _ h => eq_bytes (prog := prog) (w := w) h
theorem rcNe_bytes {b c : Array UInt8} {t u : Tok} : RcNeAt A s (.bytes b t) (.bytes c u) (!(b.toList == c.toList)) := fun prog w _ _ h => ne_bytes (prog := prog) (w := w) h
theorem eqAt_bytes {b c : Array UInt8} {t u : Tok} : EqAt A s (.bytes b t) (.bytes c u) (b.toList == c.toList) := fun prog w E Q hq => by
  unfold eqBool
  refine wpAny_holding ?_
  refine wpAny_ite_split (fun hab => ?_) (fun _ => ?_)
  · have e := eq_of_beq hab
    injection e with e1 _
    subst e1
    rw [beq_self_eq_true] at hq
    exact wpAny_bind (wpAny_rule (wpAny_pure hq))
  · exact wpAny_bind (rc_bytes prog w E _ (wpAny_truthy_bool hq))
theorem bInts_inj {b c : Array UInt8} : KBw.bInts b = KBw.bInts c ↔ b.toList = c.toList := by
  unfold KBw.bInts
  constructor
  · intro h
    generalize b.toList = x at h ⊢
    generalize c.toList = y at h ⊢
    induction x generalizing y with
    | nil => cases y with
      | nil => rfl
      | cons _ _ => simp at h
    | cons a r ih => cases y with
      | nil => simp at h
      | cons d q =>
        simp only [List.map_cons, List.cons.injEq] at h
        have e : a.toNat = d.toNat := by omega
        rw [UInt8.toNat_inj.mp e, ih q h.2]
  · intro h; rw [h]
theorem bEq_is {b c : Array UInt8} : bEq (KBw.bInts b) (KBw.bInts c) = (b.toList == c.toList) := by
  unfold bEq
  by_cases h : b.toList = c.toList
  · rw [decide_eq_true (bInts_inj.mpr h), h]; simp
  · rw [decide_eq_false (fun q => h (bInts_inj.mp q))]
    exact (beq_eq_false_iff_ne.mpr h).symm
theorem iEq_is (a b : Int) : iEq a b = (a == b) := by
  unfold iEq; by_cases h : a = b <;> simp [h]
theorem sEq_is (a b : Str) : sEq a b = (a == b) := by
  unfold sEq; by_cases h : a = b <;> simp [h]
section
variable {D : Rs → Prop}
theorem optT_of {α : Type} {o : Option α} {k : α → Tr} (h : (optT o k).holds D) : ∃ a, o = some a ∧ (k a).holds D := by
  cases o with
  | none => exact h.elim
  | some a => exact ⟨a, rfl, h⟩
theorem optC_of {α : Type} {o : Option α} {k : α → Tr} {t : Tr} (h : (optC o k t).holds D) : (∃ a, o = some a ∧ (k a).holds D) ∨ o = none ∧ t.holds D := by
  cases o with
  | none => exact .inr ⟨rfl, h⟩
  | some a => exact .inl ⟨a, rfl, h⟩
theorem ifT_of {b : Bool} {t : Tr} (h : (ifT b t).holds D) : b = true ∧ t.holds D := by
  cases b with
  | true => exact ⟨rfl, h⟩
  | false => exact h.elim
theorem intV_of {v : AV} {k : Int → Tr} (h : (intV v k).holds D) : ∃ n, v = .int n ∧ (k n).holds D := by
  cases v with
  | int n => exact ⟨n, rfl, h⟩
  | _ => exact h.elim
theorem strV_of {v : AV} {k : Str → Tr} (h : (strV v k).holds D) : ∃ n, v = .str n ∧ (k n).holds D := by
  cases v with
  | str n => exact ⟨n, rfl, h⟩
  | _ => exact h.elim
theorem bytesV_of {v : AV} {k : List Int → Tr} (h : (bytesV v k).holds D) : ∃ n, v = .bytes n ∧ (k n).holds D := by
  cases v with
  | bytes n => exact ⟨n, rfl, h⟩
  | _ => exact h.elim
theorem objV_of {O : Ost} {v : AV} {k : Nat → AO → Tr} (h : (objV O v k).holds D) : ∃ i o, v = .obj i ∧ O[i]? = some o ∧ (k i o).holds D := by
  cases v with
  | obj i => obtain ⟨o, e, h⟩ := h; exact ⟨i, o, rfl, e, h⟩
  | _ => exact h.elim
theorem listV_of {O : Ost} {v : AV} {k : Nat → List AV → Tr} (h : (listV O v k).holds D) : ∃ i xs, v = .obj i ∧ O[i]? = some (.list xs) ∧ (k i xs).holds D := by
  obtain ⟨i, o, e, e1, h⟩ := objV_of (k := fun i o => match o with | .list xs => k i xs | _ => .fail) h
  cases o with
  | list xs => exact ⟨i, xs, e, e1, h⟩
  | _ => exact h.elim
theorem tupV_of {O : Ost} {v : AV} {k : Nat → List AV → Tr} (h : (tupV O v k).holds D) : ∃ i xs, v = .obj i ∧ O[i]? = some (.tuple xs) ∧ (k i xs).holds D := by
  obtain ⟨i, o, e, e1, h⟩ := objV_of (k := fun i o => match o with | .tuple xs => k i xs | _ => .fail) h
  cases o with
  | tuple xs => exact ⟨i, xs, e, e1, h⟩
  | _ => exact h.elim
theorem barrV_of {O : Ost} {v : AV} {k : Nat → List Int → Tr} (h : (barrV O v k).holds D) : ∃ i xs, v = .obj i ∧ O[i]? = some (.barr xs) ∧ (k i xs).holds D := by
  obtain ⟨i, o, e, e1, h⟩ := objV_of (k := fun i o => match o with | .barr xs => k i xs | _ => .fail) h
  cases o with
  | barr xs => exact ⟨i, xs, e, e1, h⟩
  | _ => exact h.elim
theorem dictV_of {O : Ost} {v : AV} {k : Nat → List (Str × AV) → Tr} (h : (dictV O v k).holds D) : ∃ i xs, v = .obj i ∧ O[i]? = some (.dict xs) ∧ (k i xs).holds D := by
  obtain ⟨i, o, e, e1, h⟩ := objV_of (k := fun i o => match o with | .dict xs => k i xs | _ => .fail) h
  cases o with
  | dict xs => exact ⟨i, xs, e, e1, h⟩
  | _ => exact h.elim
theorem oneV_of {vs : List AV} {k : AV → Tr} (h : (oneV vs k).holds D) : ∃ v, vs = [v] ∧ (k v).holds D := by
  cases vs with
  | nil => exact h.elim
  | cons v r => cases r with
    | nil => exact ⟨v, rfl, h⟩
    | cons _ _ => exact h.elim
theorem twoV_of {vs : List AV} {k : AV → AV → Tr} (h : (twoV vs k).holds D) : ∃ v w, vs = [v, w] ∧ (k v w).holds D := by
  cases vs with
  | nil => exact h.elim
  | cons v r => obtain ⟨w, rfl, h⟩ := oneV_of (vs := r) h; exact ⟨v, w, rfl, h⟩
theorem single_of {α : Type} {vs : List α} {k : α → Tr} (h : (single vs k).holds D) : ∃ v, vs = [v] ∧ (k v).holds D := by
  cases vs with
  | nil => exact h.elim
  | cons v r => cases r with
    | nil => exact ⟨v, rfl, h⟩
    | cons _ _ => exact h.elim
theorem refSeq_of {tb : Tb} {v : Value} {k : Addr → Bool → List AV → Tr} (h : (refSeq tb v k).holds D) : ∃ a b xs, v = .ref a ∧ tb.seqs.lookup a = some (b, xs) ∧ (k a b xs).holds D := by
  cases v with
  | ref a => obtain ⟨p, e, h⟩ := optT_of (o := tb.seqs.lookup a) h; exact ⟨a, p.1, p.2, rfl, e, h⟩
  | _ => exact h.elim
theorem addT_of {op : Operator} {t : Tr} (h : (addT op t).holds D) : op = .Add ∧ t.holds D := by
  cases op with
  | Add => exact ⟨rfl, h⟩
  | _ => exact h.elim
end
section
variable {φ : List Addr} {u : Value}
theorem RV.none_inv (r : RV φ .none u) : u = .none := by cases r; rfl
theorem RV.bool_inv {b : Bool} (r : RV φ (.bool b) u) : u = .bool b := by cases r; rfl
theorem RV.int_inv {n : Int} (r : RV φ (.int n) u) : ∃ t, u = .int n t := by cases r; exact ⟨_, rfl⟩
theorem RV.str_inv {n : Str} (r : RV φ (.str n) u) : ∃ t, u = .str n t := by cases r; exact ⟨_, rfl⟩
theorem RV.bytes_inv {b : List Int} (r : RV φ (.bytes b) u) : ∃ c t, u = .bytes c t ∧ KBw.bInts c = b := by cases r with | bytes t e => exact ⟨_, t, rfl, e⟩
theorem RV.val_inv {v : Value} (r : RV φ (.val v) u) : u = v := by cases r; rfl
theorem RV.obj_inv {i : Nat} (r : RV φ (.obj i) u) : ∃ a, u = .ref a ∧ φ[i]? = some a := by cases r with | obj e => exact ⟨_, rfl, e⟩
end
noncomputable def eqVal : Value → Value → Bool
  | .int a _, v => (match v with | .int b _ => a == b | _ => false)
  | .str a _, v => (match v with | .str b _ => a == b | _ => false)
  | .bytes a _, v => (match v with | .bytes b _ => a.toList == b.toList | _ => false)
  | .none, v => (match v with | .none => true | _ => false)
  | _, _ => false
theorem eqS_at {φ : List Addr} {a b : AV} {u v : Value} {c : Bool} (ra : RV φ a u) (rb : RV φ b v) (h : eqS a b = some c) : (RcAt A s u v c ∧ RcNeAt A s u v (!c) ∧ EqAt A s u v c) ∧ eqVal u v = c := by
  cases a with
  | none =>
    cases ra.none_inv
    cases b with
    | none => cases rb.none_inv; cases h; exact ⟨⟨RcAt.none_none, RcNeAt.none_none, EqAt.same _⟩, rfl⟩
    | int i => obtain ⟨t, rfl⟩ := rb.int_inv; cases h; exact ⟨⟨RcAt.none_int _ _, RcNeAt.none_int _ _, EqAt.none_int _ _⟩, rfl⟩
    | str i => obtain ⟨t, rfl⟩ := rb.str_inv; cases h; exact ⟨⟨RcAt.none_str _ _, RcNeAt.none_str _ _, EqAt.none_str _ _⟩, rfl⟩
    | _ => nomatch h
  | int i =>
    obtain ⟨t, rfl⟩ := ra.int_inv
    cases b with
    | none => cases rb.none_inv; cases h; exact ⟨⟨RcAt.int_none _ _, RcNeAt.int_none _ _, EqAt.int_none _ _⟩, rfl⟩
    | int j => obtain ⟨t', rfl⟩ := rb.int_inv; cases h; rw [iEq_is]; exact ⟨⟨RcAt.int_int _ _ _ _, RcNeAt.int_int _ _ _ _, EqAt.int_int _ _ _ _⟩, rfl⟩
    | _ => nomatch h
  | str i =>
    obtain ⟨t, rfl⟩ := ra.str_inv
    cases b with
    | none => cases rb.none_inv; cases h; exact ⟨⟨RcAt.str_none _ _, RcNeAt.str_none _ _, EqAt.str_none _ _⟩, rfl⟩
    | str j => obtain ⟨t', rfl⟩ := rb.str_inv; cases h; rw [sEq_is]; exact ⟨⟨RcAt.str_str _ _ _ _, RcNeAt.str_str _ _ _ _, EqAt.str_str _ _ _ _⟩, rfl⟩
    | _ => nomatch h
  | bytes x =>
    obtain ⟨d, t, rfl, rfl⟩ := ra.bytes_inv
    cases b with
    | bytes y => obtain ⟨d', t', rfl, rfl⟩ := rb.bytes_inv; cases h; rw [bEq_is]; exact ⟨⟨rc_bytes, rcNe_bytes, eqAt_bytes⟩, rfl⟩
    | _ => nomatch h
  | _ => nomatch h
theorem oB_some {f : Bool → Bool → Bool} {x y : Option Bool} {c : Bool} (h : oB f x y = some c) : ∃ a b, x = some a ∧ y = some b ∧ c = f a b := by
  cases x with
  | none => nomatch h
  | some a => cases y with
    | none => nomatch h
    | some b => exact ⟨a, b, rfl, rfl, (Option.some.inj h).symm⟩
theorem eqAll_at {φ : List Addr} {as : List AV} {us : List Value} (f : Fa (RV φ) as us) : ∀ {bs : List AV} {vs : List Value} {c : Bool}, Fa (RV φ) bs vs → as.length = bs.length → eqAll as bs = some c →
    ∃ e : Nat → Bool, (∀ j (h1 : j < us.length) (h2 : j < vs.length), EqAt A s us[j] vs[j] (e j)) ∧ (List.range us.length).all e = c := by
  induction f with
  | nil =>
    intro bs vs c g hl h
    cases bs with
    | nil => cases h; exact ⟨fun _ => true, fun j h1 _ => absurd h1 (Nat.not_lt_zero _), rfl⟩
    | cons _ _ => nomatch hl
  | @cons a u as us ra r ih =>
    intro bs vs c g hl h
    cases bs with
    | nil => nomatch hl
    | cons b bs =>
      obtain ⟨v, vs, rfl, rb, r'⟩ := g.cons_inv
      obtain ⟨x, y, h1, h2, rfl⟩ := oB_some (f := and) h
      obtain ⟨e, he, hc⟩ := ih r' (Nat.succ.inj hl) h2
      refine ⟨fun j => j.rec x fun j _ => e j, fun j => ?_, ?_⟩
      · cases j with
        | zero => exact fun _ _ => (eqS_at ra rb h1).1.2.2
        | succ j => exact fun j1 j2 => he j (Nat.lt_of_succ_lt_succ j1) (Nat.lt_of_succ_lt_succ j2)
      · rw [List.length_cons, List.range_succ_eq_map, List.all_cons, List.all_map, ← hc]
        rfl
theorem eqAll_len {as : List AV} : ∀ {bs : List AV} {c : Bool}, as.length ≠ bs.length → eqAll as bs = some c → c = false := by
  induction as with
  | nil =>
    intro bs c hl h
    cases bs with
    | nil => exact absurd rfl hl
    | cons _ _ => exact (Option.some.inj h).symm
  | cons a as ih =>
    intro bs c hl h
    cases bs with
    | nil => exact (Option.some.inj h).symm
    | cons b bs =>
      obtain ⟨x, y, _, h2, rfl⟩ := oB_some (f := and) h
      rw [ih (fun q => hl (congrArg Nat.succ q)) h2, Bool.and_false]
theorem inAll_at {φ : List Addr} {a : AV} {u : Value} (ra : RV φ a u) {bs : List AV} {vs : List Value} (f : Fa (RV φ) bs vs) : ∀ {c : Bool}, inAll a bs = some c →
    (∀ y, y ∈ vs → EqAt A s y u (eqVal y u)) ∧ vs.any (fun y => eqVal y u) = c := by
  induction f with
  | nil => exact fun h => ⟨fun y hy => (nomatch hy), Option.some.inj h⟩
  | cons rb r ih =>
    intro c h
    obtain ⟨x, d, h1, h2, rfl⟩ := oB_some (f := or) h
    obtain ⟨h3, h4⟩ := ih h2
    obtain ⟨q, e⟩ := eqS_at (A := A) (s := s) rb ra h1
    refine ⟨fun y hy => ?_, by rw [List.any_cons, h4, e]⟩
    rcases List.mem_cons.mp hy with rfl | hy
    · rw [e]; exact q.2.2
    · exact h3 y hy
end
section
variable {prog : Program} {w : World} {tb : Tb} {K : Frag} {A : Around} {E : Value → Shared → Prop} {s : Shared} {P : Params} {h₀ : Heap} {φ : List Addr} {O : Ost} {X : List (Addr × Obj)} {L : Addr} {m : Str → Option Value} {D : Rs → Prop}
theorem Rel.at_obj (R : Rel P h₀ φ O X L m s.heap) {i : Nat} {o : AO} {u : Value} (e : O[i]? = some o) (r : RV φ (.obj i) u) : ∃ a c, u = .ref a ∧ φ[i]? = some a ∧ s.heap.get? a = some c ∧ RO P φ o c := by
  cases r with
  | obj hi =>
    obtain ⟨a, c, h1, h2, h3⟩ := R.obj e
    rw [hi] at h1
    cases h1
    exact ⟨_, c, rfl, hi, h2, h3⟩
theorem Rel.isList (R : Rel P h₀ φ O X L m s.heap) {i : Nat} {xs : List AV} {u : Value} (e : O[i]? = some (.list xs)) (r : RV φ (.obj i) u) : ∃ a vs, u = .ref a ∧ φ[i]? = some a ∧ s.heap.IsList a vs.toArray ∧ Fa (RV φ) xs vs := by
  obtain ⟨a, c, rfl, hi, hc, ro⟩ := R.at_obj e r
  cases ro with
  | list h3 => exact ⟨a, _, rfl, hi, ⟨_, hc, rfl, _, rfl⟩, h3⟩
theorem Rel.isPlain (R : Rel P h₀ φ O X L m s.heap) {i : Nat} {xs : List AV} {u : Value} (e : O[i]? = some (.list xs)) (r : RV φ (.obj i) u) : ∃ a vs, u = .ref a ∧ φ[i]? = some a ∧ s.heap.PlainList a vs.toArray ∧ Fa (RV φ) xs vs := by
  obtain ⟨a, c, rfl, hi, hc, ro⟩ := R.at_obj e r
  cases ro with
  | list h3 => exact ⟨a, _, rfl, hi, ⟨_, hc⟩, h3⟩
theorem Rel.isTuple (R : Rel P h₀ φ O X L m s.heap) {i : Nat} {xs : List AV} {u : Value} (e : O[i]? = some (.tuple xs)) (r : RV φ (.obj i) u) : ∃ a vs, u = .ref a ∧ φ[i]? = some a ∧ s.heap.IsTuple a vs.toArray ∧ Fa (RV φ) xs vs := by
  obtain ⟨a, c, rfl, hi, hc, ro⟩ := R.at_obj e r
  cases ro with
  | tuple h3 => exact ⟨a, _, rfl, hi, ⟨_, hc, rfl, _, rfl⟩, h3⟩
theorem Rel.isBarr (R : Rel P h₀ φ O X L m s.heap) {i : Nat} {b : List Int} {u : Value} (e : O[i]? = some (.barr b)) (r : RV φ (.obj i) u) : ∃ a c, u = .ref a ∧ φ[i]? = some a ∧ s.heap.get? a = some { cls := .type "bytearray", data := .bytearray c } ∧ KBw.bInts c = b := by
  obtain ⟨a, c, rfl, hi, hc, ro⟩ := R.at_obj e r
  cases ro with
  | barr h1 => exact ⟨a, _, rfl, hi, hc, h1⟩
structure BarrEq (prog : Program) (w : World) : Prop where
  eq : ∀ {A : Around} {E : Value → Shared → Prop} {s : Shared} {a : Addr} {b c : Array UInt8} {t : Tok} {Q : Value → Shared → Prop}, A.units + 64 < cLine → s.heap.get? a = some { cls := .type "bytearray", data := .bytearray b } →
    Q (.bool (b.toList == c.toList)) s → wpAny (model prog w) A (compareOp .Eq (.ref a) (.bytes c t)) Q E s
noncomputable def AtEq (A : Around) (s : Shared) (u v : Value) (c : Bool) : Prop := RcAt A s u v c ∧ RcNeAt A s u v (!c)
theorem lists_eq {a b : Addr} {us vs : List Value} {xs ys : List AV} {c : Bool} (la : s.heap.IsList a us.toArray) (lb : s.heap.IsList b vs.toArray) (fa : Fa (RV φ) xs us) (fb : Fa (RV φ) ys vs) (hc : eqAll xs ys = some c) (hu' : A.units < cLine) : AtEq A s (.ref a) (.ref b) c := by
  by_cases hl : xs.length = ys.length
  · obtain ⟨e, he, hce⟩ := eqAll_at (A := A.in1) (s := s) fa fb hl hc
    have hsz : us.toArray.size = vs.toArray.size := fa.length.symm.trans (hl.trans fb.length)
    subst hce
    exact ⟨RcAt.lists la lb hsz hu' he, RcNeAt.lists la lb hsz hu' he⟩
  · cases eqAll_len hl hc
    have hsz : (us.toArray.size != vs.toArray.size) = true := bne_iff_ne.mpr fun q => hl (fa.length.trans (q.trans fb.length.symm))
    exact ⟨RcAt.lists_lengths la lb hsz hu', RcNeAt.lists_lengths la lb hsz hu'⟩
theorem tuples_eq {a b : Addr} {us vs : List Value} {xs ys : List AV} {c : Bool} (la : s.heap.IsTuple a us.toArray) (lb : s.heap.IsTuple b vs.toArray) (fa : Fa (RV φ) xs us) (fb : Fa (RV φ) ys vs) (hl : xs.length = ys.length) (hc : eqAll xs ys = some c) (hu' : A.units < cLine) : AtEq A s (.ref a) (.ref b) c := by
  obtain ⟨e, he, hce⟩ := eqAll_at (A := A.in1) (s := s) fa fb hl hc
  have hsz : us.length = vs.length := fa.length.symm.trans (hl.trans fb.length)
  have q1 := RcAt.tuples la lb hu' he
  have q2 := RcNeAt.tuples la lb hu' he
  simp only [List.size_toArray, ← hsz, Nat.min_self, hce, beq_self_eq_true, Bool.and_true] at q1 q2
  exact ⟨q1, q2⟩
noncomputable def EqOut (A : Around) (s : Shared) (a b : AV) (u v : Value) (c : Bool) : Prop := AtEq A s u v c ∨ isBarrEq a b = true ∧ ∃ x d e t, u = .ref x ∧ v = .bytes e t ∧ s.heap.get? x = some { cls := .type "bytearray", data := .bytearray d } ∧ c = (d.toList == e.toList)
theorem eqTup {i : Nat} {xs : List AV} {b : AV} {u v : Value} {k : Bool → Tr} (ex : O[i]? = some (.tuple xs)) (h : (tupV O b fun _ ys => gd (xs.length = ys.length) (optT (eqAll xs ys) k)).holds D) (R : Rel P h₀ φ O X L m s.heap) (ra : RV φ (.obj i) u) (rb : RV φ b v) (hu' : A.units < cLine) :
    ∃ c, (k c).holds D ∧ EqOut A s (.obj i) b u v c := by
  obtain ⟨j, ys, rfl, ey, hl, h⟩ := tupV_of h
  obtain ⟨c, hc, h⟩ := optT_of h
  obtain ⟨a, us, rfl, _, la, fa⟩ := R.isTuple ex ra
  obtain ⟨b, vs, rfl, _, lb, fb⟩ := R.isTuple ey rb
  exact ⟨c, h, .inl (tuples_eq la lb fa fb hl hc hu')⟩
theorem eqO_sound {i : Nat} {b : AV} {u v : Value} {k : Bool → Tr} (h : (eqO i b O k).holds D) (R : Rel P h₀ φ O X L m s.heap) (ra : RV φ (.obj i) u) (rb : RV φ b v) (hu' : A.units < cLine) :
    ∃ c, (k c).holds D ∧ EqOut A s (.obj i) b u v c := by
  obtain ⟨x, ex, h⟩ := h
  cases x with
  | list xs =>
    obtain ⟨j, ys, rfl, ey, h⟩ := listV_of (v := b) h
    obtain ⟨c, hc, h⟩ := optT_of h
    obtain ⟨a, us, rfl, _, la, fa⟩ := R.isList ex ra
    obtain ⟨b, vs, rfl, _, lb, fb⟩ := R.isList ey rb
    exact ⟨c, h, .inl (lists_eq la lb fa fb hc hu')⟩
  | tuple xs =>
    cases b with
    | none =>
      obtain ⟨a, us, rfl, _, la, fa⟩ := R.isTuple ex ra
      cases rb.none_inv
      exact ⟨false, h, .inl ⟨RcAt.tuple_none la hu', RcNeAt.tuple_none la hu'⟩⟩
    | obj j => exact eqTup ex (b := .obj j) h R ra rb hu'
    | _ => exact h.elim
  | barr d =>
    obtain ⟨e, rfl, h⟩ := bytesV_of (v := b) h
    obtain ⟨a, d', rfl, _, ha, rfl⟩ := R.isBarr ex ra
    obtain ⟨c, t, rfl, rfl⟩ := rb.bytes_inv
    exact ⟨_, h, .inr ⟨rfl, a, d', _, t, rfl, rfl, ha, bEq_is⟩⟩
  | _ => exact h.elim
theorem eqV_sound {a b : AV} {u v : Value} {k : Bool → Tr} (h : (eqV a b O k).holds D) (R : Rel P h₀ φ O X L m s.heap) (ra : RV φ a u) (rb : RV φ b v) (hu : A.units + 64 < cLine) :
    ∃ c, (k c).holds D ∧ EqOut A s a b u v c := by
  have hu' : A.units < cLine := Nat.lt_of_le_of_lt (Nat.le_add_right _ _) hu
  by_cases ha : ∃ i, a = .obj i
  · obtain ⟨i, rfl⟩ := ha
    exact eqO_sound h R ra rb hu'
  · by_cases hb : ∃ i, b = .obj i
    · obtain ⟨j, rfl⟩ := hb
      have h' : a = .none ∧ (tupV O (.obj j) fun _ _ => k false).holds D := by
        cases a with
        | none => exact ⟨rfl, h⟩
        | obj i => exact (ha ⟨i, rfl⟩).elim
        | _ => obtain ⟨_, _, _, _, h⟩ := tupV_of (v := .obj j) (O := O) (k := fun _ _ => .fail) h; exact h.elim
      obtain ⟨rfl, h'⟩ := h'
      obtain ⟨_, xs, e, ex, h'⟩ := tupV_of h'
      cases e
      obtain ⟨a, us, rfl, _, la, fa⟩ := R.isTuple ex rb
      cases ra.none_inv
      exact ⟨false, h', .inl ⟨RcAt.none_tuple la hu', RcNeAt.none_tuple la hu'⟩⟩
    · have h' : (optT (eqS a b) k).holds D := by
        cases a with
        | obj i => exact (ha ⟨i, rfl⟩).elim
        | _ => cases b with
          | obj i => exact (hb ⟨i, rfl⟩).elim
          | _ => exact h
      obtain ⟨c, hc, h'⟩ := optT_of h'
      exact ⟨c, h', .inl ⟨(eqS_at ra rb hc).1.1, (eqS_at ra rb hc).1.2.1⟩⟩
theorem Base.seqAt (B : Base prog w h₀ tb K) (k : ∀ b o, h₀.get? b = some o → s.heap.get? b = some o) {a : Addr} {b : Bool} {xs : List AV} (e : tb.seqs.lookup a = some (b, xs)) :
    ∃ vs : List Value, Fa (RV φ) xs vs ∧ (match b with | true => s.heap.IsList a vs.toArray | false => s.heap.IsTuple a vs.toArray) := by
  obtain ⟨vs, f, h⟩ := B.seqs a b xs e
  refine ⟨vs, f.mono fun _ _ r => r.mono (List.nil_prefix), ?_⟩
  cases b with
  | true => obtain ⟨o, ho, r⟩ := h; exact ⟨o, k _ _ ho, r⟩
  | false => obtain ⟨o, ho, r⟩ := h; exact ⟨o, k _ _ ho, r⟩
theorem seqV_sound (B : Base prog w h₀ tb K) {b : AV} {v : Value} {k : List AV → Tr} (h : (seqV tb b O k).holds D) (R : Rel P h₀ φ O X L m s.heap) (rb : RV φ b v) :
    ∃ xs a vs, (k xs).holds D ∧ v = .ref a ∧ Fa (RV φ) xs vs ∧ (s.heap.IsList a vs.toArray ∨ s.heap.IsTuple a vs.toArray) := by
  cases b with
  | obj i =>
    obtain ⟨x, ex, h⟩ := h
    cases x with
    | list xs => obtain ⟨a, vs, rfl, _, l, f⟩ := R.isList ex rb; exact ⟨xs, a, vs, h, rfl, f, .inl l⟩
    | tuple xs => obtain ⟨a, vs, rfl, _, l, f⟩ := R.isTuple ex rb; exact ⟨xs, a, vs, h, rfl, f, .inr l⟩
    | _ => exact h.elim
  | val u =>
    obtain ⟨a, c, xs, rfl, e, h⟩ := refSeq_of (tb := tb) (v := u) (k := fun _ _ xs => k xs) h
    obtain ⟨vs, f, l⟩ := B.seqAt (φ := φ) R.keep e
    refine ⟨xs, a, vs, h, rb.val_inv, f, ?_⟩
    cases c with
    | true => exact .inl l
    | false => exact .inr l
  | _ => exact h.elim
theorem intC_of {a b : AV} {u v : Value} {k : Int → Int → Tr} (h : (intC a b k).holds D) (ra : RV φ a u) (rb : RV φ b v) : ∃ x y t t', u = .int x t ∧ v = .int y t' ∧ (k x y).holds D := by
  obtain ⟨x, rfl, h⟩ := intV_of (v := a) h
  obtain ⟨y, rfl, h⟩ := intV_of (v := b) h
  obtain ⟨t, rfl⟩ := ra.int_inv
  obtain ⟨t', rfl⟩ := rb.int_inv
  exact ⟨x, y, t, t', rfl, rfl, h⟩
theorem isNone_of {b : AV} {v : Value} (h : isNone b = true) (rb : RV φ b v) : v = .none := by
  cases b with
  | none => exact rb.none_inv
  | _ => nomatch h
theorem isNoneV_of {a : AV} {u : Value} {k : Bool → Tr} (h : (isNoneV a k).holds D) (ra : RV φ a u) : u = .none ∧ (k true).holds D ∨ plainIs u .none = true ∧ u ≠ .none ∧ (k false).holds D := by
  cases a with
  | none => exact .inl ⟨ra.none_inv, h⟩
  | bool _ => cases ra.bool_inv; exact .inr ⟨rfl, Value.noConfusion, h⟩
  | int _ => obtain ⟨t, rfl⟩ := ra.int_inv; exact .inr ⟨rfl, Value.noConfusion, h⟩
  | str _ => obtain ⟨t, rfl⟩ := ra.str_inv; exact .inr ⟨rfl, Value.noConfusion, h⟩
  | bytes _ => obtain ⟨c, t, rfl, _⟩ := ra.bytes_inv; exact .inr ⟨rfl, Value.noConfusion, h⟩
  | obj _ => obtain ⟨a, rfl, _⟩ := ra.obj_inv; exact .inr ⟨rfl, Value.noConfusion, h⟩
  | val _ => exact h.elim
theorem inV_of (B : Base prog w h₀ tb K) {a b : AV} {u v : Value} {k : Bool → Tr} (h : (seqV tb b O fun xs => .opt (inAll a xs) k).holds D) (R : Rel P h₀ φ O X L m s.heap) (ra : RV φ a u) (rb : RV φ b v) :
    ∃ (c : Bool) (x : Addr) (vs : List Value), (k c).holds D ∧ v = .ref x ∧ (∀ y, y ∈ vs.toArray → EqAt A.in1 s y u (eqVal y u)) ∧ vs.toArray.any (fun y => eqVal y u) = c ∧ (s.heap.IsList x vs.toArray ∨ s.heap.IsTuple x vs.toArray) := by
  obtain ⟨xs, x, vs, h, rfl, f, l⟩ := seqV_sound B h R rb
  obtain ⟨c, hc, h⟩ := h
  obtain ⟨h1, h2⟩ := inAll_at (A := A.in1) (s := s) ra f hc
  exact ⟨c, x, vs, h, rfl, fun y hy => h1 y (List.mem_toArray.mp hy), by rw [← h2]; exact List.any_toArray, l⟩
theorem cmpV_sound (B : Base prog w h₀ tb K) (BE : BarrEq prog w) {op : CmpOp} {a b : AV} {u v : Value} {k : Bool → Tr} {Q : Value → Shared → Prop} (h : (cmpV tb op a b O k).holds D) (R : Rel P h₀ φ O X L m s.heap) (ra : RV φ a u) (rb : RV φ b v)
    (hu : A.units + 64 < cLine) (hQ : ∀ c, (k c).holds D → Q (.bool c) s) : wpAny (model prog w) A (compareOp op u v) Q E s := by
  cases op with
  | Eq =>
    obtain ⟨c, hc, q | ⟨hbb, x, d, e, t, rfl, rfl, hx, rfl⟩⟩ := eqV_sound (a := a) (b := b) h R ra rb hu
    · exact q.1 prog w E Q (hQ c hc)
    · exact BE.eq hu hx (hQ _ hc)
  | NotEq =>
    obtain ⟨hb, h⟩ := ifT_of (b := !isBarrEq a b) h
    obtain ⟨c, hc, q | ⟨hbb, x, d, e, t, rfl, rfl, hx, rfl⟩⟩ := eqV_sound (a := a) (b := b) h R ra rb hu
    · exact q.2 prog w E Q (hQ _ hc)
    · rw [hbb] at hb; cases hb
  | Lt =>
    obtain ⟨x, y, t, t', rfl, rfl, h⟩ := intC_of (a := a) (b := b) h ra rb
    exact PyProof.Rows.lt_int (hQ _ h)
  | LtE =>
    obtain ⟨x, y, t, t', rfl, rfl, h⟩ := intC_of (a := a) (b := b) h ra rb
    exact PyProof.Rows.le_int (hQ _ h)
  | Gt =>
    obtain ⟨x, y, t, t', rfl, rfl, h⟩ := intC_of (a := a) (b := b) h ra rb
    exact PyProof.Rows.gt_int (hQ _ h)
  | GtE =>
    obtain ⟨x, y, t, t', rfl, rfl, h⟩ := intC_of (a := a) (b := b) h ra rb
    exact PyProof.Rows.ge_int (hQ _ h)
  | Is =>
    obtain ⟨hb, h⟩ := ifT_of (b := isNone b) h
    cases isNone_of hb rb
    obtain ⟨rfl, h⟩ | ⟨h1, h2, h⟩ := isNoneV_of (a := a) h ra
    · exact wpAny_is_self rfl (hQ _ h)
    · exact wpAny_is_other h1 h2 (hQ _ h)
  | IsNot =>
    obtain ⟨hb, h⟩ := ifT_of (b := isNone b) h
    cases isNone_of hb rb
    obtain ⟨rfl, h⟩ | ⟨h1, h2, h⟩ := isNoneV_of (a := a) h ra
    · exact wpAny_isNot_self rfl (hQ _ h)
    · exact wpAny_isNot_other h1 h2 (hQ _ h)
  | In =>
    obtain ⟨c, x, vs, h, rfl, h1, rfl, l | l⟩ := inV_of (A := A) B (a := a) (b := b) h R ra rb
    · exact in_listAt (fun y => eqVal y u) l h1 (hQ _ h)
    · exact in_tupleAt (fun y => eqVal y u) l h1 (hQ _ h)
  | NotIn =>
    obtain ⟨c, x, vs, h, rfl, h1, rfl, l | l⟩ := inV_of (A := A) B (a := a) (b := b) (k := fun c => k (!c)) h R ra rb
    · exact notIn_listAt (fun y => eqVal y u) l h1 (hQ _ h)
    · exact notIn_tupleAt (fun y => eqVal y u) l h1 (hQ _ h)
end
end Vm
end
section
namespace Vm
open PySem PySem.W PyProof.Rows PySem.Calls PySem.SeqAt
noncomputable def Post (P : Params) (h₀ : Heap) (φ : List Addr) (X : List (Addr × Obj)) (L : Addr) (m : Str → Option Value) (k : AV → Ost → Prop) (Q : Value → Shared → Prop) (s : Shared) : Prop :=
  ∀ ⦃v : AV⦄ ⦃u : Value⦄ ⦃O' : Ost⦄ ⦃φ' : List Addr⦄ ⦃h' : Heap⦄ ⦃tk : Tok⦄, k v O' → Rel P h₀ φ' O' X L m h' → φ <+: φ' → RV φ' v u → Q u { s with heap := h', toks := tk }
section
variable {prog : Program} {w : World} {tb : Tb} {A : Around} {E : Value → Shared → Prop} {s : Shared} {P : Params} {h₀ : Heap} {φ : List Addr} {O : Ost} {X : List (Addr × Obj)} {L : Addr} {m : Str → Option Value} {Q : Value → Shared → Prop} {k : AV → Ost → Prop} {D : Rs → Prop}
theorem Post.same (H : Post P h₀ φ X L m k Q s) (R : Rel P h₀ φ O X L m s.heap) {v : AV} {u : Value} (h : k v O) (r : RV φ v u) (tk : Tok) : Q u { s with toks := tk } := H h R (List.prefix_refl _) r
theorem Post.here (H : Post P h₀ φ X L m k Q s) (R : Rel P h₀ φ O X L m s.heap) {v : AV} {u : Value} (h : k v O) (r : RV φ v u) : Q u s := H h R (List.prefix_refl _) r
theorem Post.grown (H : Post P h₀ φ X L m k Q s) (R : Rel P h₀ φ O X L m s.heap) {h' : Heap} {tk : Tok} {v : AV} {u : Value} (kp : ∀ b o, s.heap.get? b = some o → h'.get? b = some o) (h : k v O) (r : RV φ v u) : Q u { s with heap := h', toks := tk } :=
  H h (R.keeps kp) (List.prefix_refl _) r
theorem Rel.news (R : Rel P h₀ φ O X L m s.heap) : ∃ news, News h₀ L s.heap news ∧ (∀ (h' : Heap), Fr h₀ L h' m → News h₀ L h' news → Rel P h₀ φ O X L m h') ∧
    (∀ (h' : Heap) (a : Addr) (c : Obj) (o : AO), s.heap.objs.size ≤ a → Fr h₀ L h' m → News h₀ L h' ((a, c) :: news) → RO P (φ ++ [a]) o c → Rel P h₀ (φ ++ [a]) (O ++ [o]) X L m h') := by
  obtain ⟨cs, fa, hl, N⟩ := R.ex
  refine ⟨_, N, fun h' F' N' => ⟨F', ⟨cs, fa, hl, N'⟩, R.nd, R.low⟩, fun h' a c o ha F' N' ro => ?_⟩
  have N1 : News h₀ L h' (φ.zip cs ++ X) := fun p hp => N' p (.tail _ hp)
  have A := N' (a, c) (.head _)
  refine ⟨F', ⟨cs ++ [c], (fa.mono fun _ _ r => r.mono (List.prefix_append _ _)).append (.cons ro .nil), by simp [hl], ?_⟩, ?_, fun b hb => ?_⟩
  · rw [zip_snoc hl]
    intro p hp
    rcases List.mem_append.mp hp with q | q
    · rcases List.mem_append.mp q with q | q
      · exact N1 p (List.mem_append_left _ q)
      · rw [List.mem_singleton] at q; subst q; exact A
    · exact N1 p (List.mem_append_right _ q)
  · have e : (φ ++ [a] ++ X.map (·.1)).Perm (a :: (φ ++ X.map (·.1))) := by
      rw [List.append_assoc, List.singleton_append]
      exact List.perm_middle
    exact e.nodup_iff.mpr (List.nodup_cons.mpr ⟨(R.newFrame ha).2.2.1, R.nd⟩)
  · rcases List.mem_append.mp hb with q | q
    · rcases List.mem_append.mp q with q | q
      · exact R.low b (List.mem_append_left _ q)
      · rw [List.mem_singleton] at q; rw [q]; exact (R.newFrame ha).2.2.2
    · exact R.low b (List.mem_append_right _ q)
theorem smallI.bits {x : Int} (h : smallI x) : Builtin.Int.intBits x ≤ 64 := by
  unfold smallI at h
  exact intBits_le_64 (by omega) (by omega)
theorem bytes_of {b : List Int} {c : Array UInt8} (e : KBw.bInts c = b) : c.size = b.length := by rw [← e, KBw.ints_length]
theorem bInts_rep (c : Array UInt8) (n : Nat) : KBw.bInts ((List.replicate n c.toList).flatten.toArray) = rep (KBw.bInts c) n := by
  unfold KBw.bInts rep
  simp only
  rw [List.map_flatten, List.map_replicate]
theorem intOp_sound {op : Operator} {x y : Int} {t t' : Tok} {k' : Int → Tr} (h : (intOp op x y k').holds D) (H : ∀ z t tk, (k' z).holds D → Q (.int z t) { s with toks := tk }) :
    wpAny (model prog w) A (binaryOp op (.int x t) (.int y t')) Q E s := by
  cases op with
  | Add => exact PyProof.Rows.add_int (H _ _ _ h)
  | Sub => exact PyProof.Rows.sub_int (H _ _ _ h)
  | Mult => exact PyProof.Rows.mul_int (H _ _ _ h.2) (IntMulOk.of_left h.1.bits)
  | FloorDiv => exact PyProof.Rows.floordiv_int h.1.1 (H _ _ _ h.2) (.inl (PyProof.noPylong_small h.1.2))
  | Mod => exact PyProof.Rows.mod_int h.1 (H _ _ _ h.2)
  | Pow => obtain ⟨⟨h1, h2, h3⟩, h4⟩ := h; exact PyProof.Rows.pow_int_small h2 (by omega) (by unfold smallI at h1; omega) (H _ _ _ h4)
  | BitAnd => exact PyProof.Rows.and_int (H _ _ _ h)
  | BitOr => exact PyProof.Rows.or_int (H _ _ _ h)
  | LShift => obtain ⟨⟨h1, h2, h3⟩, h4⟩ := h; exact PyProof.Rows.lshift_int_small h2 (by omega) (by unfold smallI at h1; omega) (H _ _ _ h4)
  | RShift => exact PyProof.Rows.rshift_int h.1 (H _ _ _ h.2)
  | _ => exact h.elim
variable {kT : AV → Ost → Tr}
noncomputable abbrev PostT (P : Params) (h₀ : Heap) (φ : List Addr) (X : List (Addr × Obj)) (L : Addr) (m : Str → Option Value) (D : Rs → Prop) (k : AV → Ost → Tr) (Q : Value → Shared → Prop) (s : Shared) : Prop := Post P h₀ φ X L m (fun v O => (k v O).holds D) Q s
theorem binV_sound {op : Operator} {a b : AV} {u v : Value} (h : (binV op a b O kT).holds D) (R : Rel P h₀ φ O X L m s.heap) (ra : RV φ a u) (rb : RV φ b v) (H : PostT P h₀ φ X L m D kT Q s) :
    wpAny (model prog w) A (binaryOp op u v) Q E s := by
  cases a with
  | int x =>
    obtain ⟨y, rfl, h⟩ := intV_of (v := b) h
    obtain ⟨t, rfl⟩ := ra.int_inv
    obtain ⟨t', rfl⟩ := rb.int_inv
    exact intOp_sound h fun z t tk hz => H.same R hz (.int _ _) _
  | bytes x =>
    obtain ⟨c, t, rfl, e⟩ := ra.bytes_inv
    cases op with
    | Add =>
      obtain ⟨y, rfl, h⟩ := bytesV_of (v := b) h
      obtain ⟨c', t', rfl, e'⟩ := rb.bytes_inv
      exact KBy.add_bytes (by rw [bytes_of e, bytes_of e']; exact h.1) fun t'' tk => H.same R h.2 (.bytes _ (KBw.ints_app e e')) _
    | Mult =>
      obtain ⟨y, rfl, ⟨h1, h2, h3, h4⟩, h5⟩ := intV_of (v := b) h
      obtain ⟨t', rfl⟩ := rb.int_inv
      subst e
      have e1 : c.toList.toArray = c := Array.toArray_toList
      rw [← e1]
      exact bytes_mul_any (b := c.toList) (fun q => h3 (by unfold KBw.bInts; rw [q]; rfl)) (by omega) (by omega) (by rw [KBw.ints_length] at h4; simpa using h4) fun t' tk => H.same R h5 (.bytes _ (bInts_rep _ _)) _
    | _ => exact h.elim
  | str x =>
    obtain ⟨rfl, h'⟩ := addT_of h
    obtain ⟨y, rfl, h⟩ := strV_of (v := b) h'
    obtain ⟨t, rfl⟩ := ra.str_inv
    obtain ⟨t', rfl⟩ := rb.str_inv
    exact PyProof.Rows.add_str (fun t' tk => H.same R h.2 (.str _ _) _) (by rw [sizeLine_eq]; exact h.1)
  | obj i =>
    obtain ⟨rfl, h'⟩ := addT_of h
    obtain ⟨_, xs, e, ex, h'⟩ := listV_of (v := .obj i) h'
    cases e
    obtain ⟨j, ys, rfl, ey, hz, h⟩ := listV_of (v := b) h'
    obtain ⟨a, us, rfl, _, la, fa⟩ := R.isList ex ra
    obtain ⟨b, vs, rfl, _, lb, fb⟩ := R.isList ey rb
    obtain ⟨news, N, _, grow⟩ := R.news
    refine add_lists R.F N la lb (fun h' F' N' => ?_) (by rw [← fa.length, ← fb.length, sizeLine_eq]; exact hz)
    exact H h (grow h' _ _ _ (Nat.le_refl _) F' N' (.list ((fa.append fb).mono fun _ _ r => r.mono (List.prefix_append _ _)))) (List.prefix_append _ _) (.obj (get_snoc R _))
  | _ => exact h.elim
theorem truthV_of {a : AV} {k : Bool → Tr} (h : (truthV a k).holds D) : (∃ c, a = .bool c ∧ (k c).holds D) ∨ a = .none ∧ (k false).holds D := by
  cases a with
  | bool c => exact .inl ⟨c, rfl, h⟩
  | none => exact .inr ⟨rfl, h⟩
  | _ => exact h.elim
theorem truthV_sound {M : Model} {a : AV} {u : Value} {k : Bool → Tr} {Q : Bool → Shared → Prop} (h : (truthV a k).holds D) (ra : RV φ a u) (H : ∀ c, (k c).holds D → Q c s) : wpAny M A (truthy u) Q E s := by
  obtain ⟨c, rfl, h⟩ | ⟨rfl, h⟩ := truthV_of h
  · cases ra.bool_inv; exact wpAny_truthy_bool (H _ h)
  · cases ra.none_inv; exact wpAny_pure (H _ h)
theorem unV_sound {op : UnaryOp} {a : AV} {u : Value} {k : AV → Tr} (h : (unV op a k).holds D) (R : Rel P h₀ φ O X L m s.heap) (ra : RV φ a u) (H : ∀ v u tk, (k v).holds D → RV φ v u → Q u { s with toks := tk }) :
    wpAny (model prog w) A (unaryOp op u) Q E s := by
  cases op with
  | USub =>
    obtain ⟨x, rfl, h⟩ := intV_of (v := a) h
    obtain ⟨t, rfl⟩ := ra.int_inv
    exact PyProof.Rows.neg_int (H _ _ _ h (.int _ _))
  | Invert =>
    obtain ⟨x, rfl, h⟩ := intV_of (v := a) h
    obtain ⟨t, rfl⟩ := ra.int_inv
    exact PyProof.Rows.invert_int (H _ _ _ h (.int _ _))
  | Not => exact not_of (truthV_sound (a := a) (k := fun c => k (.bool (!c))) h ra fun c hc => H _ _ s.toks hc (.bool _))
  | UAdd => exact h.elim
end
end Vm
end
section
namespace Vm
open PySem PySem.W PyProof.Rows PySem.Calls PySem.SeqAt
noncomputable def RK (φ : List Addr) (p : Str × AV) (q : Str × Value) : Prop := p.1 = q.1 ∧ RV φ p.2 q.2
section
variable {prog : Program} {w : World} {φ : List Addr}
theorem fa_names {es : List (Str × AV)} {kvs : List (Str × Value)} (f : Fa (RK φ) es kvs) : es.map (·.1) = kvs.map (·.1) := by
  induction f with
  | nil => rfl
  | cons h _ ih => rw [List.map_cons, List.map_cons, h.1, ih]
theorem pairs_of {es : List (Str × AV)} {ds : List DictEntry} (f : Fa (RE w.params φ) es ds) : ∃ kvs, Pairs (strKind prog w) ds kvs ∧ Fa (RK φ) es kvs ∧ ∀ e ∈ ds, ∃ k, (strKind prog w).is k e.key = true ∧ e.hash = (strKind prog w).hash k := by
  induction f with
  | nil => exact ⟨[], .nil, .nil, fun _ h => (nomatch h)⟩
  | @cons p d es ds h _ ih =>
    obtain ⟨kvs, a, b, c⟩ := ih
    obtain ⟨⟨t, hk⟩, hh, hv⟩ := h
    have hi : (strKind prog w).is p.1 d.key = true := by rw [hk]; exact strKind_is prog w p.1 t
    refine ⟨(p.1, d.val) :: kvs, .cons hi rfl a, .cons ⟨rfl, hv⟩ b, fun e he => ?_⟩
    rcases List.mem_cons.mp he with rfl | he
    · exact ⟨p.1, hi, hh⟩
    · exact c e he
theorem toDictOf {h : Heap} {a : Addr} {es : List (Str × AV)} {ds : List DictEntry} {n : Nat} (f : Fa (RE w.params φ) es ds) (nd : (es.map (·.1)).Nodup) (ho : h.get? a = some (dictOf ds n)) :
    ∃ kvs, h.DictOf (strKind prog w) a kvs ∧ Fa (RK φ) es kvs := by
  obtain ⟨kvs, p, r, k⟩ := pairs_of (prog := prog) f
  refine ⟨kvs, ⟨_, _, _, ho, ⟨rfl, rfl, rfl⟩, rfl, fun e he => k e (by simpa using he), by simpa using p, ?_⟩, r⟩
  rw [← fa_names r]; exact nd
theorem entries_of {ds : List DictEntry} {kvs : List (Str × Value)} (P : Pairs (strKind prog w) ds kvs) : ∀ {es : List (Str × AV)}, (∀ e ∈ ds, ∃ k, (strKind prog w).is k e.key = true ∧ e.hash = (strKind prog w).hash k) → Fa (RK φ) es kvs → Fa (RE w.params φ) es ds := by
  induction P with
  | nil => intro es _ f; cases es with | nil => exact .nil | cons _ _ => exact absurd f.length (by simp)
  | cons hi hv r ih =>
    intro es hk f
    obtain ⟨p, es', rfl, h, f⟩ := f.uncons
    refine .cons ?_ (ih (fun e he => hk e (.tail _ he)) f)
    obtain ⟨k, h1, h2⟩ := hk _ (.head _)
    have e1 := (strKind prog w).inj _ _ _ h1 hi
    subst e1
    obtain ⟨t, ht⟩ := Value.isStrOf_shape hi
    rw [← h.1] at ht h2
    exact ⟨⟨t, ht⟩, h2, by rw [hv]; exact h.2⟩
theorem fromDictOf {h : Heap} {a : Addr} {es : List (Str × AV)} {kvs : List (Str × Value)} (D : h.DictOf (strKind prog w) a kvs) (f : Fa (RK φ) es kvs) : ∃ c, h.get? a = some c ∧ RO w.params φ (.dict es) c := by
  obtain ⟨⟨cls, dd, data, sl⟩, ds, ep, ho, ⟨h1, h2, h3⟩, hd, hk, hp, hn⟩ := D
  simp only at h1 h2 h3 hd
  subst h1 h2 h3 hd
  have e : Fa (RE w.params φ) es ds.toList := entries_of (prog := prog) hp (fun e he => hk e (by simpa using he)) f
  refine ⟨_, ho, ?_⟩
  have := RO.dict (P := w.params) (n := ep) e (by rw [fa_names f]; exact hn)
  simpa [dictOf] using this
theorem setL_any (k : Str) (v : AV) (es : List (Str × AV)) (kvs : List (Str × Value)) (u : Value) (f : Fa (RK φ) es kvs) (r : RV φ v u) : (kvs.map (·.1)).Nodup → Fa (RK φ) (setL k v es) (stored kvs k u) := by
  induction f with
  | nil => exact fun _ => .cons ⟨rfl, r⟩ .nil
  | @cons p q es kvs h f ih =>
    intro nd
    obtain ⟨y, w⟩ := p
    obtain ⟨y', w'⟩ := q
    obtain ⟨e1, e2⟩ := h
    simp only at e1 e2
    subst e1
    have nd' := List.nodup_cons.mp nd
    unfold setL
    by_cases hy : y = k
    · subst hy
      have : stored ((y, w') :: kvs) y u = (y, u) :: kvs := by
        unfold stored
        rw [if_pos (by simp)]
        rw [List.map_cons, if_pos rfl]
        congr 1
        refine (List.map_congr_left (g := id) fun q hq => ?_).trans (List.map_id _)
        rw [if_neg fun e => nd'.1 (List.mem_map.mpr ⟨q, hq, e⟩)]
        rfl
      rw [this]
      simp only [beq_self_eq_true]
      exact .cons ⟨rfl, r⟩ f
    · have e3 : (y == k) = false := beq_eq_false_iff_ne.mpr hy
      rw [e3]
      simp only
      have : stored ((y, w') :: kvs) k u = (y, w') :: stored kvs k u := by
        unfold stored
        simp only [List.any_cons, hy, decide_false, Bool.false_or]
        split
        · rw [List.map_cons, if_neg hy]
        · rfl
      rw [this]
      exact .cons ⟨rfl, e2⟩ (ih nd'.2)
theorem valueAt_fa (k : Str) {es : List (Str × AV)} {kvs : List (Str × Value)} (f : Fa (RK φ) es kvs) : (∀ v, es.lookup k = some v → ∃ u, valueAt kvs k = some u ∧ RV φ v u) ∧ (es.lookup k = none → valueAt kvs k = none) := by
  induction f with
  | nil => exact ⟨fun _ h => (nomatch h), fun _ => rfl⟩
  | @cons p q es kvs h f ih =>
    obtain ⟨y, w⟩ := p
    obtain ⟨y', w'⟩ := q
    obtain ⟨e1, e2⟩ := h
    simp only at e1 e2
    subst e1
    obtain ⟨i1, i2⟩ := ih
    by_cases hy : k = y
    · subst hy
      refine ⟨fun v hv => ?_, fun hv => ?_⟩
      · simp only [List.lookup_cons, beq_self_eq_true] at hv
        cases hv
        exact ⟨w', by simp [valueAt], e2⟩
      · simp at hv
    · have e3 : (k == y) = false := beq_eq_false_iff_ne.mpr hy
      have e4 : valueAt ((y, w') :: kvs) k = valueAt kvs k := by
        unfold valueAt
        rw [List.find?_cons, decide_eq_false (fun q => hy q.symm)]
      rw [e4]
      simp only [List.lookup_cons, e3]
      exact ⟨i1, i2⟩
theorem getL_fa (k : Str) : ∀ {es : List (Str × AV)} {ds : List DictEntry}, Fa (RE w.params φ) es ds → (∀ v, es.lookup k = some v → ∃ u, getL k ds = some (some u) ∧ RV φ v u) ∧ (es.lookup k = none → getL k ds = some none) := by
  intro es ds f
  have nr : ds.any (·.refKey) = false := by
    induction f with
    | nil => rfl
    | cons h _ ih =>
      obtain ⟨⟨t, hk⟩, _⟩ := h
      rw [List.any_cons, ih]
      simp [DictEntry.refKey, hk]
  have key : (∀ v, es.lookup k = some v → ∃ e, ds.find? (·.key.isStr k) = some e ∧ RV φ v e.val) ∧ (es.lookup k = none → ds.find? (·.key.isStr k) = none) := by
    clear nr
    induction f with
    | nil => exact ⟨fun _ h => (nomatch h), fun _ => rfl⟩
    | @cons p d es ds h _ ih =>
      obtain ⟨⟨t, hk⟩, _, hv⟩ := h
      obtain ⟨y, w⟩ := p
      simp only at hk hv
      have e : d.key.isStr k = (y == k) := by rw [hk]; rfl
      by_cases hy : k = y
      · subst hy
        simp only [List.lookup_cons, beq_self_eq_true, List.find?_cons, e]
        exact ⟨fun v hv' => by cases hv'; exact ⟨d, rfl, hv⟩, fun h => (nomatch h)⟩
      · have e3 : (k == y) = false := beq_eq_false_iff_ne.mpr hy
        have e4 : (y == k) = false := beq_eq_false_iff_ne.mpr (Ne.symm hy)
        simp only [List.lookup_cons, e3, List.find?_cons, e, e4]
        exact ih
  unfold getL
  refine ⟨fun v hv => ?_, fun hv => ?_⟩
  · obtain ⟨e, he, r⟩ := key.1 v hv
    rw [he]
    exact ⟨_, rfl, r⟩
  · rw [key.2 hv, nr]
    rfl
theorem putL_fa (k : Str) (hsh : Int) (t : Tok) (v : AV) (u : Value) (hh : hsh = PyData.keyHash w.params k) (r : RV φ v u) {es : List (Str × AV)} {ds : List DictEntry} (f : Fa (RE w.params φ) es ds) : Fa (RE w.params φ) (setL k v es) (putL k hsh (.str k t) u ds) := by
  induction f with
  | nil => exact .cons ⟨⟨t, rfl⟩, hh, r⟩ .nil
  | @cons p d es ds h f ih =>
    obtain ⟨y, w⟩ := p
    obtain ⟨⟨t', hk⟩, h1, hv⟩ := h
    simp only at hk h1 hv
    unfold setL putL
    have e : d.key.isStr k = (y == k) := by rw [hk]; rfl
    rw [e]
    by_cases hy : y = k
    · subst hy
      rw [beq_self_eq_true, if_pos rfl]
      exact .cons ⟨⟨t', hk⟩, h1, r⟩ f
    · rw [beq_eq_false_iff_ne.mpr hy, if_neg Bool.false_ne_true]
      exact .cons ⟨⟨t', hk⟩, h1, hv⟩ ih
theorem setL_names (k : Str) (v : AV) : ∀ (es : List (Str × AV)), (∀ x ∈ (setL k v es).map (·.1), x = k ∨ x ∈ es.map (·.1)) ∧ ((es.map (·.1)).Nodup → ((setL k v es).map (·.1)).Nodup) ∧ (setL k v es).length ≤ es.length + 1
  | [] => ⟨fun x hx => by simp [setL] at hx; exact .inl hx, fun _ => by simp [setL], by simp [setL]⟩
  | (y, w) :: es => by
    obtain ⟨i1, i2, i3⟩ := setL_names k v es
    unfold setL
    by_cases hy : y = k
    · subst hy
      rw [beq_self_eq_true]
      refine ⟨fun x hx => .inr hx, fun h => h, by simp⟩
    · rw [beq_eq_false_iff_ne.mpr hy]
      refine ⟨fun x hx => ?_, fun h => ?_, by simpa using i3⟩
      · rw [List.map_cons] at hx
        rcases List.mem_cons.mp hx with rfl | hx
        · exact .inr (.head _)
        · exact (i1 x hx).imp id fun q => .tail _ q
      · rw [List.map_cons] at h ⊢
        obtain ⟨a, b⟩ := List.nodup_cons.mp h
        refine List.nodup_cons.mpr ⟨fun q => ?_, i2 b⟩
        rcases i1 _ q with q | q
        · exact hy q
        · exact a q
end
end Vm
end
section
namespace Vm
open PySem PySem.W PyProof.Rows PySem.Calls PySem.SeqAt
section
variable {prog : Program} {w : World} {tb : Tb} {K : Frag} {A : Around} {E : Value → Shared → Prop} {s : Shared} {h₀ : Heap} {φ : List Addr} {O : Ost} {X : List (Addr × Obj)} {L : Addr} {m : Str → Option Value} {Q : Value → Shared → Prop} {kT : AV → Ost → Tr} {D : Rs → Prop}
theorem Rel.isDict (R : Rel w.params h₀ φ O X L m s.heap) {i : Nat} {es : List (Str × AV)} {u : Value} (e : O[i]? = some (.dict es)) (r : RV φ (.obj i) u) :
    ∃ a kvs, u = .ref a ∧ φ[i]? = some a ∧ s.heap.DictOf (strKind prog w) a kvs ∧ Fa (RK φ) es kvs ∧ es.length = kvs.length := by
  obtain ⟨a, c, rfl, hi, hc, ro⟩ := R.at_obj e r
  cases ro with
  | dict f nd =>
    obtain ⟨kvs, D, f'⟩ := toDictOf (prog := prog) f nd hc
    exact ⟨a, kvs, rfl, hi, D, f', f'.length⟩
theorem Rel.notModules (R : Rel w.params h₀ φ O X L m s.heap) (nl : h₀.NoLimit) {i : Nat} {a : Addr} (hi : φ[i]? = some a) : (a == sysModules) = false := by
  have := R.low a (List.mem_append_left _ (List.mem_iff_getElem?.mpr ⟨i, hi⟩))
  exact beq_eq_false_iff_ne.mpr (Nat.ne_of_gt (Nat.lt_of_lt_of_le (modules_low nl) this))
noncomputable abbrev anyName : Expr := .Name (Str.ofString "_") ⟨0, 0, 0, 0⟩
theorem tail_any_base {value slice : Expr} {o i : Value} (h : wpAny (model prog w) A (subscriptTail anyName slice o i) Q E s) : wpAny (model prog w) A (subscriptTail value slice o i) Q E s :=
  kba_turn (value' := anyName) (fun _ => rfl) h
noncomputable def PlainSlice (slice : Expr) : Prop := ∀ o i, subscripted slice false o i = operate [o, i] (getItem o i)
theorem itemV_of {xs : List AV} {i : Int} {k : AV → Tr} (h : (itemV xs i k).holds D) : 0 ≤ i ∧ i < 1000000 ∧ ∃ y, xs[i.toNat]? = some y ∧ (k y).holds D := by
  obtain ⟨⟨h0, h1⟩, h⟩ := h
  exact ⟨h0, h1, h⟩
theorem subV_sound {slice : Expr} (hsl : PlainSlice slice) {o i : AV} {u v : Value} (h : (subV o i O kT).holds D) (R : Rel w.params h₀ φ O X L m s.heap) (ro : RV φ o u) (ri : RV φ i v) (H : PostT w.params h₀ φ X L m D kT Q s) :
    wpAny (model prog w) A (subscriptTail anyName slice u v) Q E s := by
  cases o with
  | obj x =>
    cases i with
    | int n =>
      obtain ⟨ob, e, h⟩ := h
      obtain ⟨t, rfl⟩ := ri.int_inv
      cases ob with
      | list xs =>
        obtain ⟨h0, h1, y, hy, h⟩ := itemV_of (xs := xs) h
        obtain ⟨a, vs, rfl, _, l, f⟩ := R.isList e ro
        obtain ⟨z, hz, rz⟩ := f.get hy
        exact item_listL l h0 (by omega) hz (H.here R h rz) (hsl _ _) (fun _ => rfl)
      | tuple xs =>
        obtain ⟨h0, h1, y, hy, h⟩ := itemV_of (xs := xs) h
        obtain ⟨a, vs, rfl, _, l, f⟩ := R.isTuple e ro
        obtain ⟨z, hz, rz⟩ := f.get hy
        have hlt : n.toNat < vs.length := (List.getElem?_eq_some_iff.mp hz).1
        have h3 : n < (vs.length : Int) := by omega
        have hj : seqIndex? n vs.length = some n.toNat := by simp [seqIndex?, h0, h3, Int.not_lt.mpr h0]
        exact item_tupleL l (by omega) (by omega) hj hz (H.here R h rz) (hsl _ _) (fun _ => rfl)
      | _ => exact h.elim
    | str n =>
      obtain ⟨ob, e, h⟩ := h
      obtain ⟨t, rfl⟩ := ri.str_inv
      cases ob with
      | dict es =>
        obtain ⟨y, hy, h⟩ := optT_of (o := es.lookup n) h
        obtain ⟨a, kvs, rfl, _, D, f, _⟩ := R.isDict (prog := prog) e ro
        obtain ⟨z, hz, rz⟩ := (valueAt_fa n f).1 y hy
        exact subscriptTail_builtin D.typeIs slot_dict_getitem.lookup (wpAny_getItem_of (strKind_is prog w n t) D.mapOf hz (H.same R h rz _)) (hsl _ _) (fun _ => rfl)
      | _ => exact h.elim
    | _ => exact h.elim
  | bytes b =>
    cases i with
    | int n =>
      obtain ⟨⟨h0, h1, h2⟩, h⟩ := h
      obtain ⟨c, t, rfl, e⟩ := ro.bytes_inv
      obtain ⟨t', rfl⟩ := ri.int_inv
      exact KBw.item_K e (by omega) h0 h1 (fun t'' tk _ _ => H.same R h (.int _ _) _) (hsl _ _) (fun _ => rfl)
    | _ => exact h.elim
  | _ => exact h.elim
theorem boundV_part {a : AV} {u : Value} {k : Option Int → Tr} (h : (boundV a k).holds D) (r : RV φ a u) : ∃ b, (k b).holds D ∧ IsPart u b := by
  cases a with
  | none => cases r.none_inv; exact ⟨_, h, .none⟩
  | int n => obtain ⟨t, rfl⟩ := r.int_inv; exact ⟨_, h, .int _ _⟩
  | _ => exact h.elim
theorem slicePick_cut {vs : List Value} {lo hi : Option Int} : (slicePick vs.toArray lo hi none) = (cut vs lo hi).toArray := by
  rw [kmk_pick_nat _ (sliceBounds_plain lo hi _)]
  unfold cut
  simp
theorem fa_cut {α β : Type} {p : α → β → Prop} {xs : List α} {vs : List β} (f : Fa p xs vs) (lo hi : Option Int) : Fa p (cut xs lo hi) (cut vs lo hi) := by
  unfold cut
  rw [f.length]
  exact (f.drop _).take _
structure BarrCut (prog : Program) (w : World) : Prop where
  cut : ∀ {A : Around} {E : Value → Shared → Prop} {s : Shared} {a S : Addr} {b : Array UInt8} {l u : Value} {lo hi : Option Int} {Q : Value → Shared → Prop}, s.heap.get? a = some { cls := .type "bytearray", data := .bytearray b } →
    s.heap.IsSliceOf S l u .none → IsPart l lo → IsPart u hi → b.size ≤ 1000000 →
    (∀ c tk, KBw.bInts c = cut (KBw.bInts b) lo hi → Q (.ref s.heap.objs.size) { s with heap := s.heap.push { cls := .type "bytearray", data := .bytearray c }, toks := tk }) →
    wpAny (model prog w) A (subscriptTail anyName (.Slice none none none ⟨0, 0, 0, 0⟩) (.ref a) (.ref S)) Q E s
theorem cutV_list {l' u' : Option Expr} {p' : Pos} {vl vu : Value} {lo hi : Option Int} {a : Addr} {xs : List AV} {vs : List Value} (l : s.heap.IsList a vs.toArray) (f : Fa (RV φ) xs vs) (h : (gd (xs.length ≤ 1000000) (kT (.obj O.length) (O ++ [.list (cut xs lo hi)]))).holds D)
    (R : Rel w.params h₀ φ O X L m s.heap) (pl : IsPart vl lo) (pu : IsPart vu hi) (H : PostT w.params h₀ φ X L m D kT Q s) :
    wpAny (model prog w) A (subscriptTail anyName (.Slice l' u' none p') (.ref a) (.ref s.heap.objs.size)) Q E { s with heap := s.heap.push { cls := .type "slice", data := .fields #[vl, vu, .none] } } := by
  obtain ⟨hz, h⟩ := h
  obtain ⟨news, N, back, grow⟩ := R.news
  refine slice_list R.F N l pl pu (fun h' F' N' => ?_) rfl (fun _ => rfl) (by rw [List.size_toArray, ← f.length, sizeLine_eq]; omega)
  rw [slicePick_cut] at N'
  exact H h (grow h' _ _ _ (Nat.le_succ _) F' N' (.list ((fa_cut f lo hi).mono fun _ _ r => r.mono (List.prefix_append _ _)))) (List.prefix_append _ _) (.obj (get_snoc R _))
theorem cutV_sound (B : Base prog w h₀ tb K) (BC : BarrCut prog w) {l' u' : Option Expr} {p' : Pos} {o : AV} {v vl vu : Value} {lo hi : Option Int} (h : (cutV tb o lo hi O kT).holds D) (R : Rel w.params h₀ φ O X L m s.heap) (ro : RV φ o v) (pl : IsPart vl lo) (pu : IsPart vu hi) (H : PostT w.params h₀ φ X L m D kT Q s) :
    wpAny (model prog w) A (subscriptTail anyName (.Slice l' u' none p') v (.ref s.heap.objs.size)) Q E { s with heap := s.heap.push { cls := .type "slice", data := .fields #[vl, vu, .none] } } := by
  cases o with
  | bytes b =>
    obtain ⟨hz, h⟩ := h
    obtain ⟨c, t, rfl, e⟩ := ro.bytes_inv
    obtain ⟨news, N, back, grow⟩ := R.news
    refine KBc.slice_K R.F N e pl pu (by omega) (fun h' t' tk F' N' eq => H h (back h' F' N') (List.prefix_refl _) (.bytes _ ?_)) rfl (fun _ => rfl)
    rw [eq]; rfl
  | obj x =>
    obtain ⟨ob, e, h⟩ := h
    cases ob with
    | list xs =>
      obtain ⟨a, vs, rfl, _, l, f⟩ := R.isList e ro
      exact cutV_list l f h R pl pu H
    | barr b =>
      obtain ⟨a, c, rfl, hi', hc, ec⟩ := R.isBarr e ro
      obtain ⟨hz, h⟩ := h
      have R' := R.push { cls := .type "slice", data := .fields #[vl, vu, .none] }
      exact BC.cut (s := { s with heap := s.heap.push { cls := .type "slice", data := .fields #[vl, vu, .none] } }) (Heap.get?_push_of_some _ hc) (Heap.IsSliceOf.new _ _ _ _) pl pu (by rw [bytes_of ec]; exact hz) fun d tk ed =>
        H h (R'.allocPush rfl (.barr (by rw [ed, ec]))) (List.prefix_append _ _) (.obj (get_snoc R' _))
    | _ => exact h.elim
  | val u =>
    obtain ⟨a, c, xs, rfl, e, h⟩ := refSeq_of (tb := tb) (v := u) (k := fun _ c xs => ifT c (gd (xs.length ≤ 1000000) (kT (.obj O.length) (O ++ [.list (cut xs lo hi)])))) h
    obtain ⟨rfl, h2⟩ := ifT_of h
    cases ro.val_inv
    obtain ⟨vs, f, l⟩ := B.seqAt (φ := φ) R.keep e
    exact cutV_list l f h2 R pl pu H
  | _ => exact h.elim
theorem revV_sound {p' : Pos} {st : Option Expr} {o : AV} {v : Value} {t : Tok} (h : (revV o O kT).holds D) (R : Rel w.params h₀ φ O X L m s.heap) (ro : RV φ o v) (H : PostT w.params h₀ φ X L m D kT Q s) (hst : st.isSome = true) :
    wpAny (model prog w) A (subscriptTail anyName (.Slice none none st p') v (.ref s.heap.objs.size)) Q E { s with heap := s.heap.push { cls := .type "slice", data := .fields #[.none, .none, .int (-1) t] } } := by
  obtain ⟨i, xs, rfl, e, hz, h⟩ := listV_of (v := o) h
  obtain ⟨news, N, back, grow⟩ := R.news
  obtain ⟨a, vs, rfl, _, l, f⟩ := R.isList e ro
  obtain ⟨st', rfl⟩ := Option.isSome_iff_exists.mp hst
  refine slice_list3 R.F N l .none .none (.int (-1) t) (by decide) (fun h' F' N' => ?_) (ops := [.ref a, .ref s.heap.objs.size]) rfl (fun _ => rfl) (by rw [List.size_toArray, ← f.length, sizeLine_eq]; omega)
  rw [krv_pick] at N'
  exact H h (grow h' _ _ _ (Nat.le_succ _) F' N' (.list ((f.reverse).mono fun _ _ r => r.mono (List.prefix_append _ _)))) (List.prefix_append _ _) (.obj (get_snoc R _))
theorem zip_at {α β : Type} {l : List α} {r : List β} {i : Nat} {a : α} {b : β} (ha : l[i]? = some a) (hb : r[i]? = some b) : l.zip r = (l.take i).zip (r.take i) ++ (a, b) :: (l.drop (i + 1)).zip (r.drop (i + 1)) := by
  induction l generalizing r i with
  | nil => simp at ha
  | cons x l ih => cases r with
    | nil => simp at hb
    | cons y r => cases i with
      | zero => simp at ha hb; subst ha hb; simp
      | succ i => simp only [List.getElem?_cons_succ] at ha hb; simp [ih ha hb]
theorem Rel.newsAt (R : Rel w.params h₀ φ O X L m s.heap) {i : Nat} {a : Addr} (hi : φ[i]? = some a) : ∃ pre post c, News h₀ L s.heap (pre ++ (a, c) :: post) ∧ s.heap.get? a = some c ∧ (∀ p ∈ pre, p.1 ≠ a) ∧ (∀ p ∈ post, p.1 ≠ a) ∧
    ∀ (h' : Heap) (c' : Obj) (o' : AO), Fr h₀ L h' m → News h₀ L h' (pre ++ (a, c') :: post) → RO w.params φ o' c' → Rel w.params h₀ φ (O.set i o') X L m h' := by
  obtain ⟨cs, fa, hl, N⟩ := R.ex
  obtain ⟨hlt, ei⟩ := List.getElem?_eq_some_iff.mp hi
  have hc : cs[i]? = some cs[i] := List.getElem?_eq_getElem (by omega)
  have ez := zip_at hi hc
  have eN : φ.zip cs ++ X = (φ.take i).zip (cs.take i) ++ (a, cs[i]) :: ((φ.drop (i + 1)).zip (cs.drop (i + 1)) ++ X) := by rw [ez]; simp
  have nd : (φ ++ X.map (·.1)).Nodup := R.nd
  have eφ : φ = φ.take i ++ a :: φ.drop (i + 1) := by
    have e1 := List.take_append_drop i φ
    rw [List.drop_eq_getElem_cons hlt, ei] at e1
    exact e1.symm
  have fsts : ∀ {l : List Addr} {r : List Obj} {p : Addr × Obj}, p ∈ l.zip r → p.1 ∈ l := fun hp => (List.of_mem_zip (show (_, _) ∈ _ from hp)).1
  have nd2 : (φ.take i ++ a :: (φ.drop (i + 1) ++ X.map (·.1))).Nodup := by
    have : φ.take i ++ a :: (φ.drop (i + 1) ++ X.map (·.1)) = φ ++ X.map (·.1) := by
      conv => rhs; rw [eφ]
      simp
    rw [this]; exact nd
  obtain ⟨na, _⟩ := List.nodup_cons.mp (List.perm_middle.nodup_iff.mp nd2)
  rw [eN] at N
  refine ⟨_, _, _, N, (N (a, cs[i]) (by simp)).1, fun p hp e => na ?_, fun p hp e => na ?_, fun h' c' o' F' N' ro => ⟨F', ⟨cs.set i c', fa.set i ro, by simp [hl], ?_⟩, nd, R.low⟩⟩
  · rw [← e]; exact List.mem_append_left _ (fsts hp)
  · rw [← e]
    rcases List.mem_append.mp hp with q | q
    · exact List.mem_append_right _ (List.mem_append_left _ (fsts q))
    · exact List.mem_append_right _ (List.mem_append_right _ (List.mem_map_of_mem q))
  · have hc' : (cs.set i c')[i]? = some c' := List.getElem?_set_self (by omega)
    rw [zip_at hi hc', List.take_set_of_le (Nat.le_refl _), List.drop_set_of_lt (Nat.lt_succ_self _)]
    simpa using N'
theorem updAt {a : Addr} {c c' : Obj} : ∀ {pre post : List (Addr × Obj)}, (∀ p ∈ pre, p.1 ≠ a) → (∀ p ∈ post, p.1 ≠ a) → Upd a c c' (pre ++ (a, c) :: post) (pre ++ (a, c') :: post)
  | [], _, _, h2 => .head h2
  | _ :: _, _, h1, h2 => .tail (h1 _ (.head _)) (updAt (fun p hp => h1 p (.tail _ hp)) h2)
theorem Rel.inst (R : Rel w.params h₀ φ O X L m s.heap) {i : Nat} {C : Addr} {d : Nat} {es : List (Str × AV)} {u : Value} (e : O[i]? = some (.inst C d)) (ed : O[d]? = some (.dict es)) (r : RV φ (.obj i) u) :
    ∃ x dx ds n, u = .ref x ∧ φ[d]? = some dx ∧ Fa (RE w.params φ) es ds ∧ (es.map (·.1)).Nodup ∧ s.heap.get? dx = some (dictOf ds n) ∧ PySem.W.InstAt s.heap x (instObj C dx) C (some (dictOf ds n)) := by
  obtain ⟨x, c, rfl, hi, hc, ro⟩ := R.at_obj e r
  cases ro with
  | inst hd =>
    obtain ⟨dx, c2, hd2, hc2, ro2⟩ := R.obj ed
    rw [hd] at hd2
    cases hd2
    cases ro2 with
    | dict f nd => exact ⟨x, _, _, _, rfl, hd, f, nd, hc2, ⟨hc, rfl, rfl, hc2⟩⟩
theorem instV_of (B : Base prog w h₀ tb K) {o : AV} {nm : Str} {u : Value} {k : Nat → List (Str × AV) → Tr} (h : (instV tb o nm O k).holds D) (R : Rel w.params h₀ φ O X L m s.heap) (ro : RV φ o u) :
    ∃ C x d es dx ds n, (k d es).holds D ∧ u = .ref x ∧ φ[d]? = some dx ∧ Fa (RE w.params φ) es ds ∧ (es.map (·.1)).Nodup ∧ s.heap.get? dx = some (dictOf ds n) ∧ PySem.W.InstAt s.heap x (instObj C dx) C (some (dictOf ds n)) ∧
      (plainGet K C nm = true ∧ hasDictIn K C = true ∧ (∃ attr, findIn K (.ref C) nm = some attr ∧ noGet K attr = true) ∧ findIn K (.ref C) "__setattr__" = some (some (.builtin "object.__setattr__")) ∧ plainOver K C = true ∧ takerIn K C nm = some none) := by
  cases o with
  | obj i =>
    obtain ⟨ob, e, h⟩ := h
    cases ob with
    | inst C d =>
      obtain ⟨fs, hf, h⟩ := optT_of (o := tb.fields.lookup C) h
      obtain ⟨hc, od, ed, h⟩ := ifT_of (b := fs.contains nm) h
      cases od with
      | dict es =>
        obtain ⟨x, dx, ds, n, h1, h2, h3, h4, h5, h6⟩ := R.inst e ed ro
        exact ⟨C, x, d, es, dx, ds, n, h, h1, h2, h3, h4, h5, h6, B.fields C fs nm hf hc⟩
      | _ => exact h.elim
    | _ => exact h.elim
  | _ => exact h.elim
theorem notVal_of {v : AV} {z : Value} {k : AV → Tr} (h : (notVal v k).holds D) (r : RV φ v z) : (k v).holds D ∧ ∀ u, v ≠ .val u := by
  cases v with
  | val _ => exact h.elim
  | _ => exact ⟨h, fun _ => AV.noConfusion⟩
theorem attrV_sound (B : Base prog w h₀ tb K) {o : AV} {nm : Str} {u : Value} {expr : Bool} {k : AV → Tr} (h : (attrV tb o nm O k).holds D) (R : Rel w.params h₀ φ O X L m s.heap) (ro : RV φ o u) (H : ∀ v u tk, (k v).holds D → RV φ v u → Q u { s with toks := tk }) :
    wpAny (model prog w) A (getAttr u nm expr) Q E s := by
  obtain ⟨C, x, d, es, dx, ds, n, h, rfl, hd, f, nd, hdx, I, b1, b2, ⟨attr, b3, b4⟩, b5, b6, b7⟩ := instV_of B h R ro
  obtain ⟨v, hv, h⟩ := optT_of h
  obtain ⟨z, hz, rz⟩ := (getL_fa (w := w) nm f).1 v hv
  obtain ⟨h, hno⟩ := notVal_of h rz
  refine get_own R.F B.kin I b1 b2 b3 b4 hz ?_ (H _ _ _ h rz)
  cases rz with
  | val _ => exact (hno _ rfl).elim
  | _ => rfl
noncomputable def PostU (P : Params) (h₀ : Heap) (φ : List Addr) (X : List (Addr × Obj)) (L : Addr) (m : Str → Option Value) (k : Ost → Prop) (Q : Unit → Shared → Prop) (s : Shared) : Prop :=
  ∀ ⦃O' : Ost⦄ ⦃φ' : List Addr⦄ ⦃h' : Heap⦄ ⦃tk : Tok⦄, k O' → Rel P h₀ φ' O' X L m h' → φ <+: φ' → Q () { s with heap := h', toks := tk }
theorem setAttrV_sound (B : Base prog w h₀ tb K) {o a : AV} {nm : Str} {u v : Value} {k : Ost → Tr} {Q : Unit → Shared → Prop} (h : (setAttrV tb o nm a O k).holds D) (R : Rel w.params h₀ φ O X L m s.heap) (ro : RV φ o u) (ra : RV φ a v) (H : PostU w.params h₀ φ X L m (fun O => (k O).holds D) Q s) :
    wpAny (model prog w) A (setAttr u nm v) Q E s := by
  obtain ⟨C, x, d, es, dx, ds, n, ⟨hz, h⟩, rfl, hd, f, nd, hdx, I, b1, b2, ⟨attr, b3, b4⟩, b5, b6, b7⟩ := instV_of B h R ro
  obtain ⟨pre, post, c, N, hcx, n1, n2, back⟩ := R.newsAt hd
  rw [hdx] at hcx
  cases hcx
  have f' := putL_fa nm (PyData.keyHash w.params nm) (s.toks + 1) a v rfl ra f
  have hsome : (getL nm ds).isSome = true := by
    cases hl : es.lookup nm with
    | none => rw [(getL_fa (w := w) nm f).2 hl]; rfl
    | some y => obtain ⟨z, hz, _⟩ := (getL_fa (w := w) nm f).1 y hl; rw [hz]; rfl
  refine set_dict R.F B.kin N I rfl b5 b6 b7 b2 hsome rfl (updAt n1 n2) ?_ fun h' F' N' => ?_
  · rw [← f'.length]
    have := (setL_names nm a es).2.2
    omega
  · exact H h (back h' _ _ F' N' (.dict f' ((setL_names nm a es).2.1 nd))) (List.prefix_refl _)
theorem setItemV_sound {o i a : AV} {u v x : Value} {k : Ost → Tr} {Q : Unit → Shared → Prop} (h : (setItemV o i a O k).holds D) (R : Rel w.params h₀ φ O X L m s.heap) (ro : RV φ o u) (ri : RV φ i v) (ra : RV φ a x) (H : PostU w.params h₀ φ X L m (fun O => (k O).holds D) Q s) :
    wpAny (model prog w) A (setItem u v x) Q E s := by
  obtain ⟨y, rfl, h⟩ := strV_of (v := i) h
  obtain ⟨d, es, rfl, e, hz, h⟩ := dictV_of (v := o) h
  obtain ⟨t, rfl⟩ := ri.str_inv
  obtain ⟨a, kvs, rfl, hi, D, f, hl⟩ := R.isDict (prog := prog) e ro
  have nd : (kvs.map (·.1)).Nodup := by obtain ⟨_, _, _, _, _, _, _, _, hn⟩ := D; exact hn
  refine wpAny_setItem_pairs (strKind_is prog w y t) D (fun h' D' hs => ?_) (by rw [← hl, sizeLine_eq]; omega)
  obtain ⟨c, hc, ro'⟩ := fromDictOf D' (setL_any y _ es kvs x f ra nd)
  exact H h (R.upd hi hs.2 hc ro') (List.prefix_refl _)
end
end Vm
end
section
namespace Vm
open PySem PySem.W PyProof.Rows PySem.Calls PySem.SeqAt
namespace FX
theorem slot_bytes_split : Slot "bytes" "split" "bytes.split" :=
  .of (owner := "bytes") (n := "split") (by rw [typeLookup_type, builtinLookup_eq_fast]; kernel_rfl) (by decide +kernel) (by decide +kernel) (by decide +kernel)
    (by first | exact .inl (by decide +kernel) | exact .inr (by decide +kernel)) (by rw [isSubtype_type]; kernel_rfl)
theorem type_bytes_split : typeOf (.builtin "bytes.split") = pure (.type "method_descriptor") := by show builtinType _ = _; rw [builtinType_eq_fast]; kernel_rfl
theorem slot_bytes_join : Slot "bytes" "join" "bytes.join" :=
  .of (owner := "bytes") (n := "join") (by rw [typeLookup_type, builtinLookup_eq_fast]; kernel_rfl) (by decide +kernel) (by decide +kernel) (by decide +kernel)
    (by first | exact .inl (by decide +kernel) | exact .inr (by decide +kernel)) (by rw [isSubtype_type]; kernel_rfl)
theorem type_bytes_join : typeOf (.builtin "bytes.join") = pure (.type "method_descriptor") := by show builtinType _ = _; rw [builtinType_eq_fast]; kernel_rfl
theorem slot_bytes_find : Slot "bytes" "find" "bytes.find" :=
  .of (owner := "bytes") (n := "find") (by rw [typeLookup_type, builtinLookup_eq_fast]; kernel_rfl) (by decide +kernel) (by decide +kernel) (by decide +kernel)
    (by first | exact .inl (by decide +kernel) | exact .inr (by decide +kernel)) (by rw [isSubtype_type]; kernel_rfl)
theorem type_bytes_find : typeOf (.builtin "bytes.find") = pure (.type "method_descriptor") := by show builtinType _ = _; rw [builtinType_eq_fast]; kernel_rfl
theorem plainAttrs_bytearray : PlainAttrs "bytearray" :=
  ⟨⟨"bytearray.__getattribute__", by rw [typeLookup_type, builtinLookup_eq_fast]; kernel_rfl, by decide +kernel⟩, by rw [typeLookup_type, builtinLookup_eq_fast]; kernel_rfl⟩
theorem slot_bytearray_append : Slot "bytearray" "append" "bytearray.append" :=
  .of (owner := "bytearray") (n := "append") (by rw [typeLookup_type, builtinLookup_eq_fast]; kernel_rfl) (by decide +kernel) (by decide +kernel) (by decide +kernel)
    (by first | exact .inl (by decide +kernel) | exact .inr (by decide +kernel)) (by rw [isSubtype_type]; kernel_rfl)
theorem type_bytearray_append : typeOf (.builtin "bytearray.append") = pure (.type "method_descriptor") := by show builtinType _ = _; rw [builtinType_eq_fast]; kernel_rfl
end FX
end Vm
end
section
namespace Vm
open PySem PySem.W PyProof.Rows PySem.Calls PySem.SeqAt
namespace FX
theorem owner_bytearray : Manifest.owners.lookup (String.ofList ['y', 'a', 'r', 'r', 'a', 'e', 't', 'y', 'b'].reverse) = some Manifest.sig_bytearray := by kernel_rfl
theorem slot_ba_len : Slot "bytearray" "__len__" "bytearray.__len__" :=
  .of (owner := "bytearray") (n := "__len__") (by rw [typeLookup_type, builtinLookup_eq_fast]; kernel_rfl) (by decide +kernel) (by decide +kernel) (by decide +kernel)
    (by first | exact .inl (by decide +kernel) | exact .inr (by decide +kernel)) (by rw [isSubtype_type]; kernel_rfl)
theorem entry_ba_len : entryFor table "bytearray.__len__" = some Builtin.«bytearray.__len__» := entryFor_of_tree (by kernel_rfl)
theorem args_ba_len (a : Value) : argsOk "bytearray.__len__" ⟨[a], []⟩ := by
  unfold argsOk; rw [signature?_of (id := "bytearray.__len__") (n := ['_', '_', 'n', 'e', 'l', '_', '_']) (o := ['y', 'a', 'r', 'r', 'a', 'e', 't', 'y', 'b']) (by kernel_rfl) owner_bytearray]; kernel_rfl
theorem slot_ba_getitem : Slot "bytearray" "__getitem__" "bytearray.__getitem__" :=
  .of (owner := "bytearray") (n := "__getitem__") (by rw [typeLookup_type, builtinLookup_eq_fast]; kernel_rfl) (by decide +kernel) (by decide +kernel) (by decide +kernel)
    (by first | exact .inl (by decide +kernel) | exact .inr (by decide +kernel)) (by rw [isSubtype_type]; kernel_rfl)
theorem entry_ba_getitem : entryFor table "bytearray.__getitem__" = some Builtin.«bytearray.__getitem__» := entryFor_of_tree (by kernel_rfl)
theorem args_ba_getitem (a b : Value) : argsOk "bytearray.__getitem__" ⟨[a, b], []⟩ := by
  unfold argsOk; rw [signature?_of (id := "bytearray.__getitem__") (n := ['_', '_', 'm', 'e', 't', 'i', 't', 'e', 'g', '_', '_']) (o := ['y', 'a', 'r', 'r', 'a', 'e', 't', 'y', 'b']) (by kernel_rfl) owner_bytearray]; kernel_rfl
theorem slot_ba_delitem : Slot "bytearray" "__delitem__" "bytearray.__delitem__" :=
  .of (owner := "bytearray") (n := "__delitem__") (by rw [typeLookup_type, builtinLookup_eq_fast]; kernel_rfl) (by decide +kernel) (by decide +kernel) (by decide +kernel)
    (by first | exact .inl (by decide +kernel) | exact .inr (by decide +kernel)) (by rw [isSubtype_type]; kernel_rfl)
theorem entry_ba_delitem : entryFor table "bytearray.__delitem__" = some Builtin.«bytearray.__delitem__» := entryFor_of_tree (by kernel_rfl)
theorem args_ba_delitem (a b : Value) : argsOk "bytearray.__delitem__" ⟨[a, b], []⟩ := by
  unfold argsOk; rw [signature?_of (id := "bytearray.__delitem__") (n := ['_', '_', 'm', 'e', 't', 'i', 'l', 'e', 'd', '_', '_']) (o := ['y', 'a', 'r', 'r', 'a', 'e', 't', 'y', 'b']) (by kernel_rfl) owner_bytearray]; kernel_rfl
theorem entry_ba_append : entryFor table "bytearray.append" = some Builtin.«bytearray.append» := entryFor_of_tree (by kernel_rfl)
theorem args_ba_append (a b : Value) : argsOk "bytearray.append" ⟨[a, b], []⟩ := by
  unfold argsOk; rw [signature?_of (id := "bytearray.append") (n := ['d', 'n', 'e', 'p', 'p', 'a']) (o := ['y', 'a', 'r', 'r', 'a', 'e', 't', 'y', 'b']) (by kernel_rfl) owner_bytearray]; kernel_rfl
end FX
section
variable {prog : Program} {w : World} {A : Around} {E : Value → Shared → Prop} {s : Shared} {a : Addr} {b : Array UInt8}
noncomputable abbrev BA (s : Shared) (a : Addr) (b : Array UInt8) : Prop := s.heap.get? a = some { cls := .type "bytearray", data := .bytearray b }
theorem BA.is (h : BA s a b) : s.TypeIs (.ref a) "bytearray" := ⟨_, h, rfl⟩
theorem wp_payload {M : Model} {Q : Array UInt8 → Shared → Prop} (h : BA s a b) (hq : Q b s) : wpAny M A (Builtin.Bytes.payload (.ref a)) Q E s := by
  unfold Builtin.Bytes.payload Builtin.Bytes.payload?
  refine wpAny_bind (wpAny_bind (wpAny_load h ?_))
  exact wpAny_pure (wpAny_pure hq)
theorem meets_ba_len : Meets (Builtin.«bytearray.__len__» ⟨[.ref a], []⟩) (fun _ R s => BA s a b ∧ R (.ok (.ret (.int b.size s.toks))) { s with toks := s.toks + 1 }) := by
  refine .of_wp fun prog w A R s hS => ?_
  obtain ⟨h, hR⟩ := hS
  show wpAny _ _ (Builtin.Bytes.payload (.ref a) >>= fun r => _) _ _ s
  refine wpAny_bind (wp_payload h ?_)
  exact wpAny_bind (wpAny_mkInt (wpAny_pure ⟨_, rfl, hR⟩))
theorem ba_len {Q : Value → Shared → Prop} (h : BA s a b) (hz : b.size ≤ 1000000) (hq : ∀ t tk, Q (.int b.size t) { s with toks := tk }) : wpAny (model prog w) A (call (.builtin "len") [.ref a]) Q E s := by
  refine Calls.call_function_entry kind_len plain_len entry_len (args_len1 _) ?_
  unfold Builtin.«len»
  refine wpAny_bind (m := oneArg "len" _) (wpAny_pure ?_)
  refine wpAny_bind (m := callSpecial? (.ref a) (Str.ofString "__len__")) (wpAny_callSpecial?_slot (name := Str.ofString "__len__") h.is FX.slot_ba_len (call_meets FX.slot_ba_len h.is FX.entry_ba_len (FX.args_ba_len _) (meets_ba_len (b := b)) ⟨h, ?_⟩))
  show wpAny _ _ _ _ _ { s with toks := s.toks + 1 }
  refine wpAny_bind (wpAny_holding (wpAny_pure ?_))
  refine wpAny_bind (wpAny_letGo ?_)
  show wpAny _ _ (if (b.size : Int) < 0 then _ else _) _ _ _
  rw [if_neg (by omega)]
  show wpAny _ _ (if (b.size : Int) ≥ 2 ^ 63 then _ else _) _ _ _
  rw [if_neg (by omega)]
  exact wpAny_bind (wpAny_mkInt (wpAny_pure ⟨_, rfl, hq _ _⟩))
theorem ba_slice_no_index : typeLookup (.type "slice") "__index__" = pure none := by rw [typeLookup_type, builtinLookup_eq_fast]; kernel_rfl
theorem meets_ba_slice (b : Array UInt8) (a S : Addr) {l u : Value} {lo hi : Option Int} (hl : IsPart l lo) (hu : IsPart u hi) :
    Meets (Builtin.«bytearray.__getitem__» ⟨[.ref a, .ref S], []⟩) (fun _ R s => BA s a b ∧ s.heap.IsSliceOf S l u .none ∧ (KBy.picked b lo hi).size ≤ sizeLine ∧
      R (.ok (.ret (.ref s.heap.objs.size))) { s with heap := s.heap.push { cls := .type "bytearray", data := .bytearray (KBy.picked b lo hi) } }) := by
  refine .of_wp fun prog w A R s hS => ?_
  obtain ⟨hb, ⟨o, ho, hc, hd⟩, hsz, h⟩ := hS
  have hT : s.TypeIs (.ref S) "slice" := ⟨o, ho, hc⟩
  show wpAny _ _ (Builtin.Bytes.subscript? (.ref S) >>= fun r => _) _ _ s
  refine wpAny_bind ?_
  unfold Builtin.Bytes.subscript?
  refine wpAny_bind (wpAny_specialOf hT ba_slice_no_index (wpAny_pure ?_))
  refine wpAny_bind (wpAny_typeOf hT ?_)
  show wpAny _ _ (Builtin.Bytes.sliceParts (.ref S) >>= fun r => _) _ _ s
  refine wpAny_bind ?_
  unfold Builtin.Bytes.sliceParts
  refine wpAny_bind (wpAny_field (x := .none) ho hd rfl ?_)
  kby_none
  refine wpAny_ite (KBy.ite_no (show ¬ ((Value.none == rawInt 0) = true) from Bool.false_ne_true) ?_)
  refine wpAny_bind (wpAny_field (x := l) ho hd rfl ?_)
  have go : wpAny (model prog w) A.in1 (sliceIndices (rawPart lo) (rawPart hi) (rawPart none) b.size) (fun r s' => r = sliceBounds lo hi none b.size ∧ s' = s) (fun _ _ => False) s :=
    wpAny_of_eq (sliceIndices_raw lo hi none b.size (fun e => nomatch e)) ⟨rfl, rfl⟩
  cases hl <;> cases hu <;> (first
    | (kby_none; (refine wpAny_bind (wpAny_field (x := .none) ho hd rfl ?_)); kby_none)
    | (kby_none; (refine wpAny_bind (wpAny_field (x := .int _ _) ho hd rfl ?_)); kby_int)
    | (kby_int; (refine wpAny_bind (wpAny_field (x := .none) ho hd rfl ?_)); kby_none)
    | (kby_int; (refine wpAny_bind (wpAny_field (x := .int _ _) ho hd rfl ?_)); kby_int)) <;> refine wpAny_pure ?_
  all_goals
    refine wpAny_bind (wp_payload hb ?_)
    refine wpAny_bind (wpAny_mono go (fun r s' hr => ?_) fun _ _ e => e.elim)
    obtain ⟨hr1, hr2⟩ := hr
    subst hr1 hr2
    exact wpAny_bind (wpAny_newObj_type (wpAny_pure ⟨_, rfl, h⟩) hsz)
theorem barrCut : BarrCut prog w := ⟨fun {A E s a S b l u lo hi Q} h hS pl pu hz hq =>
  tail_of_ItemOn ⟨"bytearray", _, FX.slot_ba_getitem.lookup, ⟨_, h, rfl⟩, getItem_meets ⟨_, h, rfl⟩ (by decide) FX.slot_ba_getitem FX.entry_ba_getitem (FX.args_ba_getitem _ _) (meets_ba_slice b a S pl pu)
    ⟨h, hS, Nat.le_trans (KBc.size_picked_le b lo hi) (by rw [sizeLine_eq]; omega), hq _ s.toks (KBc.ints_picked rfl lo hi)⟩⟩ rfl (fun _ => rfl)⟩
end
namespace FX
theorem look_ba_buffer : typeLookup (.type "bytearray") "__buffer__" = pure (some (.builtin "bytearray.__buffer__")) := by rw [typeLookup_type, builtinLookup_eq_fast]; kernel_rfl
theorem look_ba_release : typeLookup (.type "bytearray") "__release_buffer__" = pure (some (.builtin "bytearray.__release_buffer__")) := by rw [typeLookup_type, builtinLookup_eq_fast]; kernel_rfl
theorem sub_ba : isSubtype (.type "bytearray") (.type "bytearray") = pure true := by rw [isSubtype_type]; kernel_rfl
theorem slot_ba_eq : Slot "bytearray" (cmpInfo .Eq).2.1 "bytearray.__eq__" :=
  .of (owner := "bytearray") (n := "__eq__") (by rw [typeLookup_type, builtinLookup_eq_fast]; kernel_rfl) (by decide +kernel) (by decide +kernel) (by decide +kernel)
    (by first | exact .inl (by decide +kernel) | exact .inr (by decide +kernel)) (by rw [isSubtype_type]; kernel_rfl)
theorem entry_ba_eq : entryFor table "bytearray.__eq__" = some Builtin.«bytearray.__eq__» := entryFor_of_tree (by kernel_rfl)
theorem args_ba_eq (a b : Value) : argsOk "bytearray.__eq__" ⟨[a, b], []⟩ := by
  unfold argsOk; rw [signature?_of (id := "bytearray.__eq__") (n := ['_', '_', 'q', 'e', '_', '_']) (o := ['y', 'a', 'r', 'r', 'a', 'e', 't', 'y', 'b']) (by kernel_rfl) owner_bytearray]; kernel_rfl
end FX
section
variable {prog : Program} {w : World} {A : Around} {E : Value → Shared → Prop} {s : Shared} {a : Addr} {b : Array UInt8}
theorem ba_own_buffer {M : Model} {Q : Bool → Shared → Prop} (h : BA s a b) (hq : Q true s) : wpAny M A (Builtin.Bytes.slotIsOwn (.ref a) "__buffer__") Q E s := by
  unfold Builtin.Bytes.slotIsOwn
  refine wpAny_bind (wpAny_specialOf h.is FX.look_ba_buffer ?_)
  show wpAny _ _ (if (!("bytearray.__buffer__" : String).endsWith ("." ++ "__buffer__")) = true then _ else _) _ _ _
  rw [if_neg (by decide +kernel)]
  have e : (("bytearray.__buffer__" : String).dropRight (("__buffer__" : String).length + 1)) = "bytearray" := by decide +kernel
  rw [e]
  exact wpAny_isInstance h.is FX.sub_ba hq
theorem ba_own_release {M : Model} {Q : Bool → Shared → Prop} (h : BA s a b) (hq : Q false s) : wpAny M A (Builtin.Bytes.ownRelease (.ref a)) Q E s := by
  unfold Builtin.Bytes.ownRelease Builtin.Bytes.slotIsOwn
  refine wpAny_bind (wpAny_bind (wpAny_specialOf h.is FX.look_ba_release ?_))
  show wpAny _ _ (if (!("bytearray.__release_buffer__" : String).endsWith ("." ++ "__release_buffer__")) = true then _ else _) _ _ _
  rw [if_neg (by decide +kernel)]
  have e : (("bytearray.__release_buffer__" : String).dropRight (("__release_buffer__" : String).length + 1)) = "bytearray" := by decide +kernel
  rw [e]
  exact wpAny_isInstance h.is FX.sub_ba (wpAny_pure hq)
theorem ba_buffer {M : Model} {id : String} {full : Bool} {Q : Option (Array UInt8) → Shared → Prop} (h : BA s a b) (hq : Q (some b) s) : wpAny M A (Builtin.Bytes.buffer? id (.ref a) full) Q E s := by
  unfold Builtin.Bytes.buffer?
  refine wpAny_bind (wpAny_specialOf h.is FX.look_ba_buffer ?_)
  refine wpAny_bind (ba_own_buffer h ?_)
  refine wpAny_ite ?_
  rw [if_neg (by decide)]
  refine wpAny_bind (wpAny_specialOf h.is FX.look_ba_buffer ?_)
  refine wpAny_bind (ba_own_release h ?_)
  refine wpAny_ite ?_
  rw [if_neg (by decide)]
  exact wpAny_bind (wp_payload h (wpAny_pure hq))
theorem meets_ba_eq (a : Addr) (b c : Array UInt8) (t : Tok) : Meets (Builtin.«bytearray.__eq__» ⟨[.ref a, .bytes c t], []⟩) (fun _ R s => BA s a b ∧ R (.ok (.ret (.bool (b.toList == c.toList)))) s) := by
  refine .of_wp fun prog w A R s hS => ?_
  obtain ⟨hb, h⟩ := hS
  show wpAny _ _ (Builtin.Bytes.buffer? _ (.ref a) >>= fun r => _) _ _ s
  refine wpAny_bind (ba_buffer hb ?_)
  show wpAny _ _ (Builtin.Bytes.bufferQuiet? _ (.bytes c t) >>= fun r => _) _ _ s
  refine wpAny_bind (wpAny_of_eq KBy.quiet_eq ?_)
  exact wpAny_pure ⟨_, rfl, by rw [← order_eq] at h; exact h⟩
theorem barrEq : BarrEq prog w := ⟨fun {A E s a b c t Q} hu h hq => by
  show wpAny _ _ (richCompare .Eq (.ref a) (.bytes c t)) _ _ _
  unfold richCompare
  refine wpAny_holding ?_
  refine wpAny_bind (wpAny_cRoomFor (by omega) ?_)
  show wpAny _ _ (typeOf (.ref a) >>= fun ta => _) _ _ _
  refine wpAny_bind (wpAny_typeOf ⟨_, h, rfl⟩ ?_)
  refine wpAny_bind (wpAny_typeOf (typeIs_bytes s c t) ?_)
  refine bm_if_true (c := (Value.type "bytearray" != Value.type "bytes")) (by decide) ?_
  refine wpAny_bind (wpAny_of_eq F.sub_bytes_bytearray ?_)
  refine bm_if_false (c := false) rfl ?_
  refine wpAny_bind (wpAny_tryCompare_slot ⟨_, h, rfl⟩ FX.slot_ba_eq (call_meets FX.slot_ba_eq ⟨_, h, rfl⟩ FX.entry_ba_eq (FX.args_ba_eq _ _) (meets_ba_eq a b c t) ⟨h, ?_⟩))
  exact ⟨by simp, wpAny_pure hq⟩⟩
end
namespace FX
theorem ba_no_bytes : typeLookup (.type "bytearray") "__bytes__" = pure none := by rw [typeLookup_type, builtinLookup_eq_fast]; kernel_rfl
theorem ba_no_index : typeLookup (.type "bytearray") "__index__" = pure none := by rw [typeLookup_type, builtinLookup_eq_fast]; kernel_rfl
end FX
section
variable {prog : Program} {w : World} {A : Around} {E : Value → Shared → Prop} {s : Shared} {a : Addr} {b : Array UInt8}
theorem ba_bytes_new {Q : Value → Shared → Prop} (h : BA s a b) (hz : b.size ≤ sizeLine) (hQ : ∀ t k, Q (.bytes b t) { s with toks := k }) :
    codeAny (model prog w) A (.call (.builtin "bytes.__new__") ⟨[.type "bytes", .ref a], []⟩) (wants Q E) s := by
  refine codeAny_of_tree ?_
  show wpAny _ A.in1 (do checkBuiltinCall "bytes.__new__" ⟨[.type "bytes", .ref a], []⟩; again (.builtin "bytes.__new__" ⟨[.type "bytes", .ref a], []⟩)) _ _ s
  refine wpAny_bind (wpAny_of_eq (F.bm_newCall _) (wpAny_pure ⟨plainId_quiet F.bm_plain _, codeAny_builtin F.bm_entry ?_⟩))
  rw [Around.under_plainId F.bm_plain _]
  have hT : s.TypeIs (.ref a) "bytearray" := h.is
  unfold Builtin.«bytes.__new__»
  refine wpAny_bind (wpAny_of_eq (a := true) rfl ?_)
  refine bm_if_false rfl ?_
  refine wpAny_bind (wpAny_of_eq F.bm_sub ?_)
  refine bm_if_false rfl ?_
  refine wpAny_bind (wpAny_of_eq (F.bm_bind _) ?_)
  refine wpAny_bind (wpAny_of_eq (a := ()) rfl ?_)
  refine wpAny_bind (wpAny_of_eq (a := ()) rfl ?_)
  refine bm_if_false rfl ?_
  refine wpAny_bind (wpAny_specialOf hT FX.ba_no_bytes ?_)
  refine wpAny_bind (wpAny_bind ?_)
  show wpAny _ _ (load a >>= _) _ _ _
  refine wpAny_bind (wpAny_load h ?_)
  refine wpAny_pure (wpAny_pure ?_)
  refine bm_if_false rfl ?_
  refine wpAny_bind (wpAny_specialOf hT FX.ba_no_index ?_)
  refine bm_if_true rfl ?_
  first
    | show wpAny _ _ (Builtin.Bytes.buffer? "bytes.__new__" (.ref a) true >>= _) _ _ _
    | (refine wpAny_bind ?_; show wpAny _ _ (Builtin.Bytes.buffer? "bytes.__new__" (.ref a) true >>= _) _ _ _)
  refine wpAny_bind (ba_buffer h ?_)
  refine wpAny_bind (wpAny_rule ?_)
  refine wpAny_bind (wpAny_mkBytes ?_ hz)
  show wpAny _ _ (if (Value.type "bytes" == Value.type "bytes") = true then _ else _) _ _ _
  refine bm_if_true (by decide) ?_
  first
    | exact wpAny_pure (hQ _ _)
    | exact wpAny_bind (wpAny_pure (wpAny_pure (hQ _ _)))
theorem barr_bytes {Q : Value → Shared → Prop} (hh : A.handled = none) (h : BA s a b) (hz : b.size ≤ 1000000)
    (hq : ∀ h' t tk, (∀ c o, s.heap.get? c = some o → h'.get? c = some o) → Q (.bytes b t) { s with heap := h', toks := tk }) : wpAny (model prog w) A (call (.type "bytes") [.ref a]) Q E s := by
  refine callType_codes (Q₁ := fun obj s₁ => s₁.TypeIs obj "bytes" ∧ Q obj s₁) F.bm_called (F.bm_typeCall _) F.entry_object_init
    (ba_bytes_new h (by rw [sizeLine_eq]; omega) fun t k => ⟨PySem.W.typeIs_bytes _ _ _, hq s.heap t k fun _ _ e => e⟩) fun obj s₁ h₁ => ?_
  exact ⟨h₁.1, F.args_object_init_2 obj _, object_init_meets F.bm_called.init.lookup F.bm_called.made (by decide) prog w A.in1 _ s₁ ⟨h₁.1, rfl, h₁.2⟩⟩
end
end Vm
end
section
namespace Vm
open PySem PySem.W PyProof.Rows PySem.Calls PySem.SeqAt
namespace FX
theorem entry_bytes_find : entryFor table "bytes.find" = some Builtin.«bytes.find» := entryFor_of_tree (by kernel_rfl)
theorem args_bytes_find (a b c : Value) : argsOk "bytes.find" ⟨[a, b, c], []⟩ := by
  unfold argsOk; rw [signature?_of (id := "bytes.find") (n := ['d', 'n', 'i', 'f']) (o := ['s', 'e', 't', 'y', 'b']) (by kernel_rfl) FB.owner_bytes]; kernel_rfl
end FX
theorem find_short : ∀ (l c : List Int) (n : Nat), l.length < c.length → findFrom c n l = -1
  | [], c, n, h => by
    unfold findFrom
    rw [if_neg]
    rintro rfl; simp at h
  | x :: r, c, n, h => by
    unfold findFrom
    rw [if_neg, find_short r c (n + 1) (by simp only [List.length_cons] at h; omega)]
    intro q
    have := List.IsPrefix.length_le (List.isPrefixOf_iff_prefix.mp q)
    omega
theorem range_step (j n : Nat) : (List.range (j + 1)).map (· + n) = n :: (List.range j).map (· + (n + 1)) := by
  rw [List.range_succ_eq_map, List.map_cons, List.map_map]
  congr 1
  · omega
  · refine List.map_congr_left fun x _ => ?_
    simp only [Function.comp]; omega
theorem find_go (L c : List Int) : ∀ (m n : Nat), n ≤ L.length → L.length - n = m →
    findFrom c n (L.drop n) = (match ((List.range (L.length + 1 - (n + c.length))).map (· + n)).find? (fun i => decide ((L.drop i).take c.length = c)) with | some i => ((i : Nat) : Int) | none => -1) := by
  intro m
  induction m with
  | zero =>
    intro n hn hm
    have e : n = L.length := by omega
    subst e
    rw [List.drop_length]
    cases c with
    | nil =>
      rw [show L.length + 1 - (L.length + ([] : List Int).length) = 0 + 1 by simp, range_step]
      simp [findFrom]
    | cons x c =>
      rw [show L.length + 1 - (L.length + (x :: c).length) = 0 by simp only [List.length_cons]; omega]
      simp [findFrom]
  | succ m ih =>
    intro n hn hm
    by_cases hk : n + c.length ≤ L.length
    · rw [show L.length + 1 - (n + c.length) = (L.length + 1 - (n + 1 + c.length)) + 1 by omega, range_step, List.find?_cons]
      have hd : L.drop n = L[n]'(by omega) :: L.drop (n + 1) := List.drop_eq_getElem_cons (by omega)
      by_cases hp : (L.drop n).take c.length = c
      · rw [decide_eq_true hp, hd]
        unfold findFrom
        rw [if_pos]
        rw [← hd, List.isPrefixOf_iff_prefix]
        exact ⟨(L.drop n).drop c.length, by conv => lhs; lhs; rw [← hp]
                                            rw [List.take_append_drop]⟩
      · rw [decide_eq_false hp, ← ih (n + 1) (by omega) (by omega), hd]
        conv => lhs; unfold findFrom
        rw [if_neg]
        intro q
        refine hp ?_
        rw [← hd, List.isPrefixOf_iff_prefix] at q
        exact (List.prefix_iff_eq_take.mp q).symm
    · rw [show L.length + 1 - (n + c.length) = 0 by omega]
      exact find_short _ _ _ (by rw [List.length_drop]; omega)
theorem find_eq (b c : Array UInt8) (n : Nat) (h : n ≤ b.size) :
    (match (if ((b.size : Int) - (n : Int) < (c.size : Int)) then none else some (n, b.size) : Option (Nat × Nat)).bind (fun (lo, hi) => Builtin.Bytes.find? b c lo hi) with | some i => ((i : Nat) : Int) | none => -1) =
      findFrom (KBw.bInts c) n ((KBw.bInts b).drop n) := by
  have lb : (KBw.bInts b).length = b.size := KBw.ints_length b
  have lc : (KBw.bInts c).length = c.size := KBw.ints_length c
  by_cases hs : (b.size : Int) - (n : Int) < (c.size : Int)
  · rw [if_pos hs, find_short _ _ _ (by rw [List.length_drop]; omega)]; rfl
  · rw [if_neg hs, find_go (KBw.bInts b) (KBw.bInts c) _ n (by omega) rfl, lb, lc]
    show (match Builtin.Bytes.find? b c n b.size with | some i => ((i : Nat) : Int) | none => -1) = _
    unfold Builtin.Bytes.find?
    have e : (fun i => b.extract i (i + c.size) == c) = fun i => decide (((KBw.bInts b).drop i).take c.size = KBw.bInts c) := by
      funext i
      have ex : ((KBw.bInts b).drop i).take c.size = KBw.bInts (b.extract i (i + c.size)) := by
        unfold KBw.bInts
        rw [← List.map_drop, ← List.map_take]
        congr 1
        simp [List.extract]
      rw [ex, Bool.eq_iff_iff, decide_eq_true_eq, bInts_inj, Array.toList_inj, beq_iff_eq]
    rw [e]
section
variable {prog : Program} {w : World} {A : Around} {E : Value → Shared → Prop} {s : Shared}
theorem gives_find (b c : Array UInt8) (t u v : Tok) (n : Int) (h0 : 0 ≤ n) (h1 : n ≤ b.size) :
    Gives (Builtin.«bytes.find» ⟨[.bytes b t, .bytes c u, .int n v], []⟩)
      (.int (match (if ((b.size : Int) - n < (c.size : Int)) then none else some (n.toNat, b.size) : Option (Nat × Nat)).bind (fun (lo, hi) => Builtin.Bytes.find? b c lo hi) with | some i => ((i : Nat) : Int) | none => -1)) := by
  refine .of_wp fun M A E s Q hq => ?_
  show wpAny M A (Builtin.Bytes.searchArgs .bytes "find" ⟨[.bytes b t, .bytes c u, .int n v], []⟩ >>= fun r => _) _ E s
  refine wpAny_bind ?_
  unfold Builtin.Bytes.searchArgs
  refine wpAny_bind (wpAny_of_eq (a := (Value.bytes b t, [Value.bytes c u, Value.int n v])) rfl ?_)
  show wpAny M A (Builtin.Bytes.bound? (some (.int n v)) >>= fun r => _) _ E s
  refine wpAny_bind ?_
  unfold Builtin.Bytes.bound?
  refine wpAny_bind (wpAny_specialOf (T := "int") (typeIs_int _ _ _) F.slot_int_index.lookup ?_)
  refine bm_if_false rfl ?_
  refine wpAny_bind (wpAny_of_eq (a := n) rfl (wpAny_pure ?_))
  show wpAny M A ((pure none : Sem (Option Int)) >>= fun r => _) _ E s
  refine wpAny_bind (wpAny_pure ?_)
  refine wpAny_bind (wpAny_of_eq (KBy.buffer_eq (b := c) (t := u)) ?_)
  show wpAny M A ((pure c : Sem (Array UInt8)) >>= fun r => _) _ E s
  refine wpAny_bind (wpAny_pure ?_)
  show wpAny M A (Builtin.Bytes.payload (.bytes b t) >>= fun r => _) _ E s
  refine wpAny_bind (wpAny_of_eq (a := b) rfl ?_)
  have ew : Builtin.Bytes.window b.size (some n) none = (n, (b.size : Int)) := by
    unfold Builtin.Bytes.window
    simp only [Option.getD]
    rw [if_neg (by omega), if_neg (by omega), Int.min_self]
  rw [ew]
  refine wpAny_pure ?_
  show wpAny M A (match (if ((b.size : Int) - n < (c.size : Int)) then none else some (n.toNat, (b.size : Int).toNat) : Option (Nat × Nat)).bind (fun (lo, hi) => if false = true then Builtin.Bytes.rfind? b c lo hi else Builtin.Bytes.find? b c lo hi) with
    | some i => retInt ↑i
    | none => _) _ E s
  simp only [Bool.false_eq_true, if_false, Int.toNat_natCast]
  split at hq
  · rename_i i hi
    simp only [hi]
    exact wpAny_bind (wpAny_mkInt (wpAny_pure ⟨_, rfl, hq⟩))
  · rename_i hi
    simp only [hi]
    refine wpAny_bind (wpAny_rule ?_)
    exact wpAny_bind (wpAny_mkInt (wpAny_pure ⟨_, rfl, hq⟩))
theorem bytes_find {b c : Array UInt8} {n : Int} {t u v : Tok} {Q : Value → Shared → Prop} (h0 : 0 ≤ n) (h1 : n ≤ b.size)
    (hq : ∀ t' tk, Q (.int (findFrom (KBw.bInts c) n.toNat ((KBw.bInts b).drop n.toNat)) t') { s with toks := tk }) :
    wpAny (model prog w) A (call (.builtin "bytes.find") [.bytes b t, .bytes c u, .int n v]) Q E s := by
  have e := find_eq b c n.toNat (by omega)
  rw [show ((n.toNat : Nat) : Int) = n by omega] at e
  rw [← e] at hq
  exact call_gives FX.slot_bytes_find (typeIs_bytes s b t) FX.entry_bytes_find (FX.args_bytes_find _ _ _) (gives_find b c t u v n h0 h1) (hq _ _)
end
end Vm
end
section
namespace Vm
open PySem PySem.W PyProof.Rows PySem.Calls PySem.SeqAt
namespace FX
theorem entry_bytes_split : entryFor table "bytes.split" = some Builtin.«bytes.split» := entryFor_of_tree (by kernel_rfl)
theorem args_bytes_split (a b : Value) : argsOk "bytes.split" ⟨[a, b], []⟩ := by
  unfold argsOk; rw [signature?_of (id := "bytes.split") (n := ['t', 'i', 'l', 'p', 's']) (o := ['s', 'e', 't', 'y', 'b']) (by kernel_rfl) FB.owner_bytes]; kernel_rfl
theorem split_bind (v : Value) : Builtin.Bytes.bindOptional "bytes.split" "split" ["sep", "maxsplit"] [v] [] = pure [some v, none] := by kernel_rfl
end FX
theorem wp_mapM_bytes {M : Model} {A : Around} {E : Value → Shared → Prop} : ∀ (xs : List (Array UInt8)) (s : Shared) (Q : List Value → Shared → Prop), (∀ x ∈ xs, x.size ≤ sizeLine) →
    (∀ vs tk, Fa (RV []) (xs.map fun x => AV.bytes (KBw.bInts x)) vs → Q vs { s with toks := tk }) → wpAny M A (xs.mapM (fun x => mkBytes x)) Q E s
  | [], s, Q, _, h => by
    rw [List.mapM_nil]
    exact wpAny_pure (h [] s.toks .nil)
  | x :: xs, s, Q, hz, h => by
    rw [List.mapM_cons]
    refine wpAny_bind (wpAny_mkBytes ?_ (hz x (List.mem_cons_self ..)))
    refine wpAny_bind (wp_mapM_bytes xs _ _ (fun y hy => hz y (List.mem_cons_of_mem _ hy)) fun vs tk f => wpAny_pure (h _ tk (.cons (.bytes _ rfl) f)))
noncomputable def parts (b c : Array UInt8) : List (Array UInt8) := let places := (Builtin.Bytes.occurrences b c 0 b.size).take (b.size + 1)
  if places.isEmpty = true then [b] else Builtin.Bytes.between b c.size places
theorem occ_one (b : Array UInt8) (y : UInt8) : ∀ (k : Nat),
    ∃ last, ((List.range k).map (· + 0)).foldl (fun (acc : List Nat × Nat) i => if (decide (i ≥ acc.2) && (b.extract i (i + 1) == #[y])) = true then (i :: acc.1, i + 1) else acc) ([], 0) =
      (((List.range k).filter fun i => b.extract i (i + 1) == #[y]).reverse, last) ∧ last ≤ k := by
  intro k
  induction k with
  | zero => exact ⟨0, rfl, Nat.le_refl _⟩
  | succ k ih =>
    obtain ⟨last, e, hl⟩ := ih
    rw [List.range_succ, List.map_append, List.foldl_append, e, List.filter_append, List.reverse_append]
    simp only [List.map_cons, List.map_nil, List.foldl_cons, List.foldl_nil, Nat.add_zero]
    by_cases hp : (b.extract k (k + 1) == #[y]) = true
    · refine ⟨k + 1, ?_, Nat.le_refl _⟩
      rw [if_pos (by simp [hp, hl])]
      simp [hp]
    · refine ⟨last, ?_, by omega⟩
      rw [if_neg (by simp [hp])]
      simp [hp]
noncomputable def btw (b : Array UInt8) : Nat → List Nat → List (Array UInt8)
  | last, [] => [b.extract last b.size]
  | last, p :: ps => b.extract last p :: btw b (p + 1) ps
theorem between_btw (b : Array UInt8) : ∀ (ps : List Nat) (acc : Array (Array UInt8)) (last : Nat),
    ((ps.foldl (fun (x : Array (Array UInt8) × Nat) p => (x.1.push (b.extract x.2 p), p + 1)) (acc, last)).1.push (b.extract (ps.foldl (fun (x : Array (Array UInt8) × Nat) p => (x.1.push (b.extract x.2 p), p + 1)) (acc, last)).2 b.size)).toList = acc.toList ++ btw b last ps
  | [], acc, last => by simp [btw]
  | p :: ps, acc, last => by
    simp only [List.foldl_cons]
    rw [between_btw b ps _ (p + 1)]
    simp [btw]
theorem ints_extract (b : Array UInt8) (i j : Nat) : KBw.bInts (b.extract i j) = ((KBw.bInts b).drop i).take (j - i) := by
  unfold KBw.bInts
  rw [← List.map_drop, ← List.map_take]
  congr 1
  simp [List.extract]
theorem splitB_ne (y : Int) : ∀ l, ∃ h t, splitB y l = h :: t
  | [] => ⟨[], [], rfl⟩
  | x :: r => by
    obtain ⟨h, t, e⟩ := splitB_ne y r
    unfold splitB
    split
    · exact ⟨_, _, rfl⟩
    · rw [e]; exact ⟨_, _, rfl⟩
theorem splitB_yes {y x : Int} {r : List Int} (h : x = y) : splitB y (x :: r) = [] :: splitB y r := by
  show (if x = y then [] :: splitB y r else _) = _
  rw [if_pos h]
theorem splitB_no' {y x : Int} {r h : List Int} {t : List (List Int)} (hx : ¬ x = y) (e : splitB y r = h :: t) : splitB y (x :: r) = (x :: h) :: t := by
  show (if x = y then [] :: splitB y r else (match splitB y r with | [] => [[x]] | p :: ps => (x :: p) :: ps)) = _
  rw [if_neg hx, e]
noncomputable def pre (s : List Int) : List (List Int) → List (List Int)
  | [] => [s]
  | h :: t => (s ++ h) :: t
theorem btw_split (b : Array UInt8) (y : UInt8) : ∀ (m k last : Nat), last ≤ k → k + m = b.size →
    (btw b last ((List.range' k m).filter fun i => b.extract i (i + 1) == #[y])).map KBw.bInts = pre (((KBw.bInts b).drop last).take (k - last)) (splitB ((y.toNat : Nat) : Int) ((KBw.bInts b).drop k)) := by
  have lb : (KBw.bInts b).length = b.size := KBw.ints_length b
  intro m
  induction m with
  | zero =>
    intro k last hl hk
    have : k = b.size := by omega
    subst this
    rw [show (KBw.bInts b).drop b.size = [] from List.drop_eq_nil_of_le (by omega)]
    show [KBw.bInts (b.extract last b.size)] = [_ ++ []]
    rw [ints_extract, List.append_nil]
  | succ m ih =>
    intro k last hl hk
    have hd : (KBw.bInts b).drop k = (KBw.bInts b)[k]'(by omega) :: (KBw.bInts b).drop (k + 1) := List.drop_eq_getElem_cons (by omega)
    have hp : (b.extract k (k + 1) == #[y]) = decide ((KBw.bInts b)[k]'(by omega) = ((y.toNat : Nat) : Int)) := by
      rw [Bool.eq_iff_iff, beq_iff_eq, decide_eq_true_eq, ← Array.toList_inj, ← bInts_inj, ints_extract, hd]
      simp [KBw.bInts]
    rw [List.range'_succ, List.filter_cons, hp, hd]
    by_cases hz : (KBw.bInts b)[k]'(by omega) = ((y.toNat : Nat) : Int)
    · rw [if_pos (decide_eq_true hz)]
      show KBw.bInts (b.extract last k) :: (btw b (k + 1) _).map KBw.bInts = _
      rw [ih (k + 1) (k + 1) (Nat.le_refl _) (by omega), ints_extract]
      rw [splitB_yes hz]
      obtain ⟨h, t, e⟩ := splitB_ne ((y.toNat : Nat) : Int) ((KBw.bInts b).drop (k + 1))
      rw [e]
      simp [pre]
    · rw [if_neg (by simpa using hz), ih (k + 1) last (by omega) (by omega)]
      obtain ⟨h, t, e⟩ := splitB_ne ((y.toNat : Nat) : Int) ((KBw.bInts b).drop (k + 1))
      rw [splitB_no' hz e, e]
      have ht : ((KBw.bInts b).drop last).take (k + 1 - last) = ((KBw.bInts b).drop last).take (k - last) ++ [(KBw.bInts b)[k]'(by omega)] := by
        rw [show k + 1 - last = (k - last) + 1 by omega, List.take_add_one, List.getElem?_drop, show last + (k - last) = k by omega, List.getElem?_eq_getElem (by omega)]
        rfl
      rw [ht]
      simp [pre]
theorem parts_split (b : Array UInt8) (y : UInt8) : (parts b #[y]).map KBw.bInts = splitB ((y.toNat : Nat) : Int) (KBw.bInts b) := by
  have main := btw_split b y b.size 0 0 (Nat.le_refl _) (by omega)
  obtain ⟨h, t, e⟩ := splitB_ne ((y.toNat : Nat) : Int) (KBw.bInts b)
  rw [List.drop_zero, e] at main
  rw [e]
  have main : (btw b 0 ((List.range' 0 b.size).filter fun i => b.extract i (i + 1) == #[y])).map KBw.bInts = h :: t := by rw [main]; simp [pre]
  obtain ⟨last, eo, _⟩ := occ_one b y b.size
  have ho : Builtin.Bytes.occurrences b #[y] 0 b.size = (List.range b.size).filter fun i => b.extract i (i + 1) == #[y] := by
    unfold Builtin.Bytes.occurrences
    rw [show b.size + 1 - (0 + (#[y] : Array UInt8).size) = b.size from by simp]
    have := congrArg (fun z : List Nat × Nat => z.1.reverse) eo
    simp only [List.reverse_reverse] at this
    exact this
  have hlen : ((List.range b.size).filter fun i => b.extract i (i + 1) == #[y]).length ≤ b.size := by
    have := List.length_filter_le (fun i => b.extract i (i + 1) == #[y]) (List.range b.size)
    rw [List.length_range] at this
    exact this
  have ht : (Builtin.Bytes.occurrences b #[y] 0 b.size).take (b.size + 1) = (List.range b.size).filter fun i => b.extract i (i + 1) == #[y] := by
    rw [ho, List.take_of_length_le (by omega)]
  rw [← List.range_eq_range'] at main
  unfold parts
  simp only [ht]
  split
  · rename_i hE
    rw [List.isEmpty_iff.mp hE] at main
    rw [← main]
    show [KBw.bInts b] = [KBw.bInts (b.extract 0 b.size)]
    rw [Array.extract_size]
  · rw [← main]
    unfold Builtin.Bytes.between
    have := between_btw b ((List.range b.size).filter fun i => b.extract i (i + 1) == #[y]) #[] 0
    rw [List.nil_append] at this
    exact congrArg (List.map KBw.bInts) this
section
variable {prog : Program} {w : World} {A : Around} {E : Value → Shared → Prop} {s : Shared}
theorem meets_split (b c : Array UInt8) (t u : Tok) (hc : c.isEmpty = false) (hz : ∀ x ∈ parts b c, x.size ≤ sizeLine) (hn : (parts b c).length ≤ sizeLine) :
    Meets (Builtin.«bytes.split» ⟨[.bytes b t, .bytes c u], []⟩) (fun _ R s => ∀ vs tk, Fa (RV []) ((parts b c).map fun x => AV.bytes (KBw.bInts x)) vs →
      R (.ok (.ret (.ref s.heap.objs.size))) { s with heap := s.heap.push { cls := .type "list", data := .seq vs.toArray }, toks := tk }) := by
  refine .of_wp fun prog w A R s h => ?_
  show wpAny _ _ (Builtin.Bytes.bindOptional _ _ _ [.bytes c u] [] >>= fun r => _) _ _ s
  refine wpAny_bind (wpAny_of_eq (FX.split_bind _) ?_)
  show wpAny _ _ ((pure (-1) : Sem Int) >>= fun r => _) _ _ s
  refine wpAny_bind (wpAny_pure ?_)
  show wpAny _ _ (Builtin.Bytes.payload (.bytes b t) >>= fun r => _) _ _ s
  refine wpAny_bind (wpAny_of_eq (a := b) rfl ?_)
  show wpAny _ _ (Builtin.Bytes.bytesLike _ (.bytes c u) >>= fun r => _) _ _ s
  refine wpAny_bind ?_
  unfold Builtin.Bytes.bytesLike
  refine wpAny_bind (wpAny_of_eq KBy.buffer_eq (wpAny_pure ?_))
  refine bm_if_false hc ?_
  show wpAny _ _ (if ((Builtin.Bytes.occurrences b c 0 b.size).take (b.size + 1)).isEmpty = true then _ else _) _ _ s
  cases he : ((Builtin.Bytes.occurrences b c 0 b.size).take (b.size + 1)).isEmpty with
  | true =>
    have ep : parts b c = [b] := by unfold parts; simp only [he, if_true]
    rw [ep] at h
    refine bm_if_true rfl ?_
    refine wpAny_bind (wpAny_rule ?_)
    refine wpAny_bind (wpAny_of_eq (a := Value.bytes b t) rfl ?_)
    refine wpAny_bind (wpAny_newList ?_ (by rw [sizeLine_eq]; simp))
    exact wpAny_pure ⟨_, rfl, h [.bytes b t] s.toks (.cons (.bytes _ rfl) .nil)⟩
  | false =>
    have ep : parts b c = Builtin.Bytes.between b c.size ((Builtin.Bytes.occurrences b c 0 b.size).take (b.size + 1)) := by unfold parts; simp only [he, Bool.false_eq_true, if_false]
    rw [ep] at h hz hn
    refine bm_if_false rfl ?_
    refine wpAny_bind (wp_mapM_bytes _ _ _ hz fun vs tk f => ?_)
    refine wpAny_bind (wpAny_newList ?_ (by rw [← f.length, List.length_map]; exact hn))
    exact wpAny_pure ⟨_, rfl, h vs tk f⟩
theorem split_len (y : Int) : ∀ (b : List Int), (splitB y b).length ≤ b.length + 1
  | [] => Nat.le_refl _
  | x :: b => by
    have ih := split_len y b
    by_cases h : x = y
    · rw [splitB_yes h]; simp only [List.length_cons]; omega
    · obtain ⟨p, t, e⟩ := splitB_ne y b
      rw [splitB_no' h e]
      rw [e] at ih
      simp only [List.length_cons] at ih ⊢; omega
theorem split_part (y : Int) : ∀ (b : List Int), ∀ p ∈ splitB y b, p.length ≤ b.length
  | [], p, h => by rw [List.mem_singleton.mp h]; exact Nat.le_refl _
  | x :: b, p, hp => by
    have ih := split_part y b
    by_cases h : x = y
    · rw [splitB_yes h] at hp
      rcases List.mem_cons.mp hp with rfl | hp
      · simp
      · have := ih p hp; simp only [List.length_cons]; omega
    · obtain ⟨q, t, e⟩ := splitB_ne y b
      rw [splitB_no' h e] at hp
      rw [e] at ih
      rcases List.mem_cons.mp hp with rfl | hp
      · have := ih q (List.mem_cons_self ..); simp only [List.length_cons]; omega
      · have := ih p (List.mem_cons_of_mem _ hp); simp only [List.length_cons]; omega
theorem bytes_split {b c : Array UInt8} {x : Int} {t u : Tok} {Q : Value → Shared → Prop} (hc : KBw.bInts c = [x]) (hz : b.size ≤ 1000000)
    (hq : ∀ (vs : List Value) h' tk, Fa (RV []) ((splitB x (KBw.bInts b)).map AV.bytes) vs → (∀ d o, s.heap.get? d = some o → h'.get? d = some o) → h'.get? s.heap.objs.size = some { cls := .type "list", data := .seq vs.toArray } → Q (.ref s.heap.objs.size) { s with heap := h', toks := tk }) :
    wpAny (model prog w) A (call (.builtin "bytes.split") [.bytes b t, .bytes c u]) Q E s := by
  obtain ⟨y, hy, hx⟩ : ∃ y : UInt8, c = #[y] ∧ ((y.toNat : Nat) : Int) = x := by
    unfold KBw.bInts at hc
    match hl : c.toList with
    | [] => rw [hl] at hc; simp at hc
    | [y] =>
      rw [hl] at hc
      exact ⟨y, Array.toList_inj.mp (by rw [hl]), by simpa using hc⟩
    | y :: z :: r => rw [hl] at hc; simp at hc
  subst hy
  have lb : (KBw.bInts b).length = b.size := KBw.ints_length b
  have ps := parts_split b y
  rw [hx] at ps
  have hn : (parts b #[y]).length ≤ b.size + 1 := by
    rw [← List.length_map (f := KBw.bInts), ps, ← lb]; exact split_len _ _
  have hp : ∀ p ∈ parts b #[y], p.size ≤ b.size := by
    intro p hp
    have : KBw.bInts p ∈ splitB x (KBw.bInts b) := by rw [← ps]; exact List.mem_map_of_mem hp
    have := split_part x _ _ this
    rw [KBw.ints_length, lb] at this
    exact this
  have em : (parts b #[y]).map (fun x => AV.bytes (KBw.bInts x)) = (splitB x (KBw.bInts b)).map AV.bytes := by rw [← ps, List.map_map]; rfl
  refine call_meets FX.slot_bytes_split (typeIs_bytes s b t) FX.entry_bytes_split (FX.args_bytes_split _ _) (meets_split b #[y] t u rfl (fun p h => Nat.le_trans (hp p h) (by rw [sizeLine_eq]; omega)) (by rw [sizeLine_eq]; omega)) fun vs tk f => ?_
  rw [em] at f
  exact hq vs _ tk f (fun d o e => Heap.get?_push_of_some _ e) (Heap.get?_push_size _ rfl)
end
end Vm
end
section
namespace Vm
open PySem PySem.W PyProof.Rows PySem.Calls PySem.SeqAt
namespace FX
theorem entry_bytes_join : entryFor table "bytes.join" = some Builtin.«bytes.join» := entryFor_of_tree (by kernel_rfl)
theorem args_bytes_join (a b : Value) : argsOk "bytes.join" ⟨[a, b], []⟩ := by
  unfold argsOk; rw [signature?_of (id := "bytes.join") (n := ['n', 'i', 'o', 'j']) (o := ['s', 'e', 't', 'y', 'b']) (by kernel_rfl) FB.owner_bytes]; kernel_rfl
end FX
theorem take_eq {id : String} {b : Array UInt8} {t : Tok} : Builtin.Bytes.takeBufferQuiet? id (.bytes b t) 0 = pure (some (b, none)) := by
  have e : Builtin.Bytes.takeBuffer? id (.bytes b t) 0 = pure (some (b, none)) := by
    unfold Builtin.Bytes.takeBuffer?
    rw [KBy.special_eq KBy.look_buffer, KBy.own_buffer]
    show (Builtin.Bytes.buffer? id (.bytes b t) _ >>= fun r => pure (r.map (·, none))) = _
    rw [show Builtin.Bytes.buffer? id (.bytes b t) ((0 : Int) == Builtin.Bytes.fullReadOnly) = pure (some b) from by
      unfold Builtin.Bytes.buffer?
      rw [KBy.special_eq KBy.look_buffer, KBy.own_buffer, KBy.own_release]
      kernel_rfl]
    rfl
  unfold Builtin.Bytes.takeBufferQuiet?
  rw [e]
  rfl
section
variable {prog : Program} {w : World} {A : Around} {E : Value → Shared → Prop} {s : Shared}
theorem join_three {b x y z : Array UInt8} {t t1 t2 t3 : Tok} {a : Addr} {Q : Value → Shared → Prop} (hl : s.heap.IsList a #[.bytes x t1, .bytes y t2, .bytes z t3])
    (hz : x.size + b.size + y.size + b.size + z.size ≤ 1000000) (hq : ∀ t' tk, Q (.bytes (x ++ b ++ y ++ b ++ z) t') { s with toks := tk }) :
    wpAny (model prog w) A.in1 (Builtin.«bytes.join» ⟨[.bytes b t, .ref a], []⟩) (fun fin s' => ∃ v, fin = .done (.ret v) ∧ Q v s') E s := by
  have hT := hl.typeIs
  obtain ⟨ol, hol, hoc, nl, hod⟩ := id hl
  show wpAny _ _ (Builtin.Bytes.joinItems (.ref a) >>= fun r => _) _ _ _
  refine wpAny_bind ?_
  unfold Builtin.Bytes.joinItems
  refine wpAny_bind (wpAny_typeOf hT ?_)
  refine bm_if_true (by decide) (wpAny_pure ?_)
  have items : ∀ {Q' : Option (Array Value) → Shared → Prop}, Q' (some #[.bytes x t1, .bytes y t2, .bytes z t3]) s → wpAny (model prog w) A.in1 (seqItems? (.ref a)) Q' E s := by
    intro Q' h
    unfold seqItems?
    refine wpAny_bind (wpAny_load hol ?_)
    rw [hod]
    exact wpAny_pure h
  refine wpAny_bind (items ?_)
  refine bm_if_true (c := (Builtin.Bytes.Kind.bytes == Builtin.Bytes.Kind.bytes)) (by decide) ?_
  show wpAny _ _ (forIn [:3] _ _ >>= fun r => _) _ _ _
  refine wpAny_bind ?_
  rw [Std.Legacy.Range.forIn_eq_forIn_range']
  show wpAny _ _ (forIn [0, 1, 2] _ _) _ _ _
  rw [List.forIn_cons]
  refine wpAny_bind ?_
  refine wpAny_bind (items ?_)
  refine bm_if_false rfl ?_
  refine wpAny_bind (wpAny_holding (wpAny_of_eq take_eq ?_))
  refine wpAny_bind (items ?_)
  refine bm_if_false rfl ?_
  refine wpAny_pure ?_
  show wpAny _ _ (forIn [1, 2] _ _) _ _ _
  rw [List.forIn_cons]
  refine wpAny_bind ?_
  refine wpAny_bind (items ?_)
  refine bm_if_false rfl ?_
  refine wpAny_bind (wpAny_holding (wpAny_of_eq take_eq ?_))
  refine wpAny_bind (items ?_)
  refine bm_if_false rfl ?_
  refine wpAny_pure ?_
  show wpAny _ _ (forIn [2] _ _) _ _ _
  rw [List.forIn_cons]
  refine wpAny_bind ?_
  refine wpAny_bind (items ?_)
  refine bm_if_false rfl ?_
  refine wpAny_bind (wpAny_holding (wpAny_of_eq take_eq ?_))
  refine wpAny_bind (items ?_)
  refine bm_if_false rfl ?_
  refine wpAny_pure ?_
  show wpAny _ _ (forIn [] _ _) _ _ _
  rw [List.forIn_nil]
  refine wpAny_pure ?_
  show wpAny _ _ (Builtin.Bytes.payload (.bytes b t) >>= fun r => _) _ _ _
  refine wpAny_bind (wpAny_of_eq (a := b) rfl ?_)
  refine bm_if_false ?_ ?_
  · show Builtin.Bytes.tooLong _ = false
    refine KBy.tooLong_not ?_
    show b.size * 2 + x.size + y.size + z.size ≤ 16777216
    omega
  · have ej : Builtin.Bytes.joined b [x, y, z] = x ++ b ++ y ++ b ++ z := by simp [Builtin.Bytes.joined, List.zipIdx]
    show wpAny _ _ (mkBytes (Builtin.Bytes.joined b [x, y, z]) >>= fun r => _) _ _ _
    rw [ej]
    refine wpAny_bind (wpAny_mkBytes ?_ (by rw [sizeLine_eq]; simp only [Array.size_append]; omega))
    refine wpAny_bind (wpAny_holding (wpAny_point ?_))
    show wpAny _ _ (Builtin.Bytes.joinLetGo [(.bytes x t1, none), (.bytes y t2, none), (.bytes z t3, none)] _ >>= fun r => _) _ _ _
    refine wpAny_bind ?_
    unfold Builtin.Bytes.joinLetGo
    refine wpAny_bind (wpAny_letGo ?_)
    unfold Builtin.Bytes.joinLetGo
    refine wpAny_bind (wpAny_letGo ?_)
    unfold Builtin.Bytes.joinLetGo
    refine wpAny_bind (wpAny_letGo ?_)
    unfold Builtin.Bytes.joinLetGo
    refine wpAny_pure ?_
    exact wpAny_pure ⟨_, rfl, hq _ _⟩
theorem bytes_join {b : Array UInt8} {a : Addr} {p q r : List Int} {vs : List Value} {t : Tok} {Q : Value → Shared → Prop} (hl : s.heap.IsList a vs.toArray) (f : Fa (RV []) ([p, q, r].map AV.bytes) vs)
    (hz : (joinB (KBw.bInts b) [p, q, r]).length ≤ 1000000) (hq : ∀ c h' t' tk, KBw.bInts c = joinB (KBw.bInts b) [p, q, r] → (∀ d o, s.heap.get? d = some o → h'.get? d = some o) → Q (.bytes c t') { s with heap := h', toks := tk }) :
    wpAny (model prog w) A (call (.builtin "bytes.join") [.bytes b t, .ref a]) Q E s := by
  have un : ∀ {u : Value} {p : List Int}, RV [] (.bytes p) u → ∃ c t, u = .bytes c t ∧ KBw.bInts c = p := fun r => by
    cases r with
    | bytes t e => exact ⟨_, t, rfl, e⟩
  have app : ∀ u v : Array UInt8, KBw.bInts (u ++ v) = KBw.bInts u ++ KBw.bInts v := fun u v => by unfold KBw.bInts; rw [Array.toList_append, List.map_append]
  cases f with
  | cons r1 f => cases f with
    | cons r2 f => cases f with
      | cons r3 f => cases f with
        | nil =>
          obtain ⟨x, t1, rfl, e1⟩ := un r1
          obtain ⟨y, t2, rfl, e2⟩ := un r2
          obtain ⟨z, t3, rfl, e3⟩ := un r3
          have ei : KBw.bInts (x ++ b ++ y ++ b ++ z) = joinB (KBw.bInts b) [p, q, r] := by
            rw [app, app, app, app, e1, e2, e3]; simp [joinB]
          have hsz : (x ++ b ++ y ++ b ++ z).size ≤ 1000000 := by rw [← KBw.ints_length, ei]; exact hz
          refine wpAny_call_entry FX.slot_bytes_join (typeIs_bytes s b t) FX.entry_bytes_join ?_ (FX.args_bytes_join _ _)
          exact join_three hl (by simpa only [Array.size_append] using hsz) fun t' tk => hq _ s.heap t' tk ei fun _ _ e => e
end
end Vm
end
section
namespace Vm
open PySem PySem.W PyProof.Rows PySem.Calls PySem.SeqAt
noncomputable def badIds : List String := Builtin.Bytes.decodersThatHold ++ ["bytearray.__contains__", "bytearray.__mod__", "bytearray.__rmod__", "_struct.pack_into.held", "bytearray.find.held"]
noncomputable def bad : Code → Bool
  | .builtin id _ => badIds.contains id
  | _ => false
noncomputable def Clean (Γ : Ctx) : Prop := bad Γ.code = false ∧ ∀ x ∈ Γ.below, bad x.1 = false
noncomputable def wpG {α : Type} (M : Model) (A : Around) (t : Sem α) (Q : α → Shared → Prop) (E : Value → Shared → Prop) (s : Shared) : Prop :=
  ∀ Γ p, Γ.In A → Clean Γ → PySem.Sem.wp M Γ t (fun a _ s' => Q a s') (fun e _ s' => E e s') p s
section
variable {α β : Type} {M : Model} {A : Around} {E : Value → Shared → Prop} {s : Shared}
theorem wpG_of {t : Sem α} {Q : α → Shared → Prop} (h : wpAny M A t Q E s) : wpG M A t Q E s := fun Γ p hΓ _ => h Γ p hΓ
theorem wpG_mono {t : Sem α} {Q Q' : α → Shared → Prop} {E' : Value → Shared → Prop} (h : wpG M A t Q E s)
    (hQ : ∀ a s, Q a s → Q' a s) (hE : ∀ e s, E e s → E' e s) : wpG M A t Q' E' s :=
  fun Γ p hΓ c => Sem.wp_mono M Γ t (fun a _ s => hQ a s) (fun e _ s => hE e s) p s (h Γ p hΓ c)
theorem dneg {c : Prop} [Decidable c] {a : c → Bool} {b : ¬ c → Bool} (n : ¬ c) (h : dite c a b = true) : b n = true := by rw [dif_neg n] at h; exact h
theorem bad_id {id i : String} {args : Args} (e : id = i) (h : badIds.contains i = true) : bad (.builtin id args) = true := by rw [e]; exact h
theorem wpG_exported {self : Value} {Q : Bool → Shared → Prop} (h : Q false s) : wpG M A (Builtin.Bytes.exported self) Q E s := by
  intro Γ p hΓ hc
  show Q (((Γ.code, p) :: Γ.below).any _) s
  have e : ∀ (f : Code × Pos → Bool), (∀ c p, f (c, p) = true → bad c = true) → ((Γ.code, p) :: Γ.below).any f = false := by
    intro f hf
    rw [List.any_eq_false]
    intro x hx q
    have := hf x.1 x.2 q
    rcases List.mem_cons.mp hx with rfl | hx
    · rw [hc.1] at this; exact Bool.noConfusion this
    · rw [hc.2 x hx] at this; exact Bool.noConfusion this
  rw [e]
  · exact h
  · intro c p
    cases c with
    | builtin id args =>
      rcases Decidable.em (id = "bytearray.__contains__") with e | n1
      · exact fun _ => bad_id e (by decide +kernel)
      rcases Decidable.em (id = "bytearray.__mod__") with e | n2
      · exact fun _ => bad_id e (by decide +kernel)
      rcases Decidable.em (id = "bytearray.__rmod__") with e | n3
      · exact fun _ => bad_id e (by decide +kernel)
      rcases Decidable.em (id = "_struct.pack_into.held") with e | n4
      · exact fun _ => bad_id e (by decide +kernel)
      rcases Decidable.em (id = "bytearray.find.held") with e | n5
      · exact fun _ => bad_id e (by decide +kernel)
      delta PySem.Builtin.Bytes.exported.match_1
      intro hf
      have hf := dneg n1 hf
      have hf := dneg n2 hf
      have hf := dneg n3 hf
      have hf := dneg n4 hf
      have hf := dneg n5 hf
      obtain ⟨pos, kw⟩ := args
      cases pos with
      | nil => exact Bool.noConfusion hf
      | cons v r =>
        have hf : (Builtin.Bytes.sameRef v self && Builtin.Bytes.decodersThatHold.contains id) = true := hf
        have hf := (Bool.and_eq_true_iff.mp hf).2
        show (Builtin.Bytes.decodersThatHold ++ _).contains _ = true
        rw [List.contains_iff_mem] at hf ⊢
        exact List.mem_append_left _ hf
    | _ => exact fun hf => Bool.noConfusion hf
theorem wpG_pure {a : α} {Q : α → Shared → Prop} (h : Q a s) : wpG M A (pure a) Q E s := wpG_of (wpAny_pure h)
theorem wpG_bind {m : Sem α} {f : α → Sem β} {Q : β → Shared → Prop} (h : wpG M A m (fun a s' => wpG M A (f a) Q E s') E s) : wpG M A (m >>= f) Q E s := fun Γ p hΓ hc => by
  rw [Sem.wp_bind']
  exact Sem.wp_mono M Γ m (fun a p' s' h' => h' Γ p' hΓ hc) (fun _ _ _ h' => h') p s (h Γ p hΓ hc)
theorem wpG_holding {vs : List Value} {m : Sem α} {Q : α → Shared → Prop} (h : wpG M A m Q E s) : wpG M A (holding vs m) Q E s :=
  fun Γ p hΓ hc => by rw [Sem.wp_holding]; exact h Γ p hΓ hc
theorem wpG_ite {c : Prop} [Decidable c] {a b : Sem α} {Q : α → Shared → Prop} (h : if c then wpG M A a Q E s else wpG M A b Q E s) :
    wpG M A (if c then a else b) Q E s := by split <;> simp_all
theorem wpG_onRaise {m : Sem α} {k : Value → Sem Unit} {Q : α → Shared → Prop}
    (h : wpG M A m Q (fun e s' => wpG M A (k e) (fun _ s'' => E e s'') E s') s) : wpG M A (m.onRaise k) Q E s := fun Γ p hΓ hc => by
  rw [Sem.wp_onRaise]
  exact Sem.wp_mono M Γ m (fun _ _ _ h' => h') (fun e p' s' h' => h' Γ p' hΓ hc) p s (h Γ p hΓ hc)
noncomputable def CleanB (Γ : Ctx) : Prop := ∀ x ∈ Γ.below, bad x.1 = false
noncomputable def codeG (M : Model) (A : Around) (c : Code) (R : Result → Shared → Prop) (s : Shared) : Prop :=
  ∀ Γ p, Γ.code = c → Γ.Below A → CleanB Γ → wpCode M Γ R p s
theorem codeG_of_tree {c : Code} {R : Result → Shared → Prop} (hb : bad c = false)
    (h : wpG M (A.under c) (M.den c) (fun fin s' => match fin with | .done f => R (.ok f) s' | .again c' => c'.quiet = true ∧ codeG M A c' R s')
      (fun e s' => R (.error e) s') s) : codeG M A c R s := fun Γ p hc hΓ hcl => by
  rw [wpCode_iff_wp, hc]
  refine Sem.wp_mono M Γ _ (fun fin p' s' h' => ?_) (fun _ _ _ h' => h') p s (h Γ p (hc ▸ hΓ.in) ⟨by rw [hc]; exact hb, hcl⟩)
  cases fin with
  | done f => exact h'
  | again c' => exact ⟨h'.1, h'.2 (Γ.goto c') p' rfl (hΓ.goto c') hcl⟩
theorem codeG_mono {c : Code} {R R' : Result → Shared → Prop} (h : codeG M A c R s) (hR : ∀ r s, R r s → R' r s) : codeG M A c R' s :=
  fun Γ p hc hΓ hcl => wpCode_mono hR (h Γ p hc hΓ hcl)
theorem Clean.enter {Γ : Ctx} {c : Code} {h : Option Value} {p : Pos} (x : Clean Γ) : CleanB (Γ.enter c h p) := fun y hy => by
  rcases List.mem_cons.mp hy with rfl | hy
  · exact x.1
  · exact x.2 y hy
theorem wpG_runValue {c : Code} {Q : Value → Shared → Prop}
    (hc : codeG M A c (fun r s' => match r with | .ok (.ret v) => Q v s' | .ok _ => False | .error e => E e s') s) :
    wpG M A (runValue c) Q E s := fun Γ p hΓ hcl => by rw [Sem.wp_runValue]; exact hc _ p rfl (hΓ.enter c none p (by intro x; cases x)) hcl.enter
theorem wpG_call {f : Value} {pos : List Value} {kw : List (Str × Value)} {Q : Value → Shared → Prop}
    (hc : codeG M A (.call f ⟨pos, kw⟩) (fun r s' => match r with | .ok (.ret v) => Q v s' | .ok _ => False | .error e => E e s') s) :
    wpG M A (call f pos kw) Q E s := wpG_runValue hc
end
section
variable {prog : Program} {w : World} {A : Around} {E : Value → Shared → Prop} {s : Shared}
theorem codeG_func {body : List Stmt} {env : Env} {R : Result → Shared → Prop} (h : wpG (model prog w) (A.deeper env) (execs body env) (fun f s' => match f with | .ret v => R (.ok (.ret v)) s' | _ => R (.ok (.ret .none)) s')
      (fun e s' => wpG (model prog w) (A.deeper env) (leaving env e) (fun _ s'' => R (.error e) s'') (fun e' s'' => R (.error e') s'') s') s) :
    codeG (model prog w) A (.func body env) R s := by
  refine codeG_of_tree rfl ?_
  show wpG _ (A.deeper env) (do point; match ← (execs body env).onRaise (leaving env) with | .ret v => ret v | _ => ret .none) _ _ s
  refine wpG_bind (wpG_of (wpAny_point (wpG_bind (wpG_onRaise (wpG_mono h (fun f s' h' => ?_) fun _ _ h' => h')))))
  cases f <;> exact wpG_pure h'
theorem codeG_call_builtin {id : String} {args : Args} {b : Builtin} {R : Result → Shared → Prop} (hq : plainId id = true) (hbad : badIds.contains id = false) (hb : entryFor table id = some b)
    (h : wpG (model prog w) A.in1 (checkBuiltinCall id args) (fun _ s₁ => wpG (model prog w) A.in1 (b args)
      (fun fin s' => match fin with | .done f => R (.ok f) s' | .again c' => c'.quiet = true ∧ codeG (model prog w) A c' R s') (fun e s' => R (.error e) s') s₁)
      (fun e s' => R (.error e) s') s) : codeG (model prog w) A (.call (.builtin id) args) R s := by
  refine codeG_of_tree rfl ?_
  show wpG _ A.in1 (do checkBuiltinCall id args; again (.builtin id args)) _ _ s
  refine wpG_bind (wpG_mono h (fun _ s₁ h₁ => wpG_pure (And.intro (plainId_quiet hq args) (codeG_of_tree hbad ?_))) fun _ _ h' => h')
  show wpG _ _ (match entryFor table id with | some b => b args | none => unsupported ((withoutEnding? id "#data").getD id)) _ _ s₁
  rw [hb, Around.under_plainId hq args]; exact h₁
theorem wpG_checkResize {M : Model} {a : Addr} {b : Array UInt8} {Q : Unit → Shared → Prop} (h : BA s a b) (hq : Q () s) : wpG M A (Builtin.Bytes.checkResize (.ref a)) Q E s := by
  unfold Builtin.Bytes.checkResize
  refine wpG_bind ?_
  show wpG _ _ (Builtin.Bytes.exported (.ref a) >>= fun r => _) _ _ _
  refine wpG_bind (wpG_exported ?_)
  show wpG _ _ (Builtin.Bytes.exportsOf (.ref a) >>= fun r => _) _ _ _
  refine wpG_bind (wpG_of ?_)
  unfold Builtin.Bytes.exportsOf
  refine wpAny_bind (wpAny_load h (wpAny_pure ?_))
  refine wpG_pure ?_
  exact wpG_ite (by rw [if_neg (by decide)]; exact wpG_pure hq)
theorem ba_write {M : Model} {a : Addr} {b : Array UInt8} {f : Array UInt8 → Array UInt8} {Q : Unit → Shared → Prop} (h : BA s a b) (hz : (f b).size ≤ sizeLine)
    (hq : ∀ h', (∀ c, c ≠ a → h'.get? c = s.heap.get? c) → h'.get? a = some { cls := .type "bytearray", data := .bytearray (f b) } → Q () { s with heap := h' }) : wpAny M A (Builtin.Bytes.write (.ref a) f) Q E s := by
  show wpAny _ _ (updateBytearray a f) _ _ _
  unfold updateBytearray
  refine wpAny_bind (wpAny_load h ?_)
  show wpAny _ _ (update a (Obj.mapBytearray f) >>= fun _ => lookBehind a) _ _ _
  refine wpAny_bind (wpAny_update h ?_)
  have hS : (s.heap.update a (Obj.mapBytearray f)).get? a = some { cls := .type "bytearray", data := .bytearray (f b) } := Heap.get?_update_self (Obj.mapBytearray f) h rfl
  refine wpAny_lookBehind hS ?_ ?_
  · show (if (f b).size > sizeLine then some "bytearray:memory" else none) = none
    rw [if_neg (by omega)]
  · exact hq _ (fun c hc => Heap.get?_update_other _ _ (Ne.symm hc)) hS
theorem ba_append {a : Addr} {b : Array UInt8} {n : Int} {t : Tok} {Q : Value → Shared → Prop} (h : BA s a b) (hz : b.size ≤ 1000000) (h0 : 0 ≤ n) (h1 : n < 256)
    (hq : ∀ h' tk, (∀ c, c ≠ a → h'.get? c = s.heap.get? c) → h'.get? a = some { cls := .type "bytearray", data := .bytearray (b.push n.toNat.toUInt8) } → Q .none { s with heap := h', toks := tk }) :
    wpG (model prog w) A (call (.builtin "bytearray.append") [.ref a, .int n t]) Q E s := by
  refine wpG_call (codeG_call_builtin FX.slot_bytearray_append.plain (by decide +kernel) FX.entry_ba_append (wpG_of (FX.slot_bytearray_append.check _ _ _ _ _ _ _ _ h.is (FX.args_ba_append _ _) ?_)))
  have eb : Builtin.Bytes.byteValue (.int n t) = pure n.toNat.toUInt8 := by
    unfold Builtin.Bytes.byteValue
    show (if (decide (n < 0) || decide (n ≥ 256)) = true then _ else _) = _
    rw [if_neg (by simp only [Bool.or_eq_true, decide_eq_true_eq]; omega)]
  show wpG _ _ (Builtin.Bytes.byteValue (.int n t) >>= fun c => _) _ _ _
  refine wpG_bind (wpG_of (wpAny_of_eq eb ?_))
  refine wpG_bind (wpG_checkResize h ?_)
  refine wpG_bind (wpG_of (ba_write h (by rw [sizeLine_eq, Array.size_push]; omega) fun h' hs hc => ?_))
  exact wpG_pure (hq h' s.toks hs hc)
theorem codeG_call_function {a : Addr} {args : Args} {o : Obj} {fd : FuncData} {body : List Stmt} {R : Result → Shared → Prop} (hroom : A.depth < recursionLimit)
    (ho : s.heap.get? a = some o) (hd' : o.data = .func fd) (hco : fd.scope.isCoroutine = false) (hgen : fd.scope.isGenerator = false) (hbody : fd.body = .stmts body) (hcd : s.heap.CodeRec fd.code fd.qualname)
    (h : wpAny (model prog w) A.in1 (bindArgs fd args) (fun binds s₁ =>
      wpAny (model prog w) A.in1 (newFunctionEnv fd.scope fd.globals fd.closure binds (fd.qualname ++ ".<locals>.") (some a) fd.code none fd.builtins)
        (fun env s₂ => s₂.heap.NoLimit ∧ codeG (model prog w) A (.func body env) R s₂) (fun e s' => R (.error e) s') s₁) (fun e s' => R (.error e) s') s) :
    codeG (model prog w) A (.call (.ref a) args) R s := by
  refine codeG_of_tree rfl ?_
  show wpG _ A.in1 (callAny (.ref a) args) _ _ s
  refine wpG_of ?_
  simp only [callAny]
  refine wpAny_bind (wpAny_load ho ?_)
  obtain ⟨c, oc, vs, tq, hc, hoc, hdc, hq⟩ := hcd
  simp only [hd', callFunction, hco, hgen, hbody, hc]
  rw [hc] at h
  refine wpAny_bind (m := field (.ref c) 1) (wpAny_field hoc hdc hq (wpAny_bind (wpAny_pure ?_)))
  exact wpAny_bind (wpAny_mono h (fun binds s₁ h₁ => wpAny_bind (wpAny_mono h₁ (fun env s₂ h₂ => wpAny_bind (wpAny_enterFrame h₂.1 hroom
    (wpAny_pure (And.intro rfl h₂.2)))) fun _ _ h' => h')) fun _ _ h' => h')
end
end Vm
end
section
namespace Vm
open PySem PySem.W PyProof.Rows PySem.Calls PySem.SeqAt
section
variable {α β : Type} {M : Model} {A : Around} {E : Value → Shared → Prop} {s : Shared} {env : Env}
theorem wpG_evalPart_some {e : Expr} {Q : Value → Shared → Prop} (h : wpG M A (eval e env) Q E s) : wpG M A (evalPart (some e) env) Q E s := h
theorem wpG_evalPart_none {Q : Value → Shared → Prop} (h : Q .none s) : wpG M A (evalPart none env) Q E s := wpG_pure h
theorem wpG_execs_nil {Q : Flow → Shared → Prop} (h : Q .next s) : wpG M A (execs [] env) Q E s := wpG_of (wpAny_execs_nil h)
theorem wpG_execs_cons {st : Stmt} {rest : List Stmt} {Q : Flow → Shared → Prop}
    (h : wpG M A (exec st env) (fun f s' => match f with | .next => wpG M A (execs rest env) Q E s' | f => Q f s') E s) :
    wpG M A (execs (st :: rest) env) Q E s := fun Γ p hΓ hc => by
  rw [execs_cons, Sem.wp_bind']
  refine Sem.wp_mono M Γ _ (fun f p' s' h' => ?_) (fun _ _ _ h' => h') _ _ (h Γ p hΓ hc)
  cases f <;> first | exact h' Γ p' hΓ hc | exact h'
theorem wpG_BinOp {l r : Expr} {op : Operator} {pos : Pos} {Q : Value → Shared → Prop}
    (h : wpG M A (eval l env) (fun a s₁ => wpG M A (eval r env) (fun b s₂ => wpG M A (binaryOp op a b) Q E s₂) E s₁) E s) :
    wpG M A (eval (.BinOp l op r pos) env) Q E s := fun Γ p hΓ hc => by
  simp only [eval_BinOp, Sem.wp_bind', Sem.wp_holding, Sem.wp_cmd_standAt, Sem.wp_operate]
  exact Sem.wp_mono M Γ _ (fun a p₁ s₁ h₁ => Sem.wp_mono M Γ _ (fun b _ s₂ h₂ => h₂ Γ _ hΓ hc) (fun _ _ _ h' => h') _ _ (h₁ Γ p₁ hΓ hc))
    (fun _ _ _ h' => h') _ _ (h Γ p hΓ hc)
theorem wpG_UnaryOp {op : UnaryOp} {x : Expr} {pos : Pos} {Q : Value → Shared → Prop} (h : wpG M A (eval x env) (fun v s₁ => wpG M A (unaryOp op v) Q E s₁) E s) :
    wpG M A (eval (.UnaryOp op x pos) env) Q E s := by
  rw [arm_eval_UnaryOp]
  exact wpG_bind (wpG_mono h (fun v s₁ h₁ => wpG_bind (wpG_of (wpAny_standAt (wpG_holding h₁)))) fun _ _ x => x)
theorem wpG_IfExp {test body orelse : Expr} {pos : Pos} {Q : Value → Shared → Prop}
    (h : wpG M A (isTrue test env (eval test env)) (fun b s₁ => if b then wpG M A (eval body env) Q E s₁ else wpG M A (eval orelse env) Q E s₁) E s) :
    wpG M A (eval (.IfExp test body orelse pos) env) Q E s := by
  rw [arm_eval_IfExp]
  refine wpG_bind (wpG_mono h (fun b s₁ h₁ => ?_) fun _ _ x => x)
  cases b <;> exact h₁
theorem wpG_If {test : Expr} {body orelse : List Stmt} {pos : Pos} {Q : Flow → Shared → Prop}
    (h : wpG M A (isTrue test env (eval test env))
      (fun b s₂ => if b then wpG M A (execs body env) Q E s₂ else wpG M A (execs orelse env) Q E s₂) E s) :
    wpG M A (exec (.If test body orelse pos) env) Q E s := fun Γ p hΓ hc => by
  simp only [exec_If, Sem.wp_bind', Sem.wp_cmd_standAt]
  refine Sem.wp_mono M Γ _ (fun b p₂ s₂ h₂ => ?_) (fun _ _ _ h' => h') _ _ (h Γ _ hΓ hc)
  cases b <;> exact h₂ Γ p₂ hΓ hc
theorem wpG_isTrue_BoolOp {op : BoolOp} {values : List Expr} {pos : Pos} {whole : Sem Value} {Q : Bool → Shared → Prop} (h : wpG M A (allTrue op values env) Q E s) :
    wpG M A (isTrue (.BoolOp op values pos) env whole) Q E s := by rw [arm_isTrue_BoolOp]; exact h
theorem wpG_allTrue_And_cons {x : Expr} {rest : List Expr} {Q : Bool → Shared → Prop}
    (h : wpG M A (isTrue x env (eval x env)) (fun b s₁ => if b then wpG M A (allTrue .And rest env) Q E s₁ else Q false s₁) E s) : wpG M A (allTrue .And (x :: rest) env) Q E s := by
  show wpG M A (do match BoolOp.And, ← isTrue x env (eval x env) with | .And, false => pure false | .Or, true => pure true | _, _ => allTrue .And rest env) Q E s
  refine wpG_bind (wpG_mono h (fun b s₁ h₁ => ?_) fun _ _ x => x)
  cases b
  · exact wpG_pure h₁
  · exact h₁
theorem wpG_allTrue_Or_cons {x : Expr} {rest : List Expr} {Q : Bool → Shared → Prop}
    (h : wpG M A (isTrue x env (eval x env)) (fun b s₁ => if b then Q true s₁ else wpG M A (allTrue .Or rest env) Q E s₁) E s) : wpG M A (allTrue .Or (x :: rest) env) Q E s := by
  show wpG M A (do match BoolOp.Or, ← isTrue x env (eval x env) with | .And, false => pure false | .Or, true => pure true | _, _ => allTrue .Or rest env) Q E s
  refine wpG_bind (wpG_mono h (fun b s₁ h₁ => ?_) fun _ _ x => x)
  cases b
  · exact h₁
  · exact wpG_pure h₁
theorem wpG_Return_some {e : Expr} {pos : Pos} {Q : Flow → Shared → Prop} (h : wpG M A (eval e env) (fun v => Q (.ret v)) E s) :
    wpG M A (exec (.Return (some e) pos) env) Q E s := fun Γ p hΓ hc => by
  simp only [exec_Return_some, Sem.wp_bind', Sem.wp_cmd_standAt, Sem.wp_pure']; exact h Γ _ hΓ hc
theorem wpG_Expr {e : Expr} {pos : Pos} {Q : Flow → Shared → Prop} (h : wpG M A (eval e env) (fun v s' => match v with | .ref _ => False | _ => Q .next s') E s)
    (hi : interactive env = false := by rfl) (hs : swapsWith e none pos.line env = pure false := by rfl) :
    wpG M A (exec (.Expr e pos) env) Q E s := by
  rw [exec_Expr env e pos hi hs]
  refine wpG_bind (wpG_of (wpAny_standAt (wpG_bind (wpG_mono h (fun v s' h' => ?_) fun _ _ x => x))))
  have hv : ∀ a, v ≠ .ref a := fun a hva => by subst hva; exact h'
  rw [dropValue_plain hv]
  refine wpG_pure ?_
  cases v <;> first | exact h' | exact (hv _ rfl).elim
theorem wpG_Delete {targets : List Expr} {pos : Pos} {Q : Flow → Shared → Prop}
    (h : wpG M A (deleteEach targets env) (fun _ s₁ => Q .next s₁) E s) : wpG M A (exec (.Delete targets pos) env) Q E s := by
  rw [arm_exec_Delete]
  exact wpG_bind (wpG_of (wpAny_standAt (wpG_bind (wpG_mono h (fun _ _ h₁ => wpG_pure h₁) (fun _ _ he => he)))))
theorem wpG_deleteEach_cons {t : Expr} {rest : List Expr} {Q : Unit → Shared → Prop}
    (h : wpG M A (delete t env) (fun _ s₁ => wpG M A (deleteEach rest env) Q E s₁) E s) : wpG M A (deleteEach (t :: rest) env) Q E s := by
  rw [arm_deleteEach_cons]; exact wpG_bind h
theorem wpG_delete_Subscript {o i : Expr} {pos : Pos} {Q : Unit → Shared → Prop}
    (h : wpG M A (eval o env) (fun ov s₁ => wpG M A (eval i env) (fun iv s₂ => wpG M A (delItem ov iv) Q E s₂) E s₁) E s) :
    wpG M A (delete (.Subscript o i pos) env) Q E s := by
  rw [arm_delete_Subscript]
  exact wpG_bind (wpG_mono h (fun _ _ h₁ => wpG_bind (wpG_holding (wpG_mono h₁
    (fun _ _ h₂ => wpG_bind (wpG_of (wpAny_standAt (wpG_bind (wpG_holding (wpG_mono h₂ (fun _ _ h₃ => wpG_of (wpAny_release h₃)) (fun _ _ he => he)))))))
    (fun _ _ he => he)))) (fun _ _ he => he))
theorem wpG_Assign_Name {x : Str} {pos' pos : Pos} {value : Expr} {Q : Flow → Shared → Prop}
    (h : wpG M A (eval value env) (fun v s₁ => wpG M A (storeName env x v) (fun _ => Q .next) E s₁) E s)
    (hs : swapsWith value (some (.Name x pos')) pos.line env = pure false := by rfl) :
    wpG M A (exec (.Assign [.Name x pos'] value pos) env) Q E s := fun Γ p hΓ hc => by
  simp only [exec_Assign_Name env x pos' value pos hs, Sem.wp_bind', Sem.wp_cmd_standAt, Sem.wp_bindName, Sem.wp_pure']
  exact Sem.wp_mono M Γ _ (fun v _ s₁ h₁ => h₁ Γ _ hΓ hc) (fun _ _ _ h' => h') _ _ (h Γ _ hΓ hc)
theorem wpG_noted {m : Sem α} {Q : α → Shared → Prop} (h : wpG M A m Q (notedBy M A env E) s) : wpG M A (m.onRaise fun x => do noteFrame x env; theTreesLotGoes x) Q E s :=
  wpG_onRaise (wpG_mono h (fun _ _ q => q) fun _ _ hx => wpG_of (wpAny_bind (wpAny_mono hx (fun _ _ e => wpAny_theTreesLotGoes e) fun _ _ e => e)))
theorem codeG_loop' {c : Code} {R : Result → Shared → Prop} (hb : bad c = false) (hq : c.quiet = true) (I : Nat → Shared → Prop)
    (turn : ∀ n s, I n s → wpG M (A.under c) (M.den c)
      (fun fin s' => match fin with
        | .done f => R (.ok f) s'
        | .again c' => (c' = c ∧ ∃ m, m < n ∧ I m s') ∨ (c'.quiet = true ∧ codeG M A c' R s')) (fun e s' => R (.error e) s') s)
    (n : Nat) (h : I n s) : codeG M A c R s := by
  induction n using Nat.strongRecOn generalizing s with
  | ind n ih =>
    refine codeG_of_tree hb (wpG_mono (turn n s h) (fun fin s' hf => ?_) fun _ _ h' => h')
    cases fin with
    | done f => exact hf
    | again c' =>
      rcases hf with ⟨rfl, m, hm, hI⟩ | hf
      · exact ⟨hq, ih m hm hI⟩
      · exact hf
theorem wpG_run {c : Code} {Q : Flow → Shared → Prop}
    (hc : codeG M A c (fun r s' => match r with | .ok f => Q f s' | .error e => E e s') s) : wpG M A (run c none) Q E s :=
  fun Γ p hΓ hcl => by rw [Sem.wp_run]; exact hc _ p rfl (hΓ.enter c none p (by intro x; cases x)) hcl.enter
theorem wpG_runOwn {c : Code} {Q : Flow → Shared → Prop}
    (hc : codeG M A c (fun r s' => match r with | .ok f => Q f s' | .error e => cameBackBy M A env E e s') s) : wpG M A (runOwn c env none) Q E s := by
  unfold runOwn
  exact wpG_onRaise (wpG_mono (wpG_run hc) (fun _ _ h => h) fun _ _ h => wpG_of h)
theorem wpG_For {target iter : Expr} {body orelse : List Stmt} {pos : Pos} {Q : Flow → Shared → Prop}
    (h : wpG M A (eval iter env) (fun x s₁ => wpG M A (pyIter x) (fun it s₂ =>
      codeG M A (.forLoop target it body orelse env) (fun r s' => match r with | .ok f => Q f s' | .error e => cameBackBy M A env E e s') s₂) E s₁) E s)
    (hs : ∀ x, foldedSetIterable iter env x = pure x := by intro _; rfl) :
    wpG M A (exec (.For target iter body orelse pos) env) Q E s := by
  rw [exec_For]
  exact wpG_bind (wpG_of (wpAny_standAt (wpG_bind (wpG_mono h (fun x s₁ h₁ => wpG_bind (wpG_of (wpAny_of_eq (hs x) (wpG_bind (wpG_of (wpAny_standAt (wpG_bind (wpG_holding
    (wpG_mono h₁ (fun it s₂ h₂ => wpG_runOwn h₂) fun _ _ h' => h'))))))))) fun _ _ h' => h'))))
theorem wpG_While {test : Expr} {body orelse : List Stmt} {pos : Pos} {Q : Flow → Shared → Prop}
    (h : codeG M A (.whileLoop test body orelse env) (fun r s' => match r with | .ok f => Q f s' | .error e => cameBackBy M A env E e s') s) :
    wpG M A (exec (.While test body orelse pos) env) Q E s := by
  rw [exec_While]; exact wpG_bind (wpG_of (wpAny_standAt (wpG_runOwn h)))
theorem wpG_callSpecial?_slot {self : Value} {T : String} {name : Str} {id : String} {args : List Value} {kw : List (Str × Value)}
    {Q : Option Value → Shared → Prop} (hT : s.TypeIs self T) (h : Slot T name id)
    (hc : wpG M A (call (.builtin id) (self :: args) kw) (fun v => Q (some v)) E s) : wpG M A (callSpecial? self name args kw) Q E s := by
  simp only [callSpecial?]
  refine wpG_bind (wpG_of (wpAny_specialOf hT h.lookup ?_))
  simp only [h.bind]
  exact wpG_holding (wpG_bind (wpG_pure (wpG_bind (wpG_mono hc (fun v s' h' => wpG_pure h') fun _ _ h' => h'))))
theorem wpG_delItem_slot {o i : Value} {T id : String} {Q : Unit → Shared → Prop} (hT : s.TypeIs o T) (hn : seqItemTypes.contains T = false) (slot : Slot T "__delitem__" id)
    (hc : wpG M A (call (.builtin id) [o, i]) (fun _ s' => Q () s') E s) : wpG M A (delItem o i) Q E s := by
  unfold delItem
  refine wpG_holding ?_
  refine wpG_bind (wpG_of (wpAny_sequenceKey hT hn ?_))
  exact wpG_bind (wpG_callSpecial?_slot hT slot (wpG_mono hc (fun v s' h' => wpG_pure h') fun _ _ e => e))
theorem wpG_Slice {lower upper step : Option Expr} {p : Pos} {Q : Value → Shared → Prop}
    (h : wpG M A (evalPart lower env) (fun l s₁ => wpG M A (evalPart upper env) (fun u s₂ => wpG M A (evalPart step env) (fun st s₃ =>
      Q (.ref s₃.heap.objs.size) { s₃ with heap := s₃.heap.push { cls := .type "slice", data := .fields #[l, u, st] } }) E s₂) E s₁) E s) :
    wpG M A (eval (.Slice lower upper step p) env) Q E s := by
  rw [arm_eval_Slice]
  refine wpG_bind (wpG_mono h (fun l s₁ h₁ => wpG_bind (wpG_holding (wpG_mono h₁ (fun u s₂ h₂ => wpG_bind (wpG_holding (wpG_mono h₂ (fun st s₃ h₃ => ?_) fun _ _ x => x))) fun _ _ x => x))) fun _ _ x => x)
  exact wpG_of (wpAny_newObj_type h₃)
theorem wpG_Assign_Attribute {o : Expr} {attr : Str} {pos' pos : Pos} {value : Expr} {Q : Flow → Shared → Prop}
    (h : wpG M A (eval value env) (fun v s₁ => wpG M A (eval o env) (fun ov s₂ => wpG M A (setAttr ov attr v) (fun _ => Q .next) E s₂) E s₁) E s)
    (hs : swapsWith value (some (.Attribute o attr pos')) pos.line env = pure false := by rfl) :
    wpG M A (exec (.Assign [.Attribute o attr pos'] value pos) env) Q E s := fun Γ p hΓ hc => by
  simp only [plainObj_exec_Assign_Attribute o attr pos' value pos hs, assign_Attribute, Sem.wp_bind', Sem.wp_holding, Sem.wp_cmd_standAt, Sem.wp_release, Sem.wp_pure']
  exact Sem.wp_mono M Γ _ (fun v p₁ s₁ h₁ => Sem.wp_mono M Γ _ (fun ov _ s₂ h₂ => h₂ Γ _ hΓ hc) (fun _ _ _ h' => h') _ _ (h₁ Γ p₁ hΓ hc)) (fun _ _ _ h' => h') _ _ (h Γ _ hΓ hc)
theorem wpG_Assign_Subscript {o i : Expr} {pos' pos : Pos} {value : Expr} {Q : Flow → Shared → Prop}
    (h : wpG M A (eval value env) (fun v s₁ => wpG M A (eval o env) (fun ov s₂ => wpG M A (eval i env) (fun iv s₃ =>
      wpG M A (setItem ov iv v) (fun _ => Q .next) E s₃) E s₂) E s₁) E s)
    (hs : swapsWith value (some (.Subscript o i pos')) pos.line env = pure false := by rfl) :
    wpG M A (exec (.Assign [.Subscript o i pos'] value pos) env) Q E s := fun Γ p hΓ hc => by
  simp only [exec_Assign_Subscript o i pos' value pos hs, assign_Subscript, Sem.wp_bind', Sem.wp_holding, Sem.wp_cmd_standAt, Sem.wp_release, Sem.wp_pure']
  exact Sem.wp_mono M Γ _ (fun v p₁ s₁ h₁ => Sem.wp_mono M Γ _ (fun ov p₂ s₂ h₂ => Sem.wp_mono M Γ _ (fun iv _ s₃ h₃ => h₃ Γ _ hΓ hc)
    (fun _ _ _ h' => h') _ _ (h₂ Γ p₂ hΓ hc)) (fun _ _ _ h' => h') _ _ (h₁ Γ p₁ hΓ hc)) (fun _ _ _ h' => h') _ _ (h Γ _ hΓ hc)
theorem evalArgsG_plain {f : Value} {x : Sem Value} {rest : List (Bool × Sem Value)} {Q : Args → Shared → Prop}
    (h : wpG M A (spliced ((false, x) :: rest)) (fun vs s' => Q ⟨vs, []⟩ s') E s) : wpG M A (evalArgs f true ((false, x) :: rest) []) Q E s := by
  unfold evalArgs
  show wpG M A (spliced ((false, x) :: rest) >>= _) Q E s
  refine wpG_bind (wpG_mono h (fun vs s' h' => ?_) fun _ _ x => x)
  refine wpG_holding ?_
  exact wpG_bind (wpG_pure (wpG_bind (wpG_pure (wpG_pure h'))))
theorem wpG_standIf {α : Type} {c : Bool} {pos : Pos} {t : Sem α} {Q : α → Shared → Prop} (h : wpG M A t Q E s) : wpG M A (if c = true then (standAt pos >>= fun _ => t) else t) Q E s := by
  split
  · exact wpG_bind (wpG_of (wpAny_standAt h))
  · exact h
theorem wpG_attempt {m : Sem α} {Q : Except Value α → Shared → Prop} (h : wpG M A m (fun a => Q (.ok a)) (fun e => Q (.error e)) s) :
    wpG M A m.attempt Q E s := fun Γ p hΓ hc => by rw [Sem.wp_attempt]; exact h Γ p hΓ hc
theorem wpG_comprehension_free {e : Expr} {scope : Scope} {pos : Pos} {newAcc first : Sem Value} {g : Comprehension} {gs : List Comprehension} {cl : List (Str × Addr)} {use : Option (Value → Sem Unit)}
    {Q : Value → Shared → Prop}
    (hcl : clausesOf e = g :: gs) (hs : ∀ x, foldedSetIterable g.iter env x = pure x) (hclos : closureFor scope env = pure cl)
    (hkind : scope.kind = .function) (hnames : ∀ x ∈ scope.names, x.2 = .local → scope.names.lookup x.1 = some .local)
    (h : wpG M A first (fun x s₁ => wpG M A (pyIter x) (fun it s₂ => wpG M A newAcc (fun acc s₃ =>
      wpG M A (newFunctionEnv scope env.globals cl [] env.qual none .none (some env)) (fun cenv s₄ =>
        codeG M A (.compStart e 0 it acc { cenv with scope := relabel scope env }) (compPost M A E use Q acc cenv.locals) s₄) E s₃) E s₂) E s₁) E s) :
    wpG M A (comprehension e scope env pos newAcc false first use) Q E s := by
  unfold comprehension
  rw [hclos, hcl]
  refine wpG_bind (wpG_mono h (fun x s₁ h₁ => wpG_bind (wpG_of (wpAny_standAt (wpG_bind (wpG_of (wpAny_of_eq (hs x) (wpG_bind (wpG_holding (wpG_mono h₁ (fun it s₂ h₂ =>
    wpG_standIf (wpG_bind (wpG_mono h₂ (fun acc s₃ h₃ => wpG_bind (wpG_pure (wpG_bind (wpG_mono h₃ (fun cenv s₄ h₄ => ?_) fun _ _ h' => h')))) fun _ _ h' => h')))
      fun _ _ h' => h'))))))))) fun _ _ h' => h')
  dsimp only
  have hv : ∀ x ∈ (scope.names.filter fun x => (x.2 == .local || x.2 == .cell) && x.1 != (".0" : Str)).reverse, x.2 = .local →
      Env.kindOf { cenv with scope := relabel scope env } x.1 = some .local := fun x hx hl => lookup_relabel_local (hnames x (List.mem_filter.mp (List.mem_reverse.mp hx)).1 hl)
  have hv' : ∀ x ∈ (scope.names.filter fun x => (x.2 == .local || x.2 == .cell) && x.1 != (".0" : Str)).reverse.drop 1 ++ (scope.names.filter fun x => (x.2 == .local || x.2 == .cell) && x.1 != (".0" : Str)).reverse.take 1,
      x.2 = .local → Env.kindOf { cenv with scope := relabel scope env } x.1 = some .local := fun x hx hl => by
    rcases List.mem_append.mp hx with h1 | h1
    · exact hv x (List.mem_of_mem_drop h1) hl
    · exact hv x (List.mem_of_mem_take h1) hl
  refine wpG_holding (wpG_bind (wpG_attempt (wpG_holding (wpG_run (codeG_mono h₄ fun r s' hr => ?_)))))
  cases r with
  | ok f =>
    cases use with
    | none =>
      obtain ⟨m, hn, hr⟩ := hr
      exact wpG_of (wpAny_bind (wpAny_holding (wpAny_comp_letGo (cenv := { cenv with scope := relabel scope env }) hkind _ s' m hv hn fun h' m' _ hs' => wpAny_pure (hr h' hs'))))
    | some u =>
      refine wpG_of (wpAny_bind (wpAny_rule (wpAny_bind (wpAny_holding (wpAny_mono hr (fun _ s'' hr' => ?_) fun _ _ h' => h')))))
      obtain ⟨m, hn, hr'⟩ := hr'
      exact wpAny_bind (wpAny_comp_letGo (cenv := { cenv with scope := relabel scope env }) hkind _ s'' m hv' hn fun h' m' _ hs' => wpAny_pure (hr' h' hs'))
  | error x =>
    have hr' : ∃ m, s'.heap.Ns cenv.locals m ∧ ∀ h', Heap.SameBut cenv.locals s'.heap h' → ∀ cenv' : Env, cenv'.locals = cenv.locals → wpAny M A (passOn "comprehension.variables-let-go" x cenv' : Sem Value) (fun _ _ => False) E { s' with heap := h' } := by cases use <;> exact hr
    obtain ⟨m, hn, hr⟩ := hr'
    exact wpG_of (wpAny_bind (wpAny_holding (wpAny_comp_letGo (cenv := { cenv with scope := relabel scope env }) hkind _ s' m hv hn fun h' m' _ hs' => wpAny_mono (hr h' hs' _ rfl) (fun _ _ f => f.elim) fun _ _ y => y)))
theorem splicedG_nil {Q : List Value → Shared → Prop} (h : Q [] s) : wpG M A (spliced []) Q E s := wpG_pure h
theorem splicedG_cons {x : Sem Value} {rest : List (Bool × Sem Value)} {Q : List Value → Shared → Prop}
    (h : wpG M A x (fun v s₁ => wpG M A (spliced rest) (fun vs s₂ => Q (v :: vs) s₂) E s₁) E s) : wpG M A (spliced ((false, x) :: rest)) Q E s := by
  rw [spliced]
  refine wpG_bind (wpG_mono h (fun v s₁ h₁ => ?_) fun _ _ x => x)
  simp only [Bool.false_eq_true, if_false]
  exact wpG_bind (wpG_pure (wpG_bind (wpG_holding (wpG_mono h₁ (fun vs s₂ h₂ => wpG_pure h₂) fun _ _ x => x))))
theorem evalArgsG_nil3 {f : Value} {Q : Args → Shared → Prop} (h : Q ⟨[], []⟩ s) : wpG M A (evalArgs f true [] []) Q E s := by
  unfold evalArgs
  show wpG M A (spliced [] >>= _) Q E s
  refine wpG_bind (splicedG_nil (wpG_bind (wpG_pure ?_)))
  refine wpG_holding ?_
  exact wpG_bind (wpG_pure (wpG_bind (wpG_pure (wpG_pure h))))
theorem wpG_notedAt {m : Sem α} {pos : Pos} {Q : α → Shared → Prop} (h : wpG M A m Q (notedBy M A env E) s) :
    wpG M A (m.onRaise fun x => do noteFrame x env; standAt pos) Q E s :=
  wpG_onRaise (wpG_mono h (fun _ _ q => q) fun _ _ hx => wpG_of (wpAny_bind (wpAny_mono hx (fun _ _ e => wpAny_standAt e) fun _ _ e => e)))
theorem codeG_loop {c : Code} {R : Result → Shared → Prop} (hb : bad c = false) (hq : c.quiet = true) (I : Nat → Shared → Prop)
    (turn : ∀ n s, I n s → wpG M (A.under c) (M.den c)
      (fun fin s' => match fin with | .done f => R (.ok f) s' | .again c' => c' = c ∧ ∃ m, m < n ∧ I m s') (fun e s' => R (.error e) s') s)
    (n : Nat) (h : I n s) : codeG M A c R s := by
  refine codeG_loop' hb hq I (fun n s hI => wpG_mono (turn n s hI) (fun fin s' hf => ?_) fun _ _ h' => h') n h
  cases fin with
  | done f => exact hf
  | again c' => exact .inl hf
theorem wpG_keep {vs : List Value} {m : Sem α} {Q : α → Shared → Prop} (h : wpG M A m Q E s) : wpG M A (m.keep vs) Q E s :=
  fun Γ p hΓ hc => by rw [Sem.wp_keep]; exact h Γ p hΓ hc
theorem callWithG_of {pos : Pos} {f : Value} {first : List Value} {P : Heap → Prop} {args : List (Bool × Sem Value)} {keywords : List (Option Str × Sem Value)} {Q : Value → Shared → Prop} (hplain : (args.any (·.1) || keywords.any (·.1.isNone)) = false)
    (hk : ∀ h, P h → ∃ k, (k = Keeper.frame ∨ k = Keeper.machine ∨ k = Keeper.boundFrame) ∧ Looks M h (keeperOf f) k)
    (h : wpG M A (evalArgs f true args keywords) (fun a s₁ => P s₁.heap ∧ wpG M A (call f (first ++ a.pos) a.kw) Q E s₁) E s) : wpG M A (callWith pos f first args keywords) Q E s := by
  unfold callWith
  refine wpG_bind (wpG_holding (wpG_mono h (fun a s₁ h₁ => wpG_bind (wpG_of (wpAny_standAt ?_))) fun _ _ x => x))
  obtain ⟨k, hk', L⟩ := hk _ h₁.1
  simp only [hplain]
  refine wpG_bind (wpG_of (L.here ?_))
  have tail : ∀ {t : Sem Value}, wpG M A t Q E s₁ → wpG M A (t >>= fun r => holding [r] point >>= fun _ => pure r) Q E s₁ :=
    fun ht => wpG_bind (wpG_mono ht (fun r s₂ hr => wpG_bind (wpG_holding (wpG_of (wpAny_point (wpG_pure hr))))) fun _ _ x => x)
  have marked (mk : Value) : wpG M A (callMarked mk f (first ++ a.pos) a.kw) Q E s₁ := by unfold callMarked; exact wpG_keep h₁.2
  rcases hk' with rfl | rfl | rfl <;> dsimp only <;> first | exact tail h₁.2 | (split <;> first | exact tail h₁.2 | exact tail (marked _))
theorem callWithG_type {pos : Pos} {T : String} {first : List Value} {args : List (Bool × Sem Value)} {Q : Value → Shared → Prop} (hplain : args.any (·.1) = false)
    (h : wpG M A (evalArgs (.type T) true args []) (fun a s₁ => wpG M A (call (.type T) (first ++ a.pos) a.kw) Q E s₁) E s) :
    wpG M A (callWith pos (.type T) first args []) Q E s := by
  unfold callWith
  refine wpG_bind (wpG_holding (wpG_mono h (fun a s₁ h₁ => wpG_bind (wpG_of (wpAny_standAt ?_))) fun _ _ x => x))
  simp only [hplain, List.any_nil, Bool.or_false]
  refine wpG_bind (wpG_pure ?_)
  exact wpG_bind (wpG_mono h₁ (fun r s₂ hr => wpG_bind (wpG_holding (wpG_of (wpAny_point (wpG_pure hr))))) fun _ _ x => x)
theorem callWithG_builtin {pos : Pos} {id : String} {first : List Value} {args : List (Bool × Sem Value)} {Q : Value → Shared → Prop} (hplain : args.any (·.1) = false)
    (h : wpG M A (evalArgs (.builtin id) true args []) (fun a s₁ => wpG M A (call (.builtin id) (first ++ a.pos) a.kw) Q E s₁) E s) :
    wpG M A (callWith pos (.builtin id) first args []) Q E s := by
  unfold callWith
  refine wpG_bind (wpG_holding (wpG_mono h (fun a s₁ h₁ => wpG_bind (wpG_of (wpAny_standAt ?_))) fun _ _ x => x))
  simp only [hplain, List.any_nil, Bool.or_false]
  refine wpG_bind (wpG_pure ?_)
  exact wpG_bind (wpG_mono h₁ (fun r s₂ hr => wpG_bind (wpG_holding (wpG_of (wpAny_point (wpG_pure hr))))) fun _ _ x => x)
end
section
variable {prog : Program} {w : World} {A : Around} {E : Value → Shared → Prop} {s : Shared} {env : Env}
theorem codeG_block {stmts : List Stmt} {R : Result → Shared → Prop} (h : wpG (model prog w) A (execs stmts env) (fun f s' => R (.ok f) s') (notedBy (model prog w) A env fun e s' => R (.error e) s') s) :
    codeG (model prog w) A (.block stmts env) R s := by
  refine codeG_of_tree rfl ?_
  show wpG _ _ (do return Fin.done (← (execs stmts env).onRaise (fun x => do noteFrame x env; theTreesLotGoes x))) _ _ s
  exact wpG_bind (wpG_noted (wpG_mono h (fun f s' h' => wpG_pure h') fun _ _ h' => h'))
theorem codeG_forLoop_any {R : Result → Shared → Prop} {target : Expr} {it : Value} {body orelse : List Stmt} (I : Nat → Shared → Prop)
    (turn : ∀ n s, I n s → wpG (model prog w) A (pyNext it) (fun r s₁ => match r with
      | none => wpG (model prog w) A (execs orelse env) (fun f s₃ => R (.ok f) s₃) (notedBy (model prog w) A env fun e s' => R (.error e) s') s₁
      | some v => wpG (model prog w) A (letOwnedTupleGo target it v) (fun _ s₁' =>
          wpG (model prog w) A (assign target env v) (fun _ s₂ => wpG (model prog w) A (execs body env) (fun f s₃ => match f with
            | .next | .cont => ∃ m, m < n ∧ I m s₃
            | .brk => R (.ok .next) s₃
            | .ret v => R (.ok (.ret v)) s₃) (notedBy (model prog w) A env fun e s' => R (.error e) s') s₂) (notedBy (model prog w) A env fun e s' => R (.error e) s') s₁') (notedBy (model prog w) A env fun e s' => R (.error e) s') s₁) (notedBy (model prog w) A env fun e s' => R (.error e) s') s)
    (n : Nat) (h : I n s) : codeG (model prog w) A (.forLoop target it body orelse env) R s := by
  refine codeG_loop' rfl rfl I (fun n s hI => ?_) n h
  show wpG _ A ((forTurn target it body orelse env).onRaise (fun x => do noteFrame x env; theTreesLotGoes x)) _ _ s
  refine wpG_noted ?_
  simp only [forTurn]
  refine wpG_bind (wpG_of (wpAny_standAt (wpG_bind (wpG_onRaise (wpG_mono (turn n s hI) (fun r s₁ h₁ => ?_) fun _ _ h' => wpG_of (wpAny_standAt h'))))))
  cases r with
  | none => exact wpG_pure (.inr ⟨rfl, codeG_block h₁⟩)
  | some v =>
    refine wpG_bind (wpG_mono h₁ (fun _ s₁' h₁' => ?_) fun _ _ h' => h')
    refine wpG_bind (wpG_mono h₁' (fun _ s₂ h₂ => wpG_bind (wpG_mono h₂ (fun f s₃ h₃ => ?_) fun _ _ h' => h')) fun _ _ h' => h')
    cases f with
    | next => exact wpG_pure (.inl ⟨rfl, h₃⟩)
    | cont => exact wpG_pure (.inl ⟨rfl, h₃⟩)
    | brk => exact wpG_pure h₃
    | ret v => exact wpG_pure h₃
theorem codeG_compStart_list {elt target iter : Expr} {ifs : List Expr} {rest : List Comprehension} {scope : Scope} {pos : Pos} {it acc : Value} {R : Result → Shared → Prop}
    (h0 : codeG (model prog w) A (.compLoop (.ListComp elt (⟨target, iter, ifs, 0⟩ :: rest) scope pos) 0 it acc env) R s)
    (h : wpG (model prog w) A (pyIter it) (fun it' s' => codeG (model prog w) A (.compLoop (.ListComp elt (⟨target, iter, ifs, 0⟩ :: rest) scope pos) 0 it' acc env) R s')
      (notedBy (model prog w) A env fun x s' => R (.error x) s') s) :
    codeG (model prog w) A (.compStart (.ListComp elt (⟨target, iter, ifs, 0⟩ :: rest) scope pos) 0 it acc env) R s := by
  refine codeG_of_tree rfl ?_
  show wpG _ _ ((compStart (.ListComp elt (⟨target, iter, ifs, 0⟩ :: rest) scope pos) 0 it acc env).onRaise (fun x => do noteFrame x env; standAt theWindowsPlace)) _ _ s
  refine wpG_notedAt ?_
  unfold compStart
  show wpG _ _ (ask >>= _) _ _ s
  refine wpG_bind (wpG_of (wpAny_askSetting ?_))
  refine wpG_ite ?_
  split
  · first
      | exact wpG_bind (wpG_pure (wpG_pure (And.intro rfl h0)))
      | exact wpG_pure (And.intro rfl h0)
  · first
      | exact wpG_bind (wpG_of (wpAny_rule (wpG_bind (wpG_of (wpAny_standAt (wpG_bind (wpG_mono h (fun it' s' h' => wpG_pure (And.intro rfl h')) fun _ _ x => x)))))))
      | (refine wpG_bind (wpG_of (wpAny_rule ?_)); show wpG _ _ (standAt iter.pos >>= _) _ _ s; exact wpG_bind (wpG_of (wpAny_standAt (wpG_bind (wpG_mono h (fun it' s' h' => wpG_pure (And.intro rfl h')) fun _ _ x => x)))))
theorem codeG_compLoop_tests {elt target iter : Expr} {ifs : List Expr} {scope : Scope} {pos : Pos} {it acc : Value} {R : Result → Shared → Prop} (I : Nat → Shared → Prop)
    (turn : ∀ n s, I n s → wpG (model prog w) A (pyNext it) (fun r s₁ => match r with
      | none => R (.ok .next) s₁
      | some v => wpG (model prog w) A (assign target env v) (fun _ s₂ =>
          wpG (model prog w) A (forIn ifs true fun c r => if r = true then do let ok ← isTrue c env (eval c env); pure (ForInStep.yield ok) else pure (ForInStep.yield r)) (fun ok s₃ =>
            if ok = true then wpG (model prog w) A (eval elt env) (fun x s₄ =>
              wpG (model prog w) A (call (.builtin "list.append") [acc, x]) (fun _ s₅ => ∃ m, m < n ∧ I m s₅) (notedBy (model prog w) A env fun e s' => R (.error e) s') s₄) (notedBy (model prog w) A env fun e s' => R (.error e) s') s₃
            else ∃ m, m < n ∧ I m s₃) (notedBy (model prog w) A env fun e s' => R (.error e) s') s₂) (notedBy (model prog w) A env fun e s' => R (.error e) s') s₁) (notedBy (model prog w) A env fun e s' => R (.error e) s') s)
    (n : Nat) (h : I n s) (ht : ∀ v, letOwnedTupleGo target it v = pure () := by intro _; rfl) :
    codeG (model prog w) A (.compLoop (.ListComp elt [⟨target, iter, ifs, 0⟩] scope pos) 0 it acc env) R s := by
  refine codeG_loop rfl rfl I (fun n s hI => ?_) n h
  show wpG _ A ((compTurn (.ListComp elt [⟨target, iter, ifs, 0⟩] scope pos) 0 it acc env).onRaise (fun x => do noteFrame x env; theTreesLotGoes x)) _ _ s
  refine wpG_noted ?_
  rw [compTurn_list]
  refine wpG_bind (wpG_of (wpAny_standAt (wpG_bind (wpG_mono (turn n s hI) (fun r s₁ h₁ => ?_) fun _ _ h' => h'))))
  cases r with
  | none => exact wpG_pure h₁
  | some v =>
    refine wpG_bind (wpG_of (wpAny_of_eq (ht v) ?_))
    refine wpG_bind (wpG_mono h₁ (fun _ s₂ h₂ => wpG_bind (wpG_mono h₂ (fun ok s₃ h₃ => ?_) fun _ _ h' => h')) fun _ _ h' => h')
    cases ok with
    | false => exact wpG_pure ⟨rfl, h₃⟩
    | true =>
      exact wpG_bind (wpG_bind (wpG_mono h₃ (fun x s₄ h₄ => wpG_bind (wpG_mono h₄ (fun _ s₅ h₅ => wpG_pure (wpG_pure ⟨rfl, h₅⟩)) fun _ _ h' => h')) fun _ _ h' => h'))
end
end Vm
end
section
namespace Vm
open PySem PySem.W PyProof.Rows PySem.Calls PySem.SeqAt
section
variable {α β : Type} {M : Model} {A : Around} {E : Value → Shared → Prop} {s : Shared} {env : Env}
theorem wpG_then {m : Sem α} {f : α → Sem β} {P : α → Shared → Prop} {Q : β → Shared → Prop} (h : wpG M A m P E s) (k : ∀ a s', P a s' → wpG M A (f a) Q E s') : wpG M A (m >>= f) Q E s :=
  wpG_bind (wpG_mono h k fun _ _ x => x)
theorem wpG_stand {pos : Pos} {f : Unit → Sem β} {Q : β → Shared → Prop} (h : wpG M A (f ()) Q E s) : wpG M A (standAt pos >>= f) Q E s := wpG_bind (wpG_of (wpAny_standAt h))
theorem wpG_release {vs keep : List Value} {f : Unit → Sem β} {Q : β → Shared → Prop} (h : wpG M A (f ()) Q E s) : wpG M A (release vs keep >>= f) Q E s := wpG_bind (wpG_of (wpAny_release' h))
theorem wpG_operate {vs : List Value} {m : Sem Value} {Q : Value → Shared → Prop} (h : wpG M A m Q E s) : wpG M A (operate vs m) Q E s := fun Γ p hΓ hc => by
  rw [Sem.wp_operate]; exact h Γ p hΓ hc
theorem chainG_link {pos : Pos} {a : Value} {op op' : CmpOp} {ops : List CmpOp} {r r' : Sem Value} {rs : List (Sem Value)} {Q : Value → Shared → Prop}
    (h : wpG M A r (fun b s₁ => wpG M A (compareOp op a b) (fun c s₂ => wpG M A (truthy c)
      (fun t s₃ => if t then wpG M A (compareChain pos b (op' :: ops) (r' :: rs)) Q E s₃ else Q c s₃) E s₂) E s₁) E s) :
    wpG M A (compareChain pos a (op :: op' :: ops) (r :: r' :: rs)) Q E s := by
  show wpG M A (do
    let rv ← holding [a] r
    standAt pos
    let c ← holding [a, rv] (compareOp op a rv)
    release [a, rv] [c]
    if ← holding [c, rv] (truthy c) then compareChain pos rv (op' :: ops) (r' :: rs) else pure c) Q E s
  refine wpG_then (wpG_holding h) fun b s₁ h₁ => wpG_stand (wpG_then (wpG_holding h₁) fun c s₂ h₂ => wpG_release (wpG_then (wpG_holding h₂) fun t s₃ h₃ => ?_))
  cases t with
  | false => exact wpG_pure h₃
  | true => exact h₃
theorem chainG_last {pos : Pos} {a : Value} {op : CmpOp} {r : Sem Value} {Q : Value → Shared → Prop}
    (h : wpG M A r (fun b s₁ => wpG M A (compareOp op a b) Q E s₁) E s) : wpG M A (compareChain pos a [op] [r]) Q E s := by
  show wpG M A (do
    let rv ← holding [a] r
    standAt pos
    operate [a, rv] (compareOp op a rv)) Q E s
  exact wpG_then (wpG_holding h) fun b s₁ h₁ => wpG_stand (wpG_operate h₁)
theorem testG_link {pos : Pos} {a : Value} {op op' : CmpOp} {ops : List CmpOp} {r r' : Sem Value} {rs : List (Sem Value)} {Q : Bool → Shared → Prop}
    (h : wpG M A r (fun b s₁ => wpG M A (compareOp op a b) (fun c s₂ => wpG M A (truthy c)
      (fun t s₃ => if t then wpG M A (testChain pos b (op' :: ops) (r' :: rs)) Q E s₃ else Q false s₃) E s₂) E s₁) E s) :
    wpG M A (testChain pos a (op :: op' :: ops) (r :: r' :: rs)) Q E s := by
  show wpG M A (do
    let rv ← holding [a] r
    standAt pos
    let c ← holding [a, rv] (compareOp op a rv)
    release [a, rv] [c]
    if ← holding [c, rv] (truthy c) then testChain pos rv (op' :: ops) (r' :: rs) else pure false) Q E s
  refine wpG_then (wpG_holding h) fun b s₁ h₁ => wpG_stand (wpG_then (wpG_holding h₁) fun c s₂ h₂ => wpG_release (wpG_then (wpG_holding h₂) fun t s₃ h₃ => ?_))
  cases t with
  | false => exact wpG_pure h₃
  | true => exact h₃
theorem testG_last {pos : Pos} {a : Value} {op : CmpOp} {r : Sem Value} {Q : Bool → Shared → Prop}
    (h : wpG M A r (fun b s₁ => wpG M A (compareOp op a b) (fun c s₂ => wpG M A (truthy c) Q E s₂) E s₁) E s) : wpG M A (testChain pos a [op] [r]) Q E s := by
  show wpG M A (do
    let rv ← holding [a] r
    standAt pos
    let c ← operate [a, rv] (compareOp op a rv)
    holding [c] (truthy c)) Q E s
  exact wpG_then (wpG_holding h) fun b s₁ h₁ => wpG_stand (wpG_then (wpG_operate h₁) fun c s₂ h₂ => wpG_holding h₂)
theorem BoolOpG_and {e₁ e₂ : Expr} {rest : List Expr} {pos : Pos} {Q : Value → Shared → Prop}
    (h : wpG M A (eval e₁ env) (fun v s₁ => wpG M A (truthy v) (fun c s₂ => if c then wpG M A (eval (.BoolOp .And (e₂ :: rest) pos) env) Q E s₂ else Q v s₂) E s₁) E s) :
    wpG M A (eval (.BoolOp .And (e₁ :: e₂ :: rest) pos) env) Q E s := by
  show wpG M A (do
    let v ← eval e₁ env
    standAt pos
    let c ← holding [v] (truthy v)
    match BoolOp.And, c with
    | .And, false | .Or, true => pure v
    | _, _ => boolOp pos .And (eval e₂ env :: evalEach rest env)) Q E s
  refine wpG_then h fun v s₁ h₁ => wpG_stand (wpG_then (wpG_holding h₁) fun c s₂ h₂ => ?_)
  cases c with
  | false => exact wpG_pure h₂
  | true => exact h₂
theorem BoolOpG_or {e₁ e₂ : Expr} {rest : List Expr} {pos : Pos} {Q : Value → Shared → Prop}
    (h : wpG M A (eval e₁ env) (fun v s₁ => wpG M A (truthy v) (fun c s₂ => if c then Q v s₂ else wpG M A (eval (.BoolOp .Or (e₂ :: rest) pos) env) Q E s₂) E s₁) E s) :
    wpG M A (eval (.BoolOp .Or (e₁ :: e₂ :: rest) pos) env) Q E s := by
  show wpG M A (do
    let v ← eval e₁ env
    standAt pos
    let c ← holding [v] (truthy v)
    match BoolOp.Or, c with
    | .And, false | .Or, true => pure v
    | _, _ => boolOp pos .Or (eval e₂ env :: evalEach rest env)) Q E s
  refine wpG_then h fun v s₁ h₁ => wpG_stand (wpG_then (wpG_holding h₁) fun c s₂ h₂ => ?_)
  cases c with
  | false => exact h₂
  | true => exact wpG_pure h₂
theorem isTrueG_not {x : Expr} {pos : Pos} {whole : Sem Value} {Q : Bool → Shared → Prop} (h : wpG M A (isTrue x env (eval x env)) (fun c s' => Q (!c) s') E s) :
    wpG M A (isTrue (.UnaryOp .Not x pos) env whole) Q E s := by
  show wpG M A (do return !(← isTrue x env (eval x env))) Q E s
  exact wpG_then h fun c s' h' => wpG_pure h'
theorem isTrueG_plain {e : Expr} {whole : Sem Value} {Q : Bool → Shared → Prop} (h : wpG M A whole (fun v s₁ => wpG M A (truthy v) Q E s₁) E s)
    (he : isTrue e env whole = (do let v ← whole; standAt e.pos; holding [v] (truthy v))) : wpG M A (isTrue e env whole) Q E s := by
  rw [he]
  exact wpG_then h fun v s₁ h₁ => wpG_stand (wpG_holding h₁)
theorem SubscriptG {value slice : Expr} {pos : Pos} {Q : Value → Shared → Prop}
    (h : wpG M A (eval value env) (fun o s₁ => wpG M A (eval slice env) (fun i s₂ => wpG M A (subscriptTail value slice o i) Q E s₂) E s₁) E s) :
    wpG M A (eval (.Subscript value slice pos) env) Q E s := by
  rw [PySem.eval_Subscript]
  exact wpG_then h fun o s₁ h₁ => wpG_then (wpG_holding h₁) fun i s₂ h₂ => wpG_stand h₂
theorem CallG {func : Expr} {args : List Expr} {pos : Pos} {Q : Value → Shared → Prop}
    (h : wpG M A (eval func env) (fun f s₁ => wpG M A (callWith pos f [] (backTo pos (starEach args env)) []) Q E s₁) E s)
    (he : eval (.Call func args [] pos) env = (do callWith pos (← eval func env) [] (backTo pos (starEach args env)) (backToKw pos (keywordEach [] env)))) :
    wpG M A (eval (.Call func args [] pos) env) Q E s := by
  rw [he]; exact wpG_bind h
theorem AssignG_Tuple {elts : List Expr} {k : Nat} {tpos pos : Pos} {value : Expr} {Q : Flow → Shared → Prop}
    (h : wpG M A (eval value env) (fun v s₁ => wpG M A (assign (.Tuple elts k tpos) env v) (fun _ => Q .next) E s₁) E s)
    (hs : swapsWithSole [.Tuple elts k tpos] value pos.line env = pure false)
    (hw : swappedStores [.Tuple elts k tpos] value env = pure none) :
    wpG M A (exec (.Assign [.Tuple elts k tpos] value pos) env) Q E s := by
  rw [PyProof.Rows.exec_Assign]
  refine wpG_stand ?_
  rw [hs]
  refine wpG_bind (wpG_pure ?_)
  rw [if_neg (by decide)]
  refine wpG_then h fun v s₁ h₁ => ?_
  rw [hw]
  refine wpG_bind (wpG_pure ?_)
  show wpG M A (do assignAll v [assign (.Tuple elts k tpos) env]; pure .next) Q E s₁
  exact wpG_then h₁ fun _ _ x => wpG_pure x
theorem AssignG_Tuple_swapped {elts : List Expr} {k : Nat} {tpos pos : Pos} {value : Expr} {names : List Str} {Q : Flow → Shared → Prop}
    (h : wpG M A (eval value env) (fun v s₁ => wpG M A (unpackItems v names.length none) (fun items s₂ =>
      wpG M A (assignInOrder (names.reverse.map fun n => bindName env n) items.reverse) (fun _ => Q .next) E s₂) E s₁) E s)
    (hs : swapsWithSole [.Tuple elts k tpos] value pos.line env = pure false)
    (hw : swappedStores [.Tuple elts k tpos] value env = pure (some names)) :
    wpG M A (exec (.Assign [.Tuple elts k tpos] value pos) env) Q E s := by
  rw [PyProof.Rows.exec_Assign]
  refine wpG_stand ?_
  rw [hs]
  refine wpG_bind (wpG_pure ?_)
  rw [if_neg (by decide)]
  refine wpG_then h fun v s₁ h₁ => ?_
  rw [hw]
  refine wpG_bind (wpG_pure ?_)
  show wpG M A (do rule "assign.swapped-stores"; let items ← unpackItems v names.length none; assignInOrder (names.reverse.map fun n => bindName env n) items.reverse; pure .next) Q E s₁
  exact wpG_bind (wpG_of (wpAny_rule (wpG_then h₁ fun items s₂ h₂ => wpG_then h₂ fun _ _ x => wpG_pure x)))
end
section
variable {prog : Program} {w : World} {A : Around} {E : Value → Shared → Prop} {s : Shared} {env : Env}
theorem AttributeG_any {value : Expr} {attr : Str} {pos : Pos} {Q : Value → Shared → Prop}
    (h : wpG (model prog w) A (eval value env) (fun o s₁ => wpG (model prog w) A (getAttr o attr true) Q E s₁) E s)
    (he : eval (.Attribute value attr pos) env = (do
      let o ← eval value env
      standAt pos.atName
      let r ← holding [o] (getAttr o attr true)
      letTemporaryGo value o r
      pure r)) :
    wpG (model prog w) A (eval (.Attribute value attr pos) env) Q E s := by
  rw [he]
  exact wpG_then h fun o s₁ h₁ => wpG_stand (wpG_then (wpG_holding h₁) fun r s₂ h₂ => wpG_bind (wpG_of (wpAny_letTemporaryGo (wpG_pure h₂))))
theorem evalPairsG_nil {Q : List (Value × Value) → Shared → Prop} (h : Q [] s) : wpG (model prog w) A (evalPairs []) Q E s := wpG_pure h
theorem evalPairsG_cons {k v : Sem Value} {rest : List (Sem Value × Sem Value)} {Q : List (Value × Value) → Shared → Prop}
    (h : wpG (model prog w) A k (fun kv s₁ => wpG (model prog w) A v (fun vv s₂ => wpG (model prog w) A (evalPairs rest) (fun vs s₃ => Q ((kv, vv) :: vs) s₃) E s₂) E s₁) E s) :
    wpG (model prog w) A (evalPairs ((k, v) :: rest)) Q E s := by
  rw [evalPairs]
  exact wpG_then h fun kv s₁ h₁ => wpG_then (wpG_holding h₁) fun vv s₂ h₂ => wpG_then (wpG_holding h₂) fun vs s₃ h₃ => wpG_pure h₃
theorem DictG_walk {keys : List (Option Expr)} {values : List Expr} {pos : Pos} {Q : Value → Shared → Prop}
    (hall : keys.all (·.isSome) = true) (hl : keys.length = values.length) (h0 : keys ≠ []) (hlen : keys.length ≤ 15)
    (h : wpG (model prog w) A (evalPairs (pairTrees keys values env pos)) (fun vs s₁ => ∃ kvs, Carries (strKind prog w) vs kvs ∧ s₁.heap.DictOf (strKind prog w) s.heap.objs.size [] ∧
      ∀ h', h'.DictOf (strKind prog w) s.heap.objs.size (merged [] kvs) → Heap.SameBut s.heap.objs.size s₁.heap h' → Q (.ref s.heap.objs.size) { s₁ with heap := h', toks := s₁.toks + vs.length }) E
      { s with heap := s.heap.push { cls := .type "dict", data := .dict #[] } }) :
    wpG (model prog w) A (eval (.Dict keys values pos) env) Q E s := by
  have hn := pairTrees_length keys values env pos hall hl
  have hne : pairTrees keys values env pos ≠ [] := fun e => by
    rw [e] at hn; exact h0 (List.length_eq_zero_iff.mp hn.symm)
  have h' : wpG (model prog w) A (evalPairs (pairTrees keys values env pos)) (fun vs s₁ => vs.length = (pairTrees keys values env pos).length ∧ ∃ kvs, Carries (strKind prog w) vs kvs ∧ s₁.heap.DictOf (strKind prog w) s.heap.objs.size [] ∧
      ∀ h', h'.DictOf (strKind prog w) s.heap.objs.size (merged [] kvs) → Heap.SameBut s.heap.objs.size s₁.heap h' → Q (.ref s.heap.objs.size) { s₁ with heap := h', toks := s₁.toks + vs.length }) E
      { s with heap := s.heap.push { cls := .type "dict", data := .dict #[] } } := fun Γ p hΓ hc => wp_evalPairs_len _ Γ _ _ _ p _ (h Γ p hΓ hc)
  rw [arm_eval_Dict, zip_pairTrees keys values env pos hall hl, dictDisplay_pairs _ hne (by omega)]
  refine wpG_stand (wpG_bind ?_)
  unfold subDict
  refine wpG_bind (wpG_of (wpAny_alloc (wpG_bind (wpG_holding ?_))))
  rw [if_pos (by omega)]
  refine wpG_then h' fun vs s₁ h₁ => ?_
  obtain ⟨hvl, kvs, hc, hm, hQ⟩ := h₁
  have hsz : ([] : List (Str × Value)).length + kvs.length ≤ sizeLine := by
    have e := hc.length
    rw [sizeLine_eq, List.length_nil]; omega
  exact wpG_holding (wpG_bind (wpG_of (wpAny_storeAll (knd := strKind prog w) vs kvs [] s₁ _ hc hm hsz fun h' hm' hs' => wpG_pure (wpG_pure (wpG_pure (hQ h' hm' hs'))))))
end
end Vm
end
section
namespace Vm
open PySem PySem.W PyProof.Rows PySem.Calls PySem.SeqAt
section
variable {prog : Program} {w : World} {A : Around} {E : Value → Shared → Prop} {s : Shared} {C : Addr} {R : Result → Shared → Prop} {h : Heap} {g : Array GenState} {d : Drawn} {t : Nat} {os : OsState}
theorem codeG_call_builtin_at {id : String} {args : Args} {b : Builtin} (hq : (Code.builtin id args).quiet = true) (hbad : badIds.contains id = false) (hb : entryFor table id = some b)
    (h : wpG (model prog w) A.in1 (checkBuiltinCall id args) (fun _ s₁ => wpG (model prog w) (A.under (.builtin id args)) (b args)
      (fun fin s' => match fin with | .done f => R (.ok f) s' | .again c' => c'.quiet = true ∧ codeG (model prog w) A c' R s') (fun e s' => R (.error e) s') s₁)
      (fun e s' => R (.error e) s') s) : codeG (model prog w) A (.call (.builtin id) args) R s := by
  refine codeG_of_tree rfl ?_
  show wpG _ A.in1 (do checkBuiltinCall id args; again (.builtin id args)) _ _ s
  refine wpG_then h fun _ s₁ h₁ => wpG_pure (And.intro hq (codeG_of_tree hbad ?_))
  show wpG _ _ (match entryFor table id with | some b => b args | none => unsupported ((withoutEnding? id "#data").getD id)) _ _ s₁
  rw [hb]; exact h₁
theorem codeG_builtin {id : String} {args : Args} {b : Builtin} (hbad : badIds.contains id = false) (hb : entryFor table id = some b)
    (h : wpG (model prog w) (A.under (.builtin id args)) (b args)
      (fun fin s' => match fin with | .done f => R (.ok f) s' | .again c' => c'.quiet = true ∧ codeG (model prog w) A c' R s') (fun e s' => R (.error e) s') s) : codeG (model prog w) A (.builtin id args) R s := by
  refine codeG_of_tree hbad ?_
  show wpG _ _ (match entryFor table id with | some b => b args | none => unsupported ((withoutEnding? id "#data").getD id)) _ _ s
  rw [hb]; exact h
theorem wpG_look {α β : Type} {M : Model} {m : Sem α} {f : α → Sem β} {a : α} {Q : β → Shared → Prop} (x : Looks M s.heap m a) (k : wpG M A (f a) Q E s) : wpG M A (m >>= f) Q E s := wpG_bind (wpG_of (x.here k))
theorem makeG_core {rest : List Value} {kw : List (Str × Value)} {init : Value} (Y : Makes (model prog w) h C) (hi : Looks (model prog w) h (typeLookup (.ref C) "__init__") (some init))
    (hb : ∀ self, Looks (model prog w) h (bindSpecial init self) (init, [self])) (hne : (some init != some (Value.builtin "object.__init__")) = true ∨ (rest = [] ∧ kw = []))
    (hq : codeG (model prog w) (A.under (.builtin "type.__call__" ⟨.ref C :: rest, kw⟩)) (.call init ⟨.ref (h.objs.size + 1) :: rest, kw⟩) (InitBack (h.objs.size + 1) R) ⟨(h.push emptyDict).push (instObj C h.objs.size), g, d, t, os⟩) :
    codeG (model prog w) A (.call (.ref C) ⟨rest, kw⟩) R ⟨h, g, d, t, os⟩ := by
  have Y' := Y
  obtain ⟨⟨oc, od, cd, sl, hC, e1, e2, e4⟩, made, base, self, top, call, typ⟩ := Y
  refine codeG_of_tree rfl (wpG_of ?_)
  show wpAny _ _ (callAny (.ref C) _) _ _ _
  refine nd_load hC ?_
  show wpAny _ _ (callAny.viaDunder (.ref C) _) _ _ _
  unfold callAny.viaDunder
  refine wpAny_bind (call.at ?_)
  dsimp only
  rw [tc_bind]
  refine wpAny_bind (wpAny_pure (wpAny_bind (wpAny_pure ?_)))
  refine wpAny_pure (a := Fin.again (.call (.builtin "type.__call__") ⟨.ref C :: rest, kw⟩)) (And.intro rfl ?_)
  refine codeG_call_builtin_at (Code.quiet_builtin _ (by decide +kernel)) (by decide +kernel) entry_typeCall (wpG_of (check_slot tc_kind tc_split typ (tc_args _ _ _) ?_))
  have hm : Looks (model prog w) h (mroOf (.ref C)) cd.mro := ((Looks.ld (part := none) hC).andThen .now).andThen .now
  unfold Builtin.«type.__call__»
  dsimp only
  rw [if_neg (show ¬ ((Value.ref C == Value.type "type") = true) from Bool.false_ne_true)]
  refine wpG_look hm ?_
  rw [if_neg (by rw [e4]; exact Bool.false_ne_true)]
  refine wpG_look made ?_
  dsimp only
  refine wpG_bind (wpG_pure ?_)
  refine wpG_bind (wpG_holding (wpG_of (wpAny_call (new_K Y' hi hne ?_))))
  have k : ∀ b o, h.get? b = some o → ((h.push emptyDict).push (instObj C h.objs.size)).get? b = some o := fun b o e => Heap.get?_push_of_some _ (Heap.get?_push_of_some _ e)
  have hx : ((h.push emptyDict).push (instObj C h.objs.size)).get? (h.objs.size + 1) = some (instObj C h.objs.size) := by
    have := Heap.get?_push_size (h.push emptyDict) (o := instObj C h.objs.size) rfl
    rw [Heap.size_push] at this
    exact this
  have t1 : Looks (model prog w) ((h.push emptyDict).push (instObj C h.objs.size)) (typeOf (.ref (h.objs.size + 1))) (.ref C) := (Looks.ld hx).andThen .now
  have s1 := self.keeps k
  have i1 := hi.keeps k
  have b1 := (hb (.ref (h.objs.size + 1))).keeps k
  refine wpG_look (a := true) (t1.andThen s1) ?_
  rw [if_neg (by decide)]
  have sp : Looks (model prog w) ((h.push emptyDict).push (instObj C h.objs.size)) (specialOf (.ref (h.objs.size + 1)) (Str.ofString "__init__")) (some init) := t1.andThen i1
  unfold callSpecial?
  refine wpG_bind (wpG_holding ?_)
  refine wpG_look sp ?_
  dsimp only
  refine wpG_holding (wpG_look b1 ?_)
  dsimp only
  refine wpG_bind (wpG_call (codeG_mono hq fun r s' z => ?_))
  rcases r with e | (v | _ | _ | _) <;> first | exact z | exact z.elim | skip
  obtain ⟨rfl, z⟩ := z
  exact wpG_pure (wpG_pure z)
end
end Vm
end
section
namespace Vm
open PySem PySem.W PyProof.Rows PySem.Calls PySem.SeqAt
structure Extra (prog : Program) (w : World) : Prop extends BarrEq prog w, BarrCut prog w where
  barrLen : ∀ {A : Around} {E : Value → Shared → Prop} {s : Shared} {a : Addr} {b : Array UInt8} {Q : Value → Shared → Prop}, s.heap.get? a = some { cls := .type "bytearray", data := .bytearray b } → b.size ≤ 1000000 →
    (∀ t tk, Q (.int b.size t) { s with toks := tk }) → wpAny (model prog w) A (call (.builtin "len") [.ref a]) Q E s
  barrNew : ∀ {A : Around} {E : Value → Shared → Prop} {s : Shared} {Q : Value → Shared → Prop},
    (∀ h', (∀ c o, s.heap.get? c = some o → h'.get? c = some o) → h'.get? s.heap.objs.size = some { cls := .type "bytearray", data := .bytearray #[] } → Q (.ref s.heap.objs.size) { s with heap := h' }) → wpG (model prog w) A (call (.type "bytearray") []) Q E s
  barrAppend : ∀ {A : Around} {E : Value → Shared → Prop} {s : Shared} {a : Addr} {b : Array UInt8} {n : Int} {t : Tok} {Q : Value → Shared → Prop}, s.heap.get? a = some { cls := .type "bytearray", data := .bytearray b } → b.size ≤ 1000000 → 0 ≤ n → n < 256 →
    (∀ h' tk, (∀ c, c ≠ a → h'.get? c = s.heap.get? c) → h'.get? a = some { cls := .type "bytearray", data := .bytearray (b.push n.toNat.toUInt8) } → Q .none { s with heap := h', toks := tk }) →
    wpG (model prog w) A (call (.builtin "bytearray.append") [.ref a, .int n t]) Q E s
  barrBytes : ∀ {A : Around} {E : Value → Shared → Prop} {s : Shared} {a : Addr} {b : Array UInt8} {Q : Value → Shared → Prop}, A.handled = none → s.heap.get? a = some { cls := .type "bytearray", data := .bytearray b } → b.size ≤ 1000000 →
    (∀ h' t tk, (∀ c o, s.heap.get? c = some o → h'.get? c = some o) → Q (.bytes b t) { s with heap := h', toks := tk }) → wpAny (model prog w) A (call (.type "bytes") [.ref a]) Q E s
  barrDel : ∀ {A : Around} {E : Value → Shared → Prop} {s : Shared} {a S : Addr} {b : Array UInt8} {n : Int} {t : Tok} {Q : Unit → Shared → Prop}, s.heap.get? a = some { cls := .type "bytearray", data := .bytearray b } →
    s.heap.IsSliceOf S (.int n t) .none .none → 0 ≤ n → n ≤ b.size → b.size ≤ 1000000 →
    (∀ h' tk, (∀ c, c ≠ a → h'.get? c = s.heap.get? c) → h'.get? a = some { cls := .type "bytearray", data := .bytearray (b.extract 0 n.toNat) } → Q () { s with heap := h', toks := tk }) →
    wpG (model prog w) A (delItem (.ref a) (.ref S)) Q E s
  split : ∀ {A : Around} {E : Value → Shared → Prop} {s : Shared} {b c : Array UInt8} {x : Int} {t u : Tok} {Q : Value → Shared → Prop}, KBw.bInts c = [x] → b.size ≤ 1000000 →
    (∀ (vs : List Value) h' tk, Fa (RV []) ((splitB x (KBw.bInts b)).map AV.bytes) vs → (∀ d o, s.heap.get? d = some o → h'.get? d = some o) → h'.get? s.heap.objs.size = some { cls := .type "list", data := .seq vs.toArray } → Q (.ref s.heap.objs.size) { s with heap := h', toks := tk }) →
    wpAny (model prog w) A (call (.builtin "bytes.split") [.bytes b t, .bytes c u]) Q E s
  join : ∀ {A : Around} {E : Value → Shared → Prop} {s : Shared} {b : Array UInt8} {a : Addr} {p q r : List Int} {vs : List Value} {t : Tok} {Q : Value → Shared → Prop}, s.heap.IsList a vs.toArray → Fa (RV []) ([p, q, r].map AV.bytes) vs → A.handled = none →
    (joinB (KBw.bInts b) [p, q, r]).length ≤ 1000000 → (∀ c h' t' tk, KBw.bInts c = joinB (KBw.bInts b) [p, q, r] → (∀ d o, s.heap.get? d = some o → h'.get? d = some o) → Q (.bytes c t') { s with heap := h', toks := tk }) →
    wpAny (model prog w) A (call (.builtin "bytes.join") [.bytes b t, .ref a]) Q E s
  find : ∀ {A : Around} {E : Value → Shared → Prop} {s : Shared} {b c : Array UInt8} {n : Int} {t u v : Tok} {Q : Value → Shared → Prop}, 0 ≤ n → n ≤ b.size → b.size ≤ 1000000 →
    (∀ t' tk, Q (.int (findFrom (KBw.bInts c) n.toNat ((KBw.bInts b).drop n.toNat)) t') { s with toks := tk }) →
    wpAny (model prog w) A (call (.builtin "bytes.find") [.bytes b t, .bytes c u, .int n v]) Q E s
section
variable {prog : Program} {w : World} {tb : Tb} {K : Frag} {A : Around} {E : Value → Shared → Prop} {s : Shared} {h₀ : Heap} {φ : List Addr} {O : Ost} {X : List (Addr × Obj)} {L : Addr} {m : Str → Option Value} {Q : Value → Shared → Prop} {kT : AV → Ost → Tr} {D : Rs → Prop}
theorem fa_bytes_nil {bs : List (List Int)} : ∀ {vs : List Value}, Fa (RV φ) (bs.map AV.bytes) vs → Fa (RV []) (bs.map AV.bytes) vs := by
  induction bs with
  | nil => intro vs h; cases h; exact .nil
  | cons b bs ih => intro vs h; cases h with | cons r f => cases r with | bytes t e => exact .cons (.bytes t e) (ih f)
theorem bytesAll_map : ∀ {xs : List AV} {bs : List (List Int)}, bytesAll xs = some bs → xs = bs.map AV.bytes := by
  intro xs
  induction xs with
  | nil => intro bs h; cases h; rfl
  | cons x r ih =>
    intro bs h
    cases x with
    | bytes b => obtain ⟨c, hc, rfl⟩ := Option.map_eq_some_iff.mp (show (bytesAll r).map (b :: ·) = some bs from h); rw [ih hc]; rfl
    | _ => nomatch h
theorem strsAll_map : ∀ {xs : List AV} {bs : List Str}, strsAll xs = some bs → xs = bs.map AV.str := by
  intro xs
  induction xs with
  | nil => intro bs h; cases h; rfl
  | cons x r ih =>
    intro bs h
    cases x with
    | str b => obtain ⟨c, hc, rfl⟩ := Option.map_eq_some_iff.mp (show (strsAll r).map (b :: ·) = some bs from h); rw [ih hc]; rfl
    | _ => nomatch h
theorem intsAll_map : ∀ {xs : List AV} {bs : List Int}, intsAll xs = some bs → xs = bs.map AV.int := by
  intro xs
  induction xs with
  | nil => intro bs h; cases h; rfl
  | cons x r ih =>
    intro bs h
    cases x with
    | int b => obtain ⟨c, hc, rfl⟩ := Option.map_eq_some_iff.mp (show (intsAll r).map (b :: ·) = some bs from h); rw [ih hc]; rfl
    | _ => nomatch h
theorem intsAre_of {ns : List Int} : ∀ {vs : List Value}, Fa (RV φ) (ns.map AV.int) vs → IntsAre vs ns := by
  induction ns with
  | nil => intro vs h; cases h.nil_inv; exact .nil
  | cons n ns ih => intro vs h; obtain ⟨u, vs, rfl, r, f⟩ := h.cons_inv; obtain ⟨t, rfl⟩ := r.int_inv; exact .cons n t (ih f)
theorem strsAre_of {ns : List Str} : ∀ {vs : List Value}, Fa (RV φ) (ns.map AV.str) vs → StrsAre vs ns := by
  induction ns with
  | nil => intro vs h; cases h.nil_inv; exact .nil
  | cons n ns ih => intro vs h; obtain ⟨u, vs, rfl, r, f⟩ := h.cons_inv; obtain ⟨t, rfl⟩ := r.str_inv; exact .cons n t (ih f)
theorem three_of {α : Type} {l : List α} {k : α → α → α → Tr} (h : (three l k).holds D) : ∃ x y z, l = [x, y, z] ∧ (k x y z).holds D := by
  cases l with
  | nil => exact h.elim
  | cons x l => cases l with
    | nil => exact h.elim
    | cons y l => cases l with
      | nil => exact h.elim
      | cons z l => cases l with
        | nil => exact ⟨x, y, z, rfl, h⟩
        | cons _ _ => exact h.elim
theorem lenV_sound (X' : Extra prog w) {a : AV} {u : Value} {k : Nat → Tr} (h : (lenV a O k).holds D) (R : Rel w.params h₀ φ O X L m s.heap) (ra : RV φ a u) (H : ∀ n : Nat, (k n).holds D → ∀ t tk, Q (.int (n : Int) t) { s with toks := tk }) :
    wpAny (model prog w) A (call (.builtin "len") [u]) Q E s := by
  cases a with
  | bytes b =>
    obtain ⟨hz, h⟩ := h
    obtain ⟨c, t, rfl, e⟩ := ra.bytes_inv
    rw [← bytes_of e] at hz h
    exact len_bytes (by omega) (H _ h _ _)
  | obj i =>
    obtain ⟨ob, e, h⟩ := h
    cases ob with
    | list xs =>
      obtain ⟨a, vs, rfl, _, l, f⟩ := R.isList e ra
      obtain ⟨hz, h⟩ := h
      rw [f.length] at hz h
      exact len_list l (by rw [List.size_toArray]; omega) (H _ h _ _)
    | barr b =>
      obtain ⟨a, c, rfl, _, hc, ec⟩ := R.isBarr e ra
      obtain ⟨hz, h⟩ := h
      rw [← bytes_of ec] at hz h
      exact X'.barrLen hc hz fun t tk => H _ h _ _
    | _ => exact h.elim
  | _ => exact h.elim
theorem fa_one {a : AV} {vs : List Value} (h : Fa (RV φ) [a] vs) : ∃ u, vs = [u] ∧ RV φ a u := by
  cases h with | cons r f => cases f; exact ⟨_, rfl, r⟩
theorem fa_two {a b : AV} {vs : List Value} (h : Fa (RV φ) [a, b] vs) : ∃ u v, vs = [u, v] ∧ RV φ a u ∧ RV φ b v := by
  cases h with | cons r f => obtain ⟨v, rfl, r'⟩ := fa_one f; exact ⟨_, v, rfl, r, r'⟩
theorem biV_sound (X' : Extra prog w) (hh : A.handled = none) {id : Bi} {vs : List AV} {us : List Value} (h : (biV id vs O kT).holds D) (R : Rel w.params h₀ φ O X L m s.heap) (f : Fa (RV φ) vs us) (H : PostT w.params h₀ φ X L m D kT Q s) :
    wpAny (model prog w) A (call (.builtin id.s) us) Q E s := by
  cases id with
  | len =>
    obtain ⟨v, rfl, h⟩ := oneV_of (vs := vs) h
    obtain ⟨u, rfl, r⟩ := fa_one f
    exact lenV_sound X' h R r fun n hn t tk => H.same R hn (.int _ _) _
  | abs =>
    obtain ⟨v, rfl, h⟩ := oneV_of (vs := vs) h
    obtain ⟨u, rfl, r⟩ := fa_one f
    obtain ⟨x, rfl, h⟩ := intV_of h
    obtain ⟨t, rfl⟩ := r.int_inv
    refine call_abs_int fun u tk => ?_
    have e : (if x < 0 then -x else x) = (x.natAbs : Int) := by split <;> omega
    rw [e]
    exact H.same R h (.int _ _) _
  | max =>
    obtain ⟨v, v', rfl, h⟩ := twoV_of (vs := vs) h
    obtain ⟨u, u', rfl, r, r'⟩ := fa_two f
    obtain ⟨x, rfl, h⟩ := intV_of (v := v) h
    obtain ⟨y, rfl, h⟩ := intV_of (v := v') h
    obtain ⟨t, rfl⟩ := r.int_inv
    obtain ⟨t', rfl⟩ := r'.int_inv
    obtain ⟨news, N, back, _⟩ := R.news
    refine max_two_N hh R.F N fun h' tk F' N' => ?_
    have e : (if y > x then y else x) = max x y := by split <;> omega
    rw [e]
    exact H h (back h' F' N') (List.prefix_refl _) (.int _ _)
  | ord =>
    obtain ⟨v, rfl, h⟩ := oneV_of (vs := vs) h
    obtain ⟨u, rfl, r⟩ := fa_one f
    obtain ⟨⟨⟨l⟩⟩, rfl, h⟩ := strV_of h
    obtain ⟨c, hc, h⟩ := single_of h
    obtain ⟨t, rfl⟩ := r.str_inv
    cases (show l = [c] from hc)
    exact P.ord_of_char (H.same R h (.int _ _) _)
  | sum =>
    obtain ⟨v, rfl, h⟩ := oneV_of (vs := vs) h
    obtain ⟨u, rfl, r⟩ := fa_one f
    obtain ⟨i, xs, rfl, e, h⟩ := listV_of h
    obtain ⟨ns, hns, hk⟩ := h
    cases intsAll_map hns
    obtain ⟨news, N, back, _⟩ := R.news
    obtain ⟨a, vs, rfl, _, l, f'⟩ := R.isList e r
    exact LSm.sum_ints R.F N hh l (intsAre_of f') fun h' tk t' F' N' => H hk (back h' F' N') (List.prefix_refl _) (.int _ _)
theorem log2_small {x : Int} (h : smallI x) : x.natAbs.log2 < 1920 := by
  unfold smallI at h
  rcases Nat.eq_zero_or_pos x.natAbs with q | q
  · rw [q]; decide
  · exact Nat.lt_trans ((Nat.log2_lt (by omega)).mpr (show x.natAbs < 2 ^ 30 by omega)) (by decide)
theorem tyV_sound (X' : Extra prog w) (hh : A.handled = none) {ty : Ty} {vs : List AV} {us : List Value} (h : (tyV ty vs O kT).holds D) (R : Rel w.params h₀ φ O X L m s.heap) (f : Fa (RV φ) vs us) (H : PostT w.params h₀ φ X L m D kT Q s) :
    wpG (model prog w) A (call (.type ty.s) us) Q E s := by
  cases ty with
  | int =>
    obtain ⟨v, rfl, h⟩ := oneV_of (vs := vs) h
    obtain ⟨u, rfl, r⟩ := fa_one f
    cases v with
    | int n => obtain ⟨t, rfl⟩ := r.int_inv; exact wpG_of (call_int_int (H.here R h (.int _ _)))
    | bool b =>
      cases r.bool_inv
      refine wpG_of (call_int_bool (H.same R h ?_ _))
      cases b <;> exact .int _ _
    | _ => exact h.elim
  | str =>
    obtain ⟨v, rfl, h⟩ := oneV_of (vs := vs) h
    obtain ⟨u, rfl, r⟩ := fa_one f
    obtain ⟨x, rfl, h⟩ := intV_of h
    obtain ⟨t, rfl⟩ := r.int_inv
    exact wpG_of (P.str_of_int (log2_small h.1.2) (H.same R h.2 (.str _ _) _))
  | bytearray =>
    cases vs with
    | nil =>
      cases f.nil_inv
      exact X'.barrNew fun h' kp hl => H h (R.alloc kp (Nat.le_refl _) hl (.barr rfl)) (List.prefix_append _ _) (.obj (get_snoc R _))
    | cons _ _ => exact h.elim
  | bytes =>
    obtain ⟨v, rfl, h⟩ := oneV_of (vs := vs) h
    obtain ⟨u, rfl, r⟩ := fa_one f
    obtain ⟨i, ob, rfl, e, h⟩ := objV_of h
    cases ob with
    | list xs =>
      obtain ⟨ns, hns, ⟨hz, hr⟩, hk⟩ := h
      cases intsAll_map hns
      obtain ⟨news, N, back, _⟩ := R.news
      obtain ⟨a, vs, rfl, _, l, f'⟩ := R.isList e r
      exact wpG_of (KBa.make_K R.F N hh l (intsAre_of f') hr (by omega) fun h' t' tk F' N' hi => H hk (back h' F' N') (List.prefix_refl _) (.bytes _ (KBa.ints_make hi)))
    | barr b =>
      obtain ⟨a, c, rfl, _, hc, ec⟩ := R.isBarr e r
      obtain ⟨hz, h⟩ := h
      exact wpG_of (X'.barrBytes hh hc (by rw [bytes_of ec]; exact hz) fun h' t tk kp => H.grown R kp h (.bytes _ ec))
    | _ => exact h.elim
noncomputable def Mt.id : Mt → Value
  | .fn f => .ref f
  | .listAppend => .builtin "list.append"
  | .barrAppend => .builtin "bytearray.append"
  | .dictGet => .builtin "dict.get"
  | .split => .builtin "bytes.split"
  | .bjoin => .builtin "bytes.join"
  | .bfind => .builtin "bytes.find"
  | .sjoin => .builtin "str.join"
theorem ints_push (c : Array UInt8) {n : Int} (h0 : 0 ≤ n) (h1 : n < 256) : KBw.bInts (c.push n.toNat.toUInt8) = KBw.bInts c ++ [n] := by
  unfold KBw.bInts
  rw [Array.toList_push, List.map_append, List.map_cons, List.map_nil, byte_back h0 h1]
theorem primM_sound (X' : Extra prog w) (nl : h₀.NoLimit) (hh : A.handled = none) {mt : Mt} {ov : AV} {o : Value} {vs : List AV} {us : List Value} (h : (primM mt ov vs O kT).holds D) (R : Rel w.params h₀ φ O X L m s.heap) (ro : RV φ ov o) (f : Fa (RV φ) vs us) (H : PostT w.params h₀ φ X L m D kT Q s) :
    wpG (model prog w) A (call mt.id (o :: us)) Q E s := by
  cases mt with
  | fn _ => exact h.elim
  | listAppend =>
    obtain ⟨v, rfl, h⟩ := oneV_of (vs := vs) h
    obtain ⟨u, rfl, r⟩ := fa_one f
    obtain ⟨i, xs, rfl, e, hz, h⟩ := listV_of h
    obtain ⟨a, ws, rfl, hi, l, f'⟩ := R.isPlain e ro
    refine wpG_of (wpAny_list_append_plain l (fun h' l' hs => ?_) (by rw [List.size_toArray, ← f'.length, sizeLine_eq]; omega))
    obtain ⟨n, hc⟩ := l'
    rw [show ws.toArray.push u = (ws ++ [u]).toArray from List.push_toArray ..] at hc
    exact H h (R.upd hi hs.2 hc (.list (f'.append (.cons r .nil)))) (List.prefix_refl _) .none
  | barrAppend =>
    obtain ⟨v, rfl, h⟩ := oneV_of (vs := vs) h
    obtain ⟨u, rfl, r⟩ := fa_one f
    obtain ⟨n, rfl, h⟩ := intV_of h
    obtain ⟨i, b, rfl, e, ⟨h0, h1, hz⟩, h⟩ := barrV_of h
    obtain ⟨t, rfl⟩ := r.int_inv
    obtain ⟨a, c, rfl, hi, hc, ec⟩ := R.isBarr e ro
    exact X'.barrAppend hc (by rw [bytes_of ec]; exact hz) h0 h1 fun h' tk hs hc' => H h (R.upd hi hs hc' (.barr (by rw [ints_push c h0 h1, ec]))) (List.prefix_refl _) .none
  | dictGet =>
    obtain ⟨v, d, rfl, h⟩ := twoV_of (vs := vs) h
    obtain ⟨u, u', rfl, r, r'⟩ := fa_two f
    obtain ⟨y, rfl, h⟩ := strV_of h
    obtain ⟨i, es, rfl, e, h⟩ := dictV_of h
    obtain ⟨t, rfl⟩ := r.str_inv
    obtain ⟨a, kvs, rfl, hi, D, f', _⟩ := R.isDict (prog := prog) e ro
    refine wpG_of (call_meetsIn F.slot_dict_get D.mapOf.typeIs F.entry_dict_get (F.args_dict_get_3 _ _ _) (meets_dict_get_default (strKind prog w) a (strKind_is prog w y t) (R.notModules nl hi) u') ⟨_, D.mapOf, ?_⟩)
    unfold dgetD at h
    cases hl : es.lookup y with
    | none =>
      rw [(valueAt_fa y f').2 hl]
      rw [hl] at h
      exact H.same R h r' _
    | some z =>
      obtain ⟨q, hq, rq⟩ := (valueAt_fa y f').1 z hl
      rw [hq]
      rw [hl] at h
      exact H.same R h rq _
  | split =>
    obtain ⟨v, rfl, h⟩ := oneV_of (vs := vs) h
    obtain ⟨u, rfl, r⟩ := fa_one f
    obtain ⟨cs, rfl, h⟩ := bytesV_of h
    obtain ⟨x, rfl, h⟩ := single_of h
    obtain ⟨b, rfl, hz, h⟩ := bytesV_of h
    obtain ⟨c, t, rfl, e⟩ := ro.bytes_inv
    obtain ⟨c', t', rfl, e'⟩ := r.bytes_inv
    subst e
    exact wpG_of (X'.split e' (by rw [bytes_of rfl]; exact hz) fun vs h' tk fv kp hl => H h (R.alloc kp (Nat.le_refl _) hl (.list (fv.mono fun _ _ r => r.mono List.nil_prefix))) (List.prefix_append _ _) (.obj (get_snoc R _)))
  | bjoin =>
    obtain ⟨v, rfl, h⟩ := oneV_of (vs := vs) h
    obtain ⟨u, rfl, r⟩ := fa_one f
    obtain ⟨i, xs, rfl, e, h⟩ := listV_of h
    obtain ⟨bs, hbs, h⟩ := h
    obtain ⟨p, q, z, rfl, h⟩ := three_of h
    obtain ⟨b, rfl, hz, hk⟩ := bytesV_of h
    cases bytesAll_map hbs
    obtain ⟨a, ws, rfl, hi, l, f'⟩ := R.isList e r
    obtain ⟨c, t, rfl, eb⟩ := ro.bytes_inv
    exact wpG_of (X'.join l (fa_bytes_nil f') hh (by rw [eb]; exact hz) fun c h' t' tk ec kp => H.grown R kp hk (.bytes _ (by rw [ec, eb])))
  | bfind =>
    obtain ⟨v, v', rfl, h⟩ := twoV_of (vs := vs) h
    obtain ⟨u, u', rfl, r, r'⟩ := fa_two f
    obtain ⟨x, rfl, h⟩ := bytesV_of h
    obtain ⟨n, rfl, h⟩ := intV_of h
    obtain ⟨b, rfl, ⟨h0, h1, h2⟩, h⟩ := bytesV_of h
    obtain ⟨c, t, rfl, rfl⟩ := ro.bytes_inv
    obtain ⟨c', t', rfl, rfl⟩ := r.bytes_inv
    obtain ⟨t'', rfl⟩ := r'.int_inv
    exact wpG_of (X'.find h0 (by rw [bytes_of rfl]; exact h1) (by rw [bytes_of rfl]; exact h2) fun t3 tk => H.same R h (.int _ _) _)
  | sjoin =>
    obtain ⟨v, rfl, h⟩ := oneV_of (vs := vs) h
    obtain ⟨u, rfl, r⟩ := fa_one f
    obtain ⟨i, xs, rfl, e, h⟩ := listV_of h
    obtain ⟨bs, hbs, h⟩ := h
    obtain ⟨b, rfl, hz, hk⟩ := strV_of h
    cases strsAll_map hbs
    obtain ⟨a, ws, rfl, hi, l, f'⟩ := R.isList e r
    obtain ⟨t, rfl⟩ := ro.str_inv
    refine wpG_of (join_list l (strsAre_of f') hz fun t' tk => H.same R hk ?_ _)
    rw [show Txt.join b bs = Str.join b bs from StrLaws.glued_eq_join _ _]
    exact .str _ _
end
end Vm
end
section
namespace Vm
open PySem PySem.W PyProof.Rows PySem.Calls PySem.SeqAt
structure Room (A : Around) (n : Nat) : Prop where
  handled : A.handled = none
  depth : A.depth + 3 * n + 3 < recursionLimit
  units : A.units + 10 * n + 80 < cLine
theorem Room.less {A : Around} {n k : Nat} (x : Room A (n + k)) : Room A n := ⟨x.handled, by have := x.depth; omega, by have := x.units; omega⟩
theorem Room.pred {A : Around} {n : Nat} (x : Room A (n + 1)) : Room A n := x.less
theorem Room.u64 {A : Around} {n : Nat} (x : Room A n) : A.units + 64 < cLine := by have := x.units; omega
noncomputable def NsObj (o : Obj) (x : Str) (u : Value) : Prop := ∃ es ep, o.data = .dict es ep ∧ StrKeys es ∧ nsFind es x = some u
noncomputable def LocalAt (loc L : Addr) (m : Str → Option Value) (X : List (Addr × Obj)) (x : Str) (u : Value) : Prop := (loc = L ∧ m x = some u) ∨ ∃ o, (loc, o) ∈ X ∧ NsObj o x u
structure EnvOk (env : Env) (L : Addr) (m : Str → Option Value) (X : List (Addr × Obj)) (φ : List Addr) (Γ : Cx) (l : Locs) : Prop where
  kind : env.scope.kind = .function
  globals : env.globals = mainGlobals
  builtins : env.builtins = builtinsNs
  names : env.scope.names = Γ.names
  nodbg : Γ.names.lookup ("__debug__" : Str) = none
  locs : ∀ x v, l.lookup x = some v → Γ.names.lookup x = some .local → ∃ u, RV φ v u ∧ LocalAt env.locals L m X x u
  cells : ∀ x v, l.lookup x = some v → Γ.names.lookup x = some .cell → ∃ u c o, RV φ v u ∧ env.cells.lookup x = some c ∧ (c, o) ∈ X ∧ o.data = .cell (some u)
theorem EnvOk.mono {env : Env} {L : Addr} {m : Str → Option Value} {X : List (Addr × Obj)} {φ φ' : List Addr} {Γ : Cx} {l : Locs} (x : EnvOk env L m X φ Γ l) (h : φ <+: φ') : EnvOk env L m X φ' Γ l :=
  ⟨x.kind, x.globals, x.builtins, x.names, x.nodbg, fun y v a b => let ⟨u, r, q⟩ := x.locs y v a b; ⟨u, r.mono h, q⟩, fun y v a b => let ⟨u, c, o, r, q⟩ := x.cells y v a b; ⟨u, c, o, r.mono h, q⟩⟩
theorem EnvOk.notDebug {env : Env} {L : Addr} {m : Str → Option Value} {X : List (Addr × Obj)} {φ : List Addr} {Γ : Cx} {l : Locs} (x : EnvOk env L m X φ Γ l) {y : Str} {k : NameKind} (h : Γ.names.lookup y = some k) : (y == ("__debug__" : Str)) = false := by
  refine beq_eq_false_iff_ne.mpr fun e => ?_
  rw [e, x.nodbg] at h
  cases h
noncomputable def PostB (P : Params) (h₀ : Heap) (φ : List Addr) (X : List (Addr × Obj)) (L : Addr) (m : Str → Option Value) (k : Bool → Ost → Prop) (Q : Bool → Shared → Prop) (s : Shared) : Prop :=
  ∀ ⦃c : Bool⦄ ⦃O' : Ost⦄ ⦃φ' : List Addr⦄ ⦃h' : Heap⦄ ⦃tk : Tok⦄, k c O' → Rel P h₀ φ' O' X L m h' → φ <+: φ' → Q c { s with heap := h', toks := tk }
inductive RF (φ : List Addr) : AF → Flow → Prop
  | next : RF φ .next .next
  | brk : RF φ .brk .brk
  | cont : RF φ .cont .cont
  | ret {v : AV} {u : Value} : RV φ v u → RF φ (.ret v) (.ret u)
noncomputable def PostS (P : Params) (h₀ : Heap) (φ : List Addr) (X : List (Addr × Obj)) (L : Addr) (env : Env) (Γ : Cx) (k : AF → Locs → Ost → Prop) (Q : Flow → Shared → Prop) (s : Shared) : Prop :=
  ∀ ⦃f : AF⦄ ⦃g : Flow⦄ ⦃l' : Locs⦄ ⦃O' : Ost⦄ ⦃φ' : List Addr⦄ ⦃m' : Str → Option Value⦄ ⦃h' : Heap⦄ ⦃tk : Tok⦄, k f l' O' → Rel P h₀ φ' O' X L m' h' → φ <+: φ' → EnvOk env L m' X φ' Γ l' → RF φ' f g → Q g { s with heap := h', toks := tk }
noncomputable abbrev PostBT (P : Params) (h₀ : Heap) (φ : List Addr) (X : List (Addr × Obj)) (L : Addr) (m : Str → Option Value) (D : Rs → Prop) (k : Bool → Ost → Tr) (Q : Bool → Shared → Prop) (s : Shared) : Prop := PostB P h₀ φ X L m (fun v O => (k v O).holds D) Q s
noncomputable abbrev PostST (P : Params) (h₀ : Heap) (φ : List Addr) (X : List (Addr × Obj)) (L : Addr) (env : Env) (Γ : Cx) (D : Rs → Prop) (k : AF → Locs → Ost → Tr) (Q : Flow → Shared → Prop) (s : Shared) : Prop := PostS P h₀ φ X L env Γ (fun f l O => (k f l O).holds D) Q s
noncomputable def callEnd (Q : Value → Shared → Prop) (E : Value → Shared → Prop) (r : Result) (s : Shared) : Prop := match r with | .ok (.ret v) => Q v s | .ok _ => False | .error e => E e s
noncomputable def loopEnd (Q : Flow → Shared → Prop) (E : Value → Shared → Prop) (r : Result) (s : Shared) : Prop := match r with | .ok f => Q f s | .error e => E e s
structure Sound (prog : Program) (w : World) (h₀ : Heap) (r : Rec) (n : Nat) : Prop where
  E : ∀ {A : Around} {E : Value → Shared → Prop} {s : Shared} {Q : Value → Shared → Prop} {env : Env} {L : Addr} {m : Str → Option Value} {X : List (Addr × Obj)} {φ : List Addr} {O : Ost} {Γ : Cx} {l : Locs} {e : Expr} {k : AV → Ost → Tr} {D : Rs → Prop},
    (r.E Γ l e O k).holds D → Room A n → EnvOk env L m X φ Γ l → Rel w.params h₀ φ O X L m s.heap → PostT w.params h₀ φ X L m D k Q s → wpG (model prog w) A (eval e env) Q E s
  T : ∀ {A : Around} {E : Value → Shared → Prop} {s : Shared} {Q : Bool → Shared → Prop} {env : Env} {L : Addr} {m : Str → Option Value} {X : List (Addr × Obj)} {φ : List Addr} {O : Ost} {Γ : Cx} {l : Locs} {e : Expr} {k : Bool → Ost → Tr} {D : Rs → Prop},
    (r.T Γ l e O k).holds D → Room A n → EnvOk env L m X φ Γ l → Rel w.params h₀ φ O X L m s.heap → PostBT w.params h₀ φ X L m D k Q s → wpG (model prog w) A (isTrue e env (eval e env)) Q E s
  S : ∀ {A : Around} {E : Value → Shared → Prop} {s : Shared} {Q : Flow → Shared → Prop} {env : Env} {L : Addr} {m : Str → Option Value} {X : List (Addr × Obj)} {φ : List Addr} {O : Ost} {Γ : Cx} {l : Locs} {st : Stmt} {k : AF → Locs → Ost → Tr} {D : Rs → Prop},
    (r.S Γ l st O k).holds D → Room A n → env.locals = L → EnvOk env L m X φ Γ l → Rel w.params h₀ φ O X L m s.heap → PostST w.params h₀ φ X L env Γ D k Q s → wpG (model prog w) A (exec st env) Q E s
  C : ∀ {A : Around} {E : Value → Shared → Prop} {s : Shared} {Q : Value → Shared → Prop} {L : Addr} {m : Str → Option Value} {X : List (Addr × Obj)} {φ : List Addr} {O O' : Ost} {a : Addr} {vs : List AV} {us : List Value} {v : AV},
    r.C a vs O v O' → Room A n → Rel w.params h₀ φ O X L m s.heap → Fa (RV φ) vs us → Post w.params h₀ φ X L m (fun v1 O1 => v1 = v ∧ O1 = O') Q s →
    codeG (model prog w) A (.call (.ref a) ⟨us, []⟩) (callEnd Q E) s
  W : ∀ {A : Around} {E : Value → Shared → Prop} {s : Shared} {Q : Flow → Shared → Prop} {env : Env} {L : Addr} {m : Str → Option Value} {X : List (Addr × Obj)} {φ : List Addr} {O O' : Ost} {Γ : Cx} {l l' : Locs} {t : Expr} {b : List Stmt} {f : AF},
    r.W Γ t b l O f l' O' → Room A n → env.locals = L → EnvOk env L m X φ Γ l → Rel w.params h₀ φ O X L m s.heap → PostS w.params h₀ φ X L env Γ (fun f1 l1 O1 => f1 = f ∧ l1 = l' ∧ O1 = O') Q s →
    codeG (model prog w) A (.whileLoop t b [] env) (loopEnd Q E) s
section
variable {prog : Program} {w : World} {tb : Tb} {K : Frag} {r : Rec} {n : Nat} {A : Around} {E : Value → Shared → Prop} {s : Shared} {h₀ : Heap} {φ : List Addr} {O : Ost} {X : List (Addr × Obj)} {L : Addr} {m : Str → Option Value} {env : Env} {Γ : Cx} {l : Locs} {D : Rs → Prop}
theorem br_elim {b : Bool} {x y : Tr} (h : (br b x y).holds D) : (b = true ∧ x.holds D) ∨ (b = false ∧ y.holds D) := by
  cases b with
  | true => exact .inl ⟨rfl, h⟩
  | false => exact .inr ⟨rfl, h⟩
theorem nameV_of {x : Str} {k : AV → Tr} (h : (nameV tb Γ l x k).holds D) : ∃ v, (k v).holds D ∧ (Γ.names.lookup x = some .local ∧ l.lookup x = some v ∨ Γ.names.lookup x = some .cell ∧ l.lookup x = some v ∨ Γ.names.lookup x = some .globalImplicit ∧ tb.glob x = some v) := by
  unfold nameV at h
  cases hl : Γ.names.lookup x with
  | none => rw [hl] at h; exact h.elim
  | some kd =>
    rw [hl] at h
    cases kd with
    | «local» => obtain ⟨v, hv, h⟩ := optT_of (o := l.lookup x) h; exact ⟨v, h, .inl ⟨rfl, hv⟩⟩
    | cell => obtain ⟨v, hv, h⟩ := optT_of (o := l.lookup x) h; exact ⟨v, h, .inr (.inl ⟨rfl, hv⟩)⟩
    | globalImplicit => obtain ⟨v, hv, h⟩ := optT_of (o := tb.glob x) h; exact ⟨v, h, .inr (.inr ⟨rfl, hv⟩)⟩
    | _ => exact h.elim
theorem nameV_sound (B : Base prog w h₀ tb K) {x : Str} {pos : Pos} {k : AV → Ost → Tr} {Q : Value → Shared → Prop} (h : (nameV tb Γ l x fun v => k v O).holds D) (V : EnvOk env L m X φ Γ l) (R : Rel w.params h₀ φ O X L m s.heap) (H : PostT w.params h₀ φ X L m D k Q s) :
    wpG (model prog w) A (eval (.Name x pos) env) Q E s := by
  have hk : env.kindOf x = Γ.names.lookup x := by show env.scope.names.lookup x = _; rw [V.names]
  obtain ⟨v, h, ⟨hl, hv⟩ | ⟨hl, hv⟩ | ⟨hl, hv⟩⟩ := nameV_of h
  · obtain ⟨u, ru, q⟩ := V.locs x v hv hl
    refine wpG_of (wpAny_Name ?_ (V.notDebug hl))
    rcases q with ⟨q1, q2⟩ | ⟨o, q1, es, ep, q2, q3, q4⟩
    · exact wpAny_loadName_local V.kind (hk.trans hl) (q1 ▸ R.F.ns) q2 (H.here R h ru)
    · exact wpAny_loadName_local V.kind (hk.trans hl) (m := fun y => nsFind es y) ⟨o, es, ep, (R.raw q1).1, q2, q3, fun _ => rfl⟩ q4 (H.here R h ru)
  · obtain ⟨u, c, o, ru, hc, ho, hd⟩ := V.cells x v hv hl
    exact wpG_of (wpAny_Name (wpAny_loadName_cell V.kind (hk.trans hl) hc ⟨o, (R.raw ho).1, hd⟩ (H.here R h ru)) (V.notDebug hl))
  · obtain ⟨u, ru, hdb, hload⟩ := B.names x v hv
    exact wpG_of (wpAny_Name (hload A E s Q env R.keep V.globals V.builtins V.kind (hk.trans hl) (H.here R h (ru.mono List.nil_prefix))) hdb)
theorem constV_sound {c : Const} {kk : Nat} {pos : Pos} {k : AV → Ost → Tr} {Q : Value → Shared → Prop} (h : (constV c fun v => k v O).holds D) (R : Rel w.params h₀ φ O X L m s.heap) (H : PostT w.params h₀ φ X L m D k Q s) :
    wpG (model prog w) A (eval (.Constant c kk pos) env) Q E s := by
  cases c with
  | none => exact fun _ _ _ _ => H.here R h .none
  | bool b => exact fun _ _ _ _ => H.here R h (.bool _)
  | int i => exact wpG_of (wpAny_Constant_int (H.same R h (.int _ _) _))
  | str x => exact wpG_of (wpAny_Constant_str (H.same R h (.str _ _) _))
  | bytes b => exact wpG_of (Constant_bytes (H.same R h (.bytes _ (by simp [KBw.bInts])) _))
  | _ => exact h.elim
theorem star_one {e : Expr} {es : List Expr} (hs : isStarred e = false) : starEach (e :: es) env = (false, eval e env) :: starEach es env := by
  cases e <;> first | rfl | cases hs
theorem not_eq_true {b : Bool} (h : (!b) = true) : b = false := by cases b <;> first | rfl | cases h
noncomputable def PostL (P : Params) (h₀ : Heap) (φ : List Addr) (X : List (Addr × Obj)) (L : Addr) (m : Str → Option Value) (D : Rs → Prop) (k : List AV → Ost → Tr) (Q : List Value → Shared → Prop) (s : Shared) : Prop :=
  ∀ ⦃vs : List AV⦄ ⦃us : List Value⦄ ⦃O' : Ost⦄ ⦃φ' : List Addr⦄ ⦃h' : Heap⦄ ⦃tk : Tok⦄, (k vs O').holds D → Rel P h₀ φ' O' X L m h' → φ <+: φ' → Fa (RV φ') vs us → Q us { s with heap := h', toks := tk }
theorem evs_sound (S : Sound prog w h₀ r n) (hr : Room A n) {pos : Pos} {Q : List Value → Shared → Prop} {k : List AV → Ost → Tr} : ∀ {es : List Expr} {s : Shared} {φ : List Addr} {O : Ost}, (evs r Γ l es O k).holds D → EnvOk env L m X φ Γ l → Rel w.params h₀ φ O X L m s.heap →
    PostL w.params h₀ φ X L m D k Q s → wpG (model prog w) A (spliced (backTo pos (starEach es env))) Q E s := by
  intro es
  induction es generalizing k Q with
  | nil => intro s φ O h V R H; exact splicedG_nil (H h R (List.prefix_refl _) .nil)
  | cons e es ih =>
    intro s φ O h V R H
    obtain ⟨hs, h⟩ := ifT_of (b := !isStarred e) h
    rw [star_one (not_eq_true hs)]
    refine splicedG_cons (S.E h hr V R fun v u O1 φ1 h1 tk1 hk R1 p1 rv => ?_)
    exact ih hk (V.mono p1) R1 fun vs us O2 φ2 h2 tk2 hk2 R2 p2 f => H hk2 R2 (p1.trans p2) (.cons (rv.mono p2) f)
end
end Vm
end
section
namespace Vm
open PySem PySem.W PyProof.Rows PySem.Calls PySem.SeqAt
section
variable {prog : Program} {w : World} {tb : Tb} {K : Frag} {r : Rec} {n : Nat} {A : Around} {E : Value → Shared → Prop} {s : Shared} {h₀ : Heap} {φ : List Addr} {O : Ost} {X : List (Addr × Obj)} {L : Addr} {m : Str → Option Value} {env : Env} {Γ : Cx} {l : Locs} {D : Rs → Prop}
theorem Post.later {P : Params} {k : AV → Ost → Prop} {Q : Value → Shared → Prop} (H : Post P h₀ φ X L m k Q s) {φ1 : List Addr} (p : φ <+: φ1) {h1 : Heap} {tk : Tok} : Post P h₀ φ1 X L m k Q { s with heap := h1, toks := tk } :=
  fun _ _ _ _ _ _ hk R p2 rv => H hk R (p.trans p2) rv
theorem PostB.later {P : Params} {k : Bool → Ost → Prop} {Q : Bool → Shared → Prop} (H : PostB P h₀ φ X L m k Q s) {φ1 : List Addr} (p : φ <+: φ1) {h1 : Heap} {tk : Tok} : PostB P h₀ φ1 X L m k Q { s with heap := h1, toks := tk } :=
  fun _ _ _ _ _ hk R p2 => H hk R (p.trans p2)
theorem chainV_sound (B : Base prog w h₀ tb K) (X1 : Extra prog w) (S : Sound prog w h₀ r n) (hr : Room A n) {pos : Pos} {k : Bool → Ost → Tr} {Q : Value → Shared → Prop} {ops : List CmpOp} : ∀ {es : List Expr} {a : AV} {u : Value} {s : Shared} {φ : List Addr} {O : Ost},
    (chainV tb r Γ l ops a es O k).holds D → EnvOk env L m X φ Γ l → Rel w.params h₀ φ O X L m s.heap → RV φ a u →
    PostBT w.params h₀ φ X L m D k (fun c s' => Q (.bool c) s') s → wpG (model prog w) A (compareChain pos u ops (evalEach es env)) Q E s := by
  induction ops with
  | nil => exact fun h => h.elim
  | cons op ops ih =>
    intro es a u s φ O h V R ra H
    cases es with
    | nil => exact h.elim
    | cons e es =>
      obtain ⟨hn, h⟩ := ifT_of (b := Nat.beq ops.length es.length) h
      cases ops with
      | nil =>
        cases es with
        | cons _ _ => nomatch hn
        | nil =>
          refine chainG_last (S.E h hr V R fun v x O1 φ1 h1 tk1 hk R1 p1 rv => ?_)
          exact wpG_of (cmpV_sound B X1.toBarrEq hk R1 (ra.mono p1) rv hr.u64 fun c hc => H hc R1 p1)
      | cons op2 ops =>
        cases es with
        | nil => nomatch hn
        | cons e2 es =>
          refine chainG_link (S.E h hr V R fun v x O1 φ1 h1 tk1 hk R1 p1 rv => ?_)
          refine wpG_of (cmpV_sound B X1.toBarrEq hk R1 (ra.mono p1) rv hr.u64 fun c hc => wpG_of (wpAny_truthy_bool ?_))
          rcases br_elim hc with ⟨rfl, hc⟩ | ⟨rfl, hc⟩
          · exact ih (es := e2 :: es) hc (V.mono p1) R1 rv (H.later p1)
          · exact H hc R1 p1
theorem chainT_sound (B : Base prog w h₀ tb K) (X1 : Extra prog w) (S : Sound prog w h₀ r n) (hr : Room A n) {pos : Pos} {k : Bool → Ost → Tr} {Q : Bool → Shared → Prop} {ops : List CmpOp} : ∀ {es : List Expr} {a : AV} {u : Value} {s : Shared} {φ : List Addr} {O : Ost},
    (chainV tb r Γ l ops a es O k).holds D → EnvOk env L m X φ Γ l → Rel w.params h₀ φ O X L m s.heap → RV φ a u →
    PostBT w.params h₀ φ X L m D k Q s → wpG (model prog w) A (testChain pos u ops (evalEach es env)) Q E s := by
  induction ops with
  | nil => exact fun h => h.elim
  | cons op ops ih =>
    intro es a u s φ O h V R ra H
    cases es with
    | nil => exact h.elim
    | cons e es =>
      obtain ⟨hn, h⟩ := ifT_of (b := Nat.beq ops.length es.length) h
      cases ops with
      | nil =>
        cases es with
        | cons _ _ => nomatch hn
        | nil =>
          refine testG_last (S.E h hr V R fun v x O1 φ1 h1 tk1 hk R1 p1 rv => ?_)
          exact wpG_of (cmpV_sound B X1.toBarrEq hk R1 (ra.mono p1) rv hr.u64 fun c hc => wpG_of (wpAny_truthy_bool (H hc R1 p1)))
      | cons op2 ops =>
        cases es with
        | nil => nomatch hn
        | cons e2 es =>
          refine testG_link (S.E h hr V R fun v x O1 φ1 h1 tk1 hk R1 p1 rv => ?_)
          refine wpG_of (cmpV_sound B X1.toBarrEq hk R1 (ra.mono p1) rv hr.u64 fun c hc => wpG_of (wpAny_truthy_bool ?_))
          rcases br_elim hc with ⟨rfl, hc⟩ | ⟨rfl, hc⟩
          · exact ih (es := e2 :: es) hc (V.mono p1) R1 rv (H.later p1)
          · exact H hc R1 p1
theorem boolV_sound (S : Sound prog w h₀ r n) (hr : Room A n) {op : BoolOp} {pos : Pos} {k : AV → Ost → Tr} {Q : Value → Shared → Prop} {es : List Expr} : ∀ {s : Shared} {φ : List Addr} {O : Ost},
    (boolV r Γ l op es O k).holds D → EnvOk env L m X φ Γ l → Rel w.params h₀ φ O X L m s.heap → PostT w.params h₀ φ X L m D k Q s → wpG (model prog w) A (eval (.BoolOp op es pos) env) Q E s := by
  induction es with
  | nil => exact fun h => h.elim
  | cons e es ih =>
    intro s φ O h V R H
    cases es with
    | nil => exact (show wpG (model prog w) A (eval e env) Q E s from S.E (k := k) h hr V R H)
    | cons e2 es =>
      cases op with
      | And =>
        refine BoolOpG_and (S.E h hr V R fun v x O1 φ1 h1 tk1 hk R1 p1 rv => wpG_of (truthV_sound hk rv fun c hc => ?_))
        rcases br_elim hc with ⟨rfl, hc⟩ | ⟨rfl, hc⟩
        · exact ih hc (V.mono p1) R1 (H.later p1)
        · exact H hc R1 p1 rv
      | Or =>
        refine BoolOpG_or (S.E h hr V R fun v x O1 φ1 h1 tk1 hk R1 p1 rv => wpG_of (truthV_sound hk rv fun c hc => ?_))
        rcases br_elim hc with ⟨rfl, hc⟩ | ⟨rfl, hc⟩
        · exact H hc R1 p1 rv
        · exact ih hc (V.mono p1) R1 (H.later p1)
theorem boolT_sound (S : Sound prog w h₀ r n) (hr : Room A n) {op : BoolOp} {k : Bool → Ost → Tr} {Q : Bool → Shared → Prop} {es : List Expr} : ∀ {s : Shared} {φ : List Addr} {O : Ost},
    (boolT r Γ l op es O k).holds D → EnvOk env L m X φ Γ l → Rel w.params h₀ φ O X L m s.heap → PostBT w.params h₀ φ X L m D k Q s → wpG (model prog w) A (allTrue op es env) Q E s := by
  induction es with
  | nil => intro s φ O h V R H; cases op <;> exact wpG_pure (H h R (List.prefix_refl _))
  | cons e es ih =>
    intro s φ O h V R H
    cases op with
    | And =>
      refine wpG_allTrue_And_cons (S.T h hr V R fun c O1 φ1 h1 tk1 hk R1 p1 => ?_)
      rcases br_elim hk with ⟨rfl, hc⟩ | ⟨rfl, hc⟩
      · exact ih hc (V.mono p1) R1 (H.later p1)
      · exact H hc R1 p1
    | Or =>
      refine wpG_allTrue_Or_cons (S.T h hr V R fun c O1 φ1 h1 tk1 hk R1 p1 => ?_)
      rcases br_elim hk with ⟨rfl, hc⟩ | ⟨rfl, hc⟩
      · exact H hc R1 p1
      · exact ih hc (V.mono p1) R1 (H.later p1)
theorem plainT (S : Sound prog w h₀ r n) (hr : Room A n) {e : Expr} {k : Bool → Ost → Tr} {Q : Bool → Shared → Prop} (h : (truthE r Γ l e O k).holds D) (V : EnvOk env L m X φ Γ l) (R : Rel w.params h₀ φ O X L m s.heap) (H : PostBT w.params h₀ φ X L m D k Q s)
    (he : isTrue e env (eval e env) = (do let v ← eval e env; standAt e.pos; holding [v] (truthy v))) : wpG (model prog w) A (isTrue e env (eval e env)) Q E s :=
  isTrueG_plain (S.E h hr V R fun v x O1 φ1 h1 tk1 hk R1 p1 rv => wpG_of (truthV_sound hk rv fun c hc => H hc R1 p1)) he
theorem stepT_sound (B : Base prog w h₀ tb K) (X1 : Extra prog w) (S : Sound prog w h₀ r n) (hr : Room A n) {e : Expr} {k : Bool → Ost → Tr} {Q : Bool → Shared → Prop} (h : (stepT tb r Γ l e O k).holds D) (V : EnvOk env L m X φ Γ l) (R : Rel w.params h₀ φ O X L m s.heap) (H : PostBT w.params h₀ φ X L m D k Q s) :
    wpG (model prog w) A (isTrue e env (eval e env)) Q E s := by
  cases e with
  | UnaryOp op e p => cases op with
    | Not => exact isTrueG_not (S.T h hr V R fun c O1 φ1 h1 tk1 hk R1 p1 => H hk R1 p1)
    | _ => exact plainT S hr h V R H rfl
  | BoolOp op es p => exact wpG_isTrue_BoolOp (boolT_sound S hr h V R H)
  | Compare a ops bs p =>
    obtain ⟨hm, h⟩ := ifT_of (b := !lastMarks ops bs) h
    rw [arm_isTrue_Compare, markedEach_of_false _ _ _ (not_eq_true hm)]
    exact wpG_bind (S.E h hr V R fun v x O1 φ1 h1 tk1 hk R1 p1 rv => chainT_sound B X1 S hr hk (V.mono p1) R1 rv (H.later p1))
  | IfExp a b c p => exact h.elim
  | _ => exact plainT S hr h V R H rfl
theorem Post.alloc {P : Params} {k : AV → Ost → Prop} {Q : Value → Shared → Prop} (H : Post P h₀ φ X L m k Q s) (R : Rel P h₀ φ O X L m s.heap) {o : AO} {c : Obj} (h : k (.obj O.length) (O ++ [o])) (hf : c.isFreed = false) (ro : RO P φ o c) :
    Q (.ref s.heap.objs.size) { s with heap := s.heap.push c } :=
  H h (R.allocPush hf (ro.mono (List.prefix_append _ _))) (List.prefix_append _ _) (.obj (get_snoc R _))
theorem attr_node {o : Expr} (h : isCall o = false) (nm : Str) (pos : Pos) : eval (.Attribute o nm pos) env = (do
      let v ← eval o env
      standAt pos.atName
      let r ← holding [v] (getAttr v nm true)
      letTemporaryGo o v r
      pure r) := by
  cases o <;> first | rfl | cases h
theorem optE_sound (S : Sound prog w h₀ r n) (hr : Room A n) {e : Option Expr} {k : Option Int → Ost → Tr} {Q : Value → Shared → Prop} (h : (optE r Γ l e O k).holds D) (V : EnvOk env L m X φ Γ l) (R : Rel w.params h₀ φ O X L m s.heap)
    (H : ∀ ⦃b : Option Int⦄ ⦃u : Value⦄ ⦃O' : Ost⦄ ⦃φ' : List Addr⦄ ⦃h' : Heap⦄ ⦃tk : Tok⦄, (k b O').holds D → Rel w.params h₀ φ' O' X L m h' → φ <+: φ' → IsPart u b → Q u { s with heap := h', toks := tk }) :
    wpG (model prog w) A (evalPart e env) Q E s := by
  cases e with
  | none => exact wpG_pure (H h R (List.prefix_refl _) .none)
  | some e =>
    refine S.E (k := fun v O1 => boundV v fun b => k b O1) h hr V R fun v x O1 φ1 h1 tk1 hk R1 p1 rv => ?_
    obtain ⟨b, hb, ip⟩ := boundV_part (k := fun b => k b O1) hk rv
    exact H hb R1 p1 ip
end
end Vm
end
section
namespace Vm
open PySem PySem.W PyProof.Rows PySem.Calls PySem.SeqAt
structure Tops (prog : Program) (w : World) (h₀ : Heap) (tb : Tb) (K : Frag) : Prop extends Base prog w h₀ tb K where
  fns : ∀ a fn, tb.fns.lookup a = some fn → ∃ o fd, h₀.get? a = some o ∧ o.data = .func fd ∧ fd.scope = fn.scope ∧ fd.body = .stmts fn.body ∧ fd.closure = [] ∧ fd.globals = mainGlobals ∧ fd.builtins = builtinsNs ∧
    h₀.CodeRec fd.code fd.qualname ∧ fn.scope.kind = .function ∧ fn.scope.isCoroutine = false ∧ fn.scope.isGenerator = false ∧ keepIn K (.ref a) = true ∧
    fn.scope.names.lookup ("__debug__" : Str) = none ∧ fn.params.Nodup ∧ (∀ x ∈ fn.params, fn.scope.names.lookup x = some .local ∨ fn.scope.names.lookup x = some .cell) ∧
    (∀ us : List Value, us.length ≤ fn.params.length → fn.params.length ≤ us.length + fn.dflts.length → ∃ ds, Fa (RV []) (fn.dflts.drop (fn.dflts.length - (fn.params.length - us.length))) ds ∧
      ∀ s : Shared, (∀ b o, h₀.get? b = some o → s.heap.get? b = some o) → BindsTo s fd ⟨us, []⟩ (fn.params.zip (us ++ ds)))
section
variable {prog : Program} {w : World} {tb : Tb} {K : Frag} {r : Rec} {n : Nat} {A : Around} {E : Value → Shared → Prop} {s : Shared} {h₀ : Heap} {φ : List Addr} {O : Ost} {X : List (Addr × Obj)} {L : Addr} {m : Str → Option Value} {env : Env} {Γ : Cx} {l : Locs} {D : Rs → Prop}
theorem PostS.later {P : Params} {k : AF → Locs → Ost → Prop} {Q : Flow → Shared → Prop} (H : PostS P h₀ φ X L env Γ k Q s) {φ1 : List Addr} (p : φ <+: φ1) {h1 : Heap} {tk : Tok} : PostS P h₀ φ1 X L env Γ k Q { s with heap := h1, toks := tk } :=
  fun _ _ _ _ _ _ _ _ hk R p2 V rf => H hk R (p.trans p2) V rf
theorem exs_sound (S : Sound prog w h₀ r n) (hr : Room A n) (hL : env.locals = L) {k : AF → Locs → Ost → Tr} {Q : Flow → Shared → Prop} {ss : List Stmt} : ∀ {s : Shared} {φ : List Addr} {O : Ost} {m : Str → Option Value} {l : Locs},
    (exs r Γ ss l O k).holds D → EnvOk env L m X φ Γ l → Rel w.params h₀ φ O X L m s.heap → PostST w.params h₀ φ X L env Γ D k Q s → wpG (model prog w) A (execs ss env) Q E s := by
  induction ss with
  | nil => intro s φ O m l h V R H; exact wpG_execs_nil (H h R (List.prefix_refl _) V .next)
  | cons st ss ih =>
    intro s φ O m l h V R H
    refine wpG_execs_cons (S.S h hr hL V R fun f g l' O' φ' m' h' tk hk R' p V' rf => ?_)
    cases rf with
    | next => exact ih hk V' R' (H.later p)
    | brk => exact H hk R' p V' .brk
    | cont => exact H hk R' p V' .cont
    | ret rv => exact H hk R' p V' (.ret rv)
theorem fa_zip_lookup {φ : List Addr} {x : Str} {v : AV} {vs : List AV} {us : List Value} (f : Fa (RV φ) vs us) : ∀ {ps : List Str}, (ps.zip vs).lookup x = some v → ∃ u, (ps.zip us).lookup x = some u ∧ RV φ v u := by
  induction f with
  | nil => intro ps h; rw [List.zip_nil_right] at h; cases h
  | @cons a b as bs r f ih =>
    intro ps h
    cases ps with
    | nil => cases h
    | cons p ps =>
      rw [List.zip_cons_cons, List.lookup_cons] at h ⊢
      cases hx : x == p with
      | true => rw [hx] at h; cases h; exact ⟨b, rfl, r⟩
      | false => rw [hx] at h; exact ih h
theorem bindL_other {kindOf : Str → Option NameKind} {x : Str} {binds : List (Str × Value)} {m : Str → Option Value} : x ∉ binds.map (·.1) → bindL kindOf binds m x = m x := by
  induction binds generalizing m with
  | nil => exact fun _ => rfl
  | cons p r ih =>
    intro h
    rw [List.map_cons, List.mem_cons, not_or] at h
    unfold bindL
    rw [ih h.2]
    split
    · exact if_neg h.1
    · rfl
theorem bindC_other {kindOf : Str → Option NameKind} {x : Str} {binds : List (Str × Value)} {m : Str → Option Value} : x ∉ binds.map (·.1) → bindC kindOf binds m x = m x := by
  induction binds generalizing m with
  | nil => exact fun _ => rfl
  | cons p r ih =>
    intro h
    rw [List.map_cons, List.mem_cons, not_or] at h
    unfold bindC
    rw [ih h.2]
    split
    · rfl
    · exact if_neg h.1
theorem bindL_at {kindOf : Str → Option NameKind} {x : Str} {u : Value} (hk : kindOf x = some .local) {binds : List (Str × Value)} {m : Str → Option Value} : (binds.map (·.1)).Nodup → binds.lookup x = some u → bindL kindOf binds m x = some u := by
  induction binds generalizing m with
  | nil => exact fun _ h => nomatch h
  | cons p r ih =>
    intro nd h
    obtain ⟨y, v⟩ := p
    obtain ⟨ny, nd⟩ := List.nodup_cons.mp nd
    rw [List.lookup_cons] at h
    unfold bindL
    cases hx : x == y with
    | true =>
      rw [hx] at h; cases h
      rw [beq_iff_eq] at hx; subst hx
      rw [bindL_other ny, if_pos hk]; simp
    | false => rw [hx] at h; exact ih nd h
theorem bindC_at {kindOf : Str → Option NameKind} {x : Str} {u : Value} (hk : kindOf x ≠ some .local) {binds : List (Str × Value)} {m : Str → Option Value} : (binds.map (·.1)).Nodup → binds.lookup x = some u → bindC kindOf binds m x = some u := by
  induction binds generalizing m with
  | nil => exact fun _ h => nomatch h
  | cons p r ih =>
    intro nd h
    obtain ⟨y, v⟩ := p
    obtain ⟨ny, nd⟩ := List.nodup_cons.mp nd
    rw [List.lookup_cons] at h
    unfold bindC
    cases hx : x == y with
    | true =>
      rw [hx] at h; cases h
      rw [beq_iff_eq] at hx; subst hx
      rw [bindC_other ny, if_neg hk]; simp
    | false => rw [hx] at h; exact ih nd h
theorem cell_objs {s₀ s' : Shared} {L' : Addr} {m' cm : Str → Option Value} {cs : List (Str × Addr)} (x : InCallC s₀ L' m' cs cm s') : ∀ ps : List Str, ∃ Y : List (Addr × Obj),
    (∀ y ∈ ps, ∀ c, cs.lookup y = some c → ∃ o, (c, o) ∈ Y ∧ o.data = .cell (cm y)) ∧ (∀ p ∈ Y, s'.heap.get? p.1 = some p.2 ∧ ∃ y ∈ ps, cs.lookup y = some p.1) ∧ (ps.Nodup → (Y.map (·.1)).Nodup)
  | [] => ⟨[], by simp⟩
  | y :: ps => by
    obtain ⟨Y, h1, h2, h3⟩ := cell_objs x ps
    cases hc : cs.lookup y with
    | none =>
      refine ⟨Y, fun z hz c e => ?_, fun p hp => ?_, fun nd => h3 (List.nodup_cons.mp nd).2⟩
      · rcases List.mem_cons.mp hz with rfl | hz
        · rw [hc] at e; cases e
        · exact h1 z hz c e
      · obtain ⟨a, z, hz, e⟩ := h2 p hp
        exact ⟨a, z, .tail _ hz, e⟩
    | some c =>
      obtain ⟨o, ho, hd⟩ := x.cell y c hc
      refine ⟨(c, o) :: Y, fun z hz c' e => ?_, fun p hp => ?_, fun nd => ?_⟩
      · rcases List.mem_cons.mp hz with rfl | hz
        · rw [hc] at e; cases e; exact ⟨o, .head _, hd⟩
        · obtain ⟨o', ho', hd'⟩ := h1 z hz c' e; exact ⟨o', .tail _ ho', hd'⟩
      · rcases List.mem_cons.mp hp with rfl | hp
        · exact ⟨ho, y, .head _, hc⟩
        · obtain ⟨a, z, hz, e⟩ := h2 p hp; exact ⟨a, z, .tail _ hz, e⟩
      · obtain ⟨ny, nd⟩ := List.nodup_cons.mp nd
        refine List.nodup_cons.mpr ⟨fun q => ?_, h3 nd⟩
        obtain ⟨p, hp, e⟩ := List.mem_map.mp q
        obtain ⟨_, z, hz, e'⟩ := h2 p hp
        have e' : cs.lookup z = some c := by rw [e']; exact congrArg some e
        have := name_of_addr x.apart (mem_of_lookup hc) (mem_of_lookup e')
        exact ny (this ▸ hz)
theorem stepC_sound (B : Tops prog w h₀ tb K) (S : Sound prog w h₀ r n) (hr : Room A (n + 1)) {a : Addr} {vs : List AV} {us : List Value} {k : AV → Ost → Tr} {Q : Value → Shared → Prop} (h : (stepC tb r a vs O k).holds D)
    (R : Rel w.params h₀ φ O X L m s.heap) (f : Fa (RV φ) vs us) (H : PostT w.params h₀ φ X L m D k Q s) :
    codeG (model prog w) A (.call (.ref a) ⟨us, []⟩) (callEnd Q E) s := by
  obtain ⟨fn, hfn, h⟩ := optT_of (o := tb.fns.lookup a) h
  obtain ⟨o, fd, ho, hd, hsc, hbody, hclo, hgl, hbu, hcd, hk, hco, hgen, hkeep, hdbg, hnd, hkinds, hbind⟩ := B.fns a fn hfn
  obtain ⟨hlen, h⟩ := ifT_of (b := decide (vs.length ≤ fn.params.length) && decide (fn.params.length ≤ vs.length + fn.dflts.length)) h
  simp only [Bool.and_eq_true, decide_eq_true_eq] at hlen
  rw [f.length] at hlen h
  obtain ⟨ds, fds, hbind⟩ := hbind us hlen.1 hlen.2
  have fall : Fa (RV φ) (vs ++ fn.dflts.drop (fn.dflts.length - (fn.params.length - us.length))) (us ++ ds) := f.append (fds.mono fun _ _ r => r.mono List.nil_prefix)
  have hpl : fn.params.length = (us ++ ds).length := by
    rw [List.length_append, ← fds.length, List.length_drop]; omega
  have hmap : (fn.params.zip (us ++ ds)).map (·.1) = fn.params := by
    rw [List.map_fst_zip]; omega
  refine codeG_call_function (by have := hr.depth; omega) (R.keep _ _ ho) hd (by rw [hsc]; exact hco) (by rw [hsc]; exact hgen) hbody (hcd.keeps R.keep) (hbind s R.keep _ _ _ _ ?_)
  rw [hclo]
  have inP : ∀ x ∈ fn.params.zip (us ++ ds), x.1 ∈ fn.params := fun x hx => (List.of_mem_zip (show (x.1, x.2) ∈ _ from hx)).1
  refine wpAny_newFunctionEnv_cells (by rw [hsc]; exact hk) (fun x hx => ?_) fun env he s' x => ?_
  · rw [hsc]
    rcases hkinds x.1 (inP x hx) with q | q
    · exact .inl q
    · exact .inr ⟨q, cellsFrom_some _ _ _ (.inl q)⟩
  · have keep := x.toInCall.keep
    obtain ⟨h', tk, rfl⟩ := x.toInCall.same
    refine ⟨(B.nolim.keeps R.keep).keeps keep, codeG_func ?_⟩
    have hsc' : env.scope = fn.scope := by rw [he]; exact hsc
    have hkind : ∀ y, env.kindOf y = fn.scope.names.lookup y := fun y => by show env.scope.names.lookup y = _; rw [hsc']
    obtain ⟨Y, y1, y2, y3⟩ := cell_objs x fn.params
    obtain ⟨oL, hoL, back, R'⟩ := R.enter keep x.toInCall.ns x.toInCall.fresh (fun p hp => ⟨(y2 p hp).1, by
      obtain ⟨_, z, _, e⟩ := y2 p hp
      exact x.above z p.1 (mem_of_lookup e)⟩) (y3 hnd)
    have V : EnvOk env env.locals (bindL env.kindOf (fn.params.zip (us ++ ds)) fun _ => none) (Y ++ (L, oL) :: X) φ ⟨fn.scope.names⟩ (fn.params.zip (vs ++ fn.dflts.drop (fn.dflts.length - (fn.params.length - us.length)))) := by
      refine ⟨by rw [hsc']; exact hk, by rw [he]; exact hgl, by rw [he]; exact hbu, by rw [hsc'], hdbg, fun y v hy hkl => ?_, fun y v hy hkc => ?_⟩
      · obtain ⟨u, hu, ru⟩ := fa_zip_lookup fall hy
        exact ⟨u, ru, .inl ⟨rfl, bindL_at ((hkind y).trans hkl) (by rw [hmap]; exact hnd) hu⟩⟩
      · obtain ⟨u, hu, ru⟩ := fa_zip_lookup fall hy
        have hyp : y ∈ fn.params := inP _ (mem_of_lookup hu)
        have hcs : (env.cells.lookup y).isSome = true := by rw [he]; exact cellsFrom_some _ _ _ (.inl (by rw [hsc]; exact hkc))
        obtain ⟨c, hc⟩ := Option.isSome_iff_exists.mp hcs
        obtain ⟨o', ho', hd'⟩ := y1 y hyp c hc
        refine ⟨u, c, o', ru, hc, List.mem_append_left _ ho', ?_⟩
        rw [hd', bindC_at (by rw [hkind y, hkc]; decide) (by rw [hmap]; exact hnd) hu]
    refine exs_sound (A := A.deeper env) S ⟨hr.handled, by have := hr.depth; show A.depth + 1 + 3 * n + 3 < _; omega, by have := hr.units; show A.units + 3 + 10 * n + 80 < _; omega⟩ rfl h V R' fun fl g l' O' φ' m' h'' tk' hk' R'' p V'' rf => ?_
    have R3 := R''.leave back R.F.above
    cases rf with
    | next => exact H hk' R3 p .none
    | brk => exact hk'.elim
    | cont => exact hk'.elim
    | ret rv => exact H hk' R3 p rv
end
end Vm
end
section
namespace Vm
open PySem PySem.W PyProof.Rows PySem.Calls PySem.SeqAt
section
variable {prog : Program} {w : World} {tb : Tb} {K : Frag} {r : Rec} {n : Nat} {A : Around} {E : Value → Shared → Prop} {s : Shared} {h₀ : Heap} {φ : List Addr} {O : Ost} {X : List (Addr × Obj)} {L : Addr} {m : Str → Option Value} {env : Env} {Γ : Cx} {l : Locs} {D : Rs → Prop}
theorem evalArgs_sound (S : Sound prog w h₀ r n) (hr : Room A n) {pos : Pos} {f : Value} {es : List Expr} {k : List AV → Ost → Tr} {Q : Args → Shared → Prop} (h : (evs r Γ l es O k).holds D) (V : EnvOk env L m X φ Γ l) (R : Rel w.params h₀ φ O X L m s.heap)
    (H : PostL w.params h₀ φ X L m D k (fun us s' => Q ⟨us, []⟩ s') s) :
    wpG (model prog w) A (evalArgs f true (backTo pos (starEach es env)) []) Q E s := by
  cases es with
  | nil => exact evalArgsG_nil3 (H h R (List.prefix_refl _) .nil)
  | cons e es =>
    have z := evs_sound (Q := fun us s' => Q ⟨us, []⟩ s') (E := E) (env := env) S hr (pos := pos) h V R H
    rw [star_one (not_eq_true (ifT_of (b := !isStarred e) h).1)] at z ⊢
    exact evalArgsG_plain z
theorem plain_args {pos : Pos} {es : List Expr} : es.any isStarred = false → (backTo pos (starEach es env)).any (·.1) = false := by
  induction es with
  | nil => exact fun _ => rfl
  | cons e es ih =>
    intro h
    rw [List.any_cons, Bool.or_eq_false_iff] at h
    rw [star_one h.1]
    show (false || (backTo pos (starEach es env)).any (·.1)) = false
    rw [ih h.2]; rfl
theorem call_fn (B : Tops prog w h₀ tb K) (S : Sound prog w h₀ r n) (hr : Room A n) {f : Addr} {first : List AV} {ufirst : List Value} {args : List Expr} {pos : Pos} {k : AV → Ost → Tr} {Q : Value → Shared → Prop}
    (hk : keepIn K (.ref f) = true) (hs : args.any isStarred = false) (h : (evs r Γ l args O fun vs O2 => CallC r f (first ++ vs) O2 k).holds D) (V : EnvOk env L m X φ Γ l) (R : Rel w.params h₀ φ O X L m s.heap) (ff : Fa (RV φ) first ufirst)
    (H : PostT w.params h₀ φ X L m D k Q s) : wpG (model prog w) A (callWith pos (.ref f) ufirst (backTo pos (starEach args env)) []) Q E s := by
  refine callWithG_of (P := K.In) (by rw [plain_args hs]; rfl) (keeps_K hk) (evalArgs_sound S hr h V R fun vs us O' φ' h' tk hk' R' p f' => ⟨B.kin.keeps R'.keep, ?_⟩)
  obtain ⟨v, O2, hc, hk'⟩ := hk'
  exact wpG_call (S.C hc hr R' ((ff.mono fun _ _ r => r.mono p).append f') fun v1 u O1 φ1 h1 tk1 e R1 p1 rv => by
    obtain ⟨rfl, rfl⟩ := e
    exact H hk' R1 (p.trans p1) rv)
theorem tyId_some {id : String} {t : Ty} (h : tyId id = some t) : id = t.s := by
  unfold tyId at h
  cases h1 : id == "int" with
  | true => rw [h1] at h; cases h; exact eq_of_beq h1
  | false =>
    rw [h1] at h
    cases h2 : id == "str" with
    | true => rw [h2] at h; cases h; exact eq_of_beq h2
    | false =>
      rw [h2] at h
      cases h3 : id == "bytearray" with
      | true => rw [h3] at h; cases h; exact eq_of_beq h3
      | false =>
        rw [h3] at h
        cases h4 : id == "bytes" with
        | true => rw [h4] at h; cases h; exact eq_of_beq h4
        | false => rw [h4] at h; cases h
theorem biId_some {id : String} {t : Bi} (h : biId id = some t) : id = t.s := by
  unfold biId at h
  cases h1 : id == "len" with
  | true => rw [h1] at h; cases h; exact eq_of_beq h1
  | false =>
    rw [h1] at h
    cases h2 : id == "abs" with
    | true => rw [h2] at h; cases h; exact eq_of_beq h2
    | false =>
      rw [h2] at h
      cases h3 : id == "max" with
      | true => rw [h3] at h; cases h; exact eq_of_beq h3
      | false =>
        rw [h3] at h
        cases h4 : id == "ord" with
        | true => rw [h4] at h; cases h; exact eq_of_beq h4
        | false =>
          rw [h4] at h
          cases h5 : id == "sum" with
          | true => rw [h5] at h; cases h; exact eq_of_beq h5
          | false => rw [h5] at h; cases h
theorem callK_of {f : AV} {u : Value} {k : CK → Tr} (h : (callK tb f k).holds D) (rf : RV φ f u) : ∃ c, (k c).holds D ∧ (match c with
    | .fn a => u = .ref a ∧ ∃ fn, tb.fns.lookup a = some fn
    | .cls a ini => u = .ref a ∧ tb.clss.lookup a = some (some ini)
    | .ty t => u = .type t.s
    | .bi b => u = .builtin b.s) := by
  cases f with
  | val v =>
    cases rf.val_inv
    cases u with
    | ref a =>
      obtain ⟨fn, hfn, h⟩ | ⟨hfn, h⟩ := optC_of (o := tb.fns.lookup a) h
      · exact ⟨.fn a, h, rfl, fn, hfn⟩
      · obtain ⟨c, hc, h⟩ := optT_of h
        obtain ⟨ini, rfl, h⟩ := optT_of h
        exact ⟨.cls a ini, h, rfl, hc⟩
    | type t =>
      obtain ⟨c, hc, h⟩ := optT_of (o := tyId t) h
      exact ⟨.ty c, h, congrArg Value.type (tyId_some hc)⟩
    | builtin id =>
      obtain ⟨c, hc, h⟩ := optT_of (o := biId id) h
      exact ⟨.bi c, h, congrArg Value.builtin (biId_some hc)⟩
    | _ => exact h.elim
  | _ => exact h.elim
theorem make_sound (B : Tops prog w h₀ tb K) (S : Sound prog w h₀ r n) (hr : Room A (n + 1)) {a ini : Addr} {vs : List AV} {us : List Value} {k : AV → Ost → Tr} {Q : Value → Shared → Prop}
    (hcl : tb.clss.lookup a = some (some ini)) (hk : (callC r (.cls a ini) vs O k).holds D) (R : Rel w.params h₀ φ O X L m s.heap) (f : Fa (RV φ) vs us) (H : PostT w.params h₀ φ X L m D k Q s) :
    codeG (model prog w) A (.call (.ref a) ⟨us, []⟩) (callEnd Q E) s := by
  obtain ⟨c1, c2, c3, c4⟩ := B.clss a ini hcl
  obtain ⟨v0, O3, hc, hk⟩ := hk
  obtain ⟨hv0, hk2⟩ := ifT_of hk
  refine makeG_core (makes_of (B.kin.keeps R.keep) c1) (looks_findIn (B.kin.keeps R.keep) c2) (fun self => bind_fn (B.kin.keeps R.keep) self c3) (.inl rfl) ?_
  have R1 : Rel w.params h₀ (φ ++ [s.heap.objs.size]) (O ++ [.dict []]) X L m (s.heap.push emptyDict) := R.allocPush rfl (.dict (n := 0) .nil List.nodup_nil)
  have R2 := R1.allocPush (c := instObj a s.heap.objs.size) (o := .inst a O.length) rfl (.inst (by
    rw [List.getElem?_append_left (by rw [List.length_append, R.len]; simp)]
    exact get_snoc R _))
  rw [Heap.size_push, List.append_assoc O] at R2
  have gx : (φ ++ [s.heap.objs.size] ++ [s.heap.objs.size + 1])[O.length + 1]? = some (s.heap.objs.size + 1) := by
    have := get_snoc R1 (s.heap.objs.size + 1)
    rwa [List.length_append] at this
  refine codeG_mono (S.C (A := A.under (.builtin "type.__call__" ⟨.ref a :: us, []⟩)) (E := E) (Q := fun v s' => InitBack (s.heap.objs.size + 1) (callEnd Q E) (.ok (.ret v)) s') hc ⟨hr.handled, ?_, ?_⟩ R2
    (.cons (.obj gx) (f.mono fun _ _ r => r.mono ((List.prefix_append _ _).trans (List.prefix_append _ _)))) fun v u O4 φ3 h3 tk3 e R3 p3 rv => ?_) fun r s' z => ?_
  · have := hr.depth
    have e : Code.weight (.builtin "type.__call__" ⟨.ref a :: us, []⟩) = 1 := by
      unfold Code.weight
      show 0 + 1 + (if guardIds.contains "type.__call__" = true then 1 else 0) + 0 = 1
      rw [if_neg (by decide)]
    show A.depth + Code.weight _ + 3 * n + 3 < _
    omega
  · have := hr.units
    have e : Code.cUnits (.builtin "type.__call__" ⟨.ref a :: us, []⟩) ≤ 5 := Nat.le_of_ble_eq_true rfl
    show A.units + Code.cUnits _ + 10 * n + 80 < _
    omega
  · obtain ⟨rfl, rfl⟩ := e
    cases isNone_of hv0 rv
    refine ⟨rfl, H hk2 R3 (((List.prefix_append _ _).trans (List.prefix_append _ _)).trans p3) (.obj ?_)⟩
    obtain ⟨t, rfl⟩ := p3
    rw [List.getElem?_append_left (List.getElem?_eq_some_iff.mp gx).1]
    exact gx
  · rcases r with e | (v | _ | _ | _) <;> exact z
theorem callV_sound (B : Tops prog w h₀ tb K) (X1 : Extra prog w) (S : Sound prog w h₀ r n) (hr : Room A (n + 1)) {fv : AV} {u : Value} {args : List Expr} {pos : Pos} {k : AV → Ost → Tr} {Q : Value → Shared → Prop}
    (h : (callK tb fv fun c => evsN r Γ l args O fun vs O2 => callC r c vs O2 k).holds D) (V : EnvOk env L m X φ Γ l) (R : Rel w.params h₀ φ O X L m s.heap) (rf : RV φ fv u) (H : PostT w.params h₀ φ X L m D k Q s) :
    wpG (model prog w) A (callWith pos u [] (backTo pos (starEach args env)) []) Q E s := by
  obtain ⟨c, h, hc⟩ := callK_of h rf
  obtain ⟨hs, h⟩ := ifT_of (b := !args.any isStarred) h
  have hs := not_eq_true hs
  cases c with
  | fn a =>
    obtain ⟨rfl, fn, hfn⟩ := hc
    obtain ⟨o, fd, ho, hd, hsc, hbody, hclo, hgl, hbu, hcd, hk, hco, hgen, hkeep, _⟩ := B.fns a fn hfn
    exact call_fn (first := []) B S hr.pred hkeep hs h V R .nil H
  | cls a ini =>
    obtain ⟨rfl, hcl⟩ := hc
    exact callWithG_of (P := K.In) (by rw [plain_args hs]; rfl) (keeps_K (B.clss a ini hcl).2.2.2) (evalArgs_sound S hr.pred h V R fun vs us O' φ' h' tk hk' R' p f' => ⟨B.kin.keeps R'.keep, wpG_call (make_sound B S hr hcl hk' R' f' (H.later p))⟩)
  | ty t =>
    cases hc
    exact callWithG_type (plain_args hs) (evalArgs_sound S hr.pred h V R fun vs us O' φ' h' tk hk' R' p f' => tyV_sound X1 hr.handled hk' R' f' (H.later p))
  | bi b =>
    cases hc
    exact callWithG_builtin (plain_args hs) (evalArgs_sound S hr.pred h V R fun vs us O' φ' h' tk hk' R' p f' => wpG_of (biV_sound X1 hr.handled hk' R' f' (H.later p)))
theorem gm_bytes {pl : Sem Bool} {b : Array UInt8} {t : Tok} {nm : Str} {id : String} {Q : Value × List Value → Shared → Prop} (slot : Slot "bytes" nm id) (ty : typeOf (.builtin id) = pure (.type "method_descriptor")) (h : Q (.builtin id, [.bytes b t]) s) :
    wpAny (model prog w) A (getMethod (.bytes b t) nm pl) Q E s :=
  getMethod_builtin (show s.TypeIs (.bytes b t) "bytes" from rfl) PySem.W.FB.plainAttrs_bytes slot ty (fun a e => by cases e) h
theorem gm_str {pl : Sem Bool} {b : Str} {t : Tok} {nm : Str} {id : String} {Q : Value × List Value → Shared → Prop} (slot : Slot "str" nm id) (ty : typeOf (.builtin id) = pure (.type "method_descriptor")) (h : Q (.builtin id, [.str b t]) s) :
    wpAny (model prog w) A (getMethod (.str b t) nm pl) Q E s :=
  getMethod_builtin (show s.TypeIs (.str b t) "str" from rfl) PySem.F.plainAttrs_str slot ty (fun a e => by cases e) h
set_option maxHeartbeats 4000000 in
theorem methOf_sound (B : Base prog w h₀ tb K) {pl : Sem Bool} {ov : AV} {u : Value} {nm : Str} {k : Mt → Tr} {Q : Value × List Value → Shared → Prop} (h : (methOf tb ov nm O k).holds D) (R : Rel w.params h₀ φ O X L m s.heap) (ro : RV φ ov u)
    (H : ∀ mt, (k mt).holds D → (∀ f, mt = .fn f → keepIn K (.ref f) = true) → Q (mt.id, [u]) s) : wpAny (model prog w) A (getMethod u nm pl) Q E s := by
  cases ov with
  | obj i =>
    obtain ⟨ob, e, h⟩ := h
    cases ob with
    | list xs =>
      obtain ⟨hn, h⟩ := ifT_of (b := nm == ("append" : Str)) h
      cases eq_of_beq hn
      obtain ⟨a, c, rfl, hi, hc, rc⟩ := R.at_obj e ro
      cases rc with
      | list f => exact getMethod_builtin ⟨_, hc, rfl⟩ PySem.F.plainAttrs_list PySem.F.slot_list_append PySem.F.type_list_append (fun a e => by cases e; exact ⟨_, hc, rfl⟩) (H .listAppend h (fun _ => Mt.noConfusion))
    | barr b =>
      obtain ⟨hn, h⟩ := ifT_of (b := nm == ("append" : Str)) h
      cases eq_of_beq hn
      obtain ⟨a, c, rfl, hi, hc, rc⟩ := R.isBarr e ro
      exact getMethod_builtin ⟨_, hc, rfl⟩ FX.plainAttrs_bytearray FX.slot_bytearray_append FX.type_bytearray_append (fun a e => by cases e; exact ⟨_, hc, rfl⟩) (H .barrAppend h (fun _ => Mt.noConfusion))
    | dict es =>
      obtain ⟨hn, h⟩ := ifT_of (b := nm == ("get" : Str)) h
      cases eq_of_beq hn
      obtain ⟨a, c, rfl, hi, hc, rc⟩ := R.at_obj e ro
      cases rc with
      | dict f nd => exact getMethod_builtin ⟨_, hc, rfl⟩ PySem.F.plainAttrs_dict PySem.F.slot_dict_get PySem.F.type_dict_get (fun a e => by cases e; exact ⟨_, hc, rfl⟩) (H .dictGet h (fun _ => Mt.noConfusion))
    | inst C d =>
      obtain ⟨od, ed, h⟩ := h
      cases od with
      | dict es =>
        obtain ⟨_, _, h⟩ | ⟨hno, h⟩ := optC_of (o := es.lookup nm) h
        · exact h.elim
        · obtain ⟨ms, hms, h⟩ := optT_of (o := tb.meths.lookup C) h
          obtain ⟨f, hf, h⟩ := optT_of (o := ms.lookup nm) h
          obtain ⟨x, dx, ds, n, rfl, hd, fe, nd, hdx, I⟩ := R.inst e ed ro
          obtain ⟨b1, b2, b3, b4⟩ := B.meths C ms nm f hms hf
          exact method_inst R.F B.kin I b1 b2 b3 ((getL_fa (w := w) nm fe).2 hno) (H (.fn f) h (fun _ e => by cases e; exact b4))
      | _ => exact h.elim
    | _ => exact h.elim
  | bytes b =>
    obtain ⟨c, t, rfl, e⟩ := ro.bytes_inv
    unfold methOf at h
    cases h1 : (nm == ("split" : Str)) with
    | true =>
      rw [h1] at h
      cases eq_of_beq h1
      exact @gm_bytes prog w A E s pl _ t (Str.ofString "split") "bytes.split" Q FX.slot_bytes_split FX.type_bytes_split (H .split h (fun _ => Mt.noConfusion))
    | false =>
      rw [h1] at h
      cases h2 : (nm == ("join" : Str)) with
      | true =>
        rw [h2] at h
        cases eq_of_beq h2
        exact @gm_bytes prog w A E s pl _ t (Str.ofString "join") "bytes.join" Q FX.slot_bytes_join FX.type_bytes_join (H .bjoin h (fun _ => Mt.noConfusion))
      | false =>
        rw [h2] at h
        obtain ⟨h3, h⟩ := ifT_of (b := nm == ("find" : Str)) h
        cases eq_of_beq h3
        exact @gm_bytes prog w A E s pl _ t (Str.ofString "find") "bytes.find" Q FX.slot_bytes_find FX.type_bytes_find (H .bfind h (fun _ => Mt.noConfusion))
  | str x =>
    obtain ⟨t, rfl⟩ := ro.str_inv
    obtain ⟨hn, h⟩ := ifT_of (b := nm == ("join" : Str)) h
    cases eq_of_beq hn
    exact @gm_str prog w A E s pl _ _ (Str.ofString "join") "str.join" Q PySem.F.slot_str_join PySem.F.type_str_join (H .sjoin h (fun _ => Mt.noConfusion))
  | _ => exact h.elim
end
end Vm
end
section
namespace Vm
open PySem PySem.W PyProof.Rows PySem.Calls PySem.SeqAt
noncomputable def ItAt (tb : Tb) (K : ItK) (φ : List Addr) (I : Addr) (i : Nat) (h : Heap) : Prop := match K with
  | .led j o xs => ∃ ax, φ[j]? = some ax ∧ (match o with
    | .list ys => ys = xs ∧ h.IsListIter I ax i
    | .tuple ys => ys = xs ∧ h.IsTupleIter I ax i
    | _ => False)
  | .glob a xs => tb.seqs.lookup a = some (false, xs) ∧ h.IsTupleIter I a i
  | .bytes b => ∃ c t, KBw.bInts c = b ∧ KBw.IsBytesIter h I c t i
  | .str s => ∃ ty t, (ty = "str_ascii_iterator" ∨ ty = "str_iterator") ∧ h.IsStrIter I ty s t i
  | .range n => IsRangeIter h I (0 + (i : Nat) * 1) ((n.toNat : Int) - (i : Nat)) 1
  | .enumB _ => False
theorem ItAt.at_ {tb : Tb} {K : ItK} {φ : List Addr} {I : Addr} {i : Nat} {h h' : Heap} (x : ItAt tb K φ I i h) (e : ∀ o, h.get? I = some o → h'.get? I = some o) : ItAt tb K φ I i h' := by
  cases K with
  | led j o xs =>
    obtain ⟨ax, h1, h2⟩ := x
    refine ⟨ax, h1, ?_⟩
    cases o with
    | list ys => obtain ⟨h2, o, ho, r⟩ := h2; exact ⟨h2, o, e o ho, r⟩
    | tuple ys => obtain ⟨h2, o, ho, r⟩ := h2; exact ⟨h2, o, e o ho, r⟩
    | _ => exact h2.elim
  | glob a xs => obtain ⟨h2, o, ho, r⟩ := x; exact ⟨h2, o, e o ho, r⟩
  | bytes b => obtain ⟨c, t, h2, o, ho, r⟩ := x; exact ⟨c, t, h2, o, e o ho, r⟩
  | str s => obtain ⟨ty, t, h2, o, ho, r⟩ := x; exact ⟨ty, t, h2, o, e o ho, r⟩
  | range n => exact e _ x
  | enumB b => exact x.elim
theorem ItAt.mono {tb : Tb} {K : ItK} {φ φ' : List Addr} {I : Addr} {i : Nat} {h : Heap} (x : ItAt tb K φ I i h) (p : φ <+: φ') : ItAt tb K φ' I i h := by
  cases K with
  | led j o xs =>
    obtain ⟨ax, h1, h2⟩ := x
    obtain ⟨t, rfl⟩ := p
    exact ⟨ax, by rw [List.getElem?_append_left (List.getElem?_eq_some_iff.mp h1).1]; exact h1, h2⟩
  | _ => exact x
section
variable {P : Params} {h₀ h h' : Heap} {φ : List Addr} {O : Ost} {X : List (Addr × Obj)} {L : Addr} {m : Str → Option Value}
theorem Rel.updK {pre post : List (Addr × Obj)} {a : Addr} {c c' : Obj} (x : Rel P h₀ φ O (pre ++ (a, c) :: post) L m h) (hs : ∀ b o, b ≠ a → h.get? b = some o → h'.get? b = some o) (hc : h'.get? a = some c') :
    Rel P h₀ φ O (pre ++ (a, c') :: post) L m h' := by
  obtain ⟨cs, fa, hl, N⟩ := x.ex
  have A := N (a, c) (by simp)
  have nd := x.nd
  have ndm : ((φ ++ pre.map (·.1)) ++ a :: post.map (·.1)).Nodup := by simpa [List.append_assoc] using nd
  have na : a ∉ (φ ++ pre.map (·.1)) ++ post.map (·.1) := (List.nodup_cons.mp (List.perm_middle.nodup_iff.mp ndm)).1
  refine ⟨⟨?_, ?_, x.F.above⟩, ⟨cs, fa, hl, ?_⟩, by simpa using nd, by simpa using x.low⟩
  · obtain ⟨oL, es, ep, hL, r⟩ := x.F.ns
    exact ⟨oL, es, ep, hs L _ (Ne.symm A.2.1) hL, r⟩
  · intro b o e
    exact hs b o (fun q => by rw [q, A.2.2] at e; cases e) (x.F.keep b o e)
  · intro p hp
    rcases List.mem_append.mp hp with q | q
    · have Np := N p (List.mem_append_left _ q)
      refine ⟨hs p.1 _ (fun e => na ?_) Np.1, Np.2⟩
      rw [← e]
      exact List.mem_append_left _ (List.mem_append_left _ (List.of_mem_zip (show (p.1, p.2) ∈ _ from q)).1)
    · rcases List.mem_append.mp q with q | q
      · have Np := N p (by simp [q])
        refine ⟨hs p.1 _ (fun e => na ?_) Np.1, Np.2⟩
        rw [← e]
        exact List.mem_append_left _ (List.mem_append_right _ (List.mem_map_of_mem q))
      · rcases List.mem_cons.mp q with rfl | q
        · exact ⟨hc, A.2⟩
        · have Np := N p (by simp [q])
          refine ⟨hs p.1 _ (fun e => na ?_) Np.1, Np.2⟩
          rw [← e]
          exact List.mem_append_right _ (List.mem_map_of_mem q)
theorem Rel.forget {pre post : List (Addr × Obj)} {p : Addr × Obj} (x : Rel P h₀ φ O (pre ++ p :: post) L m h) : Rel P h₀ φ O (pre ++ post) L m h := by
  obtain ⟨cs, fa, hl, N⟩ := x.ex
  have nd := x.nd
  refine ⟨x.F, ⟨cs, fa, hl, fun q hq => N q ?_⟩, ?_, fun b hb => x.low b ?_⟩
  · simp only [List.mem_append, List.mem_cons] at hq ⊢
    rcases hq with q | q | q <;> simp [q]
  · have ndm : ((φ ++ pre.map (·.1)) ++ p.1 :: post.map (·.1)).Nodup := by simpa [List.append_assoc] using nd
    have := (List.nodup_cons.mp (List.perm_middle.nodup_iff.mp ndm)).2
    simpa [List.append_assoc] using this
  · simp only [List.mem_append, List.map_append, List.map_cons, List.mem_cons] at hb ⊢
    rcases hb with q | q | q <;> simp [q]
theorem Rel.gone {pre post : List (Addr × Obj)} {a : Addr} {c : Obj} (x : Rel P h₀ φ O (pre ++ (a, c) :: post) L m h) (hs : ∀ b o, b ≠ a → h.get? b = some o → h'.get? b = some o) : Rel P h₀ φ O (pre ++ post) L m h' := by
  have y := x.forget
  obtain ⟨cs, fa, hl, N⟩ := x.ex
  have A := N (a, c) (by simp)
  have nd := x.nd
  have ndm : ((φ ++ pre.map (·.1)) ++ a :: post.map (·.1)).Nodup := by simpa [List.append_assoc] using nd
  have na : a ∉ (φ ++ pre.map (·.1)) ++ post.map (·.1) := (List.nodup_cons.mp (List.perm_middle.nodup_iff.mp ndm)).1
  refine ⟨⟨?_, ?_, x.F.above⟩, ⟨cs, fa, hl, ?_⟩, y.nd, y.low⟩
  · obtain ⟨oL, es, ep, hL, r⟩ := x.F.ns
    exact ⟨oL, es, ep, hs L _ (Ne.symm A.2.1) hL, r⟩
  · intro b o e
    exact hs b o (fun q => by rw [q, A.2.2] at e; cases e) (x.F.keep b o e)
  · intro p hp
    rcases List.mem_append.mp hp with q | q
    · have Np := N p (List.mem_append_left _ q)
      refine ⟨hs p.1 _ (fun e => na ?_) Np.1, Np.2⟩
      rw [← e]
      exact List.mem_append_left _ (List.mem_append_left _ (List.of_mem_zip (show (p.1, p.2) ∈ _ from q)).1)
    · have Np := N p (by simp only [List.mem_append, List.mem_cons] at q ⊢; rcases q with q | q <;> simp [q])
      refine ⟨hs p.1 _ (fun e => na ?_) Np.1, Np.2⟩
      rw [← e]
      rcases List.mem_append.mp q with q | q
      · exact List.mem_append_left _ (List.mem_append_right _ (List.mem_map_of_mem q))
      · exact List.mem_append_right _ (List.mem_map_of_mem q)
theorem Rel.apart {pre post : List (Addr × Obj)} {a : Addr} {c : Obj} (x : Rel P h₀ φ O (pre ++ (a, c) :: post) L m h) {i : Nat} {b : Addr} (hi : φ[i]? = some b) : b ≠ a := by
  intro e
  have nd := x.nd
  have ndm : ((φ ++ pre.map (·.1)) ++ a :: post.map (·.1)).Nodup := by simpa [List.append_assoc] using nd
  have na : a ∉ (φ ++ pre.map (·.1)) ++ post.map (·.1) := (List.nodup_cons.mp (List.perm_middle.nodup_iff.mp ndm)).1
  exact na (List.mem_append_left _ (List.mem_append_left _ (e ▸ List.mem_iff_getElem?.mpr ⟨i, hi⟩)))
end
section
variable {prog : Program} {w : World} {tb : Tb} {K : Frag} {r : Rec} {n : Nat} {A : Around} {E : Value → Shared → Prop} {s : Shared} {h₀ : Heap} {φ : List Addr} {O : Ost} {X pre post : List (Addr × Obj)} {L : Addr} {m : Str → Option Value} {env : Env} {Γ : Cx} {l : Locs}
theorem turnW {I : Addr} {c : Obj} {fp : List Addr} {n i : Nat} {Pi : Nat → Value → Prop} {St : Nat → Heap → Prop} {Q : Option Value → Shared → Prop} (W : Walks prog w A I fp [I] n Pi St) (hst : St i s.heap) (hi : i < n)
    (R : Rel w.params h₀ φ O (pre ++ (I, c) :: post) L m s.heap) (ho : ∀ h, St (i + 1) h → ∃ c', h.get? I = some c')
    (H : ∀ u h' tk c', Pi i u → St (i + 1) h' → Rel w.params h₀ φ O (pre ++ (I, c') :: post) L m h' → Q (some u) { s with heap := h', toks := tk }) : wpAny (model prog w) A (pyNext (.ref I)) Q E s :=
  W.item i s Q E hi hst fun v h' tk hP st' hk => by
    obtain ⟨c', hc⟩ := ho h' st'
    exact H v h' tk c' hP st' (R.updK (fun b o hb e => hk b o (by simpa using hb) e) hc)
theorem doneW {I : Addr} {c : Obj} {fp : List Addr} {n : Nat} {Pi : Nat → Value → Prop} {St : Nat → Heap → Prop} {Q : Option Value → Shared → Prop} (W : Walks prog w A I fp [I] n Pi St) (hst : St n s.heap)
    (R : Rel w.params h₀ φ O (pre ++ (I, c) :: post) L m s.heap) (H : ∀ h' tk, Rel w.params h₀ φ O (pre ++ post) L m h' → Q none { s with heap := h', toks := tk }) : wpAny (model prog w) A (pyNext (.ref I)) Q E s :=
  W.done s Q E hst fun h' tk hk => H h' tk (R.gone fun b o hb e => hk b o (by simpa using hb) e)
theorem seqTurn {Ki : ItK} {I : Addr} {c : Obj} {i : Nat} {Q : Option Value → Shared → Prop} {fp : List Addr} {xs : List AV} {vs : List Value} {St : Nat → Heap → Prop} (W : Walks prog w A I fp [I] vs.toArray.size (fun i v => vs.toArray[i]? = some v) St) (hst : St i s.heap)
    (hx : Ki.items = xs) (f : Fa (RV φ) xs vs) (R : Rel w.params h₀ φ O (pre ++ (I, c) :: post) L m s.heap) (ho : ∀ h, St (i + 1) h → ∃ c', h.get? I = some c') (hit : ∀ h, St (i + 1) h → ItAt tb Ki φ I (i + 1) h)
    (hdone : Ki.items.length = i → ∀ h' tk, Rel w.params h₀ φ O (pre ++ post) L m h' → Q none { s with heap := h', toks := tk })
    (hitem : ∀ v, Ki.items[i]? = some v → ∀ u h' tk c', RV φ v u → ItAt tb Ki φ I (i + 1) h' → Rel w.params h₀ φ O (pre ++ (I, c') :: post) L m h' → Q (some u) { s with heap := h', toks := tk })
    (hle : i ≤ Ki.items.length) : wpAny (model prog w) A (pyNext (.ref I)) Q E s := by
  subst hx
  have hlen : Ki.items.length = vs.toArray.size := f.length
  rcases Nat.lt_or_ge i Ki.items.length with q | q
  · have hx : Ki.items[i]? = some Ki.items[i] := List.getElem?_eq_getElem q
    obtain ⟨z, hz, rz⟩ := f.get hx
    refine turnW W hst (hlen ▸ q) R ho fun u h' tk c' hu st' R' => ?_
    have hu : vs[i]? = some u := by rw [← hu]; exact List.getElem?_toArray.symm
    cases hz.symm.trans hu
    exact hitem _ hx _ _ _ _ rz (hit _ st') R'
  · have q' : Ki.items.length = i := Nat.le_antisymm q hle
    exact doneW W (hlen ▸ q' ▸ hst) R (hdone q')
theorem turn_sound (B : Base prog w h₀ tb K) (hh : A.handled = none) {Ki : ItK} {I : Addr} {c : Obj} {i : Nat} {Q : Option Value → Shared → Prop} (it : ItAt tb Ki φ I i s.heap) (R : Rel w.params h₀ φ O (pre ++ (I, c) :: post) L m s.heap) (st : Ki.still O)
    (hdone : Ki.items.length = i → ∀ h' tk, Rel w.params h₀ φ O (pre ++ post) L m h' → Q none { s with heap := h', toks := tk })
    (hitem : ∀ v, Ki.items[i]? = some v → ∀ u h' tk c', RV φ v u → ItAt tb Ki φ I (i + 1) h' → Rel w.params h₀ φ O (pre ++ (I, c') :: post) L m h' → Q (some u) { s with heap := h', toks := tk })
    (hle : i ≤ Ki.items.length) : wpAny (model prog w) A (pyNext (.ref I)) Q E s := by
  cases Ki with
  | led j o xs =>
    obtain ⟨ax, hax, h2⟩ := it
    cases o with
    | list ys =>
      obtain ⟨rfl, hit⟩ := h2
      obtain ⟨a', vs, e, hi', l, f⟩ := R.isList (show O[j]? = some (.list ys) from st) (.obj hax)
      cases e
      exact seqTurn (Ki := .led j (.list ys) ys) (Walks.list hh I ax (R.apart hax) vs.toArray) ⟨hit, l⟩ rfl f R (fun h x => let ⟨o, ho, _⟩ := x.1; ⟨o, ho⟩) (fun h x => ⟨ax, hax, rfl, x.1⟩) hdone hitem hle
    | tuple ys =>
      obtain ⟨rfl, hit⟩ := h2
      obtain ⟨a', vs, e, hi', l, f⟩ := R.isTuple (show O[j]? = some (.tuple ys) from st) (.obj hax)
      cases e
      exact seqTurn (Ki := .led j (.tuple ys) ys) (Walks.tuple hh I ax (R.apart hax) vs.toArray) ⟨hit, l⟩ rfl f R (fun h x => let ⟨o, ho, _⟩ := x.1; ⟨o, ho⟩) (fun h x => ⟨ax, hax, rfl, x.1⟩) hdone hitem hle
    | _ => exact h2.elim
  | glob a xs =>
    obtain ⟨e, hit⟩ := it
    obtain ⟨vs, f, l⟩ := B.seqAt (φ := φ) R.keep e
    have hne : a ≠ I := by
      rintro rfl
      have := (R.raw (p := (a, c)) (List.mem_append_right _ (List.mem_cons_self ..))).2.2
      obtain ⟨vs', f', l'⟩ := B.seqs a _ _ e
      obtain ⟨o, ho, _⟩ : h₀.IsTuple a vs'.toArray := l'
      rw [ho] at this; cases this
    exact seqTurn (Ki := .glob a xs) (Walks.tuple hh I a hne vs.toArray) ⟨hit, l⟩ rfl f R (fun h x => let ⟨o, ho, _⟩ := x.1; ⟨o, ho⟩) (fun h x => ⟨e, x.1⟩) hdone hitem hle
  | bytes b =>
    obtain ⟨d, t, rfl, hit⟩ := it
    have hlen : (ItK.bytes (KBw.bInts d)).items.length = d.size := by simp [ItK.items, KBw.ints_length]
    rcases Nat.lt_or_ge i d.size with q | q
    · refine turnW (KBw.walks hh I d t) hit q R (fun h x => let ⟨o, ho, _⟩ := x; ⟨o, ho⟩) fun u h' tk c' hu st' R' => ?_
      obtain ⟨c1, u1, hc1, rfl⟩ := hu
      refine hitem (.int (c1.toNat : Int)) ?_ _ _ _ _ (.int _ _) ⟨d, t, rfl, st'⟩ R'
      simp [ItK.items, KBw.ints_get hc1]
    · have q' : d.size = i := Nat.le_antisymm q (by rw [hlen] at hle; exact hle)
      exact doneW (KBw.walks hh I d t) (by rw [q']; exact hit) R (hdone (hlen.trans q'))
  | str x =>
    obtain ⟨ty, t, hty, hit⟩ := it
    have hlen : (ItK.str x).items.length = x.cps.size := by simp [ItK.items]
    have hat : ∀ u, SignAt x i u → ∃ v, (ItK.str x).items[i]? = some v ∧ RV φ v u := fun u hu => by
      obtain ⟨c1, u1, hc1, rfl⟩ := hu
      exact ⟨.str ⟨#[c1]⟩, by simp [ItK.items, hc1], .str _ _⟩
    rcases hty with rfl | rfl
    · rcases Nat.lt_or_ge i x.cps.size with q | q
      · refine turnW (Walks.strAscii hh I x t) hit q R (fun h x => let ⟨o, ho, _⟩ := x; ⟨o, ho⟩) fun u h' tk c' hu st' R' => ?_
        obtain ⟨v, hv, rv⟩ := hat u hu
        exact hitem v hv _ _ _ _ rv ⟨_, t, .inl rfl, st'⟩ R'
      · have q' : x.cps.size = i := Nat.le_antisymm q (by rw [hlen] at hle; exact hle)
        exact doneW (Walks.strAscii hh I x t) (by rw [q']; exact hit) R (hdone (hlen.trans q'))
    · rcases Nat.lt_or_ge i x.cps.size with q | q
      · refine turnW (Walks.strWide hh I x t) hit q R (fun h x => let ⟨o, ho, _⟩ := x; ⟨o, ho⟩) fun u h' tk c' hu st' R' => ?_
        obtain ⟨v, hv, rv⟩ := hat u hu
        exact hitem v hv _ _ _ _ rv ⟨_, t, .inr rfl, st'⟩ R'
      · have q' : x.cps.size = i := Nat.le_antisymm q (by rw [hlen] at hle; exact hle)
        exact doneW (Walks.strWide hh I x t) (by rw [q']; exact hit) R (hdone (hlen.trans q'))
  | range n =>
    have hit : IsRangeIter s.heap I (0 + (i : Nat) * 1) ((n.toNat : Int) - (i : Nat)) 1 := it
    have hlen : (ItK.range n).items.length = n.toNat := by simp [ItK.items]
    rcases Nat.lt_or_ge i n.toNat with q | q
    · refine turnW (Walks.range hh I 0 1 n.toNat) hit q R (fun h x => ⟨_, x⟩) fun u h' tk c' hu st' R' => ?_
      obtain ⟨t, rfl⟩ := hu
      refine hitem (.int (i : Int)) (by simp [ItK.items, q]) _ _ _ _ ?_ st' R'
      have e : (0 + (i : Int) * 1) = (i : Int) := by omega
      rw [e]; exact .int _ _
    · have q' : n.toNat = i := Nat.le_antisymm q (by rw [hlen] at hle; exact hle)
      exact doneW (Walks.range hh I 0 1 n.toNat) (by subst q'; exact hit) R (hdone (hlen.trans q'))
  | enumB b => exact it.elim
theorem iterV_sound (B : Base prog w h₀ tb K) {D : Rs → Prop} {v : AV} {u : Value} {k : ItK → Tr} {Q : Value → Shared → Prop} (h : (iterV tb v O k).holds D) (R : Rel w.params h₀ φ O X L m s.heap) (rv : RV φ v u)
    (H : ∀ Ki c, (k Ki).holds D → Ki.still O → c.isFreed = false → ItAt tb Ki φ s.heap.objs.size 0 (s.heap.push c) → Rel w.params h₀ φ O ((s.heap.objs.size, c) :: X) L m (s.heap.push c) → Q (.ref s.heap.objs.size) { s with heap := s.heap.push c }) :
    wpAny (model prog w) A (pyIter u) Q E s := by
  have px : ∀ c : Obj, c.isFreed = false → Rel w.params h₀ φ O ((s.heap.objs.size, c) :: X) L m (s.heap.push c) := fun c hf => R.pushX (fun _ _ e => Heap.get?_push_of_some _ e) (Nat.le_refl _) (Heap.get?_push_size _ hf)
  cases v with
  | obj j =>
    obtain ⟨o, e, h⟩ := h
    cases o with
    | list xs =>
      obtain ⟨a, vs, rfl, hi, l, f⟩ := R.isList e rv
      exact wpAny_pyIter_list l (H _ _ h e rfl ⟨a, hi, rfl, _, Heap.get?_push_size _ rfl, rfl, rfl⟩ (px _ rfl))
    | tuple xs =>
      obtain ⟨a, vs, rfl, hi, l, f⟩ := R.isTuple e rv
      exact wpAny_pyIter_tuple l (H _ _ h e rfl ⟨a, hi, rfl, _, Heap.get?_push_size _ rfl, rfl, rfl⟩ (px _ rfl))
    | _ => exact h.elim
  | val v =>
    obtain ⟨a, c, xs, rfl, e, h⟩ := refSeq_of (tb := tb) (v := v) (k := fun a c xs => ifT (!c) (k (.glob a xs))) h
    obtain ⟨hc, h⟩ := ifT_of h
    cases c with
    | true => cases hc
    | false =>
      cases rv.val_inv
      obtain ⟨vs, f, l⟩ := B.seqAt (φ := φ) R.keep e
      exact wpAny_pyIter_tuple (show s.heap.IsTuple a vs.toArray from l) (H _ _ h trivial rfl ⟨e, _, Heap.get?_push_size _ rfl, rfl, rfl⟩ (px _ rfl))
  | bytes b =>
    obtain ⟨c, t, rfl, e⟩ := rv.bytes_inv
    exact KBw.pyIter_bytes (H _ _ h trivial rfl ⟨_, t, e, _, Heap.get?_push_size _ rfl, rfl, rfl⟩ (px _ rfl))
  | str x =>
    obtain ⟨t, rfl⟩ := rv.str_inv
    cases ha : x.cps.all (· < 128)
    · exact wpAny_pyIter_wide ha (H _ _ h trivial rfl ⟨_, t, .inr rfl, _, Heap.get?_push_size _ rfl, rfl, rfl⟩ (px _ rfl))
    · exact wpAny_pyIter_ascii ha (H _ _ h trivial rfl ⟨_, t, .inl rfl, _, Heap.get?_push_size _ rfl, rfl, rfl⟩ (px _ rfl))
  | _ => exact h.elim
end
end Vm
end
section
namespace Vm
open PySem PySem.W PyProof.Rows PySem.Calls PySem.SeqAt
noncomputable def closL (cells : List (Str × Addr)) : List (Str × NameKind) → List (Str × Addr) → List (Str × Addr)
  | [], acc => acc
  | p :: r, acc => (match decide (p.2 = .free) with
    | true => (match cells.lookup p.1 with
      | some c => closL cells r ((p.1, c) :: acc)
      | none => closL cells r acc)
    | false => closL cells r acc)
theorem closL_free {cells : List (Str × Addr)} {p : Str × NameKind} {r : List (Str × NameKind)} {acc : List (Str × Addr)} {c : Addr} (h : p.2 = .free) (hc : cells.lookup p.1 = some c) : closL cells (p :: r) acc = closL cells r ((p.1, c) :: acc) := by
  rw [closL, decide_eq_true h]
  simp only [hc]
theorem closL_none {cells : List (Str × Addr)} {p : Str × NameKind} {r : List (Str × NameKind)} {acc : List (Str × Addr)} (h : ¬ (p.2 = .free ∧ ∃ c, cells.lookup p.1 = some c)) : closL cells (p :: r) acc = closL cells r acc := by
  rw [closL]
  cases hd : decide (p.2 = .free) with
  | false => rfl
  | true =>
    cases hc : cells.lookup p.1 with
    | none => rfl
    | some c => exact (h ⟨of_decide_eq_true hd, c, hc⟩).elim
theorem closure_go {env : Env} (names : List (Str × NameKind)) : ∀ (acc : List (Str × Addr)), (∀ p ∈ names, p.2 = .free → (env.cells.lookup p.1).isSome = true) →
    (forIn names acc fun (x : Str × NameKind) cs => (do
      if (x.2 == NameKind.free) = true then do
        let __do_lift ← cellOf env x.1
        pure (ForInStep.yield ((x.1, __do_lift) :: cs))
      else pure (ForInStep.yield cs) : Sem (ForInStep (List (Str × Addr))))) = pure (closL env.cells names acc) := by
  induction names with
  | nil => intro acc _; rw [List.forIn_nil]; rfl
  | cons p r ih =>
    intro acc h
    have hr := fun q hq => h q (List.mem_cons_of_mem _ hq)
    rw [List.forIn_cons]
    by_cases hk : p.2 = .free
    · obtain ⟨c, hc⟩ := Option.isSome_iff_exists.mp (h p List.mem_cons_self hk)
      rw [closL_free hk hc, if_pos (beq_iff_eq.mpr hk), show cellOf env p.1 = pure c by unfold cellOf; rw [hc]]
      exact ih _ hr
    · rw [closL_none (fun q => hk q.1), if_neg (fun q => hk (beq_iff_eq.mp q))]
      exact ih _ hr
theorem closureFor_eq {scope : Scope} {env : Env} (h : ∀ p ∈ scope.names, p.2 = .free → (env.cells.lookup p.1).isSome = true) : closureFor scope env = pure (closL env.cells scope.names []) := by
  have := closure_go (env := env) scope.names [] h
  unfold closureFor
  rw [bind_pure]
  exact this
theorem closL_other {cells : List (Str × Addr)} {y : Str} (names : List (Str × NameKind)) : ∀ (acc : List (Str × Addr)), y ∉ names.map (·.1) → (closL cells names acc).lookup y = acc.lookup y := by
  induction names with
  | nil => exact fun _ _ => rfl
  | cons p r ih =>
    intro acc h
    rw [List.map_cons, List.mem_cons, not_or] at h
    by_cases hc : p.2 = .free ∧ ∃ c, cells.lookup p.1 = some c
    · obtain ⟨h1, c, h2⟩ := hc
      rw [closL_free h1 h2, ih _ h.2, List.lookup_cons, beq_eq_false_iff_ne.mpr h.1]
    · rw [closL_none hc, ih _ h.2]
theorem closL_lookup {cells : List (Str × Addr)} {y : Str} {c : Addr} (hc : cells.lookup y = some c) (names : List (Str × NameKind)) : ∀ (acc : List (Str × Addr)), (names.map (·.1)).Nodup → names.lookup y = some .free → (closL cells names acc).lookup y = some c := by
  induction names with
  | nil => exact fun _ _ h => nomatch h
  | cons p r ih =>
    intro acc nd h
    obtain ⟨n, k⟩ := p
    obtain ⟨n1, n2⟩ := List.nodup_cons.mp nd
    rw [List.lookup_cons] at h
    cases hb : y == n with
    | true =>
      rw [hb] at h
      cases h
      cases eq_of_beq hb
      rw [closL_free rfl hc, closL_other r _ n1, List.lookup_cons, hb]
    | false =>
      rw [hb] at h
      by_cases hq : k = .free ∧ ∃ c, cells.lookup n = some c
      · obtain ⟨h1, c, h2⟩ := hq
        rw [closL_free h1 h2]; exact ih _ n2 h
      · rw [closL_none hq]; exact ih _ n2 h
theorem mem_lookup_nodup {α : Type} {x : Str} {v : α} {l : List (Str × α)} : (l.map (·.1)).Nodup → (x, v) ∈ l → l.lookup x = some v := by
  induction l with
  | nil => exact fun _ h => nomatch h
  | cons p r ih =>
    intro nd h
    obtain ⟨y, w⟩ := p
    obtain ⟨n1, n2⟩ := List.nodup_cons.mp nd
    rw [List.lookup_cons]
    rcases List.mem_cons.mp h with e | h
    · cases e; rw [beq_self_eq_true]
    · rw [show (x == y) = false from beq_eq_false_iff_ne.mpr fun e => n1 (e ▸ List.mem_map_of_mem (f := (·.1)) h)]
      exact ih n2 h
structure CompOk (Γ : Cx) (l : Locs) (x : Str) (names : List (Str × NameKind)) : Prop where
  hx : names.lookup x = some .local
  dot : l.lookup (".0" : Str) = none
  dbg : names.lookup ("__debug__" : Str) = none
  nd : (names.map (·.1)).Nodup
  loc : ∀ p ∈ names, p.2 = .local → p.1 = x ∨ p.1 = (".0" : Str)
  free : ∀ p ∈ names, p.2 = .free → Γ.names.lookup p.1 = some .cell ∧ ∃ v, l.lookup p.1 = some v
  kinds : ∀ p ∈ names, p.2 = .local ∨ p.2 = .free ∨ p.2 = .globalImplicit
theorem compOk_is {Γ : Cx} {l : Locs} {x : Str} {names : List (Str × NameKind)} (h : compOk Γ l x names = true) : CompOk Γ l x names := by
  unfold compOk at h
  simp only [Bool.and_eq_true, decide_eq_true_eq, List.all_eq_true, Option.isNone_iff_eq_none] at h
  obtain ⟨⟨⟨⟨h1, h2⟩, h3⟩, h4⟩, h5⟩ := h
  have h6 : ∀ p ∈ names, (p.2 = .local ∧ (p.1 = x ∨ p.1 = (".0" : Str))) ∨ (p.2 = .free ∧ Γ.names.lookup p.1 = some .cell ∧ ∃ v, l.lookup p.1 = some v) ∨ p.2 = .globalImplicit := fun p hp => by
    have := h5 p hp
    unfold compOk1 at this
    simp only [Bool.or_eq_true, Bool.and_eq_true, decide_eq_true_eq, beq_iff_eq, Option.isSome_iff_exists] at this
    rcases this with (q | q) | q
    · exact .inl q
    · exact .inr (.inl ⟨q.1.1, q.1.2, q.2⟩)
    · exact .inr (.inr q)
  refine ⟨h1, h2, h3, h4, fun p hp e => ?_, fun p hp e => ?_, fun p hp => ?_⟩
  · rcases h6 p hp with q | q | q
    · exact q.2
    · rw [e] at q; cases q.1
    · rw [e] at q; cases q
  · rcases h6 p hp with q | q | q
    · rw [e] at q; cases q.1
    · exact q.2
    · rw [e] at q; cases q
  · rcases h6 p hp with q | q | q
    · exact .inl q.1
    · exact .inr (.inl q.1)
    · exact .inr (.inr q)
theorem relabel_names {env : Env} {Γ : Cx} {sc : Scope} (hk : env.scope.kind = .function) (hn : ∀ y, env.kindOf y = Γ.names.lookup y) : (relabel sc env).names = relabelNames Γ sc.names := by
  unfold relabel relabelNames
  simp only
  refine List.map_congr_left fun p hp => ?_
  obtain ⟨n, k⟩ := p
  simp only [hk, hn, relK]
  cases k <;> try rfl
  cases h : Γ.names.lookup n with
  | none => rfl
  | some k' => cases k' <;> rfl
theorem map_lookup {α β : Type} (f : Str × α → β) {y : Str} {l : List (Str × α)} : (l.map fun p => (p.1, f p)).lookup y = (l.lookup y).map fun v => f (y, v) := by
  induction l with
  | nil => rfl
  | cons p r ih =>
    obtain ⟨x, v⟩ := p
    rw [List.map_cons, List.lookup_cons, List.lookup_cons]
    cases hb : y == x with
    | true => cases eq_of_beq hb; rfl
    | false => exact ih
theorem relabel_lookup {Γ : Cx} {y : Str} {names : List (Str × NameKind)} {k : NameKind} (h : (relabelNames Γ names).lookup y = some k) : names.lookup y = some k ∨ k = .cell ∧ names.lookup y = some .free ∧ Γ.names.lookup y = some .cell := by
  unfold relabelNames at h
  rw [map_lookup] at h
  obtain ⟨k0, h0, h1⟩ := Option.map_eq_some_iff.mp h
  unfold relK at h1
  cases hd : decide (k0 = .free) && decide (Γ.names.lookup y = some .cell) with
  | false => rw [hd] at h1; exact .inl (h0.trans (congrArg some h1))
  | true =>
    rw [hd] at h1
    obtain ⟨a, b⟩ := Bool.and_eq_true_iff.mp hd
    cases of_decide_eq_true a
    exact .inr ⟨h1.symm, h0, of_decide_eq_true b⟩
theorem comp_env {env : Env} {L : Addr} {m : Str → Option Value} {X : List (Addr × Obj)} {φ : List Addr} {Γ : Cx} {l : Locs} {x : Str} {sc : Scope} {C : Addr} {oC : Obj} {v : AV} {u : Value}
    (V : EnvOk env L m X φ Γ l) (hk : sc.kind = .function) (ok : CompOk Γ l x sc.names) (hC : (C, oC) ∈ X) (hn : NsObj oC x u) (rv : RV φ v u) :
    EnvOk (compEnvC sc (closL env.cells sc.names []) C env) L m X φ ⟨relabelNames Γ sc.names⟩ ((x, v) :: l) := by
  have hkind : ∀ y, env.kindOf y = Γ.names.lookup y := fun y => by show env.scope.names.lookup y = _; rw [V.names]
  refine ⟨hk, V.globals, V.builtins, relabel_names V.kind hkind, ?_, fun y w hy hl => ?_, fun y w hy hc => ?_⟩
  · show (relabelNames Γ sc.names).lookup _ = none
    unfold relabelNames
    rw [map_lookup, ok.dbg]; rfl
  · rcases relabel_lookup hl with hloc | ⟨e, _⟩
    · rw [List.lookup_cons] at hy
      cases hb : y == x with
      | true =>
        rw [hb] at hy
        cases hy
        cases eq_of_beq hb
        exact ⟨u, rv, .inr ⟨oC, hC, hn⟩⟩
      | false =>
        rw [hb] at hy
        rcases ok.loc (y, .local) (mem_of_lookup hloc) rfl with e | e
        · exact absurd e (beq_eq_false_iff_ne.mp hb)
        · rw [show y = ".0" from e, ok.dot] at hy; cases hy
    · cases e
  · rcases relabel_lookup hc with e | ⟨_, hf⟩
    · rcases ok.kinds (y, .cell) (mem_of_lookup e) with q | q | q <;> cases q
    · have hb : (y == x) = false := beq_eq_false_iff_ne.mpr fun e => by
        have h1 := hf.1
        rw [e, ok.hx] at h1
        cases h1
      rw [List.lookup_cons, hb] at hy
      obtain ⟨u', c, o, ru, hc', ho, hd⟩ := V.cells y w hy hf.2
      exact ⟨u', c, o, ru, closL_lookup hc' _ _ ok.nd hf.1, ho, hd⟩
section
variable {prog : Program} {w : World} {tb : Tb} {K : Frag} {r : Rec} {n : Nat} {A : Around} {E : Value → Shared → Prop} {s : Shared} {h₀ : Heap} {φ : List Addr} {O : Ost} {X pre post : List (Addr × Obj)} {L : Addr} {m : Str → Option Value} {env : Env} {Γ : Cx} {l : Locs}
noncomputable def IsNs (o : Obj) : Prop := ∃ es ep, o.data = .dict es ep ∧ StrKeys es
theorem iter_self {Ki : ItK} {I : Addr} {i : Nat} {Q : Value → Shared → Prop} (hh : A.handled = none) (it : ItAt tb Ki φ I i s.heap) (h : Q (.ref I) s) : wpAny (model prog w) A (pyIter (.ref I)) Q E s := by
  cases Ki with
  | led j o xs =>
    obtain ⟨ax, h1, h2⟩ := it
    cases o with
    | list ys => exact wpAny_pyIter_listiter h2.2 h
    | tuple ys => exact wpAny_pyIter_tupleiter h2.2 h
    | _ => exact h2.elim
  | glob a xs => exact wpAny_pyIter_tupleiter it.2 h
  | bytes b => obtain ⟨c, t, _, h2⟩ := it; exact KBw.pyIter_self h2 h
  | str x =>
    obtain ⟨ty, t, h1, h2⟩ := it
    rcases h1 with rfl | rfl
    · exact wpAny_pyIter_striter_ascii h2 h
    · exact wpAny_pyIter_striter_wide h2 h
  | range n => exact (Walks.range hh I 0 1 n.toNat).self i s Q E it h
  | enumB b => exact it.elim
theorem tests_sound (S : Sound prog w h₀ r n) (hr : Room A n) {D : Rs → Prop} {ifs : List Expr} {k : Bool → Ost → Tr} {Q : Bool → Shared → Prop} (h : (testsT r Γ l ifs O k).holds D) (V : EnvOk env L m X φ Γ l) (R : Rel w.params h₀ φ O X L m s.heap) (H : PostBT w.params h₀ φ X L m D k Q s) :
    wpG (model prog w) A (forIn ifs true fun c r => if r = true then do let ok ← isTrue c env (eval c env); pure (ForInStep.yield ok) else pure (ForInStep.yield r)) Q E s := by
  cases ifs with
  | nil => rw [List.forIn_nil]; exact wpG_pure (H h R (List.prefix_refl _))
  | cons e es => cases es with
    | nil =>
      rw [List.forIn_cons, if_pos rfl]
      refine wpG_bind (wpG_bind (S.T (k := k) h hr V R fun c O1 φ1 h1 tk1 hk R1 p1 => wpG_pure ?_))
      exact wpG_pure (H hk R1 p1)
    | cons e2 es => exact h.elim
noncomputable abbrev listO (us : List Value) (n : Nat) : Obj := { cls := .type "list", data := .seq us.toArray n }
inductive CInv (w : World) (tb : Tb) (h₀ : Heap) (X : List (Addr × Obj)) (L : Addr) (m : Str → Option Value) (Ki : ItK) (φ : List Addr) (C D I : Addr) (step : List AV → List AV → Ost → Prop) (s : Shared) : Nat → Shared → Prop
  | mk {i : Nat} {vs acc : List AV} {us : List Value} {φ' : List Addr} {O' : Ost} {h' : Heap} {tk : Tok} {oC cI : Obj} {nD : Nat} : Ki.items.drop i = vs → i ≤ Ki.items.length → step vs acc O' → φ <+: φ' → ItAt tb Ki φ' I i h' →
    Rel w.params h₀ φ' O' ((C, oC) :: (D, listO us nD) :: (I, cI) :: X) L m h' → Fa (RV φ') acc us → IsNs oC → CInv w tb h₀ X L m Ki φ C D I step s (vs.length + 1) { s with heap := h', toks := tk }
theorem EnvOk.more {env : Env} {L : Addr} {m : Str → Option Value} {X Y : List (Addr × Obj)} {φ : List Addr} {Γ : Cx} {l : Locs} (V : EnvOk env L m X φ Γ l) (sub : ∀ p ∈ X, p ∈ Y) : EnvOk env L m Y φ Γ l :=
  ⟨V.kind, V.globals, V.builtins, V.names, V.nodbg, fun y v a b => let ⟨u, ru, q⟩ := V.locs y v a b; ⟨u, ru, q.imp id fun ⟨o, ho, hn⟩ => ⟨o, sub _ ho, hn⟩⟩,
    fun y v a b => let ⟨u, c, o, ru, hc, ho, hd⟩ := V.cells y v a b; ⟨u, c, o, ru, hc, sub _ ho, hd⟩⟩
theorem ItAt.stays {Ki : ItK} {φ : List Addr} {P : Params} {I : Addr} {i : Nat} {h h' : Heap} {X Y : List (Addr × Obj)} {O O' : Ost} {φ1 φ2 : List Addr} {L L' : Addr} {m m' : Str → Option Value} {c : Obj} (x : ItAt tb Ki φ I i h)
    (R : Rel P h₀ φ1 O X L m h) (R' : Rel P h₀ φ2 O' Y L' m' h') (h1 : (I, c) ∈ X) (h2 : (I, c) ∈ Y) : ItAt tb Ki φ I i h' := x.at_ fun o e => by
  have e1 := (R.raw h1).1
  rw [e] at e1
  cases e1
  exact (R'.raw h2).1
theorem mem3 {α : Type} {a b c : α} {l : List α} : c ∈ a :: b :: c :: l := .tail _ (.tail _ (.head _))
theorem sub3 {α : Type} {a b c : α} {l : List α} : ∀ p ∈ l, p ∈ a :: b :: c :: l := fun _ h => .tail _ (.tail _ (.tail _ h))
theorem comp_loop (B : Base prog w h₀ tb K) (S : Sound prog w h₀ r n) (hr : Room A n) {elt iter : Expr} {x : Str} {px : Pos} {ifs : List Expr} {sc : Scope} {pos : Pos} {Dn : Rs → Prop} {k : List AV → Ost → Tr} {C D I : Addr} {Ki : ItK} {RR : Result → Shared → Prop} {oC c0 : Obj}
    (hL : (compL r ⟨relabelNames Γ sc.names⟩ l x ifs elt Ki Ki.items [] O k).holds Dn) (hk : sc.kind = .function) (ok : CompOk Γ l x sc.names) (V : EnvOk env L m X φ Γ l) (R : Rel w.params h₀ φ O ((C, oC) :: (D, listO [] 0) :: (I, c0) :: X) L m s.heap)
    (it : ItAt tb Ki φ I 0 s.heap) (ns : IsNs oC)
    (H : ∀ acc us O' φ' h' tk oC n, (k acc O').holds Dn → Rel w.params h₀ φ' O' ((C, oC) :: (D, listO us n) :: X) L m h' → φ <+: φ' → Fa (RV φ') acc us → IsNs oC → RR (.ok .next) { s with heap := h', toks := tk }) :
    codeG (model prog w) A (.compLoop (.ListComp elt [⟨.Name x px, iter, ifs, 0⟩] sc pos) 0 (.ref I) (.ref D) (compEnvC sc (closL env.cells sc.names []) C env)) RR s := by
  have kindx : Env.kindOf (compEnvC sc (closL env.cells sc.names []) C env) x = some .local := lookup_relabel_local ok.hx
  refine codeG_compLoop_tests (CInv w tb h₀ X L m Ki φ C D I (fun vs acc O' => (compL r ⟨relabelNames Γ sc.names⟩ l x ifs elt Ki vs acc O' k).holds Dn) s) ?_ (Ki.items.length + 1)
    (.mk (s := s) (h' := s.heap) (tk := s.toks) rfl (Nat.zero_le _) hL (List.prefix_refl _) it R .nil ns)
  rintro q s' ⟨hvs, hile, hL, pp, itI, RI, fa, esn, epn, hdn, hkn⟩
  rename_i i vs acc us φ' O' h' tk oC' cI nD
  have still : Ki.still O' := by
    cases vs with
    | nil => exact hL.1
    | cons v vs => exact hL.1.1
  refine wpG_of (turn_sound (pre := [(C, oC'), (D, _)]) (post := X) B hr.handled itI RI still (fun hdone h2 tk2 R2 => ?_) (fun v hv u2 h2 tk2 cI2 rv2 it2 R2 => ?_) hile)
  · cases (show vs = [] by rw [← hvs, ← hdone, List.drop_length])
    exact H acc us O' φ' h2 tk2 oC' nD hL.2 R2 pp fa ⟨esn, epn, hdn, hkn⟩
  · obtain ⟨hlt, hv'⟩ := List.getElem?_eq_some_iff.mp hv
    cases (show vs = v :: Ki.items.drop (i + 1) by rw [← hvs, List.drop_eq_getElem_cons hlt, hv'])
    obtain ⟨⟨_, hacc⟩, hL⟩ := hL
    have nsC : h2.Ns C (fun y => nsFind esn y) := ⟨oC', esn, epn, (R2.raw (p := (C, oC')) (.head _)).1, hdn, hkn, fun _ => rfl⟩
    refine wpG_of (wpAny_assign_Name (wpAny_storeName_local (env := compEnvC sc (closL env.cells sc.names []) C env) kindx nsC (fun h4 hn4 hs4 => ?_) (by rw [show (compEnvC sc (closL env.cells sc.names []) C env).scope.kind = .function from hk]; rfl)))
    obtain ⟨oC2, es2, ep2, hC2, hd2, hk2', hm2⟩ := hn4
    have R5 : Rel w.params h₀ φ' O' ((C, oC2) :: (D, listO us nD) :: (I, cI2) :: X) L m h4 := R2.updK (pre := []) (fun b o hb e => hs4.extBut b o hb e) hC2
    have it4 := it2.stays (P := w.params) R2 R5 mem3 mem3
    have VC := comp_env (X := (C, oC2) :: (D, listO us nD) :: (I, cI2) :: X) (x := x) (C := C) ((V.mono pp).more sub3) hk ok (List.mem_cons_self) (v := v) (u := u2) ⟨es2, ep2, hd2, hk2', by rw [hm2]; exact if_pos rfl⟩ rv2
    refine tests_sound S hr hL VC R5 fun c O6 φ6 h6 tk6 hk6 R6 p6 => ?_
    have it6 := (it4.stays R5 R6 mem3 mem3).mono p6
    rcases br_elim hk6 with ⟨rfl, hk6⟩ | ⟨rfl, hk6⟩
    · rw [if_pos rfl]
      refine S.E hk6 hr (VC.mono p6) R6 fun wv u7 O7 φ7 h7 tk7 hk7 R7 p7 rv7 => ?_
      have hD := (R7.raw (p := (D, listO us nD)) (.tail _ (.head _))).1
      refine wpG_of (wpAny_list_append_plain (s := { s with heap := h7, toks := tk7 }) (hsz := by rw [List.size_toArray, ← fa.length, sizeLine_eq]; omega) ⟨nD, hD⟩ fun h8 hl8 hs8 => ?_)
      obtain ⟨n8, hD8⟩ := hl8
      rw [show us.toArray.push u7 = (us ++ [u7]).toArray from List.push_toArray ..] at hD8
      have R8 : Rel w.params h₀ φ7 O7 ((C, oC2) :: (D, listO (us ++ [u7]) n8) :: (I, cI2) :: X) L m h8 := R7.updK (pre := [(C, oC2)]) (fun b o hb e => hs8.extBut b o hb e) hD8
      exact ⟨_, Nat.lt_succ_self _, .mk rfl hlt hk7 ((pp.trans p6).trans p7) ((it6.mono p7).stays R6 R8 mem3 mem3) R8 ((fa.mono fun _ _ q => q.mono (p6.trans p7)).append (.cons rv7 .nil)) ⟨es2, ep2, hd2, hk2'⟩⟩
    · rw [if_neg Bool.false_ne_true]
      exact ⟨_, Nat.lt_succ_self _, .mk rfl hlt hk6 (pp.trans p6) it6 R6 (fa.mono fun _ _ q => q.mono p6) ⟨es2, ep2, hd2, hk2'⟩⟩
theorem comp_made {P : Params} {Ki : ItK} {I : Addr} {c0 c1 : Obj} {h2 h3 : Heap} {mm : Str → Option Value} (R : Rel P h₀ φ O ((I, c0) :: X) L m h2) (it : ItAt tb Ki φ I 0 h2) (hns : h3.Ns (h2.push (listO [] 0)).objs.size mm)
    (hsb : Heap.SameBut (h2.push (listO [] 0)).objs.size ((h2.push (listO [] 0)).push c1) h3) :
    ∃ oC, Rel P h₀ φ O (((h2.push (listO [] 0)).objs.size, oC) :: (h2.objs.size, listO [] 0) :: (I, c0) :: X) L m h3 ∧ IsNs oC ∧ ItAt tb Ki φ I 0 h3 := by
  have k : ∀ b o, (h2.push (listO [] 0)).get? b = some o → h3.get? b = some o := fun b o e => hsb.extBut b o (Nat.ne_of_lt (Heap.lt_size e)) (Heap.get?_push_of_some _ e)
  obtain ⟨oC, es, ep, ho, hd, hk, _⟩ := hns
  exact ⟨oC, (R.pushX (fun _ _ e => Heap.get?_push_of_some _ e) (Nat.le_refl _) (Heap.get?_push_size _ rfl)).pushX k (Nat.le_refl _) ho, ⟨es, ep, hd, hk⟩, it.at_ fun o e => k _ _ (Heap.get?_push_of_some _ e)⟩
theorem comp_block (B : Base prog w h₀ tb K) (S : Sound prog w h₀ r n) (hr : Room A n) {elt iter : Expr} {x : Str} {px : Pos} {ifs : List Expr} {sc : Scope} {pos : Pos} {Dn : Rs → Prop} {k : List AV → Ost → Tr} {RR : Value → Addr → Result → Shared → Prop}
    (h : (r.E Γ l iter O fun v O1 => iterV tb v O1 fun Ki => .comp (compP r ⟨relabelNames Γ sc.names⟩ l x ifs elt Ki O1) k).holds Dn) (hk : sc.kind = .function) (ok : CompOk Γ l x sc.names)
    (V : EnvOk env L m X φ Γ l) (R : Rel w.params h₀ φ O X L m s.heap)
    (H : ∀ acc us O' φ' h' tk D C oC n, (k acc O').holds Dn → Rel w.params h₀ φ' O' ((C, oC) :: (D, listO us n) :: X) L m h' → φ <+: φ' → Fa (RV φ') acc us → IsNs oC → RR (.ref D) C (.ok .next) { s with heap := h', toks := tk }) :
    wpG (model prog w) A (eval iter env) (fun xv s₁ => wpG (model prog w) A (pyIter xv) (fun it s₂ => wpG (model prog w) A (newList []) (fun acc s₃ =>
      wpG (model prog w) A (newFunctionEnv sc env.globals (closL env.cells sc.names []) [] env.qual none .none (some env)) (fun cenv s₄ =>
        codeG (model prog w) A (.compStart (.ListComp elt [⟨.Name x px, iter, ifs, 0⟩] sc pos) 0 it acc { cenv with scope := relabel sc env }) (RR acc cenv.locals) s₄) E s₃) E s₂) E s₁) E s := by
  refine S.E h hr V R fun xv u O1 φ1 h1 tk1 hk1 R1 p1 rv => wpG_of (iterV_sound B hk1 R1 rv fun Ki c0 hk2 st hf it R2 => wpG_of (wpAny_newList (s := { s with heap := h1.push c0, toks := tk1 })
    (wpG_of (wpAny_newFunctionEnv (fun p hp e => ?_) (fun _ hp => nomatch hp) (fun h3 hns hsb => ?_) hk))))
  · rcases ok.kinds p hp with q | q | q <;> rw [e] at q <;> cases q
  · obtain ⟨acc0, O2, hP, hk2⟩ := hk2
    obtain ⟨oC, R4, ns, it4⟩ := comp_made R2 it hns hsb
    have loop := comp_loop (s := { s with heap := h3, toks := tk1 }) (elt := elt) (iter := iter) (px := px) (pos := pos) (RR := RR (.ref (h1.push c0).objs.size) ((h1.push c0).push (listO [] 0)).objs.size) (k := fun acc O1 => .done (.vs acc O1)) B S hr hP hk ok (V.mono p1) R4 it4 ns fun acc us O' φ' h' tk oC n e R5 p5 fa hns => by
      cases e
      exact H _ us _ φ' h' tk _ _ oC n hk2 R5 (p1.trans p5) fa hns
    exact codeG_compStart_list loop (wpG_of (iter_self hr.handled it4 loop))
end
end Vm
end
section
namespace Vm
open PySem PySem.W PyProof.Rows PySem.Calls PySem.SeqAt
theorem setL_lookup (x : Str) (v : AV) (y : Str) (l : Locs) : (setL x v l).lookup y = if y = x then some v else l.lookup y := by
  induction l with
  | nil =>
    show ([(x, v)] : Locs).lookup y = _
    rw [List.lookup_cons]
    by_cases h : y = x
    · rw [if_pos h, h, beq_self_eq_true]
    · rw [if_neg h, beq_eq_false_iff_ne.mpr h]
  | cons p r ih =>
    obtain ⟨z, w⟩ := p
    unfold setL
    cases hz : z == x with
    | true =>
      cases eq_of_beq hz
      show ((x, v) :: r : Locs).lookup y = _
      rw [List.lookup_cons, List.lookup_cons]
      by_cases h : y = x
      · rw [if_pos h, h, beq_self_eq_true]
      · rw [if_neg h, beq_eq_false_iff_ne.mpr h]
    | false =>
      show ((z, w) :: setL x v r : Locs).lookup y = _
      rw [List.lookup_cons, List.lookup_cons]
      cases hy : y == z with
      | true =>
        cases eq_of_beq hy
        rw [if_neg (beq_eq_false_iff_ne.mp hz)]
      | false => exact ih
section
variable {prog : Program} {w : World} {tb : Tb} {K : Frag} {r : Rec} {n : Nat} {A : Around} {E : Value → Shared → Prop} {s : Shared} {h₀ : Heap} {φ : List Addr} {O : Ost} {X pre post : List (Addr × Obj)} {L : Addr} {m : Str → Option Value} {env : Env} {Γ : Cx} {l : Locs}
theorem EnvOk.set (V : EnvOk env L m X φ Γ l) (hL : env.locals = L) {x : Str} {v : AV} {u : Value} (hx : Γ.names.lookup x = some .local) (rv : RV φ v u) :
    EnvOk env L (fun z => if z = x then some u else m z) X φ Γ (setL x v l) := by
  refine ⟨V.kind, V.globals, V.builtins, V.names, V.nodbg, fun y a hy hl => ?_, fun y a hy hc => ?_⟩
  · rw [setL_lookup] at hy
    by_cases h : y = x
    · subst h
      rw [if_pos rfl] at hy; cases hy
      exact ⟨u, rv, .inl ⟨hL, if_pos rfl⟩⟩
    · rw [if_neg h] at hy
      obtain ⟨u', ru, q⟩ := V.locs y a hy hl
      exact ⟨u', ru, q.imp (fun ⟨a, b⟩ => ⟨a, (if_neg h).trans b⟩) id⟩
  · rw [setL_lookup] at hy
    have h : y ≠ x := fun e => by rw [e, hx] at hc; cases hc
    rw [if_neg h] at hy
    exact V.cells y a hy hc
theorem EnvOk.less {p : Addr × Obj} {h : Heap} {P : Params} (V : EnvOk env L m (p :: X) φ Γ l) (hL : env.locals = L) (R : Rel P h₀ φ O (p :: X) L m h) (hc : ∀ v, p.2.data ≠ .cell v) : EnvOk env L m X φ Γ l := by
  refine ⟨V.kind, V.globals, V.builtins, V.names, V.nodbg, fun y v a b => ?_, fun y v a b => ?_⟩
  · obtain ⟨u, ru, q⟩ := V.locs y v a b
    refine ⟨u, ru, q.elim .inl fun ⟨o, ho, hn⟩ => ?_⟩
    exact absurd hL (R.raw ho).2.1
  · obtain ⟨u, c, o, ru, h1, h2, h3⟩ := V.cells y v a b
    refine ⟨u, c, o, ru, h1, ?_, h3⟩
    rcases List.mem_cons.mp h2 with e | e
    · cases e; exact absurd h3 (hc _)
    · exact e
theorem ItAt.notCell {Ki : ItK} {I : Addr} {i : Nat} {h : Heap} {c : Obj} (it : ItAt tb Ki φ I i h) (e : h.get? I = some c) : ∀ v, c.data ≠ .cell v := by
  intro v q
  cases Ki with
  | led j o xs =>
    obtain ⟨ax, h1, h2⟩ := it
    cases o with
    | list ys => obtain ⟨_, o, ho, _, hd⟩ := h2; rw [e] at ho; cases ho; rw [q] at hd; cases hd
    | tuple ys => obtain ⟨_, o, ho, _, hd⟩ := h2; rw [e] at ho; cases ho; rw [q] at hd; cases hd
    | _ => exact h2.elim
  | glob a xs => obtain ⟨_, o, ho, _, hd⟩ := it; rw [e] at ho; cases ho; rw [q] at hd; cases hd
  | bytes b => obtain ⟨_, _, _, o, ho, _, hd⟩ := it; rw [e] at ho; cases ho; rw [q] at hd; cases hd
  | str x => obtain ⟨_, _, _, o, ho, _, hd⟩ := it; rw [e] at ho; cases ho; rw [q] at hd; cases hd
  | range n =>
    have it : h.get? I = _ := it
    rw [e] at it; cases it; cases q
  | enumB b => exact it.elim
theorem classOf_function (V : EnvOk env L m X φ Γ l) : (env.scope.kind == .class || (env.scope.kind == .module && env.locals != env.globals)) = false := by rw [V.kind]; rfl
theorem store_sound (V : EnvOk env L m X φ Γ l) (hL : env.locals = L) (R : Rel w.params h₀ φ O X L m s.heap) {x : Str} {v : AV} {u : Value} {Q : Unit → Shared → Prop} (hx : Γ.names.lookup x = some .local) (rv : RV φ v u)
    (H : ∀ h' tk, Rel w.params h₀ φ O X L (fun z => if z = x then some u else m z) h' → EnvOk env L (fun z => if z = x then some u else m z) X φ Γ (setL x v l) → Q () { s with heap := h', toks := tk }) :
    wpAny (model prog w) A (storeName env x u) Q E s := by
  have hk : env.kindOf x = some .local := by show env.scope.names.lookup x = _; rw [V.names, hx]
  refine wpAny_storeName_local hk (hL ▸ R.F.ns) (fun h' hn hs => ?_) (classOf_function V)
  rw [hL] at hn hs
  exact H _ _ (R.setLocal hn hs) (V.set hL hx rv)
inductive FInv (w : World) (tb : Tb) (h₀ : Heap) (X : List (Addr × Obj)) (L : Addr) (env : Env) (Γ : Cx) (Ki : ItK) (φ : List Addr) (I : Addr) (step : Nat → List AV → Locs → Ost → Prop) (s : Shared) : Nat → Shared → Prop
  | mk {i : Nat} {vs : List AV} {l' : Locs} {φ' : List Addr} {O' : Ost} {m' : Str → Option Value} {h' : Heap} {tk : Tok} {cI : Obj} : Ki.items.drop i = vs → i ≤ Ki.items.length → step i vs l' O' → φ <+: φ' → ItAt tb Ki φ' I i h' →
    Rel w.params h₀ φ' O' ((I, cI) :: X) L m' h' → EnvOk env L m' X φ' Γ l' → FInv w tb h₀ X L env Γ Ki φ I step s (vs.length + 1) { s with heap := h', toks := tk }
theorem for_sound (B : Base prog w h₀ tb K) (S : Sound prog w h₀ r n) (hr : Room A n) (hL : env.locals = L) {Ki : ItK} {x : Str} {px : Pos} {body : List Stmt} {I : Addr} {c : Obj} {D : Rs → Prop} {k : AF → Locs → Ost → Tr} {Q : Flow → Shared → Prop}
    (hx : Γ.names.lookup x = some .local) (h : (forL r Γ (.one x) body Ki 0 Ki.items l O k).holds D) (it : ItAt tb Ki φ I 0 s.heap) (V : EnvOk env L m X φ Γ l) (R : Rel w.params h₀ φ O ((I, c) :: X) L m s.heap) (H : PostST w.params h₀ φ X L env Γ D k Q s) {E' : Value → Shared → Prop} :
    codeG (model prog w) A (.forLoop (.Name x px) (.ref I) body [] env) (loopEnd Q E') s := by
  refine codeG_forLoop_any (FInv w tb h₀ X L env Γ Ki φ I (fun i vs l' O' => (forL r Γ (.one x) body Ki i vs l' O' k).holds D) s) ?_ (Ki.items.length + 1)
    (.mk (s := s) (h' := s.heap) (tk := s.toks) rfl (Nat.zero_le _) h (List.prefix_refl _) it R V)
  rintro q s' ⟨hvs, hile, hF, pp, itI, RI, VI⟩
  rename_i i vs l' φ' O' m' h' tk cI
  have still : Ki.still O' := by
    cases vs with
    | nil => exact hF.1
    | cons v vs => exact hF.1
  refine wpG_of (turn_sound (pre := []) (post := X) B hr.handled itI RI still (fun hdone h2 tk2 R2 => ?_) (fun v hv u2 h2 tk2 cI2 rv2 it2 R2 => ?_) hile)
  · cases (show vs = [] by rw [← hvs, ← hdone, List.drop_length])
    exact wpG_execs_nil (H hF.2 R2 pp VI .next)
  · obtain ⟨hlt, hv'⟩ := List.getElem?_eq_some_iff.mp hv
    cases (show vs = v :: Ki.items.drop (i + 1) by rw [← hvs, List.drop_eq_getElem_cons hlt, hv'])
    obtain ⟨_, hF⟩ := hF
    have R2 : Rel w.params h₀ φ' O' ((I, cI2) :: X) L m' h2 := R2
    show wpG _ _ (pure ()) _ _ _
    refine wpG_pure (wpG_of (wpAny_assign_Name (store_sound (VI.more (Y := (I, cI2) :: X) fun p hp => .tail _ hp) hL R2 hx rv2 fun h3 tk3 R3 V3 => ?_)))
    have it3 := it2.stays (P := w.params) R2 R3 (.head _) (.head _)
    refine exs_sound S hr hL hF V3 R3 fun f g l4 O4 φ4 m4 h4 tk4 hk4 R4 p4 V4 rf => ?_
    have it4 := (it3.stays R3 R4 (.head _) (.head _)).mono p4
    have V5 : EnvOk env L m4 X φ4 Γ l4 := V4.less hL R4 (it4.notCell (R4.raw (p := (I, cI2)) (.head _)).1)
    cases rf with
    | next => exact ⟨_, Nat.lt_succ_self _, .mk rfl hlt hk4 (pp.trans p4) it4 R4 V5⟩
    | cont => exact ⟨_, Nat.lt_succ_self _, .mk rfl hlt hk4 (pp.trans p4) it4 R4 V5⟩
    | brk => exact H hk4 R4.popX (pp.trans p4) V5 .next
    | ret rv => exact H hk4 R4.popX (pp.trans p4) V5 (.ret rv)
theorem foldedSet {e : Expr} (h : isSetE e = false) (x : Value) : foldedSetIterable e env x = pure x := by cases e <;> first | rfl | cases h
theorem oIf_some {α : Type} {b : Bool} {x y : α} (h : oIf b x = some y) : b = true ∧ x = y := by
  cases b with
  | true => exact ⟨rfl, Option.some.inj h⟩
  | false => nomatch h
theorem sing_some {α : Type} {l : List α} {a : α} (h : sing l = some a) : l = [a] := by
  cases l with
  | nil => nomatch h
  | cons b r => cases r with
    | nil => exact congrArg (fun x => [x]) (Option.some.inj h)
    | cons _ _ => nomatch h
theorem tyNamed_of {o : Option AV} {t : String} (h : tyNamed o t = true) : o = some (.val (.type t)) := by
  cases o with
  | none => nomatch h
  | some v => cases v with
    | val u => cases u with
      | type n => exact congrArg (fun x => some (AV.val (Value.type x))) (eq_of_beq h)
      | _ => nomatch h
    | _ => nomatch h
theorem tyCall_some {t : String} {e a : Expr} (h : tyCall tb Γ t e = some a) : ∃ f fp pos, e = .Call (.Name f fp) [a] [] pos ∧ isStarred a = false ∧ isGlobal Γ f = true ∧ tb.glob f = some (.val (.type t)) := by
  obtain ⟨p, hp, h⟩ := Option.bind_eq_some_iff.mp h
  obtain ⟨q, hq, hp⟩ := Option.bind_eq_some_iff.mp hp
  obtain ⟨x, hx, hp⟩ := Option.bind_eq_some_iff.mp hp
  obtain ⟨b, hb, hp⟩ := Option.bind_eq_some_iff.mp hp
  obtain ⟨h1, rfl⟩ := oIf_some h
  obtain ⟨h2, rfl⟩ := oIf_some hp
  obtain ⟨h3, h4⟩ := Bool.and_eq_true_iff.mp h1
  obtain ⟨h5, h6⟩ := Bool.and_eq_true_iff.mp h3
  refine ⟨x.1, x.2, q.2.2.2, ?_, not_eq_true h5, h6, tyNamed_of h4⟩
  rw [callOf_some hq, nameOf_some hx, sing_some hb, List.isEmpty_iff.mp h2]
theorem callType1 (B : Base prog w h₀ tb K) {f : Str} {fp pos : Pos} {a : Expr} {t : String} {Q' : Value → Shared → Prop} (V : EnvOk env L m X φ Γ l) (R : Rel w.params h₀ φ O X L m s.heap) (hs : isStarred a = false) (hg : isGlobal Γ f = true) (hf : tb.glob f = some (.val (.type t)))
    (hq : wpG (model prog w) A (eval a env) (fun v s₁ => wpG (model prog w) A (call (.type t) [v]) Q' E s₁) E s) : wpG (model prog w) A (eval (.Call (.Name f fp) [a] [] pos) env) Q' E s := by
  obtain ⟨u, ru, hdb, hload⟩ := B.names f _ hf
  cases ru.val_inv
  have hk : env.kindOf f = some .globalImplicit := by show env.scope.names.lookup f = _; rw [V.names]; exact of_decide_eq_true hg
  refine CallG (wpG_of (wpAny_Name (hload A E s _ env R.keep V.globals V.builtins V.kind hk ?_) hdb)) rfl
  rw [star_one hs]
  show wpG _ _ (callWith pos (.type t) [] [(false, eval a env)] []) _ _ _
  exact callWithG_type rfl (evalArgsG_plain (splicedG_cons (wpG_mono hq (fun _ _ h₁ => splicedG_nil h₁) fun _ _ e => e)))
theorem iterE_sound (B : Base prog w h₀ tb K) (S : Sound prog w h₀ r n) (hr : Room A n) {D : Rs → Prop} {e : Expr} {k : ItK → Ost → Tr} {Q : Value → Shared → Prop} (h : (iterE tb r Γ l e O k).holds D) (V : EnvOk env L m X φ Γ l) (R : Rel w.params h₀ φ O X L m s.heap)
    (H : ∀ (Ki : ItK) (O' : Ost) (φ' : List Addr) (h' : Heap) (tk : Tok) (c : Obj), (k Ki O').holds D → φ <+: φ' → ItAt tb Ki φ' h'.objs.size 0 (h'.push c) → Rel w.params h₀ φ' O' ((h'.objs.size, c) :: X) L m (h'.push c) → Q (.ref h'.objs.size) { s with heap := h'.push c, toks := tk }) :
    wpG (model prog w) A (eval e env) (fun xv s₁ => wpG (model prog w) A (pyIter xv) Q E s₁) E s := by
  obtain ⟨a, ha, hk⟩ | ⟨_, hk⟩ := optC_of h
  · obtain ⟨f, fp, pos, rfl, hs, hg, hf⟩ := tyCall_some ha
    refine callType1 B V R hs hg hf (S.E hk hr V R fun v u O1 φ1 h1 tk1 hk1 R1 p1 rv => ?_)
    obtain ⟨z, rfl, ⟨h0, h2⟩, hk1⟩ := intV_of (v := v) hk1
    obtain ⟨t, rfl⟩ := rv.int_inv
    refine wpG_of (call_range_1 (wpG_of (wpAny_pyIter_range (IsRange.new _ _ _ _ _ _ _) (small_one (by decide) (by decide) (by omega) (by omega)) ?_)))
    have hsz : Builtin.Range.rangeSize 0 z 1 = ((z.toNat : Int) - ((0 : Nat) : Int)) := by rw [rangeSize_one]; split <;> omega
    rw [hsz]
    exact H (.range z) O1 φ1 _ _ _ hk1 p1 (Heap.get?_push_size _ rfl) ((R1.push _).pushX (fun _ _ e => Heap.get?_push_of_some _ e) (Nat.le_refl _) (Heap.get?_push_size _ rfl))
  · exact S.E hk hr V R fun xv u O1 φ1 h1 tk1 hk1 R1 p1 rv => wpG_of (iterV_sound B hk1 R1 rv fun Ki c hk2 st hf it R2 => H Ki O1 φ1 h1 tk1 c hk2 p1 it R2)
end
end Vm
end
section
namespace Vm
open PySem PySem.W PyProof.Rows PySem.Calls PySem.SeqAt
section
variable {prog : Program} {w : World} {tb : Tb} {K : Frag} {r : Rec} {n : Nat} {A : Around} {E : Value → Shared → Prop} {s : Shared} {h₀ : Heap} {φ : List Addr} {O : Ost} {X pre post : List (Addr × Obj)} {L : Addr} {m : Str → Option Value} {env : Env} {Γ : Cx} {l : Locs} {Dn : Rs → Prop}
theorem kinds_of (V : EnvOk env L m X φ Γ l) (y : Str) : env.kindOf y = Γ.names.lookup y := by show env.scope.names.lookup y = _; rw [V.names]
theorem closure_ok {x : Str} {sc : Scope} (V : EnvOk env L m X φ Γ l) (ok : CompOk Γ l x sc.names) : closureFor sc env = pure (closL env.cells sc.names []) :=
  closureFor_eq fun p hp e => by
    obtain ⟨h1, v, h2⟩ := ok.free p hp e
    obtain ⟨u, c, o, _, hc, _⟩ := V.cells p.1 v h2 h1
    rw [hc]; rfl
theorem compE_is {elt iter : Expr} {x : Str} {ifs : List Expr} {a : Int} {sc : Scope} {k : List AV → Ost → Tr} (h : (compE tb r Γ l elt x iter ifs a sc O k).holds Dn) :
    a = 0 ∧ sc.kind = .function ∧ isSetE iter = false ∧ CompOk Γ l x sc.names ∧ (r.E Γ l iter O fun v O1 => iterV tb v O1 fun Ki => .comp (compP r ⟨relabelNames Γ sc.names⟩ l x ifs elt Ki O1) k).holds Dn := by
  obtain ⟨hc, h⟩ := ifT_of h
  simp only [Bool.and_eq_true, decide_eq_true_eq, Bool.not_eq_true'] at hc
  exact ⟨hc.1.1.1, hc.1.1.2, hc.1.2, compOk_is hc.2, h⟩
theorem names_local {x : Str} {sc : Scope} (ok : CompOk Γ l x sc.names) : ∀ p ∈ sc.names, p.2 = .local → sc.names.lookup p.1 = some .local := fun p hp e => by
  obtain ⟨y, k⟩ := p
  have e : k = .local := e
  subst e
  exact mem_lookup_nodup ok.nd hp
theorem Rel.swap {P : Params} {m : Str → Option Value} {h : Heap} {p q : Addr × Obj} (x : Rel P h₀ φ O (p :: q :: X) L m h) : Rel P h₀ φ O (q :: p :: X) L m h := by
  obtain ⟨cs, f, hl, N⟩ := x.ex
  exact ⟨x.F, ⟨cs, f, hl, fun a ha => N a ((List.Perm.append_left _ (List.Perm.swap _ _ _)).subset ha)⟩, (List.Perm.nodup_iff (List.Perm.append_left _ (List.Perm.swap _ _ _))).mp x.nd, fun b hb => x.low b ((List.Perm.append_left _ (List.Perm.swap _ _ _)).subset hb)⟩
theorem comp_sound (B : Base prog w h₀ tb K) (S : Sound prog w h₀ r n) (hr : Room A n) {elt iter : Expr} {x : Str} {px pos : Pos} {ifs : List Expr} {a : Int} {sc : Scope} {k : AV → Ost → Tr} {Q : Value → Shared → Prop}
    (h : (compE tb r Γ l elt x iter ifs a sc O fun acc O2 => k (.obj O2.length) (O2 ++ [.list acc])).holds Dn) (V : EnvOk env L m X φ Γ l) (R : Rel w.params h₀ φ O X L m s.heap) (H : PostT w.params h₀ φ X L m Dn k Q s) :
    wpG (model prog w) A (eval (.ListComp elt [⟨.Name x px, iter, ifs, a⟩] sc pos) env) Q E s := by
  obtain ⟨rfl, hk, hset, ok, h⟩ := compE_is h
  rw [eval_ListComp]
  refine wpG_comprehension_free (use := none) rfl (fun v => foldedSet hset v) (closure_ok V ok) hk (names_local ok)
    (comp_block (RR := fun acc C => compPost (model prog w) A E none Q acc C) B S hr h hk ok V R fun acc us O' φ' h' tk D C oC nD hk' R' p' fa hns => ?_)
  obtain ⟨es, ep, hd, hkk⟩ := hns
  refine ⟨_, ⟨oC, es, ep, (R'.raw (p := (C, oC)) (.head _)).1, hd, hkk, fun _ => rfl⟩, fun h'' hs => ?_⟩
  have R2 := R'.gone (pre := []) (h' := h'') fun b o hb e => hs.extBut b o hb e
  have R3 := Rel.toLedger (X := X) R2 (.list (fa.mono fun _ _ q => q.mono (List.prefix_append _ _)))
  exact H hk' R3 (p'.trans (List.prefix_append _ _)) (.obj (get_snoc R2 _))
theorem assignComp_sound (B : Base prog w h₀ tb K) (S : Sound prog w h₀ r n) (hr : Room A n) (hL : env.locals = L) {elt iter : Expr} {x y : Str} {px py pos spos : Pos} {ifs : List Expr} {a : Int} {sc : Scope} {k : AF → Locs → Ost → Tr} {Q : Flow → Shared → Prop}
    (hy : Γ.names.lookup y = some .local) (hline : (py.line == pos.line) = true) (hnot : (sc.names.any fun q => q.1 == y && (q.2 == .local || q.2 == .cell)) = false)
    (h : (compE tb r Γ l elt x iter ifs a sc O fun acc O2 => k .next (setL y (.obj O2.length) l) (O2 ++ [.list acc])).holds Dn) (V : EnvOk env L m X φ Γ l) (R : Rel w.params h₀ φ O X L m s.heap) (H : PostST w.params h₀ φ X L env Γ Dn k Q s) :
    wpG (model prog w) A (exec (.Assign [.Name y py] (.ListComp elt [⟨.Name x px, iter, ifs, a⟩] sc pos) spos) env) Q E s := by
  obtain ⟨rfl, hk, hset, ok, h⟩ := compE_is h
  have hsw : swapsWith (.ListComp elt [⟨.Name x px, iter, ifs, 0⟩] sc pos) (some (.Name y py)) spos.line env = pure true := by
    have e : swapsWith (.ListComp elt [⟨.Name x px, iter, ifs, 0⟩] sc pos) (some (.Name y py)) spos.line env = pure (env.blockKind == .function && env.kindOf y == some .local && py.line == pos.line
      && !(sc.names.any fun q => q.1 == y && (q.2 == .local || q.2 == .cell))) := rfl
    rw [e, hnot, hline, kinds_of V, hy]
    have : env.blockKind = .function := by unfold Env.blockKind; rw [V.kind]; rfl
    rw [this]; rfl
  rw [exec_Assign_Name_used _ _ _ _ hsw]
  refine wpG_bind (wpG_of (wpAny_standAt (wpG_bind ?_)))
  show wpG _ A (do let _ ← comprehension (.ListComp elt [⟨.Name x px, iter, ifs, 0⟩] sc pos) sc env _ (newList []) false (eval iter env) (some (assign (.Name y py) env))) _ _ s
  refine wpG_bind (wpG_mono (wpG_comprehension_free (use := some (assign (.Name y py) env)) (Q := fun _ s' => Q .next s') rfl (fun v => foldedSet hset v) (closure_ok V ok) hk (names_local ok)
    (comp_block (RR := fun acc C => compPost (model prog w) A E (some (assign (.Name y py) env)) (fun _ s' => Q .next s') acc C) B S hr h hk ok V R fun acc us O' φ' h' tk D C oC nD hk' R' p' fa hns => ?_))
    (fun _ s' hq => wpG_pure (wpG_pure hq)) fun _ _ e => e)
  obtain ⟨es, ep, hd, hkk⟩ := hns
  show wpAny _ A (assign (.Name y py) env (.ref D)) _ _ _
  have Vs : EnvOk env L m ((C, oC) :: (D, { cls := .type "list", data := .seq us.toArray nD }) :: X) φ' Γ l := (V.mono p').more fun p hp => .tail _ (.tail _ hp)
  have R1 : Rel w.params h₀ (φ' ++ [D]) (O' ++ [.list acc]) ((C, oC) :: X) L m h' := by
    have R0 := R'.swap
    exact R0.toLedger (.list (fa.mono fun _ _ q => q.mono (List.prefix_append _ _)))
  have gD : (φ' ++ [D])[O'.length]? = some D := by rw [← R'.len, List.getElem?_append_right (Nat.le_refl _)]; simp
  have V1 : EnvOk env L m X (φ' ++ [D]) Γ l := (V.mono p').mono (List.prefix_append _ _)
  refine wpAny_assign_Name (store_sound (s := { s with heap := h', toks := tk }) (V1.more (Y := (C, oC) :: X) fun p hp => .tail _ hp) hL R1 hy (.obj gD) fun h2 tk2 R2 V2 => ?_)
  refine ⟨_, ⟨oC, es, ep, (R2.raw (p := (C, oC)) (.head _)).1, hd, hkk, fun _ => rfl⟩, fun h3 hs => ?_⟩
  have R3 := R2.gone (pre := []) (h' := h3) fun b o hb e => hs.extBut b o hb e
  exact H hk' R3 (p'.trans (List.prefix_append _ _)) (V1.set hL hy (.obj gD)) .next
theorem keyNames_cons {k : Option Expr} {ks : List (Option Expr)} {ns : List Str} (h : keyNames (k :: ks) = some ns) : ∃ x a p q, k = some (.Constant (.str x) a p) ∧ keyNames ks = some q ∧ ns = x :: q := by
  obtain ⟨x, hx, h1⟩ := Option.bind_eq_some_iff.mp h
  obtain ⟨q, hq, h2⟩ := Option.bind_eq_some_iff.mp h1
  obtain ⟨e, he, h3⟩ := Option.bind_eq_some_iff.mp hx
  obtain ⟨⟨c1, c2, c3⟩, hc, h4⟩ := Option.bind_eq_some_iff.mp h3
  cases c1 with
  | str y => exact ⟨x, c2, c3, q, by rw [he, constOf_some hc, show y = x from Option.some.inj h4], hq, (Option.some.inj h2).symm⟩
  | _ => nomatch h4
theorem keyNames_some {ks : List (Option Expr)} : ∀ {ns : List Str}, keyNames ks = some ns → ks.all (·.isSome) = true ∧ ks.length = ns.length := by
  induction ks with
  | nil => intro ns h; cases h; exact ⟨rfl, rfl⟩
  | cons k ks ih =>
    intro ns h
    obtain ⟨x, a, p, q, rfl, hq, rfl⟩ := keyNames_cons h
    obtain ⟨a, b⟩ := ih hq
    exact ⟨a, congrArg Nat.succ b⟩
theorem pairs_sound (S : Sound prog w h₀ r n) (hr : Room A n) {pos : Pos} {ks : List (Option Expr)} : ∀ {ns : List Str} {es : List Expr} {k : List AV → Ost → Tr} {Q : List (Value × Value) → Shared → Prop} {s : Shared} {φ : List Addr} {O : Ost},
    keyNames ks = some ns → ns.length = es.length → (evs r Γ l es O k).holds Dn → EnvOk env L m X φ Γ l → Rel w.params h₀ φ O X L m s.heap →
    (∀ ⦃vs : List AV⦄ ⦃us : List Value⦄ ⦃ps : List (Value × Value)⦄ ⦃O' : Ost⦄ ⦃φ' : List Addr⦄ ⦃h' : Heap⦄ ⦃tk : Tok⦄, (k vs O').holds Dn → Rel w.params h₀ φ' O' X L m h' → φ <+: φ' → Fa (RV φ') vs us → us.length = ns.length → Carries (strKind prog w) ps (ns.zip us) → Q ps { s with heap := h', toks := tk }) →
    wpG (model prog w) A (evalPairs (pairTrees ks es env pos)) Q E s := by
  induction ks with
  | nil =>
    intro ns es k Q s φ O hn hl h V R H
    cases hn
    cases es with
    | nil => exact evalPairsG_nil (H h R (List.prefix_refl _) .nil rfl trivial)
    | cons e es => nomatch hl
  | cons kk ks ih =>
    intro ns es k Q s φ O hn hl h V R H
    obtain ⟨x, a, p, q, rfl, hq, rfl⟩ := keyNames_cons hn
    cases es with
    | nil => nomatch hl
    | cons e es =>
      obtain ⟨_, h⟩ := ifT_of (b := !isStarred e) h
      refine evalPairsG_cons (wpG_of (wpAny_Constant_str (wpG_bind (S.E (s := { s with toks := s.toks + 1 }) h hr V R fun v u O1 φ1 h1 tk1 hk1 R1 p1 rv => wpG_bind (wpG_of (wpAny_standAt (wpG_pure ?_)))))))
      exact ih hq (Nat.succ.inj hl) hk1 (V.mono p1) R1 fun vs us ps O2 φ2 h2 tk2 hk2 R2 p2 fa hu hc => H hk2 R2 (p1.trans p2) (.cons (rv.mono p2) fa) (congrArg Nat.succ hu) ⟨strKind_is prog w x _, rfl, hc⟩
theorem merged_app {kvs : List (Str × Value)} : ∀ {acc : List (Str × Value)}, ((acc ++ kvs).map (·.1)).Nodup → merged acc kvs = acc ++ kvs := by
  induction kvs with
  | nil => intro acc _; simp [merged]
  | cons p r ih =>
    intro acc nd
    have hnot : p.1 ∉ acc.map (·.1) := by
      rw [List.map_append, List.map_cons] at nd
      exact fun q => (List.nodup_append.mp nd).2.2 _ q _ (List.mem_cons_self) rfl
    have hst : stored acc p.1 p.2 = acc ++ [(p.1, p.2)] := by
      unfold stored
      rw [if_neg]
      simp only [List.any_eq_true, not_exists, not_and]
      intro q hq e
      exact hnot (List.mem_map.mpr ⟨q, hq, by simpa using e⟩)
    have e : merged acc (p :: r) = merged (stored acc p.1 p.2) r := rfl
    rw [e, hst, ih (by simpa using nd)]
    simp
theorem fa_zipK {φ : List Addr} {vs : List AV} {us : List Value} (f : Fa (RV φ) vs us) : ∀ {ns : List Str}, Fa (RK φ) (ns.zip vs) (ns.zip us) := by
  induction f with
  | nil => intro ns; rw [List.zip_nil_right, List.zip_nil_right]; exact .nil
  | cons r f ih => intro ns; cases ns with
    | nil => exact .nil
    | cons n ns => exact .cons ⟨rfl, r⟩ ih
theorem dict_sound (S : Sound prog w h₀ r n) (hr : Room A n) {ks : List (Option Expr)} {es : List Expr} {ns : List Str} {pos : Pos} {k : AV → Ost → Tr} {Q : Value → Shared → Prop} (hn : keyNames ks = some ns) (hl : ns.length = es.length) (h15 : ns.length ≤ 15) (nd : ns.Nodup)
    (h : (evs r Γ l es O fun us O1 => k (.obj O1.length) (O1 ++ [.dict (ns.zip us)])).holds Dn) (V : EnvOk env L m X φ Γ l) (R : Rel w.params h₀ φ O X L m s.heap) (H : PostT w.params h₀ φ X L m Dn k Q s) :
    wpG (model prog w) A (eval (.Dict ks es pos) env) Q E s := by
  obtain ⟨hall, hlen⟩ := keyNames_some hn
  cases ks with
  | nil =>
    cases hn
    cases es with
    | nil => exact wpG_of (wpAny_Dict_empty (H h (R.allocPush rfl (.dict (n := 0) .nil List.nodup_nil)) (List.prefix_append _ _) (.obj (get_snoc R _))))
    | cons e es => nomatch hl
  | cons kk ks =>
    have R1 : Rel w.params h₀ φ O ((s.heap.objs.size, { cls := .type "dict", data := .dict #[] }) :: X) L m (s.heap.push { cls := .type "dict", data := .dict #[] }) :=
      R.pushX (fun _ _ e => Heap.get?_push_of_some _ e) (Nat.le_refl _) (Heap.get?_push_size _ rfl)
    refine DictG_walk hall (by omega) (by simp) (by omega) (pairs_sound (s := { s with heap := s.heap.push { cls := .type "dict", data := .dict #[] } }) S hr hn hl h (V.more fun p hp => .tail _ hp) R1 fun vs us ps O' φ' h' tk hk R' p f hu hc => ?_)
    have hd := (R'.raw (p := (s.heap.objs.size, { cls := .type "dict", data := .dict #[] })) (.head _)).1
    have D : h'.DictOf (strKind prog w) s.heap.objs.size [] := by
      obtain ⟨kvs, D, f0⟩ := toDictOf (prog := prog) (w := w) (φ := φ') (es := []) (ds := []) (n := 0) .nil List.nodup_nil hd
      cases f0
      exact D
    refine ⟨ns.zip us, hc, D, fun h2 D2 hs => ?_⟩
    have ndz : ((ns.zip us).map (·.1)).Nodup := by rw [List.map_fst_zip (by omega)]; exact nd
    rw [merged_app (acc := []) (by simpa using ndz)] at D2
    have D2 : h2.DictOf (strKind prog w) s.heap.objs.size (ns.zip us) := D2
    obtain ⟨c, hc2, ro⟩ := fromDictOf D2 (fa_zipK f)
    have R2 := R'.updK (pre := []) (h' := h2) (fun b o hb e => hs.extBut b o hb e) hc2
    have R3 := Rel.toLedger (X := X) R2 (ro.mono (List.prefix_append _ _))
    exact H hk R3 (p.trans (List.prefix_append _ _)) (.obj (get_snoc R2 _))
end
end Vm
end
section
namespace Vm
open PySem PySem.W PyProof.Rows PySem.Calls PySem.SeqAt
section
variable {prog : Program} {w : World} {tb : Tb} {K : Frag} {r : Rec} {n : Nat} {A : Around} {E : Value → Shared → Prop} {s : Shared} {h₀ : Heap} {φ : List Addr} {O : Ost} {X pre post : List (Addr × Obj)} {L : Addr} {m : Str → Option Value} {env : Env} {Γ : Cx} {l : Locs} {D : Rs → Prop}
theorem attr_sound (B : Base prog w h₀ tb K) (S : Sound prog w h₀ r n) (hr : Room A n) {o : Expr} {nm : Str} {pos : Pos} {k : AV → Ost → Tr} {Q : Value → Shared → Prop} (ho : isCall o = false) (h : (r.E Γ l o O fun ov O1 => attrV tb ov nm O1 fun v => k v O1).holds D)
    (V : EnvOk env L m X φ Γ l) (R : Rel w.params h₀ φ O X L m s.heap) (H : PostT w.params h₀ φ X L m D k Q s) : wpG (model prog w) A (eval (.Attribute o nm pos) env) Q E s := by
  refine AttributeG_any (S.E h hr V R fun ov u O1 φ1 h1 tk1 hk1 R1 p1 rv => ?_) (attr_node ho nm pos)
  exact wpG_of (attrV_sound (k := fun v => k v O1) (s := { s with heap := h1, toks := tk1 }) B hk1 R1 rv fun v u tk hk rv' => H hk R1 p1 rv')
theorem base_plain {o : Expr} {nm : Str} (ho : isCall o = false) : attributeBase o nm env (eval o env) = eval o env := by
  cases o <;> first | rfl | cases ho
theorem starEach_all {pos : Pos} {es : List Expr} : es.any isStarred = false → (backTo pos (starEach es env)).all (fun x => !x.1) = true := by
  induction es with
  | nil => exact fun _ => rfl
  | cons e es ih =>
    intro h
    rw [List.any_cons, Bool.or_eq_false_iff] at h
    rw [star_one h.1]
    show (true && (backTo pos (starEach es env)).all (fun x => !x.1)) = true
    rw [ih h.2]; rfl
theorem method_sound (B : Tops prog w h₀ tb K) (X1 : Extra prog w) (S : Sound prog w h₀ r n) (hr : Room A n) {o : Expr} {nm : Str} {apos pos : Pos} {args : List Expr} {k : AV → Ost → Tr} {Q : Value → Shared → Prop} (ho : isCall o = false) (hline : (apos.endLine == pos.line) = true) (hlen : args.length < 30) (hs : args.any isStarred = false)
    (h : (r.E Γ l o O fun ov O1 => methOf tb ov nm O1 fun mt => evs r Γ l args O1 fun vs O2 => (match mt with
      | .fn f => CallC r f (ov :: vs) O2 k
      | mt => primM mt ov vs O2 k)).holds D) (V : EnvOk env L m X φ Γ l) (R : Rel w.params h₀ φ O X L m s.heap) (H : PostT w.params h₀ φ X L m D k Q s) :
    wpG (model prog w) A (eval (.Call (.Attribute o nm apos) args [] pos) env) Q E s := by
  rw [arm_eval_Call, base_plain ho]
  refine wpG_bind (S.E h hr V R fun ov u O1 φ1 h1 tk1 hk1 R1 p1 ro => wpG_bind (wpG_of (wpAny_standAt ?_)))
  have go : ∀ (mt : Mt), (∀ f, mt = .fn f → keepIn K (.ref f) = true) → (evs r Γ l args O1 fun vs O2 => (match mt with
      | .fn f => CallC r f (ov :: vs) O2 k
      | mt => primM mt ov vs O2 k) : Tr).holds D → wpG (model prog w) A (callWith pos mt.id [u] (backTo pos (starEach args env)) []) Q E { s with heap := h1, toks := tk1 } := by
    intro mt hkp hev
    cases mt with
    | fn f => exact call_fn (first := [ov]) B S hr (hkp f rfl) hs hev (V.mono p1) R1 (.cons ro .nil) (H.later p1)
    | _ => exact callWithG_builtin (plain_args hs) (evalArgs_sound S hr hev (V.mono p1) R1 fun vs us O2 φ2 h2 tk2 hk2 R2 p2 f2 => primM_sound X1 B.nolim hr.handled hk2 R2 (ro.mono p2) f2 (H.later (p1.trans p2)))
  unfold methodCall
  have hform : methodCallForm (args.length + ([] : List Keyword).length) (backTo pos (starEach args env)) (backToKw pos (keywordEach [] env)) = true := by
    unfold methodCallForm
    rw [starEach_all hs]
    show (true && true && decide (args.length + 0 + 0 < 30)) = true
    simp [hlen]
  have hpos : methodCallPos true o env apos pos = pure pos := by unfold methodCallPos; simp [hline]
  rw [hform]
  refine wpG_bind (wpG_holding (wpG_of (methOf_sound B.toBase hk1 R1 ro fun mt hmt hkp => ?_)))
  exact wpG_bind (wpG_of (wpAny_of_eq hpos (go mt hkp hmt)))
theorem minusOne_sound {p1 p2 p3 : Pos} {kk : Nat} {Q : Value → Shared → Prop} (h : ∀ t tk, Q (.ref s.heap.objs.size) { s with heap := s.heap.push { cls := .type "slice", data := .fields #[.none, .none, .int (-1) t] }, toks := tk }) :
    wpG (model prog w) A (eval (.Slice none none (some (.UnaryOp .USub (.Constant (.int 1) kk p1) p2)) p3) env) Q E s := by
  refine wpG_Slice ?_
  refine wpG_evalPart_none (wpG_evalPart_none (wpG_evalPart_some (wpG_UnaryOp (wpG_of (wpAny_Constant_int ?_)))))
  exact wpG_of (neg_int (h _ _))
theorem list_sound (S : Sound prog w h₀ r n) (hr : Room A n) {es : List Expr} {pos : Pos} {k : AV → Ost → Tr} {Q : Value → Shared → Prop} (h : (evs r Γ l es O fun vs O1 => gd (vs.length ≤ 1000000) (k (.obj O1.length) (O1 ++ [.list vs]))).holds D)
    (V : EnvOk env L m X φ Γ l) (R : Rel w.params h₀ φ O X L m s.heap) (H : PostT w.params h₀ φ X L m D k Q s) : wpG (model prog w) A (eval (.List es pos) env) Q E s := by
  rw [arm_eval_List]
  refine wpG_bind (wpG_of (wpAny_standAt (wpG_bind (evs_sound S hr h V R fun vs us O1 φ1 h1 tk1 hk1 R1 p1 f => ?_))))
  obtain ⟨hz, hk⟩ := hk1
  exact wpG_of (wpAny_newList (s := { s with heap := h1, toks := tk1 }) ((H.later p1).alloc R1 hk rfl (.list f)) (by rw [← f.length, sizeLine_eq]; omega))
theorem tuple_sound (S : Sound prog w h₀ r n) (hr : Room A n) {es : List Expr} {c : Nat} {pos : Pos} {k : AV → Ost → Tr} {Q : Value → Shared → Prop} (h : (evs r Γ l es O fun vs O1 => gd (vs.length ≤ 1000000) (k (.obj O1.length) (O1 ++ [.tuple vs]))).holds D)
    (V : EnvOk env L m X φ Γ l) (R : Rel w.params h₀ φ O X L m s.heap) (H : PostT w.params h₀ φ X L m D k Q s) : wpG (model prog w) A (eval (.Tuple es c pos) env) Q E s := by
  rw [arm_eval_Tuple]
  refine wpG_bind (wpG_of (wpAny_standAt (wpG_bind (evs_sound S hr h V R fun vs us O1 φ1 h1 tk1 hk1 R1 p1 f => ?_))))
  obtain ⟨hz, hk⟩ := hk1
  exact wpG_of (wpAny_newTuple (s := { s with heap := h1, toks := tk1 }) ((H.later p1).alloc R1 hk rfl (.tuple f)) (by rw [← f.length, sizeLine_eq]; omega))
theorem call_sound (B : Tops prog w h₀ tb K) (X1 : Extra prog w) (S : Sound prog w h₀ r n) (hr : Room A (n + 1)) {f : Expr} {args : List Expr} {pos : Pos} {k : AV → Ost → Tr} {Q : Value → Shared → Prop}
    (h : (r.E Γ l f O fun fv O1 => callK tb fv fun c => evsN r Γ l args O1 fun vs O2 => callC r c vs O2 k).holds D) (V : EnvOk env L m X φ Γ l) (R : Rel w.params h₀ φ O X L m s.heap) (H : PostT w.params h₀ φ X L m D k Q s)
    (he : eval (.Call f args [] pos) env = (do callWith pos (← eval f env) [] (backTo pos (starEach args env)) (backToKw pos (keywordEach [] env)))) :
    wpG (model prog w) A (eval (.Call f args [] pos) env) Q E s :=
  CallG (S.E h hr.pred V R fun fv u O1 φ1 h1 tk1 hk1 R1 p1 rf => callV_sound B X1 S hr hk1 (V.mono p1) R1 rf (H.later p1)) he
theorem slice_sound (B : Base prog w h₀ tb K) (X1 : Extra prog w) (S : Sound prog w h₀ r n) (hr : Room A n) {o : Expr} {lo hi : Option Expr} {p pos : Pos} {k : AV → Ost → Tr} {Q : Value → Shared → Prop}
    (h : (r.E Γ l o O fun ov O1 => optE r Γ l lo O1 fun b O2 => optE r Γ l hi O2 fun c O3 => cutV tb ov b c O3 k).holds D) (V : EnvOk env L m X φ Γ l) (R : Rel w.params h₀ φ O X L m s.heap) (H : PostT w.params h₀ φ X L m D k Q s) :
    wpG (model prog w) A (eval (.Subscript o (.Slice lo hi none p) pos) env) Q E s := by
  refine SubscriptG (S.E h hr V R fun ov u O1 φ1 h1 tk1 hk1 R1 p1 ro => wpG_Slice ?_)
  refine optE_sound S hr hk1 (V.mono p1) R1 fun b ub O2 φ2 h2 tk2 hk2 R2 p2 ib => ?_
  refine optE_sound S hr hk2 (V.mono (p1.trans p2)) R2 fun c uc O3 φ3 h3 tk3 hk3 R3 p3 ic => ?_
  refine wpG_evalPart_none ?_
  exact wpG_of (tail_any_base (cutV_sound (s := { s with heap := h3, toks := tk3 }) B X1.toBarrCut hk3 R3 (ro.mono (p2.trans p3)) ib ic (H.later ((p1.trans p2).trans p3))))
theorem rev_sound (S : Sound prog w h₀ r n) (hr : Room A n) {o : Expr} {kk : Nat} {p1 p2 p3 pos : Pos} {k : AV → Ost → Tr} {Q : Value → Shared → Prop}
    (h : (r.E Γ l o O fun ov O1 => revV ov O1 k).holds D) (V : EnvOk env L m X φ Γ l) (R : Rel w.params h₀ φ O X L m s.heap) (H : PostT w.params h₀ φ X L m D k Q s) :
    wpG (model prog w) A (eval (.Subscript o (.Slice none none (some (.UnaryOp .USub (.Constant (.int 1) kk p1) p2)) p3) pos) env) Q E s := by
  refine SubscriptG (S.E h hr V R fun ov u O1 φ1 h1 tk1 hk1 R1 p1 ro => minusOne_sound fun t tk => ?_)
  exact wpG_of (tail_any_base (revV_sound (s := { s with heap := h1, toks := tk }) hk1 R1 ro (H.later p1) rfl))
theorem item_sound (S : Sound prog w h₀ r n) (hr : Room A n) {o i : Expr} {pos : Pos} {k : AV → Ost → Tr} {Q : Value → Shared → Prop} (hsl : PlainSlice i)
    (h : (r.E Γ l o O fun ov O1 => r.E Γ l i O1 fun iv O2 => subV ov iv O2 k).holds D) (V : EnvOk env L m X φ Γ l) (R : Rel w.params h₀ φ O X L m s.heap) (H : PostT w.params h₀ φ X L m D k Q s) :
    wpG (model prog w) A (eval (.Subscript o i pos) env) Q E s := by
  refine SubscriptG (S.E h hr V R fun ov u O1 φ1 h1 tk1 hk1 R1 p1 ro => S.E hk1 hr (V.mono p1) R1 fun iv v O2 φ2 h2 tk2 hk2 R2 p2 ri => ?_)
  exact wpG_of (tail_any_base (subV_sound (s := { s with heap := h2, toks := tk2 }) hsl hk2 R2 (ro.mono p2) ri (H.later (p1.trans p2))))
theorem subK_of {i : Expr} : (match subK i with
    | .rev => ∃ kk p1 p2 p3, i = .Slice none none (some (.UnaryOp .USub (.Constant (.int 1) kk p1) p2)) p3
    | .cut lo hi => ∃ p, i = .Slice lo hi none p
    | .item => sliceOf i = none
    | .no => True) := by
  unfold subK
  cases hs : sliceOf i with
  | none => rfl
  | some q =>
    obtain ⟨lo, hi, st, p⟩ := q
    cases st with
    | none => exact ⟨p, sliceOf_some hs⟩
    | some e =>
      show (match (match lo.isNone && hi.isNone && isNeg1 e with | true => SubK.rev | false => .no) with
        | .rev => _ | .cut lo hi => _ | .item => _ | .no => _)
      cases hb : lo.isNone && hi.isNone && isNeg1 e with
      | false => exact trivial
      | true =>
        obtain ⟨h1, h2⟩ := Bool.and_eq_true_iff.mp hb
        obtain ⟨h3, h4⟩ := Bool.and_eq_true_iff.mp h1
        cases Option.isNone_iff_eq_none.mp h3
        cases Option.isNone_iff_eq_none.mp h4
        unfold isNeg1 at h2
        cases hu : unOf e with
        | none => rw [hu] at h2; cases h2
        | some u =>
          obtain ⟨op, a, p2⟩ := u
          cases hc : constOf a with
          | none => rw [hu] at h2; simp only [hc] at h2; cases op <;> cases h2
          | some c =>
            obtain ⟨c, kk, p1⟩ := c
            rw [hu] at h2
            simp only [hc] at h2
            cases op with
            | USub => cases c with
              | int n =>
                cases of_decide_eq_true h2
                exact ⟨kk, p1, p2, p, by rw [sliceOf_some hs, unOf_some hu, constOf_some hc]⟩
              | _ => cases h2
            | _ => cases h2
theorem sub_sound (B : Base prog w h₀ tb K) (X1 : Extra prog w) (S : Sound prog w h₀ r n) (hr : Room A n) {o i : Expr} {pos : Pos} {k : AV → Ost → Tr} {Q : Value → Shared → Prop} (h : (match subK i with
    | .rev => r.E Γ l o O fun ov O1 => revV ov O1 k
    | .cut lo hi => r.E Γ l o O fun ov O1 => optE r Γ l lo O1 fun b O2 => optE r Γ l hi O2 fun c O3 => cutV tb ov b c O3 k
    | .item => r.E Γ l o O fun ov O1 => r.E Γ l i O1 fun iv O2 => subV ov iv O2 k
    | .no => .fail : Tr).holds D) (V : EnvOk env L m X φ Γ l) (R : Rel w.params h₀ φ O X L m s.heap) (H : PostT w.params h₀ φ X L m D k Q s) :
    wpG (model prog w) A (eval (.Subscript o i pos) env) Q E s := by
  have q := subK_of (i := i)
  cases hk : subK i with
  | rev => rw [hk] at h q; obtain ⟨kk, p1, p2, p3, rfl⟩ := q; exact rev_sound S hr h V R H
  | cut lo hi => rw [hk] at h q; obtain ⟨p, rfl⟩ := q; exact slice_sound B X1 S hr h V R H
  | no => rw [hk] at h; exact h.elim
  | item =>
    rw [hk] at h q
    exact item_sound S hr (fun a b => by cases i <;> first | rfl | cases q) h V R H
theorem callE_sound (B : Tops prog w h₀ tb K) (X1 : Extra prog w) (S : Sound prog w h₀ r n) (hr : Room A (n + 1)) {f : Expr} {args : List Expr} {pos : Pos} {k : AV → Ost → Tr} {Q : Value → Shared → Prop} (h : (match attrOf f with
      | some q => ifT (!isCall q.1 && decide (q.2.2.endLine = pos.line) && decide (args.length < 30) && !args.any isStarred)
        (r.E Γ l q.1 O fun ov O1 => methOf tb ov q.2.1 O1 fun m => evs r Γ l args O1 fun vs O2 => (match m with
          | .fn f => CallC r f (ov :: vs) O2 k
          | m => primM m ov vs O2 k))
      | none => r.E Γ l f O fun fv O1 => callK tb fv fun c => evsN r Γ l args O1 fun vs O2 => callC r c vs O2 k : Tr).holds D) (V : EnvOk env L m X φ Γ l) (R : Rel w.params h₀ φ O X L m s.heap) (H : PostT w.params h₀ φ X L m D k Q s) :
    wpG (model prog w) A (eval (.Call f args [] pos) env) Q E s := by
  cases hf : attrOf f with
  | none =>
    rw [hf] at h
    exact call_sound B X1 S hr h V R H (by cases f <;> first | rfl | cases hf)
  | some q =>
    rw [hf] at h
    obtain ⟨hc, h⟩ := ifT_of h
    simp only [Bool.and_eq_true, decide_eq_true_eq, Bool.not_eq_true'] at hc
    rw [attrOf_some hf]
    exact method_sound B X1 S hr.pred hc.1.1.1 (beq_iff_eq.mpr hc.1.1.2) hc.1.2 hc.2 h V R H
theorem gen1_some {gs : List Comprehension} {g : Str × Expr × List Expr × Int} (h : gen1 gs = some g) : ∃ p, gs = [⟨.Name g.1 p, g.2.1, g.2.2.1, g.2.2.2⟩] := by
  obtain ⟨c, hc, h1⟩ := Option.bind_eq_some_iff.mp h
  obtain ⟨x, hx, h2⟩ := Option.bind_eq_some_iff.mp h1
  cases h2
  obtain ⟨t, i, fs, a⟩ := c
  exact ⟨x.2, by rw [sing_some hc, ← nameOf_some hx]⟩
theorem stepE_sound (B : Tops prog w h₀ tb K) (X1 : Extra prog w) (S : Sound prog w h₀ r n) (hr : Room A (n + 1)) {e : Expr} {k : AV → Ost → Tr} {Q : Value → Shared → Prop} (h : (stepE tb r Γ l e O k).holds D)
    (V : EnvOk env L m X φ Γ l) (R : Rel w.params h₀ φ O X L m s.heap) (H : PostT w.params h₀ φ X L m D k Q s) : wpG (model prog w) A (eval e env) Q E s := by
  have hp := hr.pred
  cases e with
  | Constant c kk p => exact constV_sound h R H
  | Name x p => exact nameV_sound B.toBase h V R H
  | BoolOp op es p => exact boolV_sound S hp h V R H
  | BinOp a op b p =>
    exact wpG_BinOp (S.E h hp V R fun va ua O1 φ1 h1 tk1 hk1 R1 p1 ra => S.E hk1 hp (V.mono p1) R1 fun vb ub O2 φ2 h2 tk2 hk2 R2 p2 rb => wpG_of (binV_sound (s := { s with heap := h2, toks := tk2 }) hk2 R2 (ra.mono p2) rb (H.later (p1.trans p2))))
  | UnaryOp op a p =>
    exact wpG_UnaryOp (S.E h hp V R fun va ua O1 φ1 h1 tk1 hk1 R1 p1 ra => wpG_of (unV_sound (s := { s with heap := h1, toks := tk1 }) (k := fun v => k v O1) hk1 R1 ra fun v u tk hk rv => H hk R1 p1 rv))
  | IfExp t a b p =>
    refine wpG_IfExp (S.T h hp V R fun c O1 φ1 h1 tk1 hk1 R1 p1 => ?_)
    rcases br_elim hk1 with ⟨rfl, hk1⟩ | ⟨rfl, hk1⟩
    · exact S.E hk1 hp (V.mono p1) R1 (H.later p1)
    · exact S.E hk1 hp (V.mono p1) R1 (H.later p1)
  | Compare a ops bs p =>
    obtain ⟨hm, h⟩ := ifT_of (b := !lastMarks ops bs) h
    rw [arm_eval_Compare, markedEach_of_false _ _ _ (not_eq_true hm)]
    exact wpG_bind (S.E h hp V R fun va ua O1 φ1 h1 tk1 hk1 R1 p1 ra => chainV_sound (k := fun c O2 => k (.bool c) O2) B.toBase X1 S hp hk1 (V.mono p1) R1 ra fun c O2 φ2 h2 tk2 hk2 R2 p2 => H hk2 R2 (p1.trans p2) (.bool _))
  | List es p => exact list_sound S hp h V R H
  | Tuple es c p => exact tuple_sound S hp h V R H
  | Dict ks vs p =>
    obtain ⟨ns, hn, h⟩ := optT_of (o := keyNames ks) h
    obtain ⟨hc, h⟩ := ifT_of h
    simp only [Bool.and_eq_true, decide_eq_true_eq] at hc
    exact dict_sound S hp hn hc.1.1 hc.1.2 hc.2 h V R H
  | ListComp elt gs sc p =>
    obtain ⟨g, hg, hk⟩ := optT_of (o := gen1 gs) h
    obtain ⟨px, rfl⟩ := gen1_some hg
    exact comp_sound B.toBase S hp hk V R H
  | Call f args kws pos => cases kws with
    | nil => exact callE_sound B X1 S hr h V R H
    | cons _ _ => exact h.elim
  | Attribute o nm p =>
    obtain ⟨ho, h⟩ := ifT_of (b := !isCall o) h
    exact attr_sound B.toBase S hp (not_eq_true ho) h V R H
  | Subscript o i p => exact sub_sound B.toBase X1 S hp h V R H
  | _ => exact h.elim
end
end Vm
end
section
namespace Vm
open PySem PySem.W PyProof.Rows PySem.Calls PySem.SeqAt
section
variable {prog : Program} {w : World} {tb : Tb} {K : Frag} {r : Rec} {n : Nat} {A : Around} {E : Value → Shared → Prop} {s : Shared} {h₀ : Heap} {φ : List Addr} {O : Ost} {X pre post : List (Addr × Obj)} {L : Addr} {m : Str → Option Value} {env : Env} {Γ : Cx} {l : Locs} {D : Rs → Prop}
theorem allLocal_cons {e : Expr} {es : List Expr} (h : allLocal Γ (e :: es) = true) : ∃ x p, e = .Name x p ∧ Γ.names.lookup x = some .local ∧ allLocal Γ es = true := by
  unfold allLocal at h
  cases hn : nameOf e with
  | none => simp only [hn] at h; cases h
  | some q =>
    simp only [hn] at h
    obtain ⟨h1, h2⟩ := Bool.and_eq_true_iff.mp h
    exact ⟨q.1, q.2, nameOf_some hn, of_decide_eq_true h1, h2⟩
theorem stores_plain (hL : env.locals = L) {Q : Unit → Shared → Prop} {vs : List AV} {us : List Value} (f : Fa (RV φ) vs us) : ∀ {es : List Expr} {s : Shared} {m : Str → Option Value} {l : Locs}, allLocal Γ es = true → es.length = vs.length → EnvOk env L m X φ Γ l → Rel w.params h₀ φ O X L m s.heap →
    (∀ h' tk m', Rel w.params h₀ φ O X L m' h' → EnvOk env L m' X φ Γ (((nameList es).zip vs).foldl (fun l p => setL p.1 p.2 l) l) → Q () { s with heap := h', toks := tk }) →
    wpAny (model prog w) A (assignInOrder ((assignEach es env).map (·.2)) us) Q E s := by
  induction f with
  | nil =>
    intro es s m l ha hl V R H
    cases es with
    | nil => exact wpAny_pure (H _ _ _ R V)
    | cons _ _ => nomatch hl
  | @cons v u vs us rv f ih =>
    intro es s m l ha hl V R H
    cases es with
    | nil => nomatch hl
    | cons e es =>
      obtain ⟨x, p, rfl, hx, ha⟩ := allLocal_cons ha
      show wpAny _ _ (holding us (assign (.Name x p) env u) >>= fun _ => assignInOrder ((assignEach es env).map (·.2)) us) _ _ _
      exact wpAny_bind (wpAny_holding (wpAny_assign_Name (store_sound V hL R hx rv fun h1 tk1 R1 V1 => ih (s := { s with heap := h1, toks := tk1 }) ha (Nat.succ.inj hl) V1 R1 H)))
theorem stores_bind (hL : env.locals = L) {Q : Unit → Shared → Prop} {vs : List AV} {us : List Value} (f : Fa (RV φ) vs us) : ∀ {ns : List Str} {s : Shared} {m : Str → Option Value} {l : Locs}, (∀ x ∈ ns, Γ.names.lookup x = some .local) → ns.length = vs.length → EnvOk env L m X φ Γ l → Rel w.params h₀ φ O X L m s.heap →
    (∀ h' tk m', Rel w.params h₀ φ O X L m' h' → EnvOk env L m' X φ Γ ((ns.zip vs).foldl (fun l p => setL p.1 p.2 l) l) → Q () { s with heap := h', toks := tk }) →
    wpAny (model prog w) A (assignInOrder (ns.map fun n => bindName env n) us) Q E s := by
  induction f with
  | nil =>
    intro ns s m l ha hl V R H
    cases ns with
    | nil => exact wpAny_pure (H _ _ _ R V)
    | cons _ _ => nomatch hl
  | @cons v u vs us rv f ih =>
    intro ns s m l ha hl V R H
    cases ns with
    | nil => nomatch hl
    | cons x ns =>
      show wpAny _ _ (holding us (bindName env x u) >>= fun _ => assignInOrder (ns.map fun n => bindName env n) us) _ _ _
      exact wpAny_bind (wpAny_holding (bindName_ (store_sound V hL R (ha x (List.mem_cons_self)) rv fun h1 tk1 R1 V1 => ih (s := { s with heap := h1, toks := tk1 }) (fun y hy => ha y (.tail _ hy)) (Nat.succ.inj hl) V1 R1 H)))
theorem EnvOk.congr {l' : Locs} (V : EnvOk env L m X φ Γ l) (h : ∀ y, l'.lookup y = l.lookup y) : EnvOk env L m X φ Γ l' :=
  ⟨V.kind, V.globals, V.builtins, V.names, V.nodbg, fun y v a b => V.locs y v (by rw [← h]; exact a) b, fun y v a b => V.cells y v (by rw [← h]; exact a) b⟩
theorem lookup_none {α : Type} {y : Str} {l : List (Str × α)} (h : y ∉ l.map (·.1)) : l.lookup y = none := by
  cases q : l.lookup y with
  | none => rfl
  | some v => exact absurd (List.mem_map_of_mem (f := (·.1)) (mem_of_lookup q)) h
theorem foldl_lookup (y : Str) {ps : List (Str × AV)} : ∀ {l : Locs}, (ps.map (·.1)).Nodup → (ps.foldl (fun l p => setL p.1 p.2 l) l).lookup y = (ps.lookup y).or (l.lookup y) := by
  induction ps with
  | nil => exact fun _ => rfl
  | cons p r ih =>
    intro l nd
    obtain ⟨np, nd⟩ := List.nodup_cons.mp nd
    rw [List.foldl_cons, ih nd, setL_lookup, List.lookup_cons]
    cases hb : y == p.1 with
    | true =>
      have e := eq_of_beq hb
      rw [lookup_none (e ▸ np), if_pos e]; rfl
    | false => rw [if_neg (beq_eq_false_iff_ne.mp hb)]
theorem lookup_reverse (y : Str) {ps : List (Str × AV)} (nd : (ps.map (·.1)).Nodup) : ps.reverse.lookup y = ps.lookup y := by
  have ndr : (ps.reverse.map (·.1)).Nodup := by rw [List.map_reverse]; exact (List.reverse_perm _).nodup_iff.mpr nd
  cases h : ps.lookup y with
  | some v => exact mem_lookup_nodup ndr (List.mem_reverse.mpr (mem_of_lookup h))
  | none =>
    cases h2 : ps.reverse.lookup y with
    | none => rfl
    | some v =>
      have := mem_lookup_nodup nd (List.mem_reverse.mp (mem_of_lookup h2))
      rw [h] at this; cases this
theorem filterMap_full {α β : Type} {f : α → Option β} {l : List α} : (l.filterMap f).length = l.length → ∀ x ∈ l, ∃ y, f x = some y := by
  induction l with
  | nil => exact fun _ _ h => nomatch h
  | cons a l ih =>
    intro hl x hx
    cases ha : f a with
    | none =>
      rw [List.filterMap_cons_none ha] at hl
      have := List.length_filterMap_le f l
      rw [List.length_cons] at hl; omega
    | some b =>
      rw [List.filterMap_cons_some ha] at hl
      rcases List.mem_cons.mp hx with rfl | hx
      · exact ⟨b, ha⟩
      · exact ih (Nat.succ.inj hl) x hx
theorem zip_rev {α β : Type} {l : List α} {r : List β} (h : l.length = r.length) : l.reverse.zip r.reverse = (l.zip r).reverse := by
  induction l generalizing r with
  | nil => cases r with
    | nil => rfl
    | cons _ _ => nomatch h
  | cons a l ih => cases r with
    | nil => nomatch h
    | cons b r =>
      have h := Nat.succ.inj h
      rw [List.reverse_cons, List.reverse_cons, List.zip_append (by rw [List.length_reverse, List.length_reverse, h]), ih h]
      show _ = ((a, b) :: l.zip r).reverse
      rw [List.reverse_cons]; rfl
noncomputable def nmF (env : Env) (line : Nat) (x : Expr) : Option Str := match x with
  | .Name id pos => if env.kindOf id == some .local && pos.line == line then some id else none
  | _ => none
theorem names_filter {line : Nat} {env : Env} {es : List Expr} : allLocal Γ es = true → (∀ x ∈ es, ∃ y, nmF env line x = some y) → es.filterMap (nmF env line) = nameList es := by
  induction es with
  | nil => exact fun _ _ => rfl
  | cons e es ih =>
    intro ha hs
    obtain ⟨x, p, rfl, hx, ha⟩ := allLocal_cons ha
    obtain ⟨y, hy⟩ := hs _ (List.mem_cons_self)
    have hy' : (if (env.kindOf x == some .local && p.line == line) = true then some x else none) = some y := hy
    split at hy'
    · cases hy'
      rw [List.filterMap_cons_some hy, ih ha fun z hz => hs z (.tail _ hz)]
      rfl
    · cases hy'
theorem swapped_cases {es : List Expr} {e : Expr} {c : Nat} {p : Pos} (ha : allLocal Γ es = true) (hp : plainPair e = true) :
    swappedStores [.Tuple es c p] e env = pure none ∨ swappedStores [.Tuple es c p] e env = pure (some (nameList es)) := by
  cases e with
  | Tuple vs c2 p2 =>
    have hp : (!vs.all (constantsAlone 8) && !vs.any isStarred) = true := hp
    simp only [Bool.and_eq_true, Bool.not_eq_true'] at hp
    unfold swappedStores
    dsimp only
    split
    · exact .inl rfl
    · split
      · exact .inl rfl
      · split
        · exact .inl rfl
        · split
          · exact .inl rfl
          · rename_i h1 h2 h3 h4
            rw [if_neg (by rw [hp.1]; decide)]
            refine .inr ?_
            have h3 : ¬ ((es.filterMap (nmF env ((es.head?.map (·.pos.line)).getD 0))).length != es.length || (es.filterMap (nmF env ((es.head?.map (·.pos.line)).getD 0))).eraseDups.length != (es.filterMap (nmF env ((es.head?.map (·.pos.line)).getD 0))).length) = true := h3
            have hl : (es.filterMap (nmF env ((es.head?.map (·.pos.line)).getD 0))).length = es.length := by
              simp only [Bool.or_eq_true, bne_iff_ne, not_or, Decidable.not_not] at h3
              exact h3.1
            show pure (some (es.filterMap (nmF env ((es.head?.map (·.pos.line)).getD 0)))) = _
            rw [names_filter ha (filterMap_full hl)]
  | _ => exact .inl rfl
theorem nameList_length {es : List Expr} : allLocal Γ es = true → (nameList es).length = es.length ∧ ∀ x ∈ nameList es, Γ.names.lookup x = some .local := by
  induction es with
  | nil => exact fun _ => ⟨rfl, fun _ h => nomatch h⟩
  | cons e es ih =>
    intro ha
    obtain ⟨x, p, rfl, hx, ha⟩ := allLocal_cons ha
    obtain ⟨a, b⟩ := ih ha
    refine ⟨congrArg Nat.succ a, fun y hy => ?_⟩
    rcases List.mem_cons.mp hy with rfl | hy
    · exact hx
    · exact b y hy
theorem assignEach_plain {es : List Expr} : allLocal Γ es = true → (assignEach es env).length = es.length ∧ (assignEach es env).findIdx? (·.1) = none := by
  induction es with
  | nil => exact fun _ => ⟨rfl, rfl⟩
  | cons e es ih =>
    intro ha
    obtain ⟨x, p, rfl, hx, ha⟩ := allLocal_cons ha
    obtain ⟨a, b⟩ := ih ha
    have e : assignEach (.Name x p :: es) env = (false, assign (.Name x p) env) :: assignEach es env := rfl
    rw [e]
    exact ⟨congrArg Nat.succ a, by rw [List.findIdx?_cons, b]; rfl⟩
inductive TupInv (w : World) (h₀ : Heap) (X : List (Addr × Obj)) (L : Addr) (m : Str → Option Value) (φ : List Addr) (es : List Expr) (good : List AV → Ost → Prop) (s : Shared) : Value → Shared → Prop
  | mk {t : Addr} {vs : List AV} {us : List Value} {O1 : Ost} {φ1 : List Addr} {h1 : Heap} {tk1 : Tok} : h1.IsTuple t us.toArray → Fa (RV φ1) vs us → es.length = vs.length → good vs O1 → Rel w.params h₀ φ1 O1 X L m h1 → φ <+: φ1 → TupInv w h₀ X L m φ es good s (.ref t) { s with heap := h1, toks := tk1 }
theorem assignTuple_sound (S : Sound prog w h₀ r n) (hr : Room A n) (hL : env.locals = L) {es : List Expr} {e : Expr} {c : Nat} {p pos : Pos} {k : AF → Locs → Ost → Tr} {Q : Flow → Shared → Prop} (h : (asgTup r Γ l es e O k).holds D)
    (V : EnvOk env L m X φ Γ l) (R : Rel w.params h₀ φ O X L m s.heap) (H : PostST w.params h₀ φ X L env Γ D k Q s) :
    wpG (model prog w) A (exec (.Assign [.Tuple es c p] e pos) env) Q E s := by
  obtain ⟨hc, h⟩ := ifT_of h
  simp only [Bool.and_eq_true, decide_eq_true_eq] at hc
  obtain ⟨⟨ha, nd⟩, hp⟩ := hc
  have hsw : swapsWithSole [.Tuple es c p] e pos.line env = pure false := by
    show swapsWith e (some (.Tuple es c p)) pos.line env = pure false
    cases e <;> rfl
  have body : wpG (model prog w) A (eval e env) (TupInv w h₀ X L m φ es (fun vs O1 => (k .next (((nameList es).zip vs).foldl (fun l p => setL p.1 p.2 l) l) O1).holds D) s) E s := by
    refine S.E h hr V R fun v u O1 φ1 h1 tk1 hk1 R1 p1 rv => ?_
    obtain ⟨i, vs, rfl, eo, hk1⟩ := tupV_of (v := v) hk1
    obtain ⟨hlen, hk1⟩ := ifT_of hk1
    obtain ⟨a, us, rfl, hi, l1, f⟩ := Rel.isTuple (s := { s with heap := h1, toks := tk1 }) R1 eo rv
    exact .mk l1 f (of_decide_eq_true hlen) hk1 R1 p1
  obtain ⟨nl1, nl2⟩ := nameList_length ha
  have grow : ∀ {h1 h2 : Heap}, Heap.ExtBut h1.objs.size h1 h2 → ∀ b o, h1.get? b = some o → h2.get? b = some o := fun he b o e => he b o (Nat.ne_of_lt (Heap.lt_size e)) e
  rcases swapped_cases (env := env) (c := c) (p := p) ha hp with hw | hw
  · refine AssignG_Tuple (wpG_mono body (fun v s₁ hv => ?_) fun _ _ x => x) hsw hw
    obtain ⟨l1, f, hlen, hk1, R1, p1⟩ := hv
    obtain ⟨a1, a2⟩ := assignEach_plain (env := env) ha
    exact wpG_of (wpAny_assign_Tuple hr.handled l1 (a1.trans (hlen.trans f.length)) a2 fun h2 he =>
      stores_plain hL f ha hlen (V.mono p1) (R1.keeps (grow he)) fun h3 tk3 m3 R3 V3 => H hk1 R3 p1 V3 .next)
  · refine AssignG_Tuple_swapped (wpG_mono body (fun v s₁ hv => ?_) fun _ _ x => x) hsw hw
    obtain ⟨l1, f, hlen, hk1, R1, p1⟩ := hv
    rename_i t vs us O1 φ1 h1 tk1
    have hsz : (nameList es).length = us.toArray.size := nl1.trans (hlen.trans f.length)
    rw [hsz]
    refine wpG_of (wpAny_unpackItems_tuple hr.handled l1 fun h2 he => ?_)
    have hlr : (nameList es).reverse.length = vs.reverse.length := by rw [List.length_reverse, List.length_reverse, nl1, hlen]
    refine wpG_of (stores_bind (s := { s with heap := h2, toks := tk1 }) hL f.reverse (fun x hx => nl2 x (List.mem_reverse.mp hx)) hlr (V.mono p1) (R1.keeps (grow he)) fun h3 tk3 m3 R3 V3 => ?_)
    refine H hk1 R3 p1 (V3.congr fun y => ?_) .next
    have ndz : (((nameList es).zip vs).map (·.1)).Nodup := by rw [List.map_fst_zip (by omega)]; exact nd
    rw [zip_rev (nl1.trans hlen), foldl_lookup y ndz, foldl_lookup y (by rw [List.map_reverse]; exact (List.reverse_perm _).nodup_iff.mpr ndz), lookup_reverse y ndz]
end
end Vm
end
section
namespace Vm
open PySem PySem.W PyProof.Rows PySem.Calls PySem.SeqAt
section
variable {P : Params} {h₀ h h' : Heap} {φ : List Addr} {O : Ost} {X Y Y' : List (Addr × Obj)} {L : Addr} {m : Str → Option Value}
theorem Rel.goneX (x : Rel P h₀ φ O (Y ++ X) L m h) (hs : ∀ b o, b ∉ Y.map (·.1) → h.get? b = some o → h'.get? b = some o) : Rel P h₀ φ O X L m h' := by
  have y := x.dropX
  obtain ⟨cs, fa, hl, N⟩ := x.ex
  have nd := x.nd
  rw [List.map_append] at nd
  have nYX : ∀ b ∈ φ ++ X.map (·.1), b ∉ Y.map (·.1) := fun b hb hY => by
    have h1 := List.nodup_append.mp nd
    rcases List.mem_append.mp hb with q | q
    · exact h1.2.2 b q b (List.mem_append_left _ hY) rfl
    · exact (List.nodup_append.mp h1.2.1).2.2 b hY b q rfl
  have nL : L ∉ Y.map (·.1) := fun hY => by
    obtain ⟨p, hp, e⟩ := List.mem_map.mp hY
    exact (x.raw (List.mem_append_left _ hp)).2.1 e
  have nh : ∀ b o, h₀.get? b = some o → b ∉ Y.map (·.1) := fun b o e hY => by
    obtain ⟨p, hp, e'⟩ := List.mem_map.mp hY
    have := (x.raw (List.mem_append_left _ hp)).2.2
    rw [e', e] at this; cases this
  refine ⟨⟨?_, fun b o e => hs b o (nh b o e) (x.F.keep b o e), x.F.above⟩, ⟨cs, fa, hl, fun p hp => ?_⟩, y.nd, y.low⟩
  · obtain ⟨oL, es, ep, hL, r⟩ := x.F.ns
    exact ⟨oL, es, ep, hs L _ nL hL, r⟩
  · have hm : p.1 ∈ φ ++ X.map (·.1) := by
      rcases List.mem_append.mp hp with q | q
      · exact List.mem_append_left _ (List.of_mem_zip (show (p.1, p.2) ∈ _ from q)).1
      · exact List.mem_append_right _ (List.mem_map_of_mem q)
    have Np := N p (by
      rcases List.mem_append.mp hp with q | q
      · exact List.mem_append_left _ q
      · exact List.mem_append_right _ (List.mem_append_right _ q))
    exact ⟨hs p.1 _ (nYX _ hm) Np.1, Np.2⟩
theorem Rel.swapX (x : Rel P h₀ φ O (Y ++ X) L m h) (hs : ∀ b o, b ∉ Y.map (·.1) → h.get? b = some o → h'.get? b = some o) (hY : Y'.map (·.1) = Y.map (·.1)) (hg : ∀ p ∈ Y', h'.get? p.1 = some p.2) : Rel P h₀ φ O (Y' ++ X) L m h' := by
  have y := x.goneX hs
  obtain ⟨cs, fa, hl, N⟩ := y.ex
  have nd := x.nd
  refine ⟨y.F, ⟨cs, fa, hl, fun p hp => ?_⟩, by rw [List.map_append, hY, ← List.map_append]; exact nd, by rw [List.map_append, hY, ← List.map_append]; exact x.low⟩
  rcases List.mem_append.mp hp with q | q
  · exact N p (List.mem_append_left _ q)
  · rcases List.mem_append.mp q with q | q
    · have hm : p.1 ∈ Y.map (·.1) := hY ▸ List.mem_map_of_mem q
      obtain ⟨p', hp', e⟩ := List.mem_map.mp hm
      have A := x.raw (List.mem_append_left _ hp')
      rw [e] at A
      exact ⟨hg p q, A.2⟩
    · exact N p (List.mem_append_right _ q)
end
open KBw in
theorem nextOf_item {prog : Program} {w : World} {A : Around} {E : Value → Shared → Prop} {s : Shared} {b : Array UInt8} {t : Tok} {it : Addr} {i : Nat} {c : UInt8} {Q : Value → Shared → Prop} (hit : IsBytesIter s.heap it b t i) (hx : b[i]? = some c)
    (hQ : ∀ h', IsBytesIter h' it b t (i + 1) → Heap.SameBut it s.heap h' → Q (.int (c.toNat : Int) s.toks) { s with heap := h', toks := s.toks + 1 }) : wpAny (model prog w) A (Builtin.SmallTypes.nextOf (.ref it)) Q E s := by
  obtain ⟨o, ho, hc, hd⟩ := id hit
  unfold Builtin.SmallTypes.nextOf
  refine wpAny_bind (wpAny_callSpecial?_slot (name := Str.ofString "__next__") (iter_typeIs hit) slot_next (wpAny_call_entry slot_next (iter_typeIs hit) entry_next ?_ (args_next _)))
  show wpAny _ _ (field (.ref it) 0 >>= _) _ _ s
  refine wpAny_bind (wpAny_field ho hd (x := .bytes b t) rfl ?_)
  show wpAny _ _ (if (Value.bytes b t == Value.none) = true then _ else _) _ _ s
  rw [if_neg (show ¬ ((Value.bytes b t == Value.none) = true) from Bool.false_ne_true)]
  show wpAny _ _ (field (.ref it) 1 >>= _) _ _ s
  refine wpAny_bind (wpAny_field ho hd (x := .int i 0) rfl ?_)
  refine wpAny_bind (wpAny_of_eq (a := b) rfl ?_)
  simp only [Int.toNat_natCast, hx]
  refine wpAny_bind (wpAny_setField ho hd (by simp) (wpAny_bind (wpAny_mkInt (wpAny_pure ⟨_, rfl, wpAny_pure (hQ _ ?_ (Heap.SameBut.update ..))⟩))))
  exact ⟨_, Heap.get?_update_self _ ho (Obj.isFreed_of_fields (Obj.data_mapFields hd _)), (Obj.cls_mapFields ..).trans hc, by rw [Obj.data_mapFields hd]; simp [rawInt]⟩
open KBw in
theorem nextOf_end {prog : Program} {w : World} {A : Around} {E : Value → Shared → Prop} {s : Shared} {b : Array UInt8} {t : Tok} {it : Addr} {i : Nat} {Q : Value → Shared → Prop} (hh : A.handled = none) (hit : IsBytesIter s.heap it b t i) (hx : b[i]? = none)
    (hE : ∀ h' e, Heap.ExtBut it s.heap h' → (∃ o, h'.get? e = some o ∧ o.cls = .type "StopIteration") → E (.ref e) { s with heap := h' }) : wpAny (model prog w) A (Builtin.SmallTypes.nextOf (.ref it)) Q E s := by
  obtain ⟨o, ho, hc, hd⟩ := id hit
  unfold Builtin.SmallTypes.nextOf
  refine wpAny_bind (wpAny_callSpecial?_slot (name := Str.ofString "__next__") (iter_typeIs hit) slot_next (wpAny_call_entry slot_next (iter_typeIs hit) entry_next ?_ (args_next _)))
  show wpAny _ _ (field (.ref it) 0 >>= _) _ _ s
  refine wpAny_bind (wpAny_field ho hd (x := .bytes b t) rfl ?_)
  show wpAny _ _ (if (Value.bytes b t == Value.none) = true then _ else _) _ _ s
  rw [if_neg (show ¬ ((Value.bytes b t == Value.none) = true) from Bool.false_ne_true)]
  show wpAny _ _ (field (.ref it) 1 >>= _) _ _ s
  refine wpAny_bind (wpAny_field ho hd (x := .int i 0) rfl ?_)
  refine wpAny_bind (wpAny_of_eq (a := b) rfl ?_)
  simp only [Int.toNat_natCast, hx]
  refine wpAny_bind (wpAny_rule (wpAny_bind (wpAny_setField ho hd (by simp) ?_)))
  show wpAny _ _ (newExc (.type "StopIteration") [] >>= _) _ _ _
  refine wpAny_bind ?_
  simp only [newExc, newTuple]
  refine wpAny_bind (wpAny_newObj_type ?_ (by size_fits))
  refine wpAny_bind (m := firstArgMember _ _) (wpAny_of_eq (a := Value.none) (by first | rfl | (simp only [firstArgMember]; rfl)) ?_)
  refine wpAny_newObj_type ?_ (by size_fits)
  simp only [raiseNew]
  refine wpAny_bind (wpAny_handled ?_)
  first | rw [show A.in1.handled = none from hh] | rw [hh]
  refine wpAny_bind (wpAny_pure (wpAny_throw ?_))
  exact hE _ _ (((Heap.SameBut.update ..).extBut.push _).push _) ⟨_, Heap.get?_push_size _ rfl, rfl⟩
theorem drawsB {prog : Program} {w : World} {A : Around} (hh : A.handled = none) (it : Addr) (b : Array UInt8) (t : Tok) :
    Draws prog w A it [it] b.size (fun i v => ∃ c u, b[i]? = some c ∧ v = .int (c.toNat : Int) u) (fun i h => KBw.IsBytesIter h it b t i) where
  live := fun _ _ st => let ⟨o, ho, _⟩ := st; ⟨o, ho⟩
  frame := fun _ _ _ st hk => let ⟨o, ho, r⟩ := st; ⟨o, hk it (by simp) o ho, r⟩
  item := fun i s Q E hi st hQ => nextOf_item st (c := b[i]) (by simp [hi]) fun h' hit' hs' => hQ _ h' (s.toks + 1) ⟨_, _, by simp [hi], rfl⟩ hit' hs'
  done := fun s Q E st hE => nextOf_end hh st (by simp) hE
set_option maxHeartbeats 1000000 in
theorem meets_enumB (b : Array UInt8) (t : Tok) :
    Meets (Builtin.«enumerate.__new__» ⟨[.type "enumerate", .bytes b t], []⟩) (fun _ R s =>
      R (.ok (.ret (.ref (s.heap.push { cls := .type "bytes_iterator", data := .fields #[.bytes b t, .int 0 0] }).objs.size)))
        { s with heap := (s.heap.push { cls := .type "bytes_iterator", data := .fields #[.bytes b t, .int 0 0] }).push { cls := .type "enumerate", data := .fields #[.none, .bool false, .ref s.heap.objs.size, rawInt 0, .none, .none] } }) :=
  .of_wp fun prog w A R s h => by
    obtain ⟨hp, g, d, tk, os⟩ := s
    have hsub := sub_enumerate
    wp_walk
    refine wpAny_stack_any fun st => wpAny_pure ?_
    split
    · rename_i c _ _ _ _ _
      cases (c == Value.type "enumerate")
      · wp_walk using KBw.pyIter_bytes
        exact ⟨_, rfl, h⟩
      · wp_walk using KBw.pyIter_bytes
        exact ⟨_, rfl, h⟩
    · wp_walk using KBw.pyIter_bytes
      exact ⟨_, rfl, h⟩
theorem call_enumB {prog : Program} {w : World} {A : Around} {E : Value → Shared → Prop} {s : Shared} {b : Array UInt8} {t : Tok} {Q : Value → Shared → Prop}
    (h : Q (.ref (s.heap.objs.size + 1)) { s with heap := (s.heap.push { cls := .type "bytes_iterator", data := .fields #[.bytes b t, .int 0 0] }).push { cls := .type "enumerate", data := .fields #[.none, .bool false, .ref s.heap.objs.size, rawInt 0, .none, .none] } }) :
    wpAny (model prog w) A (call (.type "enumerate") [.bytes b t]) Q E s := by
  refine callType_new F.called_enumerate (by decide) (F.typeCall_enumerate_1 _) (F.newCall_enumerate_1 _) (fun obj => F.args_object_init_2 obj _) F.entry_enumerate_new (meets_enumB b t) ?_
  have hz : (s.heap.push { cls := .type "bytes_iterator", data := .fields #[.bytes b t, .int 0 0] }).objs.size = s.heap.objs.size + 1 := Heap.size_push ..
  show _ ∧ _
  rw [hz]
  have he : IsEnum ((s.heap.push { cls := .type "bytes_iterator", data := .fields #[.bytes b t, .int 0 0] }).push
      { cls := .type "enumerate", data := .fields #[.none, .bool false, .ref s.heap.objs.size, rawInt 0, .none, .none] }) (s.heap.objs.size + 1) s.heap.objs.size 0 .none := by
    have := Heap.get?_push_size (s.heap.push { cls := .type "bytes_iterator", data := .fields #[.bytes b t, .int 0 0] })
      (o := { cls := .type "enumerate", data := .fields #[.none, .bool false, .ref s.heap.objs.size, rawInt 0, .none, .none] }) rfl
    rw [hz] at this
    exact this
  exact ⟨⟨_, he, rfl⟩, h⟩
section
variable {prog : Program} {w : World} {tb : Tb} {K : Frag} {r : Rec} {n : Nat} {A : Around} {E : Value → Shared → Prop} {s : Shared} {h₀ : Heap} {φ : List Addr} {O : Ost} {X pre post : List (Addr × Obj)} {L : Addr} {m : Str → Option Value} {env : Env} {Γ : Cx} {l : Locs} {D : Rs → Prop}
noncomputable def enumObj (it : Addr) (i : Int) (old : Value) : Obj := { cls := .type "enumerate", dict := none, data := .fields #[.none, .bool false, .ref it, rawInt i, .none, old], slots := #[] }
inductive EInv (w : World) (h₀ : Heap) (X : List (Addr × Obj)) (L : Addr) (env : Env) (Γ : Cx) (items : List AV) (d : Array UInt8) (t : Tok) (φ : List Addr) (e it : Addr) (step : Nat → List AV → Locs → Ost → Prop) (s : Shared) : Nat → Shared → Prop
  | mk {i : Nat} {vs : List AV} {l' : Locs} {φ' : List Addr} {O' : Ost} {m' : Str → Option Value} {h' : Heap} {tk : Tok} {cE cI : Obj} : items.drop i = vs → i ≤ d.size → step i vs l' O' → φ <+: φ' → ((∃ old, IsEnum h' e it (i : Int) old) ∧ KBw.IsBytesIter h' it d t i) →
    Rel w.params h₀ φ' O' ([(e, cE), (it, cI)] ++ X) L m' h' → EnvOk env L m' X φ' Γ l' → EInv w h₀ X L env Γ items d t φ e it step s (vs.length + 1) { s with heap := h', toks := tk }
theorem forEnum_sound (S : Sound prog w h₀ r n) (hr : Room A n) (hL : env.locals = L) {x y : Str} {px py tpos : Pos} {c : Nat} {body : List Stmt} {e it : Addr} {cE cI : Obj} {d : Array UInt8} {t : Tok} {k : AF → Locs → Ost → Tr} {Q : Flow → Shared → Prop}
    (hloc : allLocal Γ [.Name x px, .Name y py] = true) (h : (forL r Γ (.two x y) body (.enumB (KBw.bInts d)) 0 ((KBw.bInts d).map AV.int) l O k).holds D) (hei : e ≠ it)
    (st : (∃ old, IsEnum s.heap e it 0 old) ∧ KBw.IsBytesIter s.heap it d t 0) (V : EnvOk env L m X φ Γ l) (R : Rel w.params h₀ φ O ([(e, cE), (it, cI)] ++ X) L m s.heap) (H : PostST w.params h₀ φ X L env Γ D k Q s) {E' : Value → Shared → Prop} :
    codeG (model prog w) A (.forLoop (.Tuple [.Name x px, .Name y py] c tpos) (.ref e) body [] env) (loopEnd Q E') s := by
  have W := WalksT.enumerateD (drawsB (prog := prog) (w := w) (A := A.in1) hr.handled it d t) e hei (by simpa using hei) (by simp)
  have hlen : ((KBw.bInts d).map AV.int).length = d.size := by rw [List.length_map, KBw.ints_length]
  refine codeG_forLoop_any (EInv w h₀ X L env Γ ((KBw.bInts d).map AV.int) d t φ e it (fun i vs l' O' => (forL r Γ (.two x y) body (.enumB (KBw.bInts d)) i vs l' O' k).holds D) s) ?_ (((KBw.bInts d).map AV.int).length + 1)
    (.mk (s := s) (h' := s.heap) (tk := s.toks) rfl (Nat.zero_le _) h (List.prefix_refl _) st R V)
  rintro q s' ⟨hvs, hile, hF, pp, stI, RI, VI⟩
  rename_i i vs l' φ' O' m' h' tk cE cI
  have two : ∀ {b : Addr}, b ∉ [(e, cE), (it, cI)].map (·.1) → b ∉ [e, it] := id
  rcases Nat.lt_or_ge i d.size with hlt | hge
  · refine wpG_of (W.item i _ _ _ hlt stI fun T vals h1 tk1 hPt hT hIT hMid hk => wpG_of (W.go _ c tpos i T _ _ _ hMid fun h2 st2 hk2 => ?_))
    obtain ⟨⟨old2, hE2⟩, it2⟩ := st2
    have hIT2 : h2.IsTuple T vals := hIT.at fun o e => hk2 T o (W.apart i T _ hMid) e
    obtain ⟨oi, hoi, ri⟩ := id it2
    have R2 : Rel w.params h₀ φ' O' ([(e, enumObj it ((i + 1 : Nat) : Int) old2), (it, oi)] ++ X) L m' h2 := RI.swapX (Y := [(e, cE), (it, cI)]) (Y' := [(e, enumObj it ((i + 1 : Nat) : Int) old2), (it, oi)]) (fun b o hb e' => hk2 b o (by simpa using hb) (hk b o (by simpa using hb) e')) rfl
      (fun p hp => by
        rcases List.mem_cons.mp hp with rfl | hp
        · exact hE2
        · cases List.mem_singleton.mp hp; exact hoi)
    obtain ⟨ti, u, ⟨c1, u1, hc1, rfl⟩, rfl⟩ := hPt
    have hlt' : i < ((KBw.bInts d).map AV.int).length := by rw [hlen]; exact hlt
    have hv : ((KBw.bInts d).map AV.int)[i] = .int (c1.toNat : Int) := (List.getElem?_eq_some_iff.mp (by rw [List.getElem?_map, KBw.ints_get hc1]; rfl)).2
    cases (show vs = .int (c1.toNat : Int) :: ((KBw.bInts d).map AV.int).drop (i + 1) by rw [← hvs, List.drop_eq_getElem_cons hlt', hv])
    obtain ⟨_, hF⟩ := hF
    refine wpG_of (wpAny_assign_Tuple (s := { s with heap := h2, toks := tk1 }) hr.handled hIT2 (by rfl) (by rfl) fun h3 he3 => ?_)
    have R3 := R2.keeps fun b o e => he3 b o (Nat.ne_of_lt (Heap.lt_size e)) e
    refine stores_plain (s := { s with heap := h3, toks := tk1 }) (vs := [.int (i : Int), .int (c1.toNat : Int)]) hL (.cons (.int _ _) (.cons (.int _ _) .nil)) hloc rfl (VI.more (Y := [(e, enumObj it ((i + 1 : Nat) : Int) old2), (it, oi)] ++ X) fun p hp => List.mem_append_right _ hp) R3 fun h4 tk4 m4 R4 V4 => ?_
    refine exs_sound S hr hL hF V4 R4 fun f g l5 O5 φ5 m5 h5 tk5 hk5 R5 p5 V5 rf => ?_
    have st5 : (∃ old, IsEnum h5 e it ((i + 1 : Nat) : Int) old) ∧ KBw.IsBytesIter h5 it d t (i + 1) := ⟨⟨old2, (R5.raw (p := (e, enumObj it ((i + 1 : Nat) : Int) old2)) (.head _)).1⟩, oi, (R5.raw (p := (it, oi)) (.tail _ (.head _))).1, ri⟩
    have V6 : EnvOk env L m5 X φ5 Γ l5 := EnvOk.less (EnvOk.less V5 hL R5 (fun v q => by cases q)) hL R5.popX (fun v q => by
      have q : oi.data = .cell v := q
      have := ri.2
      rw [q] at this; cases this)
    cases rf with
    | next => exact ⟨_, Nat.lt_succ_self _, .mk rfl hlt hk5 (pp.trans p5) st5 R5 V6⟩
    | cont => exact ⟨_, Nat.lt_succ_self _, .mk rfl hlt hk5 (pp.trans p5) st5 R5 V6⟩
    | brk => exact H hk5 R5.popX.popX (pp.trans p5) V6 .next
    | ret rv => exact H hk5 R5.popX.popX (pp.trans p5) V6 (.ret rv)
  · cases (Nat.le_antisymm hge hile : d.size = i)
    cases (show vs = [] by rw [← hvs, List.drop_eq_nil_of_le (by omega)])
    exact wpG_of (W.done _ _ _ stI fun h2 tk2 hk => wpG_execs_nil (H hF.2 (RI.goneX (Y := [(e, cE), (it, cI)]) fun b o hb e' => hk b o (by simpa using hb) e') pp VI .next))
theorem PostST.loop {P : Params} {k : AF → Locs → Ost → Tr} {Q : Flow → Shared → Prop} {f : AF} {l0 : Locs} {O0 : Ost} (H : PostST P h₀ φ X L env Γ D k Q s) (hk : (k f l0 O0).holds D) : PostST P h₀ φ X L env Γ (fun y => y = .f f l0 O0) (fun f l O => .done (.f f l O)) Q s :=
  fun f1 g l1 O1 φ' m' h' tk e R p V rf => by cases e; exact H hk R p V rf
theorem forEnum_stmt (B : Base prog w h₀ tb K) (S : Sound prog w h₀ r n) (hr : Room A n) (hL : env.locals = L) {x y f : Str} {px py fp cpos tpos pos : Pos} {c : Nat} {a : Expr} {body : List Stmt} {k : AF → Locs → Ost → Tr} {Q : Flow → Shared → Prop}
    (hloc : allLocal Γ [.Name x px, .Name y py] = true) (hs : isStarred a = false) (hg : isGlobal Γ f = true) (hf : tb.glob f = some (.val (.type "enumerate")))
    (h : (r.E Γ l a O fun v O1 => bytesV v fun d => .loop (forP r Γ (.two x y) body (.enumB d) l O1) k).holds D) (V : EnvOk env L m X φ Γ l) (R : Rel w.params h₀ φ O X L m s.heap) (H : PostST w.params h₀ φ X L env Γ D k Q s) :
    wpG (model prog w) A (exec (.For (.Tuple [.Name x px, .Name y py] c tpos) (.Call (.Name f fp) [a] [] cpos) body [] pos) env) Q E s := by
  refine wpG_For (callType1 B V R hs hg hf (S.E h hr V R fun v u O1 φ1 h1 tk1 hk1 R1 p1 rv => ?_))
  obtain ⟨b, rfl, fl, l0, O0, hP, hk⟩ := bytesV_of (v := v) hk1
  obtain ⟨d, t, rfl, rfl⟩ := rv.bytes_inv
  refine wpG_of (call_enumB ?_)
  have hz : (h1.push { cls := .type "bytes_iterator", data := .fields #[.bytes d t, .int 0 0] }).objs.size = h1.objs.size + 1 := Heap.size_push ..
  have R2 : Rel w.params h₀ φ1 O1 ((h1.objs.size, { cls := .type "bytes_iterator", data := .fields #[.bytes d t, .int 0 0] }) :: X) L m (h1.push { cls := .type "bytes_iterator", data := .fields #[.bytes d t, .int 0 0] }) :=
    R1.pushX (fun _ _ e => Heap.get?_push_of_some _ e) (Nat.le_refl _) (Heap.get?_push_size _ rfl)
  have R3 := R2.pushX (c := enumObj h1.objs.size 0 .none) (fun _ _ e => Heap.get?_push_of_some _ e) (Nat.le_refl _) (Heap.get?_push_size _ rfl)
  rw [hz] at R3
  have e3 := (R3.raw (p := (h1.objs.size + 1, enumObj h1.objs.size 0 .none)) (.head _)).1
  have i3 := (R3.raw (p := (h1.objs.size, { cls := .type "bytes_iterator", data := .fields #[.bytes d t, .int 0 0] })) (.tail _ (.head _))).1
  exact wpG_of (wpAny_pyIter_enum (it := h1.objs.size) (i := 0) (old := .none) e3
    (forEnum_sound (s := { s with heap := (h1.push { cls := .type "bytes_iterator", data := .fields #[.bytes d t, .int 0 0] }).push (enumObj h1.objs.size 0 .none), toks := tk1 }) S hr hL hloc hP (Nat.succ_ne_self _) ⟨⟨.none, e3⟩, _, i3, rfl, rfl⟩ (V.mono p1) R3 (PostST.loop (H.later p1) hk)))
end
end Vm
end
section
namespace Vm
open PySem PySem.W PyProof.Rows PySem.Calls PySem.SeqAt
section
variable {prog : Program} {w : World} {tb : Tb} {K : Frag} {r : Rec} {n : Nat} {A : Around} {E : Value → Shared → Prop} {s : Shared} {h₀ : Heap} {φ : List Addr} {O : Ost} {X pre post : List (Addr × Obj)} {L : Addr} {m : Str → Option Value} {env : Env} {Γ : Cx} {l : Locs} {D : Rs → Prop}
theorem PostST.loopW {P : Params} {k : AF → Locs → Ost → Tr} {Q : Flow → Shared → Prop} {f : AF} {l0 : Locs} {O0 : Ost} (H : PostST P h₀ φ X L env Γ D k Q s) (hk : (k f l0 O0).holds D) : PostS P h₀ φ X L env Γ (fun f1 l1 O1 => f1 = f ∧ l1 = l0 ∧ O1 = O0) Q s :=
  fun f1 g l1 O1 φ' m' h' tk e R p V rf => by obtain ⟨rfl, rfl, rfl⟩ := e; exact H hk R p V rf
theorem stepW_sound (S : Sound prog w h₀ r n) (hr : Room A (n + 1)) (hL : env.locals = L) {t : Expr} {b : List Stmt} {k : AF → Locs → Ost → Tr} {Q : Flow → Shared → Prop} (h : (stepW r Γ t b l O k).holds D)
    (V : EnvOk env L m X φ Γ l) (R : Rel w.params h₀ φ O X L m s.heap) (H : PostST w.params h₀ φ X L env Γ D k Q s) :
    codeG (model prog w) A (.whileLoop t b [] env) (loopEnd Q E) s := by
  refine codeG_of_tree rfl ?_
  show wpG _ A ((whileTurn t b [] env).onRaise (fun x => do noteFrame x env; theTreesLotGoes x)) _ _ s
  refine wpG_noted ?_
  unfold whileTurn
  refine wpG_bind (S.T h hr.pred V R fun c O1 φ1 h1 tk1 hk1 R1 p1 => ?_)
  rcases br_elim hk1 with ⟨rfl, hk1⟩ | ⟨rfl, hk1⟩
  · simp only [if_true]
    refine wpG_bind (exs_sound (s := { s with heap := h1, toks := tk1 }) S hr.pred hL hk1 (V.mono p1) R1 fun f g l2 O2 φ2 m2 h2 tk2 hk2 R2 p2 V2 rf => ?_)
    have again : (LoopW r Γ t b l2 O2 k).holds D → codeG (model prog w) A (.whileLoop t b [] env) (loopEnd Q E) { s with heap := h2, toks := tk2 } := fun ⟨f0, l0, O0, hW, hk⟩ =>
      S.W (s := { s with heap := h2, toks := tk2 }) hW hr.pred hL V2 R2 (PostST.loopW (H.later (p1.trans p2)) hk)
    cases rf with
    | next => exact wpG_pure (And.intro rfl (again hk2))
    | cont => exact wpG_pure (And.intro rfl (again hk2))
    | brk => exact wpG_pure (H hk2 R2 (p1.trans p2) V2 .next)
    | ret rv => exact wpG_pure (H hk2 R2 (p1.trans p2) V2 (.ret rv))
  · simp only [Bool.false_eq_true, if_false]
    exact wpG_bind (wpG_execs_nil (wpG_pure (H hk1 R1 p1 (V.mono p1) .next)))
theorem interactive_no (V : EnvOk env L m X φ Γ l) : interactive env = false := by unfold interactive; rw [V.kind]; rfl
theorem isName_is {e : Expr} (h : isName e = true) : ∃ x p, e = .Name x p :=
  Expr.Name.elim (motive_1 := fun e => ∃ x p, e = .Name x p) e (Nat.eq_of_beq_eq_true h) fun x p => ⟨x, p, rfl⟩
theorem swap_Name {e : Expr} {x : Str} {p : Pos} {line : Nat} (h : isComp e = false) : swapsWith e (some (.Name x p)) line env = pure false := by cases e <;> first | rfl | cases h
theorem swap_Attr {e o : Expr} {x : Str} {p : Pos} {line : Nat} : swapsWith e (some (.Attribute o x p)) line env = pure false := by cases e <;> rfl
theorem swap_Sub {e o i : Expr} {p : Pos} {line : Nat} : swapsWith e (some (.Subscript o i p)) line env = pure false := by cases e <;> rfl
theorem assign1_sound (B : Base prog w h₀ tb K) (S : Sound prog w h₀ r n) (hr : Room A n) (hL : env.locals = L) {t e : Expr} {pos : Pos} {k : AF → Locs → Ost → Tr} {Q : Flow → Shared → Prop} (ht : (isName t && !isComp e || Nat.beq t.ctorIdx 20 || Nat.beq t.ctorIdx 21) = true)
    (h : (r.E Γ l e O fun v O1 => assignV tb r Γ l t v O1 fun l2 O2 => k .next l2 O2).holds D) (V : EnvOk env L m X φ Γ l) (R : Rel w.params h₀ φ O X L m s.heap) (H : PostST w.params h₀ φ X L env Γ D k Q s) :
    wpG (model prog w) A (exec (.Assign [t] e pos) env) Q E s := by
  rcases Bool.or_eq_true_iff.mp ht with ht | ht
  · rcases Bool.or_eq_true_iff.mp ht with ht | ht
    · obtain ⟨h1, h2⟩ := Bool.and_eq_true_iff.mp ht
      obtain ⟨x, p, rfl⟩ := isName_is h1
      refine wpG_Assign_Name (S.E h hr V R fun v u O1 φ1 h1 tk1 hk1 R1 p1 rv => ?_) (swap_Name (not_eq_true h2))
      obtain ⟨hx, hk1⟩ := ifT_of (b := isLoc Γ x) hk1
      exact wpG_of (store_sound (s := { s with heap := h1, toks := tk1 }) (V.mono p1) hL R1 (of_decide_eq_true hx) rv fun h2 tk2 R2 V2 => H hk1 R2 p1 V2 .next)
    · obtain ⟨o, nm, p, rfl⟩ : ∃ o nm p, t = .Attribute o nm p := Expr.Attribute.elim (motive_1 := fun t => ∃ o nm p, t = .Attribute o nm p) t (Nat.eq_of_beq_eq_true ht) fun o nm p => ⟨o, nm, p, rfl⟩
      refine wpG_Assign_Attribute (S.E h hr V R fun v u O1 φ1 h1 tk1 hk1 R1 p1 rv => ?_) swap_Attr
      obtain ⟨_, hk1⟩ := ifT_of (b := !isCall o) hk1
      refine S.E (s := { s with heap := h1, toks := tk1 }) hk1 hr (V.mono p1) R1 fun ov uo O2 φ2 h2 tk2 hk2 R2 p2 ro => ?_
      exact wpG_of (setAttrV_sound (s := { s with heap := h2, toks := tk2 }) B hk2 R2 ro (rv.mono p2) fun O3 φ3 h3 tk3 hk3 R3 p3 => H hk3 R3 ((p1.trans p2).trans p3) (V.mono ((p1.trans p2).trans p3)) .next)
  · obtain ⟨o, i, p, rfl⟩ : ∃ o i p, t = .Subscript o i p := Expr.Subscript.elim (motive_1 := fun t => ∃ o i p, t = .Subscript o i p) t (Nat.eq_of_beq_eq_true ht) fun o i p => ⟨o, i, p, rfl⟩
    refine wpG_Assign_Subscript (S.E h hr V R fun v u O1 φ1 h1 tk1 hk1 R1 p1 rv => ?_) swap_Sub
    obtain ⟨hi, hk1⟩ := ifT_of (b := isName i) hk1
    refine S.E (s := { s with heap := h1, toks := tk1 }) hk1 hr (V.mono p1) R1 fun ov uo O2 φ2 h2 tk2 hk2 R2 p2 ro => ?_
    refine S.E (s := { s with heap := h2, toks := tk2 }) hk2 hr (V.mono (p1.trans p2)) R2 fun iv ui O3 φ3 h3 tk3 hk3 R3 p3 ri => ?_
    exact wpG_of (setItemV_sound (s := { s with heap := h3, toks := tk3 }) hk3 R3 (ro.mono p3) ri (rv.mono (p2.trans p3)) fun O4 φ4 h4 tk4 hk4 R4 p4 => H hk4 R4 (((p1.trans p2).trans p3).trans p4) (V.mono (((p1.trans p2).trans p3).trans p4)) .next)
theorem swaps_none {e : Expr} {line : Nat} (h : isComp e = false) : swapsWith e none line env = pure false := by cases e <;> first | rfl | cases h
theorem bInts_take (c : Array UInt8) (k : Nat) : KBw.bInts (c.extract 0 k) = (KBw.bInts c).take k := by
  unfold KBw.bInts
  simp [List.map_take]
theorem pairOf_some {α : Type} {l : List α} {p : α × α} (h : pairOf l = some p) : l = [p.1, p.2] := by
  cases l with
  | nil => nomatch h
  | cons a r =>
    obtain ⟨b, hb, h⟩ := Option.bind_eq_some_iff.mp h
    cases h
    rw [sing_some hb]
theorem names_two {es : List Expr} : es.all isName = true → ∀ {x y : Str}, nameList es = [x, y] → ∃ px py, es = [.Name x px, .Name y py] := by
  have one : ∀ {e : Expr} {es : List Expr}, (e :: es).all isName = true → ∃ x p, e = .Name x p ∧ es.all isName = true := fun h => by
    rw [List.all_cons, Bool.and_eq_true] at h
    obtain ⟨x, p, e⟩ := isName_is h.1
    exact ⟨x, p, e, h.2⟩
  intro h x y hl
  cases es with
  | nil => nomatch hl
  | cons e es =>
    obtain ⟨x1, p1, rfl, h1⟩ := one h
    cases es with
    | nil => nomatch hl
    | cons e es =>
      obtain ⟨x2, p2, rfl, h2⟩ := one h1
      cases es with
      | nil => cases hl; exact ⟨p1, p2, rfl⟩
      | cons e es => obtain ⟨x3, p3, rfl, h3⟩ := one h2; nomatch hl
theorem forS_sound (B : Tops prog w h₀ tb K) (S : Sound prog w h₀ r n) (hr : Room A n) (hL : env.locals = L) {t e : Expr} {b : List Stmt} {pos : Pos} {k : AF → Locs → Ost → Tr} {Q : Flow → Shared → Prop} (h : (forS tb r Γ l t e b O k).holds D)
    (V : EnvOk env L m X φ Γ l) (R : Rel w.params h₀ φ O X L m s.heap) (H : PostST w.params h₀ φ X L env Γ D k Q s) : wpG (model prog w) A (exec (.For t e b [] pos) env) Q E s := by
  obtain ⟨tg, htg, h⟩ := optT_of (o := tgOf t) h
  unfold tgOf at htg
  cases hn : nameOf t with
  | some q =>
    rw [hn] at htg
    cases htg
    rw [nameOf_some hn]
    obtain ⟨hc, h⟩ := ifT_of h
    obtain ⟨hx, hs⟩ := Bool.and_eq_true_iff.mp hc
    refine wpG_For (iterE_sound B.toBase S hr h V R fun Ki O1 φ1 h1 tk1 c hk1 p1 it R1 => ?_) (fun v => foldedSet (not_eq_true hs) v)
    obtain ⟨f0, l0, O0, hP, hk⟩ := hk1
    exact for_sound (s := { s with heap := h1.push c, toks := tk1 }) (Ki := Ki) B.toBase S hr hL (of_decide_eq_true hx) hP it (V.mono p1) R1 (PostST.loop (H.later p1) hk)
  | none =>
    rw [hn] at htg
    obtain ⟨q, hq, htg⟩ := Option.bind_eq_some_iff.mp htg
    obtain ⟨p, hp, htg⟩ := Option.bind_eq_some_iff.mp htg
    obtain ⟨hall, rfl⟩ := oIf_some htg
    obtain ⟨px, py, he⟩ := names_two hall (pairOf_some hp)
    rw [tupOf_some hq, he]
    obtain ⟨hc, h2⟩ := ifT_of (b := isLoc Γ p.1 && isLoc Γ p.2) h
    obtain ⟨hx, hy⟩ := Bool.and_eq_true_iff.mp hc
    obtain ⟨a, ha, h3⟩ := optT_of h2
    obtain ⟨f, fp, cpos, rfl, hs, hg, hf⟩ := tyCall_some ha
    exact forEnum_stmt B.toBase S hr hL (show (isLoc Γ p.1 && (isLoc Γ p.2 && true)) = true by rw [hx, hy]; rfl) hs hg hf h3 V R H
theorem asgS_sound (B : Tops prog w h₀ tb K) (S : Sound prog w h₀ r n) (hr : Room A n) (hL : env.locals = L) {t e : Expr} {pos : Pos} {k : AF → Locs → Ost → Tr} {Q : Flow → Shared → Prop} (h : (asgS tb r Γ l t e O k).holds D)
    (V : EnvOk env L m X φ Γ l) (R : Rel w.params h₀ φ O X L m s.heap) (H : PostST w.params h₀ φ X L env Γ D k Q s) : wpG (model prog w) A (exec (.Assign [t] e pos) env) Q E s := by
  unfold asgS at h
  cases ht : tupOf t with
  | some q =>
    rw [ht] at h
    rw [tupOf_some ht]
    exact assignTuple_sound S hr hL h V R H
  | none =>
    rw [ht] at h
    cases ha : asgComp t e with
    | some q =>
      simp only [ha] at h
      obtain ⟨y, hy, ha⟩ := Option.bind_eq_some_iff.mp ha
      obtain ⟨c, hc, ha⟩ := Option.bind_eq_some_iff.mp ha
      obtain ⟨g, hg, ha⟩ := Option.bind_eq_some_iff.mp ha
      cases ha
      obtain ⟨px, hgs⟩ := gen1_some hg
      obtain ⟨hq, h⟩ := ifT_of h
      obtain ⟨hq, h3⟩ := Bool.and_eq_true_iff.mp hq
      obtain ⟨h1, h2⟩ := Bool.and_eq_true_iff.mp hq
      rw [nameOf_some hy, compOf_some hc, hgs]
      exact assignComp_sound B.toBase S hr hL (of_decide_eq_true h1) h2 (not_eq_true h3) h V R H
    | none =>
      simp only [ha] at h
      obtain ⟨hq, h⟩ := ifT_of h
      exact assign1_sound B.toBase S hr hL hq h V R H
theorem delOf_some {ts : List Expr} {q : Expr × Expr} (h : delOf ts = some q) : ∃ p p2, ts = [.Subscript q.1 (.Slice (some q.2) none none p) p2] := by
  obtain ⟨t, ht, h⟩ := Option.bind_eq_some_iff.mp h
  obtain ⟨s, hs, h⟩ := Option.bind_eq_some_iff.mp h
  obtain ⟨c, hc, h⟩ := Option.bind_eq_some_iff.mp h
  obtain ⟨lo, hlo, h⟩ := Option.bind_eq_some_iff.mp h
  obtain ⟨h1, rfl⟩ := oIf_some h
  obtain ⟨h2, h3⟩ := Bool.and_eq_true_iff.mp h1
  exact ⟨c.2.2.2, s.2.2, by rw [sing_some ht, subOf_some hs, sliceOf_some hc, hlo, Option.isNone_iff_eq_none.mp h2, Option.isNone_iff_eq_none.mp h3]⟩
theorem del_sound (X1 : Extra prog w) (S : Sound prog w h₀ r n) (hp : Room A n) {ts : List Expr} {pos : Pos} {k : AF → Locs → Ost → Tr} {Q : Flow → Shared → Prop}
    (h : (optT (delOf ts) fun q => r.E Γ l q.1 O fun ov O1 => r.E Γ l q.2 O1 fun b O2 => intV b fun n => delCutV ov n O2 fun O3 => k .next l O3).holds D)
    (V : EnvOk env L m X φ Γ l) (R : Rel w.params h₀ φ O X L m s.heap) (H : PostST w.params h₀ φ X L env Γ D k Q s) : wpG (model prog w) A (exec (.Delete ts pos) env) Q E s := by
  obtain ⟨q, hq, h⟩ := optT_of h
  obtain ⟨p, p2, rfl⟩ := delOf_some hq
  refine wpG_Delete (wpG_deleteEach_cons (wpG_delete_Subscript (S.E h hp V R fun ov u O1 φ1 h1 tk1 hk1 R1 p1 ro => ?_)))
  refine wpG_Slice (wpG_evalPart_some (S.E (s := { s with heap := h1, toks := tk1 }) hk1 hp (V.mono p1) R1 fun bv ub O2 φ2 h2 tk2 hk2 R2 p2 rb => wpG_evalPart_none (wpG_evalPart_none ?_)))
  obtain ⟨z, rfl, hk2⟩ := intV_of (v := bv) hk2
  obtain ⟨t, rfl⟩ := rb.int_inv
  obtain ⟨i, b, rfl, e, ⟨h0, h3, h4⟩, hk2⟩ := barrV_of (v := ov) hk2
  obtain ⟨a, c, rfl, hi, hc, ec⟩ := Rel.isBarr (s := { s with heap := h2, toks := tk2 }) R2 e (ro.mono p2)
  have R3 := R2.push { cls := .type "slice", data := .fields #[.int z t, .none, .none] }
  refine X1.barrDel (s := { s with heap := h2.push { cls := .type "slice", data := .fields #[.int z t, .none, .none] }, toks := tk2 }) (Heap.get?_push_of_some _ hc) (Heap.IsSliceOf.new _ _ _ _) h0 (by rw [bytes_of ec]; exact h3) (by rw [bytes_of ec]; exact h4) fun h5 tk5 hs5 hc5 => ?_
  refine wpG_of (wpAny_deleteEach_nil (H hk2 (R3.upd hi hs5 hc5 (.barr ?_)) (p1.trans p2) (V.mono (p1.trans p2)) .next))
  rw [← ec]; exact bInts_take c z.toNat
theorem stepS_sound (B : Tops prog w h₀ tb K) (X1 : Extra prog w) (S : Sound prog w h₀ r n) (hr : Room A (n + 1)) (hL : env.locals = L) {st : Stmt} {k : AF → Locs → Ost → Tr} {Q : Flow → Shared → Prop} (h : (stepS tb r Γ l st O k).holds D)
    (V : EnvOk env L m X φ Γ l) (R : Rel w.params h₀ φ O X L m s.heap) (H : PostST w.params h₀ φ X L env Γ D k Q s) : wpG (model prog w) A (exec st env) Q E s := by
  have hp := hr.pred
  cases st with
  | Return e p =>
    obtain ⟨e, rfl, h⟩ := optT_of (o := e) h
    exact wpG_Return_some (S.E h hp V R fun v u O1 φ1 h1 tk1 hk1 R1 p1 rv => H hk1 R1 p1 (V.mono p1) (.ret rv))
  | If t a b p =>
    refine wpG_If (S.T h hp V R fun c O1 φ1 h1 tk1 hk1 R1 p1 => ?_)
    rcases br_elim hk1 with ⟨rfl, hk1⟩ | ⟨rfl, hk1⟩
    · exact exs_sound (s := { s with heap := h1, toks := tk1 }) S hp hL hk1 (V.mono p1) R1 (H.later p1)
    · exact exs_sound (s := { s with heap := h1, toks := tk1 }) S hp hL hk1 (V.mono p1) R1 (H.later p1)
  | While t b els p => cases els with
    | nil =>
      obtain ⟨f0, l0, O0, hW, hk⟩ := h
      exact wpG_While (S.W (E := cameBackBy (model prog w) A env E) hW hp hL V R (PostST.loopW H hk))
    | cons _ _ => exact h.elim
  | For t e b els p => cases els with
    | nil => exact forS_sound B S hp hL h V R H
    | cons _ _ => exact h.elim
  | Assign ts e p =>
    obtain ⟨t, rfl, h⟩ := single_of (vs := ts) h
    exact asgS_sound B S hp hL h V R H
  | Expr e p =>
    obtain ⟨hc, h⟩ := ifT_of (b := !isComp e) h
    refine wpG_Expr (S.E h hp V R fun v u O1 φ1 h1 tk1 hk1 R1 p1 rv => ?_) (interactive_no V) (swaps_none (not_eq_true hc))
    obtain ⟨hv, hk1⟩ := ifT_of hk1
    cases isNone_of hv rv
    exact H hk1 R1 p1 (V.mono p1) .next
  | Delete ts p => exact del_sound X1 S hp h V R H
  | _ => exact h.elim
theorem sound (B : Tops prog w h₀ tb K) (X1 : Extra prog w) (n : Nat) : Sound prog w h₀ (Vm.R tb n) n := by
  induction n with
  | zero => exact ⟨fun h => h.elim, fun h => h.elim, fun h => h.elim, fun h => h.elim, fun h => h.elim⟩
  | succ n ih => exact ⟨fun h hr V R H => stepE_sound B X1 ih hr h V R H, fun h hr V R H => stepT_sound B.toBase X1 ih hr.pred h V R H, fun h hr hL V R H => stepS_sound B X1 ih hr hL h V R H,
    fun {_ _ _ _ _ _ _ _ O O' a vs us v} h hr R f H => stepC_sound (D := fun y => y = .v v O') (k := fun v O => .done (.v v O)) B ih hr h R f fun v1 u O1 φ' h' tk e R' p rv => H (by cases e; exact ⟨rfl, rfl⟩) R' p rv,
    fun {_ _ _ _ _ _ _ _ _ O O' Γ l l' t b f} h hr hL V R H => stepW_sound (D := fun y => y = .f f l' O') (k := fun f l O => .done (.f f l O)) ih hr hL h V R fun f1 g l1 O1 φ' m' h' tk e R' p V' rf => H (by cases e; exact ⟨rfl, rfl, rfl⟩) R' p V' rf⟩
end
end Vm
end
section
namespace Vm
open PySem PySem.W PyProof.Rows PySem.Calls
theorem zip_lookup_some {α : Type} {x : Str} : ∀ {ps : List Str} {us : List α} {i : Nat}, ps[i]? = some x → i < us.length → ((ps.zip us).lookup x).isSome = true
  | [], _, _, h, _ => by simp at h
  | p :: ps, [], _, _, h => by simp at h
  | p :: ps, u :: us, 0, h, _ => by
    simp only [List.getElem?_cons_zero, Option.some.injEq] at h
    subst h
    simp
  | p :: ps, u :: us, i + 1, h, hl => by
    simp only [List.getElem?_cons_succ] at h
    rw [List.zip_cons_cons, List.lookup_cons]
    cases hb : x == p with
    | true => rfl
    | false => exact zip_lookup_some h (by simpa using hl)
theorem lookup_none_of {α : Type} {x : Str} : ∀ {l : List (Str × α)}, x ∉ l.map (·.1) → l.lookup x = none
  | [], _ => rfl
  | (y, v) :: l, h => by
    simp only [List.map_cons, List.mem_cons, not_or] at h
    rw [List.lookup_cons, beq_eq_false_iff_ne.mpr h.1]
    exact lookup_none_of h.2
theorem loop_skip : ∀ (l acc : List (Str × Value)) (k : List (Str × Value) → Sem (List (Str × Value))), (∀ p ∈ l, (acc.lookup p.1).isSome = true) → ∀ rest : List (Str × Value),
    (forIn (l ++ rest) acc fun (x : Str × Value) (s : List (Str × Value)) => (if (List.lookup x.1 s).isNone = true then pure (ForInStep.yield (s ++ [(x.1, x.2)])) else pure (ForInStep.yield s) : Sem (ForInStep (List (Str × Value))))) =
    forIn rest acc fun (x : Str × Value) (s : List (Str × Value)) => (if (List.lookup x.1 s).isNone = true then pure (ForInStep.yield (s ++ [(x.1, x.2)])) else pure (ForInStep.yield s) : Sem (ForInStep (List (Str × Value))))
  | [], acc, k, _, rest => rfl
  | p :: l, acc, k, h, rest => by
    rw [List.cons_append, List.forIn_cons, if_neg (by have := h p List.mem_cons_self; rw [Option.isNone_iff_eq_none]; intro e; rw [e] at this; cases this)]
    rw [pure_bind]
    exact loop_skip l acc k (fun q hq => h q (.tail _ hq)) rest
theorem loop_add : ∀ (l acc : List (Str × Value)), (l.map (·.1)).Nodup → (∀ p ∈ l, p.1 ∉ acc.map (·.1)) →
    (forIn l acc fun (x : Str × Value) (s : List (Str × Value)) => (if (List.lookup x.1 s).isNone = true then pure (ForInStep.yield (s ++ [(x.1, x.2)])) else pure (ForInStep.yield s) : Sem (ForInStep (List (Str × Value))))) = pure (acc ++ l)
  | [], acc, _, _ => by rw [List.forIn_nil, List.append_nil]
  | p :: l, acc, nd, h => by
    simp only [List.map_cons, List.nodup_cons] at nd
    rw [List.forIn_cons, if_pos (by rw [lookup_none_of (h p List.mem_cons_self)]; rfl), pure_bind]
    dsimp only
    rw [loop_add l (acc ++ [(p.1, p.2)]) nd.2 fun q hq => ?_]
    · simp
    · rw [List.map_append, List.mem_append]
      rintro (e | e)
      · exact h q (.tail _ hq) e
      · simp only [List.map_cons, List.map_nil, List.mem_singleton] at e
        exact nd.1 (e ▸ List.mem_map_of_mem (f := (·.1)) hq)
theorem filterMap_zip : ∀ {ps : List Str} {vs : List Value}, ps.Nodup → ps.length = vs.length → ps.filterMap (fun n => ((ps.zip vs).lookup n).map fun x => (n, x)) = ps.zip vs := by
  intro ps vs nd hl
  have key : ∀ (qs : List Str) (ws : List Value), qs.length = ws.length → qs.Nodup → ∀ (f : Str → Option Value), (∀ (i : Nat) (q : Str) (v : Value), qs[i]? = some q → ws[i]? = some v → f q = some v) → qs.filterMap (fun n => (f n).map fun x => (n, x)) = qs.zip ws := by
    intro qs
    induction qs with
    | nil => intro ws _ _ f _; rfl
    | cons q qs ih =>
      intro ws hl nd f h
      cases ws with
      | nil => simp at hl
      | cons v ws =>
        have e := h 0 q v rfl rfl
        rw [List.filterMap_cons, e]
        simp only [Option.map_some, List.zip_cons_cons]
        rw [ih ws (by simpa using hl) (List.nodup_cons.mp nd).2 f fun i q' v' h1 h2 => h (i + 1) q' v' (by simpa using h1) (by simpa using h2)]
  refine key ps vs hl nd (fun n => (ps.zip vs).lookup n) fun i q v h1 h2 => ?_
  have nd' : ((ps.zip vs).map (·.1)).Nodup := by rw [List.map_fst_zip (by omega)]; exact nd
  have hm : (q, v) ∈ ps.zip vs := by
    rw [List.mem_iff_getElem?]
    exact ⟨i, by rw [List.getElem?_zip_eq_some]; exact ⟨h1, h2⟩⟩
  clear key
  revert nd' hm
  generalize ps.zip vs = l
  intro nd' hm
  induction l with
  | nil => cases hm
  | cons p l ih =>
    simp only [List.map_cons, List.nodup_cons] at nd'
    show List.lookup q (p :: l) = some v
    obtain ⟨y, z⟩ := p
    rw [List.lookup_cons]
    rcases List.mem_cons.mp hm with e | hm
    · cases e; simp
    · have hb : (q == y) = false := beq_eq_false_iff_ne.mpr fun e => nd'.1 (e ▸ List.mem_map_of_mem (f := (·.1)) hm)
      rw [hb]
      exact ih nd'.2 hm
theorem bind_plain {s : Shared} {fd : FuncData} {ps : List Str} {us dl : List Value} (hpos : fd.params.posonlyargs = []) (hargs : fd.params.args.map (·.arg) = ps) (hva : fd.params.vararg = none) (hko : fd.params.kwonlyargs = []) (hkw : fd.params.kwarg = none)
    (nd : ps.Nodup) (h1 : us.length ≤ ps.length) (h2 : ps.length ≤ us.length + dl.length) (h3 : dl.length ≤ ps.length)
    (hd : ∀ (M : Model) (A : Around) (E : Value → Shared → Prop) (Q : Option (Array Value) → Shared → Prop), (∀ r : Option (Array Value), (r.getD #[]).toList = dl → Q r s) → wpAny M A (seqItems? fd.defaults) Q E s) :
    BindsTo s fd ⟨us, []⟩ (ps.zip (us ++ dl.drop (dl.length - (ps.length - us.length)))) := by
  intro M A E Q hq
  unfold bindArgs
  simp only [hpos, hargs, hva, hko, hkw, List.map_nil, List.nil_append, List.append_nil, List.forIn_nil, pure_bind]
  refine wpAny_bind (hd _ _ _ _ fun r hr => ?_)
  simp only [hr]
  have e0 : dl.drop (dl.length - ps.length) = dl := by rw [Nat.sub_eq_zero_of_le h3]; rfl
  have e1 : List.filter (fun n => (List.lookup n (ps.zip us)).isNone) (List.take (ps.length - dl.length) ps) = [] := by
    rw [List.filter_eq_nil_iff]
    intro x hx q
    obtain ⟨i, hi⟩ := List.mem_iff_getElem?.mp hx
    rw [List.getElem?_take] at hi
    split at hi
    · have := zip_lookup_some (us := us) hi (by omega)
      rw [Option.isNone_iff_eq_none] at q
      rw [q] at this; cases this
    · cases hi
  have hsplit : (ps.drop (ps.length - dl.length)).zip dl = ((ps.drop (ps.length - dl.length)).take (us.length - (ps.length - dl.length))).zip (dl.take (us.length - (ps.length - dl.length))) ++
      (ps.drop us.length).zip (dl.drop (us.length - (ps.length - dl.length))) := by
    have h4 : (ps.drop (ps.length - dl.length)).drop (us.length - (ps.length - dl.length)) = ps.drop us.length := by
      rw [List.drop_drop]; congr 1; omega
    rw [← h4, ← List.zip_append (by simp only [List.length_take, List.length_drop]; omega), List.take_append_drop, List.take_append_drop]
  have e2 : dl.length - (ps.length - us.length) = us.length - (ps.length - dl.length) := by omega
  have hloop : (forIn ((ps.drop (ps.length - dl.length)).zip dl) (ps.zip us) fun (x : Str × Value) (s : List (Str × Value)) => (if (List.lookup x.1 s).isNone = true then pure (ForInStep.yield (s ++ [(x.1, x.2)])) else pure (ForInStep.yield s) : Sem (ForInStep (List (Str × Value))))) =
      pure (ps.zip (us ++ dl.drop (us.length - (ps.length - dl.length)))) := by
    rw [hsplit, loop_skip _ _ pure fun q hq => ?_]
    · rw [loop_add _ _ ?_ fun q hq hm => ?_]
      · congr 1
        have e3 : ps.zip (us ++ dl.drop (us.length - (ps.length - dl.length))) = (ps.take us.length).zip us ++ (ps.drop us.length).zip (dl.drop (us.length - (ps.length - dl.length))) := by
          rw [← List.zip_append (by simp only [List.length_take]; omega), List.take_append_drop]
        rw [e3]
        congr 1
        rw [List.zip_eq_zip_take_min]
        simp only [Nat.min_eq_right h1, List.take_length]
      · rw [List.map_fst_zip (by simp only [List.length_drop]; omega)]
        exact nd.sublist (List.drop_sublist _ _)
      · have m1 : q.1 ∈ ps.drop us.length := (List.of_mem_zip (show (q.1, q.2) ∈ _ from hq)).1
        rw [show (ps.zip us).map (·.1) = ps.take us.length by
          rw [List.zip_eq_zip_take_min, Nat.min_eq_right h1, List.map_fst_zip (by simp only [List.length_take]; omega)]] at hm
        have nd2 := nd
        rw [← List.take_append_drop us.length ps] at nd2
        exact (List.nodup_append.mp nd2).2.2 _ hm _ m1 rfl
    · have m1 : q.1 ∈ (ps.drop (ps.length - dl.length)).take (us.length - (ps.length - dl.length)) := (List.of_mem_zip (show (q.1, q.2) ∈ _ from hq)).1
      obtain ⟨i, hi⟩ := List.mem_iff_getElem?.mp m1
      rw [List.getElem?_take] at hi
      split at hi
      · rw [List.getElem?_drop] at hi
        exact zip_lookup_some hi (by omega)
      · cases hi
  rw [if_neg (by simp only [Option.isNone_none, Bool.and_true, decide_eq_true_eq]; omega)]
  simp only [e0, e1]
  rw [if_neg (by decide), hloop, pure_bind, if_neg (by decide)]
  have hlen : ps.length = (us ++ dl.drop (us.length - (ps.length - dl.length))).length := by rw [List.length_append, List.length_drop]; omega
  rw [filterMap_zip nd hlen, ← e2]
  exact wpAny_pure hq
end Vm
end
section
namespace Vm
open PySem PySem.W PyProof.Rows PySem.Calls
theorem avIs_rv {φ : List Addr} {a : AV} {v : Value} (h : avIs a v = true) : RV φ a v := by
  cases a with
  | bool a => cases v <;> first | exact Bool.noConfusion h | exact beq_iff_eq.mp h ▸ .bool _
  | int a => cases v <;> first | exact Bool.noConfusion h | exact beq_iff_eq.mp h ▸ .int _ _
  | str a => cases v <;> first | exact Bool.noConfusion h | exact beq_iff_eq.mp h ▸ .str _ _
  | bytes a => cases v <;> first | exact Bool.noConfusion h | exact .bytes _ (beq_iff_eq.mp h)
  | val a => cases a <;> first | exact Bool.noConfusion h | (cases v <;> first | exact Bool.noConfusion h | exact beq_iff_eq.mp h ▸ .val _)
  | _ => exact Bool.noConfusion h
theorem avsIs_fa {φ : List Addr} : ∀ {as : List AV} {vs : List Value}, avsIs as vs = true → Fa (RV φ) as vs
  | [], [], _ => .nil
  | a :: as, v :: vs, h => by
    have h := Bool.and_eq_true_iff.mp h
    exact .cons (avIs_rv h.1) (avsIs_fa h.2)
  | [], _ :: _, h => by cases h
  | _ :: _, [], h => by cases h
theorem load_global {M : Model} {A : Around} {E : Value → Shared → Prop} {s : Shared} {env : Env} {x : Str} {Q : Value → Shared → Prop} (hk : env.scope.kind = .function) (hx : env.kindOf x = some .globalImplicit)
    (h : wpAny M A (loadGlobal env x) Q E s) : wpAny M A (loadName env x) Q E s := by
  unfold loadName
  simp only [Env.blockKind, hk, hx, ScopeKind.isAnnotationScope, Bool.false_and, Bool.false_eq_true, if_false]
  exact h
structure TabsOk (K : Frag) : Prop where
  names : hashed.all (nameOk K) = true
  seqs : seqTab.all (seqOk K) = true
  fns : fnTab.all (fnOk K) = true
  sees : fnTab.map (fun p => (fdIn K p.1).map fdSees) = fnTab.map (fun p => some (fnSees p))
  clss : (tabs 0 []).clss.all (clsOk K) = true
  meths : ((tabs 0 []).meths.all fun p => p.2.all (methOk K p.1)) = true
  fields : ((tabs 0 []).fields.all fun p => p.2.all (fieldOk K p.1)) = true
theorem gFind_mem {h : Nat} {p : Str × AV} : ∀ {l : List (Nat × Str × AV)}, gFind h l = some p → ∃ m, (m, p) ∈ l
  | [], e => by cases e
  | (m, q) :: l, e => by
    unfold gFind at e
    split at e
    · cases e; exact ⟨m, List.mem_cons_self⟩
    · obtain ⟨m', h'⟩ := gFind_mem e; exact ⟨m', .tail _ h'⟩
theorem ints_fa : ∀ {vs : List Value} {ns : List Int}, IntsAre vs ns → Fa (RV []) (ns.map AV.int) vs
  | _, _, .nil => .nil
  | _, _, .cons n t r => .cons (.int n t) (ints_fa r)
theorem fdIn_spec {K : Frag} {a : Addr} {fd : FuncData} (h : fdIn K a = some fd) : ∃ o, K.lookup a = some o ∧ o.data = .func fd := by
  unfold fdIn at h
  split at h
  · rename_i o ho
    split at h
    · rename_i fd' hd; cases h; exact ⟨o, ho, hd⟩
    · cases h
  · cases h
theorem tops {prog : Program} {w : World} {h₀ : Heap} {K : Frag} {p : Program} {loose : List Str} {mean : ExcName → Option Value} {mg mb : Str → Option Value} {a : Addr} {ns : List Int} {vs : List Value}
    (X : K.In h₀) (T : Top p loose mean mg mb h₀) (ok : TabsOk K) (hl : h₀.IsList a vs.toArray) (hi : IntsAre vs ns) : Tops prog w h₀ (tabs a ns) K where
  kin := X
  nolim := T.nolimit
  names := fun x v e => by
    have e : globOf x = some v := e
    unfold globOf at e
    split at e
    · rename_i q hq
      split at e
      · rename_i hb
        cases e
        rw [beq_iff_eq] at hb
        subst hb
        obtain ⟨m, hm⟩ := gFind_mem hq
        have z := List.all_eq_true.mp ok.names _ hm
        unfold nameOk at z
        obtain ⟨z1, z2⟩ := Bool.and_eq_true_iff.mp z
        have z1 : (q.1 == ("__debug__" : Str)) = false := by simpa using z1
        split at z2
        · rename_i u hu
          exact ⟨u, avIs_rv z2, z1, fun A E s Q env k hg hbu hk hx hq => Vm.load_global hk hx (loadGlobal_global (env := env) (by rw [hg]; exact T.g.keeps k) (mg_of X T.g hu) hq)⟩
        · rename_i hu
          obtain ⟨z3, z2⟩ := Bool.and_eq_true_iff.mp z2
          split at z2
          · rename_i u hbo
            refine ⟨u, avIs_rv z2, z1, fun A E s Q env k hg hbu hk hx hq => Vm.load_global hk hx (loadGlobal_builtin (env := env) (by rw [hg]; exact T.g.keeps k) (mg_none_of X T.g hu) (by rw [hbu]; exact T.b.keeps k) ((T.builtins _ ?_).trans hbo) hq)⟩
            exact beq_eq_false_iff_ne.mp (by simpa using z3)
          · cases z2
        · cases z2
      · cases e
    · cases e
  seqs := fun b c xs e => by
    have e : (seqTab ++ [(a, (true, ns.map AV.int))]).lookup b = some (c, xs) := e
    rw [List.lookup_append] at e
    cases hs : seqTab.lookup b with
    | some q =>
      rw [hs] at e
      cases e
      have z := List.all_eq_true.mp ok.seqs _ (mem_lookup hs)
      unfold seqOk at z
      obtain ⟨z1, z2⟩ := Bool.and_eq_true_iff.mp z
      have z1 : c = false := by simpa using z1
      subst z1
      split at z2
      · rename_i o ho
        obtain ⟨z3, z4⟩ := Bool.and_eq_true_iff.mp z2
        split at z4
        · rename_i us n hd
          exact ⟨us.toList, avsIs_fa z4, o, X _ _ ho, beq_iff_eq.mp z3, n, by simpa using hd⟩
        · cases z4
      · cases z2
    | none =>
      rw [hs] at e
      simp only [Option.none_or] at e
      have e := mem_lookup e
      simp only [List.mem_singleton, Prod.mk.injEq] at e
      obtain ⟨rfl, rfl, rfl⟩ := e
      exact ⟨vs, ints_fa hi, hl⟩
  fields := fun C fs nm e hc => by
    have z := List.all_eq_true.mp (List.all_eq_true.mp ok.fields _ (mem_lookup e)) nm (by simpa using hc)
    unfold fieldOk at z
    simp only [Bool.and_eq_true, beq_iff_eq] at z
    obtain ⟨⟨⟨⟨⟨z1, z2⟩, z3⟩, z4⟩, z5⟩, z6⟩ := z
    refine ⟨z1, z2, ?_, z4, z5, z6⟩
    split at z3
    · rename_i attr ha; exact ⟨attr, ha, z3⟩
    · cases z3
  meths := fun C ms nm f e hc => by
    have z := List.all_eq_true.mp (List.all_eq_true.mp ok.meths _ (mem_lookup e)) _ (mem_lookup hc)
    unfold methOk at z
    simp only [Bool.and_eq_true, beq_iff_eq] at z
    exact ⟨z.1.1.1, z.1.1.2, z.1.2, z.2⟩
  clss := fun C f e => by
    have z := List.all_eq_true.mp ok.clss _ (mem_lookup e)
    unfold clsOk at z
    simp only [Bool.and_eq_true, beq_iff_eq] at z
    exact ⟨z.1.1.1, z.1.1.2, z.1.2, z.2⟩
  fns := fun b fn e => by
    have hm : (b, fn) ∈ fnTab := mem_lookup e
    have z := List.all_eq_true.mp ok.fns _ hm
    have q := List.map_inj_left.mp ok.sees _ hm
    unfold fnOk at z
    split at z
    · rename_i fd hfd
      have hfd : fdIn K b = some fd := hfd
      obtain ⟨o, ho, hd⟩ := fdIn_spec hfd
      have q : (fdIn K b).map fdSees = some (fnSees (b, fn)) := q
      rw [hfd] at q
      have q := Option.some.inj q
      unfold fdSees fnSees at q
      simp only [Prod.mk.injEq] at q
      obtain ⟨q1, q2, q3, q4, q5⟩ := q
      simp only [Bool.and_eq_true, beq_iff_eq, Bool.not_eq_true', decide_eq_true_eq, Option.isNone_iff_eq_none, List.isEmpty_iff, List.all_eq_true, Bool.or_eq_true] at z
      obtain ⟨⟨⟨⟨⟨⟨⟨⟨⟨⟨⟨⟨⟨z1, z2⟩, z3⟩, z4⟩, z5⟩, z6⟩, z7⟩, z8⟩, z9⟩, z10⟩, z11⟩, z12⟩, z13⟩, z14⟩ := z
      refine ⟨o, fd, X _ _ ho, hd, q1, q2, q3, q4, q5, codeRec_of X z1, z7, z8, z9, z10, z11, z12, z13, fun us h1 h2 => ?_⟩
      unfold dfltsOk at z14
      split at z14
      · rename_i hdf
        have en : fn.dflts = [] := by simpa using z14
        refine ⟨[], by rw [en]; simpa using (Fa.nil : Fa (RV []) ([] : List AV) ([] : List Value)), fun s k => ?_⟩
        have h2 : fn.params.length ≤ us.length := by rw [en] at h2; simpa using h2
        have := bind_plain (s := s) (dl := []) z2 z3 z4 z5 z6 z12 h1 (by simpa using h2) (Nat.zero_le _) (fun M A E Q hq => by
          rw [hdf]
          exact wpAny_of_eq (a := none) rfl (hq none rfl))
        simpa using this
      · rename_i t hdf
        split at z14
        · rename_i ot hot
          split at z14
          · rename_i dv n hdv
            obtain ⟨z15, z16⟩ := Bool.and_eq_true_iff.mp z14
            have z16 := of_decide_eq_true z16
            have fd0 : Fa (RV []) fn.dflts dv.toList := avsIs_fa z15
            have ln := fd0.length
            refine ⟨dv.toList.drop (fn.dflts.length - (fn.params.length - us.length)), fd0.drop _, fun s k => ?_⟩
            have := bind_plain (s := s) (dl := dv.toList) z2 z3 z4 z5 z6 z12 h1 (by omega) (by omega) (fun M A E Q hq => by
              rw [hdf]
              exact wpAny_seqItems (k _ _ (X _ _ hot)) hdv (hq (some dv) rfl))
            rw [ln]
            exact this
          · cases z14
        · cases z14
      · cases z14
    · cases z
end Vm
end
section
namespace Vm
open PySem PySem.W PyProof.Rows PySem.Calls PySem.SeqAt
theorem start_sound {prog : Program} {w : World} {h₀ : Heap} {tb : Tb} {K : Frag} {r : Rec} {n : Nat} {A : Around} {E : Value → Shared → Prop} {s : Shared} {a : Addr} {fn : Fn} {vs : List AV} {us : List Value} {k : AV → Ost → Prop} {Q : Value → Shared → Prop}
    (B : Tops prog w h₀ tb K) (S : Sound prog w h₀ r n) (hr : Room A (n + 1)) (hs : s.heap = h₀) (hfn : tb.fns.lookup a = some fn) (hnc : ∀ p ∈ fn.scope.names, p.2 ≠ .cell) {D : Rs → Prop} {kk : AF → Locs → Ost → Tr} (hlen : vs.length = fn.params.length) (h : (exs r ⟨fn.scope.names⟩ fn.body (fn.params.zip vs) [] kk).holds D) (hkk : ∀ f l O, (kk f l O).holds D → ∃ v, f = .ret v ∧ k v O) (f : Fa (RV []) vs us)
    (H : ∀ v u O φ h' tk, k v O → RV φ v u → (∀ b o, h₀.get? b = some o → h'.get? b = some o) → Q u { s with heap := h', toks := tk }) :
    codeG (model prog w) A (.call (.ref a) ⟨us, []⟩) (fun r s' => match r with | .ok (.ret v) => Q v s' | .ok _ => False | .error e => E e s') s := by
  subst hs
  have keep0 : ∀ b o, s.heap.get? b = some o → s.heap.get? b = some o := fun _ _ e => e
  obtain ⟨o, fd, ho, hd, hsc, hbody, hclo, hgl, hbu, hcd, hk, hco, hgen, hkeep, hdbg, hnd, hkinds, hbind⟩ := B.fns a fn hfn
  have hul : us.length = fn.params.length := f.length.symm.trans hlen
  obtain ⟨ds, fds, hbind⟩ := hbind us (by omega) (by omega)
  have hds : ds = [] := by
    have := fds.length
    rw [List.length_drop] at this
    exact List.length_eq_zero_iff.mp (by omega)
  subst hds
  rw [List.append_nil] at hbind
  have hpl : fn.params.length = us.length := hul.symm
  have hmap : (fn.params.zip us).map (·.1) = fn.params := by
    rw [List.map_fst_zip]; omega
  refine codeG_call_function (by have := hr.depth; omega) ho hd (by rw [hsc]; exact hco) (by rw [hsc]; exact hgen) hbody hcd (hbind s keep0 _ _ _ _ ?_)
  rw [hclo]
  have inP : ∀ x ∈ fn.params.zip us, x.1 ∈ fn.params := fun x hx => (List.of_mem_zip (show (x.1, x.2) ∈ _ from hx)).1
  have noc : ∀ x, fn.scope.names.lookup x ≠ some .cell := fun x e => hnc _ (mem_of_lookup e) rfl
  refine wpAny_newFunctionEnv_cells (by rw [hsc]; exact hk) (fun x hx => ?_) fun env he s' x => ?_
  · rw [hsc]
    rcases hkinds x.1 (inP x hx) with q | q
    · exact .inl q
    · exact absurd q (noc _)
  · have keep := x.toInCall.keep
    have fresh := x.toInCall.fresh
    have ns := x.toInCall.ns
    obtain ⟨h', tk, rfl⟩ := x.toInCall.same
    refine ⟨B.nolim.keeps keep, codeG_func ?_⟩
    have hsc' : env.scope = fn.scope := by rw [he]; exact hsc
    have hkind : ∀ y, env.kindOf y = fn.scope.names.lookup y := fun y => by show env.scope.names.lookup y = _; rw [hsc']
    have R : Rel w.params s.heap [] [] [] env.locals (bindL env.kindOf (fn.params.zip us) fun _ => none) h' :=
      ⟨⟨ns, keep, fresh⟩, ⟨[], .nil, rfl, fun p hp => nomatch hp⟩, List.nodup_nil, fun b hb => nomatch hb⟩
    have V : EnvOk env env.locals (bindL env.kindOf (fn.params.zip us) fun _ => none) [] [] ⟨fn.scope.names⟩ (fn.params.zip vs) := by
      refine ⟨by rw [hsc']; exact hk, by rw [he]; exact hgl, by rw [he]; exact hbu, by rw [hsc'], hdbg, fun y v hy hkl => ?_, fun y v hy hkc => absurd hkc (noc y)⟩
      obtain ⟨u, hu, ru⟩ := fa_zip_lookup f hy
      exact ⟨u, ru, .inl ⟨rfl, bindL_at ((hkind y).trans hkl) (by rw [hmap]; exact hnd) hu⟩⟩
    refine exs_sound (A := A.deeper env) S ⟨hr.handled, by have := hr.depth; show A.depth + 1 + 3 * n + 3 < _; omega, by have := hr.units; show A.units + 3 + 10 * n + 80 < _; omega⟩ rfl h V R fun fl g l' O' φ' m' h'' tk' hk' R'' p V'' rf => ?_
    obtain ⟨v, rfl, hk''⟩ := hkk _ _ _ hk'
    cases rf with
    | ret rv => exact H _ _ _ _ _ _ hk'' rv R''.keep
end Vm
end
section
namespace Vm
open PySem PySem.W PyProof.Rows PySem.Calls PySem.SeqAt
section
variable {prog : Program} {w : World} {A : Around} {E : Value → Shared → Prop} {s : Shared} {a : Addr} {b : Array UInt8}
theorem selects_tail {n N k : Nat} (h : k < N) : Builtin.Bytes.selects (n : Int) (N : Int) 1 k = decide (n ≤ k) := by
  unfold Builtin.Bytes.selects
  rw [if_pos (by decide)]
  have e1 : decide (((n : Int)) ≤ (k : Int)) = decide (n ≤ k) := by
    by_cases q : n ≤ k
    · rw [decide_eq_true q, decide_eq_true (by omega)]
    · rw [decide_eq_false q, decide_eq_false (by omega)]
  have e2 : decide ((k : Int) < (N : Int)) = true := decide_eq_true (by omega)
  have e3 : (((k : Int) - (n : Int)) % 1 == 0) = true := by rw [beq_iff_eq]; omega
  rw [e1, e2, e3]; simp
theorem del_tail {n : Nat} : ∀ (l : List UInt8) (j N : Nat), j + l.length = N →
    ((l.zipIdx j).filterMap fun p => if Builtin.Bytes.selects (n : Int) (N : Int) 1 p.2 then none else some p.1) = l.take (n - j)
  | [], _, _, _ => by simp
  | x :: l, j, N, h => by
    simp only [List.length_cons] at h
    rw [List.zipIdx_cons, List.filterMap_cons]
    simp only [selects_tail (n := n) (N := N) (k := j) (by omega)]
    have ih := del_tail (n := n) l (j + 1) N (by omega)
    by_cases q : n ≤ j
    · simp only [decide_eq_true q, if_true]
      rw [ih, show n - (j + 1) = 0 by omega, show n - j = 0 by omega]; simp
    · simp only [decide_eq_false q, Bool.false_eq_true, if_false]
      rw [ih, show n - j = (n - (j + 1)) + 1 by omega, List.take_succ_cons]
theorem ba_del {S : Addr} {n : Int} {t : Tok} {Q : Unit → Shared → Prop} (h : BA s a b) (hS : s.heap.IsSliceOf S (.int n t) .none .none) (h0 : 0 ≤ n) (h1 : n ≤ b.size) (hz : b.size ≤ 1000000)
    (hq : ∀ h' tk, (∀ c, c ≠ a → h'.get? c = s.heap.get? c) → h'.get? a = some { cls := .type "bytearray", data := .bytearray (b.extract 0 n.toNat) } → Q () { s with heap := h', toks := tk }) :
    wpG (model prog w) A (delItem (.ref a) (.ref S)) Q E s := by
  refine wpG_delItem_slot h.is (by decide) FX.slot_ba_delitem (wpG_call (codeG_call_builtin FX.slot_ba_delitem.plain (by decide +kernel) FX.entry_ba_delitem (wpG_of (FX.slot_ba_delitem.check _ _ _ _ _ _ _ _ h.is (FX.args_ba_delitem _ _) ?_))))
  obtain ⟨o, ho, hc, hd⟩ := hS
  have hT : s.TypeIs (.ref S) "slice" := ⟨o, ho, hc⟩
  show wpG _ _ (Builtin.Bytes.subscript? (.ref S) >>= fun r => _) _ _ s
  refine wpG_bind (wpG_of ?_)
  unfold Builtin.Bytes.subscript?
  refine wpAny_bind (wpAny_specialOf hT ba_slice_no_index (wpAny_pure ?_))
  refine wpG_bind (wpG_of (wpAny_typeOf hT ?_))
  show wpG _ _ (Builtin.Bytes.sliceParts (.ref S) >>= fun r => _) _ _ s
  refine wpG_bind (wpG_of ?_)
  unfold Builtin.Bytes.sliceParts
  refine wpAny_bind (wpAny_field (x := .none) ho hd rfl ?_)
  kby_none
  refine wpAny_ite (KBy.ite_no (show ¬ ((Value.none == rawInt 0) = true) from Bool.false_ne_true) ?_)
  refine wpAny_bind (wpAny_field (x := .int n t) ho hd rfl ?_)
  kby_int
  refine wpAny_bind (wpAny_field (x := .none) ho hd rfl ?_)
  kby_none
  refine wpAny_pure ?_
  refine wpG_bind (wpG_of (wp_payload h ?_))
  have go : sliceIndices (rawPart (some n)) (rawPart none) (rawPart none) b.size = pure (n, (b.size : Int), 1) := by
    rw [sliceIndices_raw (some n) none none b.size (fun e => nomatch e), sliceBounds_plain]
    have e : ((clipAt b.size n : Nat) : Int) = n := by unfold clipAt; split <;> omega
    show (pure (((clipAt b.size n : Nat) : Int), _, _) : Sem _) = _
    rw [e]; rfl
  refine wpG_bind (wpG_of (wpAny_of_eq go ?_))
  refine wpG_bind (wpG_of (wpAny_rule ?_))
  have e : ((b.toList.zipIdx.filterMap fun (x : UInt8 × Nat) => if Builtin.Bytes.selects n (b.size : Int) 1 x.2 then none else some x.1).toArray) = b.extract 0 n.toNat := by
    have e0 : n = ((n.toNat : Nat) : Int) := by omega
    have e1 := del_tail (n := n.toNat) b.toList 0 b.size (by simp)
    rw [← e0] at e1
    rw [e1, Nat.sub_zero]
    apply Array.ext'
    simp
  dsimp only
  refine wpG_ite ?_
  split
  · refine wpG_bind (wpG_checkResize h ?_)
    show wpG _ _ (Builtin.Bytes.write (.ref a) _ >>= fun _ => ret .none) _ _ _
    refine wpG_bind (wpG_of (ba_write h ?_ fun h' hs hc => ?_))
    · show ((b.toList.zipIdx.filterMap fun (x : UInt8 × Nat) => if Builtin.Bytes.selects n (b.size : Int) 1 x.2 then none else some x.1).toArray).size ≤ _
      rw [e, sizeLine_eq]; simp; omega
    · have hc : h'.get? a = some { cls := .type "bytearray", data := .bytearray ((b.toList.zipIdx.filterMap fun (x : UInt8 × Nat) => if Builtin.Bytes.selects n (b.size : Int) 1 x.2 then none else some x.1).toArray) } := hc
      rw [e] at hc
      exact wpG_pure (hq h' s.toks hs hc)
  · show wpG _ _ (Builtin.Bytes.write (.ref a) _ >>= fun _ => ret .none) _ _ _
    refine wpG_bind (wpG_of (ba_write h ?_ fun h' hs hc => ?_))
    · show ((b.toList.zipIdx.filterMap fun (x : UInt8 × Nat) => if Builtin.Bytes.selects n (b.size : Int) 1 x.2 then none else some x.1).toArray).size ≤ _
      rw [e, sizeLine_eq]; simp; omega
    · have hc : h'.get? a = some { cls := .type "bytearray", data := .bytearray ((b.toList.zipIdx.filterMap fun (x : UInt8 × Nat) => if Builtin.Bytes.selects n (b.size : Int) 1 x.2 then none else some x.1).toArray) } := hc
      rw [e] at hc
      exact wpG_pure (hq h' s.toks hs hc)
end
end Vm
end
section
namespace Vm
open PySem PySem.W PyProof.Rows PySem.Calls PySem.SeqAt
namespace FX
theorem mro_ba : mroOf (.type "bytearray") = pure [.type "bytearray", .type "object"] := by rw [mroOf_type]; kernel_rfl
theorem lookup_ba_new : typeLookup (.type "bytearray") "__new__" = pure (some (.builtin "bytearray.__new__")) := by rw [typeLookup_type, builtinLookup_eq_fast]; kernel_rfl
theorem slot_ba_init : Slot "bytearray" "__init__" "bytearray.__init__" :=
  .of (owner := "bytearray") (n := "__init__") (by rw [typeLookup_type, builtinLookup_eq_fast]; kernel_rfl) (by decide +kernel) (by decide +kernel) (by decide +kernel)
    (by first | exact .inl (by decide +kernel) | exact .inr (by decide +kernel)) (by rw [isSubtype_type]; kernel_rfl)
theorem called_ba : TypeCalled "bytearray" "bytearray.__new__" "bytearray.__init__" :=
  ⟨by decide +kernel, by decide +kernel, ⟨_, _, mro_ba⟩, madeBy_type mro_ba lookup_ba_new (by decide +kernel), by decide +kernel, sub_ba, slot_ba_init⟩
theorem typeCall_ba : checkTypeCall "bytearray" ⟨[], []⟩ = pure () := by kernel_rfl
theorem newCall_ba : checkBuiltinCall "bytearray.__new__" ⟨[.type "bytearray"], []⟩ = pure () := by kernel_rfl
theorem entry_ba_new : entryFor table "bytearray.__new__" = some Builtin.«list.__new__» :=
  entryFor_alias (id' := "list.__new__") (by kernel_rfl) (by first | rfl | decide +kernel) (by decide +kernel) (by kernel_rfl)
theorem plain_ba_new : plainId "bytearray.__new__" = true := by decide +kernel
theorem entry_ba_init : entryFor table "bytearray.__init__" = some Builtin.«bytearray.__init__» := entryFor_of_tree (by kernel_rfl)
theorem args_ba_init (a : Value) : argsOk "bytearray.__init__" ⟨[a], []⟩ := by
  unfold argsOk; rw [signature?_of (id := "bytearray.__init__") (n := ['_', '_', 't', 'i', 'n', 'i', '_', '_']) (o := ['y', 'a', 'r', 'r', 'a', 'e', 't', 'y', 'b']) (by kernel_rfl) owner_bytearray]; kernel_rfl
end FX
set_option maxRecDepth 1000000 in
set_option maxHeartbeats 4000000 in
theorem owner_ba_new : ("bytearray.__new__".splitOn ".__new__").headD "" = "bytearray" := by simp +decide [String.splitOn, String.splitOnAux]
section
variable {prog : Program} {w : World} {A : Around} {E : Value → Shared → Prop} {s : Shared}
theorem code_ba_new {Q₁ : Value → Shared → Prop} (h : Q₁ (.ref s.heap.objs.size) { s with heap := s.heap.push { cls := .type "bytearray", data := .bytearray #[] } }) :
    codeAny (model prog w) A (.call (.builtin "bytearray.__new__") ⟨[.type "bytearray"], []⟩) (wants Q₁ E) s := by
  refine codeAny_of_tree ?_
  show wpAny _ A.in1 (do checkBuiltinCall "bytearray.__new__" ⟨[.type "bytearray"], []⟩; again (.builtin "bytearray.__new__" ⟨[.type "bytearray"], []⟩)) _ _ s
  refine wpAny_bind (wpAny_of_eq FX.newCall_ba (wpAny_pure ⟨plainId_quiet FX.plain_ba_new _, codeAny_builtin_stack FX.entry_ba_new rfl fun p st => ?_⟩))
  rw [Around.under_plainId FX.plain_ba_new _]
  have hsub := FX.sub_ba
  have hown := owner_ba_new
  obtain ⟨hp, g, d, tk, os⟩ := s
  simp only [hown]
  wp_walk
  exact h
theorem ba_init_body {a : Addr} {Q : Fin → Shared → Prop} (h : BA s a #[]) (hq : ∀ h', (∀ c, c ≠ a → h'.get? c = s.heap.get? c) → h'.get? a = some { cls := .type "bytearray", data := .bytearray #[] } → Q (.done (.ret .none)) { s with heap := h' }) :
    wpG (model prog w) A (Builtin.«bytearray.__init__» ⟨[.ref a], []⟩) Q E s := by
  unfold Builtin.«bytearray.__init__»
  dsimp only
  refine wpG_bind (wpG_of (ba_own_release h ?_))
  rw [if_neg (by decide)]
  refine wpG_bind (wpG_of (wpAny_of_eq (a := [none, none, none]) (by kernel_rfl) ?_))
  dsimp only
  refine wpG_bind (wpG_of (wpAny_of_eq (a := ()) rfl ?_))
  refine wpG_bind (wpG_of (wpAny_of_eq (a := ()) rfl ?_))
  refine wpG_bind ?_
  show wpG _ _ (Builtin.Bytes.exported (.ref a) >>= fun r => _) _ _ _
  refine wpG_bind (wpG_exported ?_)
  show wpG _ _ (Builtin.Bytes.exportsOf (.ref a) >>= fun r => _) _ _ _
  refine wpG_bind (wpG_of ?_)
  unfold Builtin.Bytes.exportsOf
  refine wpAny_bind (wpAny_load h (wpAny_pure ?_))
  refine wpG_pure ?_
  rw [if_neg (by decide)]
  refine wpG_bind (wpG_of (ba_write h (by rw [sizeLine_eq]; exact Nat.zero_le _) fun h' hs hc => ?_))
  exact wpG_bind (wpG_of (wpAny_of_eq (a := ()) rfl (wpG_pure (hq h' hs hc))))
theorem ba_new {Q : Value → Shared → Prop} (hq : ∀ h', (∀ c o, s.heap.get? c = some o → h'.get? c = some o) → h'.get? s.heap.objs.size = some { cls := .type "bytearray", data := .bytearray #[] } → Q (.ref s.heap.objs.size) { s with heap := h' }) :
    wpG (model prog w) A (call (.type "bytearray") []) Q E s := by
  obtain ⟨c, tl, hmro⟩ := FX.called_ba.mro
  refine wpG_call (codeG_of_tree rfl ?_)
  show wpG _ _ (callAny (.type "bytearray") _) _ _ _
  refine wpG_pure ⟨Code.quiet_builtin _ (by decide +kernel), ?_⟩
  refine codeG_builtin (by decide +kernel) F.entry_type_call ?_
  rw [Around.under_plain (weight_type_call_type "bytearray" [] []) rfl]
  unfold Builtin.«type.__call__»
  dsimp only
  rw [if_neg (by rw [FX.called_ba.notType]; exact Bool.false_ne_true)]
  rw [if_neg (by rw [FX.called_ba.canCreate]; exact Bool.false_ne_true)]
  refine wpG_bind (wpG_of (wpAny_of_eq FX.typeCall_ba ?_))
  refine wpG_bind (wpG_of (wpAny_of_eq hmro ?_))
  rw [if_neg (show ¬ ((c :: tl).isEmpty = true) from Bool.false_ne_true)]
  refine wpG_bind (wpG_of (wpAny_of_eq FX.called_ba.made ?_))
  dsimp only
  refine wpG_bind (wpG_pure ?_)
  refine wpG_bind (wpG_holding (wpG_of (wpAny_call (code_ba_new ?_))))
  have hS : BA { s with heap := s.heap.push { cls := .type "bytearray", data := .bytearray #[] } } s.heap.objs.size #[] := Heap.get?_push_size _ rfl
  refine wpG_bind (wpG_of (wpAny_isInstance hS.is FX.sub_ba ?_))
  rw [if_neg (by decide)]
  refine wpG_bind (wpG_holding (wpG_callSpecial?_slot hS.is FX.slot_ba_init (wpG_call (codeG_call_builtin FX.slot_ba_init.plain (by decide +kernel) FX.entry_ba_init (wpG_of (FX.slot_ba_init.check _ _ _ _ _ _ _ _ hS.is (FX.args_ba_init _) ?_))))))
  refine ba_init_body hS fun h' hs hc => ?_
  dsimp only
  rw [if_neg (by decide)]
  refine wpG_pure (hq h' (fun d o e => ?_) hc)
  rw [hs d (Nat.ne_of_lt (Heap.lt_size e))]
  exact Heap.get?_push_of_some _ e
theorem extra (prog : Program) (w : World) : Extra prog w where
  toBarrEq := barrEq
  toBarrCut := barrCut
  barrLen := ba_len
  barrNew := ba_new
  barrAppend := ba_append
  barrBytes := barr_bytes
  barrDel := ba_del
  split := bytes_split
  join := fun hl f _ hz hq => bytes_join hl f hz hq
  find := fun h0 h1 _ hq => bytes_find h0 h1 hq
end
end Vm
end
section
namespace Vm
open PySem PySem.W PyProof.Rows
structure Bx (b : Bool) where
  c : Bool
  h : b = c
structure Lx (O : Ost) (i : Nat) where
  o : AO
  h : O[i]? = some o
structure Ox {α : Type} (o : Option α) where
  v : α
  h : o = some v
structure Cx2 {α β : Type} (P : α → β → Prop) where
  v : α
  O : β
  h : P v O
structure Cx3 {α β γ : Type} (P : α → β → γ → Prop) where
  f : α
  l : β
  O : γ
  h : P f l O
noncomputable def Tr.Sp (D : Rs → Prop) (G : Prop) : Tr → Prop
  | .fail => True
  | .done x => D x → G
  | .gd g t => g → t.Sp D G
  | .br b x y => ∀ q : Bx b, (match q with | ⟨c, _⟩ => (match c with | true => x.Sp D G | false => y.Sp D G))
  | .look O i k => ∀ q : Lx O i, (match q with | ⟨o, _⟩ => (k o).Sp D G)
  | .opt o k => ∀ q : Ox o, (match q with | ⟨o, _⟩ => (k o).Sp D G)
  | .call P k => ∀ q : Cx2 P, (match q with | ⟨v, O, _⟩ => (k v O).Sp D G)
  | .loop P k => ∀ q : Cx3 P, (match q with | ⟨f, l, O, _⟩ => (k f l O).Sp D G)
  | .comp P k => ∀ q : Cx2 P, (match q with | ⟨v, O, _⟩ => (k v O).Sp D G)
theorem Tr.sp {D : Rs → Prop} {G : Prop} (t : Tr) : (t.holds D → G) → t.Sp D G := by
  induction t with
  | fail => exact fun _ => trivial
  | done P => exact fun h => h
  | gd g t ih => exact fun h p => ih fun q => h ⟨p, q⟩
  | br b x y ihx ihy =>
    intro h ⟨c, e⟩
    subst e
    cases b with
    | true => exact ihx h
    | false => exact ihy h
  | look O i k ih => exact fun h ⟨o, p⟩ => ih o fun q => h ⟨o, p, q⟩
  | opt o k ih => exact fun h ⟨o, p⟩ => ih o fun q => h ⟨o, p, q⟩
  | call P k ih => exact fun h ⟨v, O, p⟩ => ih v O fun q => h ⟨v, O, p, q⟩
  | loop P k ih => exact fun h ⟨f, l, O, p⟩ => ih f l O fun q => h ⟨f, l, O, p, q⟩
  | comp P k ih => exact fun h ⟨v, O, p⟩ => ih v O fun q => h ⟨v, O, p, q⟩
theorem Tr.det {D : Rs → Prop} (t : Tr) : t.holds D → ∃ x, t.gives x ∧ D x := by
  unfold Tr.gives
  induction t with
  | fail => exact fun h => h.elim
  | done x => exact fun h => ⟨x, rfl, h⟩
  | gd g t ih => exact fun ⟨p, h⟩ => let ⟨x, a, b⟩ := ih h; ⟨x, ⟨p, a⟩, b⟩
  | br b x y ihx ihy => cases b with
    | true => exact ihx
    | false => exact ihy
  | look O i k ih => exact fun ⟨o, p, h⟩ => let ⟨x, a, b⟩ := ih o h; ⟨x, ⟨o, p, a⟩, b⟩
  | opt o k ih => exact fun ⟨o, p, h⟩ => let ⟨x, a, b⟩ := ih o h; ⟨x, ⟨o, p, a⟩, b⟩
  | call P k ih => exact fun ⟨v, O, p, h⟩ => let ⟨x, a, b⟩ := ih v O h; ⟨x, ⟨v, O, p, a⟩, b⟩
  | loop P k ih => exact fun ⟨f, l, O, p, h⟩ => let ⟨x, a, b⟩ := ih f l O h; ⟨x, ⟨f, l, O, p, a⟩, b⟩
  | comp P k ih => exact fun ⟨v, O, p, h⟩ => let ⟨x, a, b⟩ := ih v O h; ⟨x, ⟨v, O, p, a⟩, b⟩
theorem Tr.run {D : Rs → Prop} {t : Tr} (f : ∀ G : Prop, t.Sp D G → G) : ∃ x, t.gives x ∧ D x := t.det (f _ (t.sp id))
noncomputable def kC (k : AV → Ost → Prop) (x : Rs) : Prop := match x with | .v v O => k v O | _ => False
noncomputable def kF (k : AF → Locs → Ost → Prop) (x : Rs) : Prop := match x with | .f f l O => k f l O | _ => False
noncomputable def kV (k : List AV → Ost → Prop) (x : Rs) : Prop := match x with | .vs v O => k v O | _ => False
structure CallS (r : Rec) (a : Addr) (vs : List AV) (O : Ost) (k : AV → Ost → Prop) : Prop where in_ ::
  ex : ∃ v O', r.C a vs O v O' ∧ k v O'
noncomputable def LoopS (r : Rec) (Γ : Cx) (t : Expr) (b : List Stmt) (l : Locs) (O : Ost) (k : AF → Locs → Ost → Prop) : Prop := ∃ f l' O', r.W Γ t b l O f l' O' ∧ k f l' O'
noncomputable def ForS (r : Rec) (Γ : Cx) (t : Tg) (b : List Stmt) (K : ItK) (l : Locs) (O : Ost) (k : AF → Locs → Ost → Prop) : Prop := ∃ f l' O', forP r Γ t b K l O f l' O' ∧ k f l' O'
noncomputable def CompS (r : Rec) (Γ : Cx) (l : Locs) (x : Str) (ifs : List Expr) (e : Expr) (K : ItK) (O : Ost) (k : List AV → Ost → Prop) : Prop := ∃ v O', compP r Γ l x ifs e K O v O' ∧ k v O'
theorem CallS.mk {tb : Tb} {n : Nat} {a : Addr} {vs : List AV} {O : Ost} {k : AV → Ost → Prop} (f : ∀ G : Prop, (stepC tb (R tb n) a vs O fun v O1 => .done (.v v O1)).Sp (kC k) G → G) : CallS (R tb (n + 1)) a vs O k := by
  obtain ⟨x, hx, hk⟩ := Tr.run f
  cases x with
  | v v O' => exact .in_ ⟨v, O', hx, hk⟩
  | _ => exact hk.elim
theorem CallS.use {r : Rec} {a : Addr} {vs : List AV} {O : Ost} {k : AV → Ost → Prop} {G : Prop} (h : CallS r a vs O k) (f : ∀ v O', r.C a vs O v O' → k v O' → G) : G := let ⟨⟨v, O', hc, hk⟩⟩ := h; f v O' hc hk
theorem CallS.useP {r : Rec} {a : Addr} {vs : List AV} {O : Ost} {v : AV} {p : Ost → Prop} {G : Prop} (h : CallS r a vs O fun u O' => u = v ∧ p O') (f : ∀ O', r.C a vs O v O' → p O' → G) : G := let ⟨⟨_, O', hc, e, hk⟩⟩ := h; f O' (e ▸ hc) hk
theorem CallS.pure {r : Rec} {a : Addr} {vs : List AV} {O : Ost} {v : AV} (h : CallS r a vs O fun u O' => u = v ∧ O' = O) : r.C a vs O v O := by
  obtain ⟨⟨_, _, hc, rfl, rfl⟩⟩ := h; exact hc
theorem Bool.two {G : Prop} (b : Bool) (t : b = true → G) (f : b = false → G) : G := by cases b with
  | true => exact t rfl
  | false => exact f rfl
theorem LoopS.mk {tb : Tb} {n : Nat} {Γ : Cx} {t : Expr} {b : List Stmt} {l : Locs} {O : Ost} {k : AF → Locs → Ost → Prop} (f : ∀ G : Prop, (stepW (R tb n) Γ t b l O fun f l1 O1 => .done (.f f l1 O1)).Sp (kF k) G → G) : LoopS (R tb (n + 1)) Γ t b l O k := by
  obtain ⟨x, hx, hk⟩ := Tr.run f
  cases x with
  | f f l O' => exact ⟨f, l, O', hx, hk⟩
  | _ => exact hk.elim
theorem ForS.mk {r : Rec} {Γ : Cx} {t : Tg} {b : List Stmt} {K : ItK} {l : Locs} {O : Ost} {k : AF → Locs → Ost → Prop} (f : ∀ G : Prop, (forL r Γ t b K 0 K.items l O fun f l1 O1 => .done (.f f l1 O1)).Sp (kF k) G → G) : ForS r Γ t b K l O k := by
  obtain ⟨x, hx, hk⟩ := Tr.run f
  cases x with
  | f f l O' => exact ⟨f, l, O', hx, hk⟩
  | _ => exact hk.elim
theorem CompS.mk {r : Rec} {Γ : Cx} {l : Locs} {x : Str} {ifs : List Expr} {e : Expr} {K : ItK} {O : Ost} {k : List AV → Ost → Prop} (f : ∀ G : Prop, (compL r Γ l x ifs e K K.items [] O fun acc O1 => .done (.vs acc O1)).Sp (kV k) G → G) : CompS r Γ l x ifs e K O k := by
  obtain ⟨x, hx, hk⟩ := Tr.run f
  cases x with
  | vs v O' => exact ⟨v, O', hx, hk⟩
  | _ => exact hk.elim
theorem LoopS.useL {α : Type} {L : α → Locs} {p : α → Ost → Prop} {r : Rec} {Γ : Cx} {t : Expr} {b : List Stmt} {l : Locs} {O : Ost} {G : Prop} (h : LoopS r Γ t b l O fun f l' O' => f = .next ∧ ∃ x, l' = L x ∧ p x O')
    (f : ∀ x O', r.W Γ t b l O .next (L x) O' → p x O' → G) : G := by
  obtain ⟨_, _, O', hW, rfl, x, rfl, hp⟩ := h; exact f x O' hW hp
theorem ForS.useL {α : Type} {L : α → Locs} {p : α → Ost → Prop} {r : Rec} {Γ : Cx} {t : Tg} {b : List Stmt} {K : ItK} {l : Locs} {O : Ost} {G : Prop} (h : ForS r Γ t b K l O fun f l' O' => f = .next ∧ ∃ x, l' = L x ∧ p x O')
    (f : ∀ x O', forP r Γ t b K l O .next (L x) O' → p x O' → G) : G := by
  obtain ⟨_, _, O', hW, rfl, x, rfl, hp⟩ := h; exact f x O' hW hp
theorem CompS.useP {p : List AV → Ost → Prop} {r : Rec} {Γ : Cx} {l : Locs} {x : Str} {ifs : List Expr} {e : Expr} {K : ItK} {O : Ost} {G : Prop} (h : CompS r Γ l x ifs e K O p) (f : ∀ v O', compP r Γ l x ifs e K O v O' → p v O' → G) : G := by
  obtain ⟨v, O', hP, hp⟩ := h; exact f v O' hP hp
theorem forRule {r : Rec} {Γ : Cx} {t : Tg} {b : List Stmt} {K : ItK} {k : AF → Locs → Ost → Prop} (I : Nat → List AV → Locs → Ost → Prop)
    (done : ∀ i l O, I i [] l O → K.still O ∧ k .next l O)
    (step : ∀ i v vs l O, (∀ l O, I (i + 1) vs l O → ∀ G : Prop, (forL r Γ t b K (i + 1) vs l O fun f l1 O1 => .done (.f f l1 O1)).Sp (kF k) G → G) → I i (v :: vs) l O → ∀ G : Prop, (forL r Γ t b K i (v :: vs) l O fun f l1 O1 => .done (.f f l1 O1)).Sp (kF k) G → G) :
    ∀ vs i l O, I i vs l O → ∀ G : Prop, (forL r Γ t b K i vs l O fun f l1 O1 => .done (.f f l1 O1)).Sp (kF k) G → G := by
  intro vs
  induction vs with
  | nil => exact fun i l O h G sp => sp (done i l O h).1 (done i l O h).2
  | cons v vs ih => exact fun i l O h => step i v vs l O (ih (i + 1)) h
theorem compRule {r : Rec} {Γ : Cx} {l : Locs} {x : Str} {ifs : List Expr} {e : Expr} {K : ItK} {k : List AV → Ost → Prop} (I : List AV → List AV → Ost → Prop)
    (done : ∀ acc O, I [] acc O → K.still O ∧ k acc O)
    (step : ∀ v vs acc O, (∀ acc O, I vs acc O → ∀ G : Prop, (compL r Γ l x ifs e K vs acc O fun acc O1 => .done (.vs acc O1)).Sp (kV k) G → G) → I (v :: vs) acc O → ∀ G : Prop, (compL r Γ l x ifs e K (v :: vs) acc O fun acc O1 => .done (.vs acc O1)).Sp (kV k) G → G) :
    ∀ vs acc O, I vs acc O → ∀ G : Prop, (compL r Γ l x ifs e K vs acc O fun acc O1 => .done (.vs acc O1)).Sp (kV k) G → G := by
  intro vs
  induction vs with
  | nil => exact fun acc O h G sp => sp (done acc O h).1 (done acc O h).2
  | cons v vs ih => exact fun acc O h => step v vs acc O ih h
noncomputable def Ext (O O' : Ost) : Prop := ∀ (i : Nat) (o : AO), O[i]? = some o → O'[i]? = some o
theorem Ext.refl (O : Ost) : Ext O O := fun _ _ h => h
theorem Ext.trans {O P Q : Ost} (a : Ext O P) (b : Ext P Q) : Ext O Q := fun i o h => b i o (a i o h)
theorem at_last {O : Ost} {a : AO} : (O ++ [a])[O.length]? = some a := by simp
theorem at_two0 {O : Ost} {a b : AO} : (O ++ [a, b])[O.length]? = some a := by simp
theorem at_two1 {O : Ost} {a b : AO} : (O ++ [a, b])[O.length + 1]? = some b := by simp
theorem lt_of_at {O : Ost} {i : Nat} {a : AO} (h : O[i]? = some a) : i < O.length := (List.getElem?_eq_some_iff.mp h).1
theorem at_old {O Y : Ost} {i : Nat} {a : AO} (h : O[i]? = some a) : (O ++ Y)[i]? = some a := (List.getElem?_append_left (lt_of_at h)).trans h
theorem at_ext {O O' : Ost} (p : Ext O O') {i : Nat} {a : AO} (h : O[i]? = some a) : O'[i]? = some a := p i a h
theorem at_same {O : Ost} {i : Nat} {a b : AO} (h : O[i]? = some b) : (O.set i a)[i]? = some a := List.getElem?_set_self (lt_of_at h)
theorem at_other {O : Ost} {i j : Nat} {a b : AO} (n : i ≠ j) (h : O[j]? = some b) : (O.set i a)[j]? = some b := (List.getElem?_set_ne n).trans h
theorem ext_app {O P Y : Ost} (h : Ext O P) : Ext O (P ++ Y) := h.trans fun _ _ h => at_old h
theorem ext_set {O P : Ost} {i : Nat} {a : AO} (h : Ext O P) (n : O.length ≤ i) : Ext O (P.set i a) := fun j o e =>
  at_other (Nat.ne_of_gt (Nat.lt_of_lt_of_le (lt_of_at e) n)) (h j o e)
theorem Ext.len {O P : Ost} (h : Ext O P) : O.length ≤ P.length := by
  rcases Nat.eq_zero_or_pos O.length with e | e
  · omega
  · have := h (O.length - 1) O[O.length - 1] (by rw [List.getElem?_eq_getElem])
    have := lt_of_at this; omega
theorem ne_at {O : Ost} {i j : Nat} {a b : AO} (hi : O[i]? = some a) (hj : O[j]? = some b) (n : a ≠ b) : i ≠ j := by
  rintro rfl; rw [hi] at hj; exact n (Option.some.inj hj)
theorem setL_b {x : Str} {v : AV} {es : List (Str × AV)} {n : Nat} (h : es.length ≤ n) : (setL x v es).length ≤ n + 1 := by
  have : (setL x v es).length ≤ es.length + 1 := by
    clear h
    induction es with
    | nil => exact Nat.le_refl _
    | cons p es ih =>
      obtain ⟨y, w⟩ := p
      unfold setL
      split
      · exact Nat.le_succ _
      · exact Nat.succ_le_succ ih
  omega
theorem intsAll_int (b : List Int) : intsAll (b.map AV.int) = some b := by
  induction b with
  | nil => rfl
  | cons x r ih => show (intsAll (r.map AV.int)).map (x :: ·) = _; rw [ih]; rfl
theorem strsAll_str (b : List Str) : strsAll (b.map AV.str) = some b := by
  induction b with
  | nil => rfl
  | cons x r ih => show (strsAll (r.map AV.str)).map (x :: ·) = _; rw [ih]; rfl
theorem bytesAll_bytes (b : List (List Int)) : bytesAll (b.map AV.bytes) = some b := by
  induction b with
  | nil => rfl
  | cons x r ih => show (bytesAll (r.map AV.bytes)).map (x :: ·) = _; rw [ih]; rfl
theorem iEq_t {a b : Int} (h : iEq a b = true) : a = b := of_decide_eq_true h
theorem iEq_f {a b : Int} (h : iEq a b = false) : ¬ a = b := of_decide_eq_false h
theorem iLe_t {a b : Int} (h : iLe a b = true) : a ≤ b := of_decide_eq_true h
theorem iLe_f {a b : Int} (h : iLe a b = false) : ¬ a ≤ b := of_decide_eq_false h
theorem iLt_t {a b : Int} (h : iLt a b = true) : a < b := of_decide_eq_true h
theorem iLt_f {a b : Int} (h : iLt a b = false) : ¬ a < b := of_decide_eq_false h
noncomputable def gm (i : Nat) : Cx := ⟨(fnOf (topS i) []).scope.names⟩
noncomputable def gmI (i j : Nat) : Cx := ⟨(fnOf (inS i j) []).scope.names⟩
noncomputable def sAt (ss : List Stmt) (j : Nat) : Option Stmt := ss[j]?
noncomputable def st (i j : Nat) : Option Stmt := sAt (fnOf (topS i) []).body j
noncomputable def stI (i h j : Nat) : Option Stmt := sAt (fnOf (inS i h) []).body j
noncomputable def wT (s : Option Stmt) : Expr := match s with
  | some (.While t _ _ _) => t
  | some (.For _ e _ _ _) => e
  | some (.If t _ _ _) => t
  | some (.Assign _ e _) => e
  | some (.Return (some e) _) => e
  | _ => .Constant .none 0 default
noncomputable def wB (s : Option Stmt) : List Stmt := match s with
  | some (.While _ b _ _) => b
  | some (.For _ _ b _ _) => b
  | some (.If _ b _ _) => b
  | _ => []
noncomputable def cE (e : Expr) : Expr := match compOf e with | some c => c.1 | none => e
noncomputable def cG (e : Expr) (Γ : Cx) : Cx := match compOf e with | some c => ⟨relabelNames Γ c.2.2.1.names⟩ | none => Γ
noncomputable def cI (e : Expr) : List Expr := match compOf e with | some c => (match gen1 c.2.1 with | some g => g.2.2.1 | none => []) | none => []
noncomputable def arg (e : Expr) (j : Nat) : Expr := match callOf e with | some c => (match c.2.1[j]? with | some a => a | none => e) | none => e
theorem ForS.rule {r : Rec} {Γ : Cx} {t : Tg} {b : List Stmt} {K : ItK} {k : AF → Locs → Ost → Prop} {l : Locs} {O : Ost} (I : Nat → List AV → Locs → Ost → Prop) (J : Nat → AV → List AV → Locs → Ost → Prop)
    (done : ∀ i l O, I i [] l O → K.still O ∧ k .next l O) (bind : ∀ i v vs l O, I i (v :: vs) l O → K.still O ∧ J i v vs (bindT t i v l) O)
    (step : ∀ i v vs l O, (∀ l O, I (i + 1) vs l O → ∀ G : Prop, (forL r Γ t b K (i + 1) vs l O fun f l1 O1 => .done (.f f l1 O1)).Sp (kF k) G → G) → J i v vs l O → ∀ G : Prop, (exs r Γ b l O fun f l1 O1 => (match f with
      | .next => forL r Γ t b K (i + 1) vs l1 O1 fun f l1 O1 => .done (.f f l1 O1)
      | .cont => forL r Γ t b K (i + 1) vs l1 O1 fun f l1 O1 => .done (.f f l1 O1)
      | .brk => .done (.f .next l1 O1)
      | .ret w => .done (.f (.ret w) l1 O1))).Sp (kF k) G → G) (i0 : I 0 K.items l O) : ForS r Γ t b K l O k :=
  .mk (forRule I done (fun i v vs l O ih h G sp => step i v vs _ O ih (bind i v vs l O h).2 G (sp (bind i v vs l O h).1)) K.items 0 l O i0)
theorem CompS.rule {r : Rec} {Γ : Cx} {l : Locs} {x : Str} {ifs : List Expr} {e : Expr} {K : ItK} {k : List AV → Ost → Prop} {O : Ost} (I : List AV → List AV → Ost → Prop)
    (done : ∀ acc O, I [] acc O → K.still O ∧ k acc O)
    (step : ∀ v vs acc O, (∀ acc O, I vs acc O → ∀ G : Prop, (compL r Γ l x ifs e K vs acc O fun acc O1 => .done (.vs acc O1)).Sp (kV k) G → G) → I (v :: vs) acc O → ∀ G : Prop, (compL r Γ l x ifs e K (v :: vs) acc O fun acc O1 => .done (.vs acc O1)).Sp (kV k) G → G) (i0 : I K.items [] O) : CompS r Γ l x ifs e K O k :=
  .mk (compRule I done step K.items [] O i0)
noncomputable abbrev wQ {r : Rec} {Γ : Cx} {t : Expr} {b : List Stmt} {l : Locs} {O : Ost} {f : AF} {l' : Locs} {O' : Ost} (h : r.W Γ t b l O f l' O') : Cx3 (r.W Γ t b l O) := ⟨f, l', O', h⟩
noncomputable abbrev fQ {r : Rec} {Γ : Cx} {t : Tg} {b : List Stmt} {K : ItK} {l : Locs} {O : Ost} {f : AF} {l' : Locs} {O' : Ost} (h : forP r Γ t b K l O f l' O') : Cx3 (forP r Γ t b K l O) := ⟨f, l', O', h⟩
noncomputable abbrev pQ {r : Rec} {Γ : Cx} {l : Locs} {x : Str} {ifs : List Expr} {e : Expr} {K : ItK} {O : Ost} {v : List AV} {O' : Ost} (h : compP r Γ l x ifs e K O v O') : Cx2 (compP r Γ l x ifs e K O) := ⟨v, O', h⟩
noncomputable abbrev cQ {r : Rec} {a : Addr} {vs : List AV} {O : Ost} {v : AV} {O' : Ost} (h : r.C a vs O v O') : Cx2 (r.C a vs O) := ⟨v, O', h⟩
noncomputable abbrev bT : Bx true := ⟨true, rfl⟩
noncomputable abbrev bF : Bx false := ⟨false, rfl⟩
end Vm
end
section
open PySem PySem.W PyProof.Rows
namespace Vm
noncomputable def kN {α : Type} (L : α → Locs) (p : α → Ost → Prop) (f : AF) (l' : Locs) (O' : Ost) : Prop := ∃ x, f = .next ∧ l' = L x ∧ p x O'
noncomputable def LoopN {α : Type} (r : Rec) (Γ : Cx) (t : Expr) (b : List Stmt) (l : Locs) (O : Ost) (L : α → Locs) (p : α → Ost → Prop) : Prop := ∀ G : Prop, (∀ x O', r.W Γ t b l O .next (L x) O' → p x O' → G) → G
theorem kN.mk {α : Type} {L : α → Locs} {p : α → Ost → Prop} {x : α} {O' : Ost} (h : p x O') : kF (kN L p) (.f .next (L x) O') := ⟨x, rfl, rfl, h⟩
theorem LoopS.toN {α : Type} {r : Rec} {Γ : Cx} {t : Expr} {b : List Stmt} {l : Locs} {O : Ost} {L : α → Locs} {p : α → Ost → Prop} (h : LoopS r Γ t b l O (kN L p)) : LoopN r Γ t b l O L p := fun G k => by
  obtain ⟨_, _, O', hW, x, rfl, rfl, hp⟩ := h; exact k x O' hW hp
theorem whileN {tb : Tb} {Γ : Cx} {t : Expr} {b : List Stmt} {α : Type} {L : α → Locs} {p : α → Ost → Prop} (n C : Nat) (I : Nat → α → Ost → Prop) (zero : ∀ x O, ¬ I 0 x O)
    (step : ∀ m x O, (∀ x O, I m x O → LoopN (R tb (n + m + C)) Γ t b (L x) O L p) → I (m + 1) x O → ∀ G : Prop, (stepW (R tb (n + m + C)) Γ t b (L x) O fun f l1 O1 => .done (.f f l1 O1)).Sp (kF (kN L p)) G → G) :
    ∀ m x O, I m x O → LoopN (R tb (n + m + C)) Γ t b (L x) O L p := by
  intro m
  induction m with
  | zero => intro l O h; exact absurd h (zero l O)
  | succ m ih =>
    intro x O h
    rw [show n + (m + 1) + C = n + m + C + 1 by omega]
    exact LoopS.toN (.mk (step m x O ih h))
noncomputable abbrev CallX (r : Rec) (a : Addr) (vs : List AV) (O : Ost) (v : AV) : Prop := CallS r a vs O fun u O' => u = v ∧ Ext O O'
theorem CallX.use {r : Rec} {a : Addr} {vs : List AV} {O : Ost} {v : AV} {G : Prop} (h : CallX r a vs O v) (f : ∀ O', r.C a vs O v O' → Ext O O' → G) : G := h.useP f
theorem bEq_t {a b : List Int} (h : bEq a b = true) : a = b := of_decide_eq_true h
theorem bEq_f {a b : List Int} (h : bEq a b = false) : ¬ a = b := of_decide_eq_false h
theorem ct {α : Type} {c : Bool} {x y : α} (h : c = true) : cond c x y = x := by rw [h]; rfl
theorem cf {α : Type} {c : Bool} {x y : α} (h : c = false) : cond c x y = y := by rw [h]; rfl
theorem and_t {a b : Bool} (h : a = true) : (a && b) = b := by rw [h]; rfl
theorem and_f {a b : Bool} (h : a = false) : (a && b) = false := by rw [h]; rfl
theorem or_t {a b : Bool} (h : a = true) : (a || b) = true := by rw [h]; rfl
theorem or_f {a b : Bool} (h : a = false) : (a || b) = b := by rw [h]; rfl
theorem not_t {b : Bool} (h : (!b) = true) : b = false := by cases b <;> first | rfl | cases h
theorem not_f {b : Bool} (h : (!b) = false) : b = true := by cases b <;> first | rfl | cases h
noncomputable def kR {α : Type} (L : α → Locs) (Q : α → Ost) (p : α → Prop) (q : AV → Ost → Prop) (f : AF) (l' : Locs) (O' : Ost) : Prop := (∃ s, f = .next ∧ l' = L s ∧ O' = Q s ∧ p s) ∨ (∃ v, f = .ret v ∧ q v O')
theorem kR.next {α : Type} {L : α → Locs} {Q : α → Ost} {p : α → Prop} {q : AV → Ost → Prop} {s : α} (h : p s) : kF (kR L Q p q) (.f .next (L s) (Q s)) := .inl ⟨s, rfl, rfl, rfl, h⟩
theorem kR.ret {α : Type} {L : α → Locs} {Q : α → Ost} {p : α → Prop} {q : AV → Ost → Prop} {v : AV} {l' : Locs} {O' : Ost} (h : q v O') : kF (kR L Q p q) (.f (.ret v) l' O') := .inr ⟨v, rfl, h⟩
theorem ForS.out {α : Type} {r : Rec} {Γ : Cx} {t : Tg} {b : List Stmt} {K : ItK} {l : Locs} {O : Ost} {L : α → Locs} {Q : α → Ost} {p : α → Prop} {q : AV → Ost → Prop} (h : ForS r Γ t b K l O (kR L Q p q)) {G : Prop}
    (h1 : ∀ s, forP r Γ t b K l O .next (L s) (Q s) → p s → G) (h2 : ∀ v l' O', forP r Γ t b K l O (.ret v) l' O' → q v O' → G) : G := by
  obtain ⟨_, _, _, hc, ⟨s, rfl, rfl, rfl, hp⟩ | ⟨v, rfl, hq⟩⟩ := h
  · exact h1 s hc hp
  · exact h2 v _ _ hc hq
noncomputable abbrev ForT {β : Type} (r : Rec) (Γ : Cx) (t : Tg) (b : List Stmt) (K : ItK) (k : AF → Locs → Ost → Prop) (f : β → AV) (i : Nat) (rest : List β) (l : Locs) (O : Ost) : Prop :=
  ∀ G : Prop, (forL r Γ t b K i (rest.map f) l O fun f l1 O1 => .done (.f f l1 O1)).Sp (kF k) G → G
theorem forR {r : Rec} {Γ : Cx} {t : Tg} {b : List Stmt} {K : ItK} {α β : Type} {f : β → AV} {L : α → Locs} {Q : α → Ost} {p : α → Prop} {q : AV → Ost → Prop} (B : Nat → β → α → Locs) (I : Nat → List β → α → Prop)
    (hB : ∀ i x s, bindT t i (f x) (L s) = B i x s) (done : ∀ i s, I i [] s → p s) (still : ∀ i r s, I i r s → K.still (Q s))
    (step : ∀ i x rest s, (∀ s, I (i + 1) rest s → ForT r Γ t b K (kR L Q p q) f (i + 1) rest (L s) (Q s)) → I i (x :: rest) s → ∀ G : Prop, (exs r Γ b (B i x s) (Q s) fun g l1 O1 => (match g with
      | .next => forL r Γ t b K (i + 1) (rest.map f) l1 O1 fun f l1 O1 => .done (.f f l1 O1)
      | .cont => forL r Γ t b K (i + 1) (rest.map f) l1 O1 fun f l1 O1 => .done (.f f l1 O1)
      | .brk => .done (.f .next l1 O1)
      | .ret w => .done (.f (.ret w) l1 O1))).Sp (kF (kR L Q p q)) G → G)
    (xs : List β) (hx : K.items = xs.map f) (s0 : α) (i0 : I 0 xs s0) : ForS r Γ t b K (L s0) (Q s0) (kR L Q p q) := by
  have go : ∀ (rest : List β) (i : Nat) (s : α), I i rest s → ForT r Γ t b K (kR L Q p q) f i rest (L s) (Q s) := by
    intro rest
    induction rest with
    | nil => exact fun i s h G sp => sp (still i _ s h) (kR.next (done i s h))
    | cons x rest ih =>
      intro i s h G sp
      refine step i x rest s (ih (i + 1)) h G ?_
      rw [← hB]
      exact sp (still i _ s h)
  exact .mk (by rw [hx]; exact go xs 0 s0 i0)
theorem compR {r : Rec} {Γ : Cx} {l : Locs} {x : Str} {ifs : List Expr} {e : Expr} {K : ItK} {O : Ost} {β : Type} {f g : β → AV} (xs : List β) (hx : K.items = xs.map f) (hl : xs.length ≤ 1000000) (still : K.still O)
    (step : ∀ y ∈ xs, ∀ (T : AV → Ost → Tr) (U : Ost → Tr) (D : Rs → Prop) (G : Prop), ((T (g y) O).Sp D G → G) → (testsT r Γ ((x, f y) :: l) ifs O fun c O1 => br c (r.E Γ ((x, f y) :: l) e O1 T) (U O1)).Sp D G → G) :
    CompS r Γ l x ifs e K O fun v O' => v = xs.map g ∧ O' = O := by
  have go : ∀ (rest : List β) (acc : List AV), (∀ y ∈ rest, y ∈ xs) → acc.length + rest.length ≤ 1000000 → ∀ G : Prop, (compL r Γ l x ifs e K (rest.map f) acc O fun acc O1 => .done (.vs acc O1)).Sp (kV fun v O' => v = acc ++ rest.map g ∧ O' = O) G → G := by
    intro rest
    induction rest with
    | nil => exact fun acc _ _ G sp => sp still ⟨(List.append_nil _).symm, rfl⟩
    | cons y rest ih =>
      intro acc hm hc G sp
      refine step y (hm y List.mem_cons_self) _ (fun O1 => compL r Γ l x ifs e K (rest.map f) acc O1 fun acc O1 => .done (.vs acc O1)) _ G ?_ (sp ⟨still, Nat.le_trans (Nat.le_add_right _ _) hc⟩)
      intro sp
      refine ih (acc ++ [g y]) (fun z h => hm z (.tail _ h)) (by rw [List.length_append]; exact (Nat.add_right_comm ..).symm ▸ hc) G ?_
      rw [List.append_assoc]
      exact sp
  exact .mk (by rw [hx]; exact go xs [] (fun _ h => h) (by rw [List.length_nil, Nat.zero_add]; exact hl))
theorem CompS.use0 {r : Rec} {Γ : Cx} {l : Locs} {x : Str} {ifs : List Expr} {e : Expr} {K : ItK} {O : Ost} {V : List AV} {G : Prop} (h : CompS r Γ l x ifs e K O fun v O' => v = V ∧ O' = O) (f : compP r Γ l x ifs e K O V O → G) : G := by
  obtain ⟨_, _, hP, rfl, rfl⟩ := h; exact f hP
theorem CompS.useX {r : Rec} {Γ : Cx} {l : Locs} {x : Str} {ifs : List Expr} {e : Expr} {K : ItK} {O : Ost} {V : List AV} {p : Ost → Prop} {G : Prop} (h : CompS r Γ l x ifs e K O fun v O' => v = V ∧ p O') (f : ∀ O', compP r Γ l x ifs e K O V O' → p O' → G) : G := by
  obtain ⟨_, O', hP, rfl, hp⟩ := h; exact f O' hP hp
end Vm
end
section
set_option maxHeartbeats 4000000
namespace Vm
open PySem PySem.W PyProof.Rows
section
variable (a₀ : Addr) (ns₀ : List Int)
set_option hygiene false
set_option compiler.extract_closed false
local macro_rules
  | `(tactic| wtm_at "A") => `(tactic| first | with_reducible assumption | (clear sp; assumption))
  | `(tactic| wtm_at "l") => `(tactic| focus ((repeat (first | wtm_at "A" | with_reducible exact at_last | with_reducible exact at_two0 | with_reducible exact at_two1 | with_reducible apply at_same | with_reducible apply at_old | (with_reducible apply at_other; (first | wtm_at "A" | omega)) | (apply at_ext; wtm_at "A"))); done))
  | `(tactic| wtm_at "p") => `(tactic| focus ((repeat (first | wtm_at "A" | exact Ext.refl _ | with_reducible refine ext_app ?_ | with_reducible refine ext_set ?_ (by first | wtm_at "A" | omega) | refine Ext.trans ?_ (by wtm_at "A"))); done))
  | `(tactic| wtm_at "g") => `(tactic| first | wtm_at "A" | (refine And.intro (show ItK.still _ _ by (first | exact True.intro | (show _[_]? = some _; wtm_at "l"))) ?_; first | (simp only [List.length_append, List.length_cons, List.length_nil, List.length_map]; omega) | omega) | (show ItK.still _ _; (first | exact True.intro | (show _[_]? = some _; wtm_at "l"))) | exact Nat.le_of_ble_eq_true rfl | exact of_decide_eq_true rfl | (simp only [smallI, List.length_append, List.length_cons, List.length_nil, List.length_map]; omega) | (refine And.intro (by simp) ?_; intro z hz; simp only [List.mem_cons, List.not_mem_nil, or_false] at hz; omega) | omega | decide)
  | `(tactic| wtm_at "a") => `(tactic| first | (with_reducible apply Lx.mk; wtm_at "l") | ((with_reducible apply Ox.mk); (first | with_reducible assumption | exact intsAll_int _ | exact strsAll_str _ | exact bytesAll_bytes _ | exact rfl)) | exact bT | exact bF | (with_reducible apply Bx.mk; with_reducible assumption) | wtm_at "g")
  | `(tactic| wtm_at "B") => `(tactic| (refine Bool.two ?_ (fun hB => ?_) (fun hB => ?_); rotate_left; specialize sp (Bx.mk true hB); rotate_left; specialize sp (Bx.mk false hB); rotate_right))
  | `(tactic| wtm_at "y") => `(tactic| first | specialize sp (by first | (with_reducible apply Cx2.mk; with_reducible assumption) | wtm_at "a") | wtm_at "B" | fail)
theorem is_wheel (n : Nat) (b : Int) (O : Ost) : (R (tabs a₀ ns₀) (n + 10)).C 117 [.int b] O (.bool (iLe 4 b && iLe b 7)) O := by
  refine CallS.pure ?_
  (refine CallS.mk ?_; intro G sp)
  (repeat' wtm_at "y")
  · exact sp ⟨congrArg AV.bool (and_t hB).symm, rfl⟩
  · exact sp ⟨congrArg AV.bool (and_f hB).symm, rfl⟩
inductive Kd where
  | press | release | move
noncomputable def Kd.s : Kd → Str
  | .press => Str.ofString "press"
  | .release => Str.ofString "release"
  | .move => Str.ofString "move"
noncomputable def Kd.rel : Kd → Bool
  | .release => true
  | .press => false
  | .move => false
noncomputable def Kd.mv : Kd → Bool
  | .move => true
  | .press => false
  | .release => false
theorem kd_rel {kd : Kd} {c : Bool} (h : sEq kd.s (Str.ofString "release") = c) : kd.rel = c := by rw [← h]; cases kd <;> rfl
theorem kd_mv {kd : Kd} {c : Bool} (h : sEq kd.s (Str.ofString "move") = c) : kd.mv = c := by rw [← h]; cases kd <;> rfl
noncomputable def EvD (kd : Kd) (b row col mods : Int) : AO := .dict [(Str.ofString "kind", .str kd.s), (Str.ofString "button", .int b), (Str.ofString "row", .int row), (Str.ofString "column", .int col), (Str.ofString "modifiers", .int mods)]
structure EvAt (O : Ost) (i : Nat) (kd : Kd) (b row col mods : Int) : Prop where
  ex : ∃ d : Nat, O[i]? = some (.inst 106 d) ∧ O[d]? = some (EvD kd b row col mods)
theorem EvAt.out {O : Ost} {i : Nat} {kd : Kd} {b row col mods : Int} (h : EvAt O i kd b row col mods) {G : Prop} (k : ∀ d : Nat, O[i]? = some (.inst 106 d) → O[d]? = some (EvD kd b row col mods) → G) : G := let ⟨⟨d, h1, h2⟩⟩ := h; k d h1 h2
theorem EvAt.ext {O O' : Ost} {i : Nat} {kd : Kd} {b row col mods : Int} (h : EvAt O i kd b row col mods) (p : Ext O O') : EvAt O' i kd b row col mods := h.out fun d h1 h2 => ⟨d, p _ _ h1, p _ _ h2⟩
noncomputable def numOf0 (kd : Kd) (b : Int) (named : Bool) : Int := cond (iEq b 0) 3 (cond (kd.rel && !named) 3 (cond (iLt b 4) (b - 1) (cond (iLe 4 b && iLe b 7) (64 + b - 4) (128 + b - 7 - 1))))
noncomputable def numberOf (kd : Kd) (b mods : Int) (named : Bool) : Int := cond kd.mv (numOf0 kd b named + 32) (numOf0 kd b named) + 4 * Builtin.bitAnd mods 7
section
variable {kd : Kd} {b mods x : Int} {nm : Bool}
theorem n0_a (h : iEq b 0 = true) : numOf0 kd b nm = 3 := ct h
theorem n0_b (h : iEq b 0 = false) (r : sEq kd.s (Str.ofString "release") = true) (n : (!nm) = true) : numOf0 kd b nm = 3 := (cf h).trans (ct (by rw [kd_rel r, n]; rfl))
theorem n0_g (h : iEq b 0 = false) (g : sEq kd.s (Str.ofString "release") = false ∨ (!nm) = false) : numOf0 kd b nm = cond (iLt b 4) (b - 1) (cond (iLe 4 b && iLe b 7) (64 + b - 4) (128 + b - 7 - 1)) := (cf h).trans (cf (by
  rcases g with g | g
  · rw [kd_rel g]; rfl
  · rw [g]; cases kd.rel <;> rfl))
theorem nb_m (m : sEq kd.s (Str.ofString "move") = true) (e : numOf0 kd b nm = x) : AV.int (x + 32 + 4 * Builtin.bitAnd mods 7) = .int (numberOf kd b mods nm) := by unfold numberOf; rw [ct (kd_mv m), e]
theorem nb_n (m : sEq kd.s (Str.ofString "move") = false) (e : numOf0 kd b nm = x) : AV.int (x + 4 * Builtin.bitAnd mods 7) = .int (numberOf kd b mods nm) := by unfold numberOf; rw [cf (kd_mv m), e]
end
theorem mouse_number (n : Nat) (i : Nat) (kd : Kd) (b row col mods : Int) (named : Bool) (O : Ost) (he : EvAt O i kd b row col mods) : (R (tabs a₀ ns₀) (n + 25)).C 124 [.obj i, .bool named] O (.int (numberOf kd b mods named)) O := by
  refine he.out fun d h1 h2 => ?_
  refine CallS.pure ?_
  (refine CallS.mk ?_; intro G sp)
  clear he
  (repeat' (first | specialize sp (by first | (with_reducible apply Cx2.mk; (first | (exact is_wheel _ _ _ _ _) | (with_reducible assumption))) | wtm_at "a") | wtm_at "B" | fail))
  all_goals first
    | exact sp ⟨nb_m hB (by (first | exact n0_a (by wtm_at "A") | exact n0_b (by wtm_at "A") (by wtm_at "A") (by wtm_at "A") | exact (n0_g (by wtm_at "A") (by first | exact .inl (by wtm_at "A") | exact .inr (by wtm_at "A"))).trans (by first | exact ct (by wtm_at "A") | exact (cf (by wtm_at "A")).trans (by first | exact ct (by wtm_at "A") | exact cf (by wtm_at "A"))))), rfl⟩
    | exact sp ⟨nb_n hB (by (first | exact n0_a (by wtm_at "A") | exact n0_b (by wtm_at "A") (by wtm_at "A") (by wtm_at "A") | exact (n0_g (by wtm_at "A") (by first | exact .inl (by wtm_at "A") | exact .inr (by wtm_at "A"))).trans (by first | exact ct (by wtm_at "A") | exact (cf (by wtm_at "A")).trans (by first | exact ct (by wtm_at "A") | exact cf (by wtm_at "A"))))), rfl⟩
noncomputable def lowOf (m : Int) : Int := Builtin.bitAnd m 3
noncomputable def highOf (m : Int) : Int := Builtin.bitAnd m (Builtin.bitNot (Builtin.bitOr (Builtin.bitOr 28 32) 3))
noncomputable def buttonOf (m : Int) : Int := cond (iEq (highOf m) 0) (cond (iEq (lowOf m) 3) 0 (lowOf m + 1)) (cond (iEq (highOf m) 64) (4 + lowOf m) (7 + 1 + lowOf m))
theorem high_is : ∀ m : Fin 192, iEq (highOf (m.val : Int)) 0 = false → iEq (highOf (m.val : Int)) 64 = false → iEq (highOf (m.val : Int)) 128 = true := by decide +kernel
theorem high_no {m : Int} (h0 : 0 ≤ m) (h1 : m < 192) (a : iEq (highOf m) 0 = false) (b : iEq (highOf m) 64 = false) (c : iEq (highOf m) 128 = false) : False := by
  obtain ⟨k, rfl⟩ := Int.eq_ofNat_of_zero_le h0
  exact Bool.noConfusion (c.symm.trans (high_is ⟨k, Int.ofNat_lt.mp h1⟩ a b))
theorem mouse_button (n : Nat) (m : Int) (O : Ost) (h0 : 0 ≤ m) (h1 : m < 192) : CallX (R (tabs a₀ ns₀) (n + 15)) 131 [.int m] O (.int (buttonOf m)) := by
  (refine CallS.mk ?_; intro G sp)
  (repeat' (first | specialize sp (by first | (with_reducible apply Cx2.mk; (first | (exact is_wheel _ _ _ _ _) | (with_reducible assumption))) | wtm_at "a") | wtm_at "B" | fail))
  · exact sp ⟨congrArg AV.int ((ct (by assumption)).trans (ct hB)).symm, by wtm_at "p"⟩
  · exact sp ⟨congrArg AV.int ((ct (by assumption)).trans (cf hB)).symm, by wtm_at "p"⟩
  · exact sp ⟨congrArg AV.int ((cf (by assumption)).trans (ct hB)).symm, by wtm_at "p"⟩
  · exact sp ⟨congrArg AV.int ((cf (by assumption)).trans (cf (by assumption))).symm, by wtm_at "p"⟩
  · exact (high_no h0 h1 (by assumption) (by assumption) hB).elim
inductive Md where
  | no | x10 | click | drag | all
noncomputable def Md.v : Md → AV
  | .no => .none
  | .x10 => .str (Str.ofString "mouse_x10")
  | .click => .str (Str.ofString "mouse_click")
  | .drag => .str (Str.ofString "mouse_drag")
  | .all => .str (Str.ofString "mouse_all")
noncomputable def Md.told (md : Md) (kd : Kd) (b : Int) : Bool := match md with
  | .no => false
  | .x10 => kd.casesOn (iLt 0 b && iLt b 4) false false
  | .click => kd.casesOn (iLt 0 b && iLe b 11) (!(iLe 4 b && iLe b 7)) false
  | .drag => kd.casesOn (iLt 0 b && iLe b 11) (!(iLe 4 b && iLe b 7)) (!(iEq b 0))
  | .all => kd.casesOn (iLt 0 b && iLe b 11) (!(iLe 4 b && iLe b 7)) true
theorem mouse_is_told (n : Nat) (i : Nat) (kd : Kd) (b row col mods : Int) (md : Md) (O : Ost) (he : EvAt O i kd b row col mods) : (R (tabs a₀ ns₀) (n + 25)).C 138 [.obj i, md.v] O (.bool (md.told kd b)) O := by
  refine he.out fun d h1 h2 => ?_
  clear he
  refine CallS.pure ?_
  cases md <;> cases kd <;> ((refine CallS.mk ?_; intro G sp); (repeat' (first | specialize sp (by first | (with_reducible apply Cx2.mk; (first | (exact is_wheel _ _ _ _ _) | (with_reducible assumption))) | wtm_at "a") | wtm_at "B" | fail)))
  all_goals first
    | exact sp ⟨rfl, rfl⟩
    | exact sp ⟨congrArg AV.bool (and_t hB).symm, rfl⟩
    | exact sp ⟨congrArg AV.bool (and_f hB).symm, rfl⟩
noncomputable def codeOf (n : Int) : List Int := cond (iLt n 128) [n] [Builtin.bitOr 192 (n.fdiv (2 ^ (6 : Int).toNat)), Builtin.bitOr 128 (Builtin.bitAnd n 63)]
noncomputable def codeLaw (n : Int) : List Int := cond (iLt n 128) [n] [192 + n.fdiv 64, 128 + n.fmod 64]
noncomputable def codeOk (n : Int) : Bool := (codeOf n == codeLaw n) && (codeOf n).all fun c => decide (0 ≤ c ∧ c < 256)
theorem code2048 : ∀ n : Fin 2048, codeOk (n.val : Int) = true := by decide +kernel
theorem code_ok {n : Int} (h0 : 0 ≤ n) (h1 : n < 2048) : codeOk n = true := by
  obtain ⟨k, rfl⟩ := Int.eq_ofNat_of_zero_le h0
  exact code2048 ⟨k, Int.ofNat_lt.mp h1⟩
theorem code_law {n : Int} (h0 : 0 ≤ n) (h1 : n < 2048) : codeLaw n = codeOf n := (beq_iff_eq.mp (Bool.and_eq_true_iff.mp (code_ok h0 h1)).1).symm
theorem codeOf_byte {n : Int} (h0 : 0 ≤ n) (h1 : n < 2048) : ∀ c ∈ codeOf n, 0 ≤ c ∧ c < 256 := fun c hc => of_decide_eq_true (List.all_eq_true.mp (Bool.and_eq_true_iff.mp (code_ok h0 h1)).2 c hc)
theorem codeOf_len (n : Int) : (codeOf n).length ≤ 2 := by unfold codeOf; cases iLt n 128 <;> exact Nat.le_of_ble_eq_true rfl
theorem code_octets (n : Nat) (m : Int) (O : Ost) (h0 : 0 ≤ m) (h1 : m < 2048) : CallX (R (tabs a₀ ns₀) (n + 15)) 145 [.int m] O (.bytes (codeOf m)) := by
  have hg := And.intro (Nat.le_trans (codeOf_len m) (by decide : 2 ≤ 1000000)) (codeOf_byte h0 h1)
  clear h0 h1
  refine Bool.two (iLt m 128) (fun hB => ?_) (fun hB => ?_)
  · have e : codeOf m = [m] := ct hB
    rw [e] at hg ⊢
    (refine CallS.mk ?_; intro G sp)
    (repeat' wtm_at "y")
    exact sp ⟨rfl, by wtm_at "p"⟩
  · have e : codeOf m = [Builtin.bitOr 192 (m.fdiv (2 ^ (6 : Int).toNat)), Builtin.bitOr 128 (Builtin.bitAnd m 63)] := cf hB
    rw [e] at hg ⊢
    (refine CallS.mk ?_; intro G sp)
    (repeat' wtm_at "y")
    exact sp ⟨rfl, by wtm_at "p"⟩
theorem law_code (n : Nat) (m : Int) (O : Ost) (h0 : 0 ≤ m) (h1 : m < 2048) : CallS (R (tabs a₀ ns₀) (n + 15)) 281 [.int m] O fun u O' => u = .obj O.length ∧ Ext O O' ∧ O'[O.length]? = some (.list ((codeOf m).map AV.int)) := by
  rw [← code_law h0 h1]
  clear h0 h1
  refine Bool.two (iLt m 128) (fun hB => ?_) (fun hB => ?_)
  · have e : codeLaw m = [m] := ct hB
    rw [e]
    (refine CallS.mk ?_; intro G sp)
    (repeat' wtm_at "y")
    exact sp ⟨rfl, by wtm_at "p", at_last⟩
  · have e : codeLaw m = [192 + m.fdiv 64, 128 + m.fmod 64] := cf hB
    rw [e]
    (refine CallS.mk ?_; intro G sp)
    (repeat' wtm_at "y")
    exact sp ⟨rfl, by wtm_at "p", at_last⟩
def rdig (n : Nat) : List Int := (48 + ((n % 10 : Nat) : Int)) :: (if h : n / 10 = 0 then [] else rdig (n / 10))
termination_by n
decreasing_by omega
noncomputable def digs (m : Int) : List Int := (rdig m.toNat).reverse
theorem rdig_eq (n : Nat) : rdig n = (48 + ((n % 10 : Nat) : Int)) :: (if n / 10 = 0 then [] else rdig (n / 10)) := by
  rw [rdig]; split <;> rfl
theorem rdig_byte : ∀ (n : Nat), ∀ c ∈ rdig n, 48 ≤ c ∧ c ≤ 57 := by
  intro n
  induction n using Nat.strongRecOn with
  | _ n ih =>
    intro c hc
    rw [rdig_eq] at hc
    rcases List.mem_cons.mp hc with e | hc
    · omega
    · split at hc
      · cases hc
      · exact ih _ (by omega) c hc
theorem rdig_len : ∀ (j n : Nat), n < 10 ^ j → (rdig n).length ≤ j + 1 := by
  intro j
  induction j with
  | zero => intro n h; rw [rdig_eq, if_pos (by omega)]; simp
  | succ j ih =>
    intro n h
    rw [rdig_eq]
    split
    · simp
    · have := ih (n / 10) (by rw [Nat.pow_succ] at h; omega)
      simp only [List.length_cons]; omega
theorem digs_byte (m : Int) : ∀ c ∈ digs m, 48 ≤ c ∧ c ≤ 57 := fun c h => rdig_byte _ c (List.mem_reverse.mp h)
theorem digs_len {m : Int} (h : m < 1000000) : (digs m).length ≤ 7 := by
  unfold digs; rw [List.length_reverse]; exact rdig_len 6 _ (by omega)
theorem intsAll_rev (b : List Int) : intsAll (b.map AV.int).reverse = some b.reverse := by rw [← List.map_reverse, intsAll_int]
noncomputable def decL (m : Int) (f : Nat) (rest : Nat) : Locs := [(Str.ofString "number", .int m), (Str.ofString "rest", .int (rest : Int)), (Str.ofString "found", .obj f)]
theorem dec_m {rest j : Nat} (h : 10 * rest + 9 < 10 ^ (j + 1)) (p : 0 < rest) : 10 * (rest / 10) + 9 < 10 ^ j := by
  cases j with
  | zero => omega
  | succ j => rw [Nat.pow_succ] at h ⊢; omega
theorem fdiv10 (r : Nat) : ((r : Int)).fdiv 10 = ((r / 10 : Nat) : Int) := by rw [Int.fdiv_eq_ediv_of_nonneg _ (by decide)]; rfl
theorem fmod10 (r : Nat) : ((r : Int)).fmod 10 = ((r % 10 : Nat) : Int) := by rw [Int.fmod_eq_emod_of_nonneg _ (by decide)]; rfl
theorem rdig_step {m rest : Nat} {acc : List Int} (hs : rdig m = acc ++ (if rest = 0 then [] else rdig rest)) (p : 0 < rest) : rdig m = (acc ++ [48 + ((rest % 10 : Nat) : Int)]) ++ (if rest / 10 = 0 then [] else rdig (rest / 10)) := by
  rw [hs, if_neg (Nat.ne_of_gt p), rdig_eq, List.append_assoc]; rfl
theorem list_add {xs : List Int} {x : Int} {v : AV} (e : v = .int x) : AO.list (xs.map AV.int ++ [v]) = .list ((xs ++ [x]).map AV.int) := by rw [e, List.map_append]; rfl
noncomputable def Keep (s : Nat) (O O' : Ost) : Prop := ∀ (j : Nat) (o : AO), j ≠ s → O[j]? = some o → O'[j]? = some o
theorem Keep.refl (s : Nat) (O : Ost) : Keep s O O := fun _ _ _ h => h
theorem Keep.app {s : Nat} {O P Y : Ost} (h : Keep s O P) : Keep s O (P ++ Y) := fun j o n e => at_old (h j o n e)
theorem Keep.set {s : Nat} {O P : Ost} {a : AO} (h : Keep s O P) : Keep s O (P.set s a) := fun j o n e => at_other (Ne.symm n) (h j o n e)
theorem Keep.new {s t : Nat} {O P : Ost} {a : AO} (h : Keep s O P) (n : O.length ≤ t) : Keep s O (P.set t a) := fun j o m e => at_other (Nat.ne_of_gt (Nat.lt_of_lt_of_le (lt_of_at e) n)) (h j o m e)
theorem Keep.trans {s : Nat} {O P Q : Ost} (h : Keep s O P) (h' : Keep s P Q) : Keep s O Q := fun j o n e => h' j o n (h j o n e)
theorem Keep.of {s : Nat} {O P : Ost} (h : Ext O P) : Keep s O P := fun j o _ e => h j o e
theorem Keep.ext {s : Nat} {O O' P : Ost} (h : Keep s O O') (p : Ext P O) (n : P.length ≤ s) : Ext P O' := fun j o e => h j o (Nat.ne_of_lt (Nat.lt_of_lt_of_le (lt_of_at e) n)) (p j o e)
theorem dec_loop (n : Nat) (m : Int) (f : Nat) (O : Ost) (h1 : m < 1000000) (of : O[f]? = some (.list [.int (48 + ((m.toNat % 10 : Nat) : Int))])) :
    LoopN (R (tabs a₀ ns₀) (n + 28)) (gm 3) (wT (st 3 3)) (wB (st 3 3)) (decL m f (m.toNat / 10)) O (decL m f) fun _ O1 => Keep f O O1 ∧ O1[f]? = some (.list ((rdig m.toNat).map AV.int)) := by
  refine whileN n 20 (fun j rest O1 => ∀ H : Prop, (∀ acc : List Int, 10 * rest + 9 < 10 ^ j → acc.length + j ≤ 20 → Keep f O O1 → O1[f]? = some (.list (acc.map AV.int)) → rdig m.toNat = acc ++ (if rest = 0 then [] else rdig rest) → H) → H)
    (fun x O h => h _ fun _ h _ _ _ _ => by omega) (fun j rest O1 ih hI => hI _ ?_) 8 (m.toNat / 10) O fun H q => q [48 + ((m.toNat % 10 : Nat) : Int)] (by omega) (Nat.le_of_ble_eq_true rfl) (Keep.refl _ _) of (rdig_eq _)
  clear hI of
  intro acc hr ha ext hf hs G sp
  have hl : acc.length ≤ 1000000 := Nat.le_trans (Nat.le_of_add_right_le ha) (by decide)
  (repeat' (first | specialize sp (by first | (with_reducible apply Cx2.mk; (with_reducible assumption)) | wtm_at "a") | (((refine Bool.two ?_ (fun hB => ?_) (fun hB => ?_); rotate_left; specialize sp (Bx.mk true hB); (with_reducible first | have hb := iEq_t hB | have hb := iEq_f hB | have hb := iLe_t hB | have hb := iLe_f hB | have hb := iLt_t hB | have hb := iLt_f hB | have hb := bEq_t hB | have hb := bEq_f hB | have hb := not_t hB | have hb := not_f hB | skip); rotate_left; specialize sp (Bx.mk false hB); (with_reducible first | have hb := iEq_t hB | have hb := iEq_f hB | have hb := iLe_t hB | have hb := iLe_f hB | have hb := iLt_t hB | have hb := iLt_f hB | have hb := bEq_t hB | have hb := bEq_f hB | have hb := not_t hB | have hb := not_f hB | skip); rotate_right))) | fail))
  · have hb : 0 < rest := Int.ofNat_lt.mp hb
    refine ih (rest / 10) (O1.set f (.list ((acc ++ [48 + ((rest % 10 : Nat) : Int)]).map AV.int))) (fun H q => q _ (dec_m hr hb) (by rw [List.length_append]; exact (Nat.add_right_comm ..).symm ▸ ha) (Keep.set ext) (at_same hf) (rdig_step hs hb)) G ?_
    intro x O' hW hp
    rw [← list_add (congrArg (fun z => AV.int (48 + z)) (fmod10 rest)), decL, ← fdiv10] at hW
    specialize sp (wQ hW :)
    exact sp (kN.mk hp)
  · have hb : rest = 0 := Nat.eq_zero_of_not_pos fun z => hb (Int.ofNat_lt.mpr z)
    rw [if_pos hb, List.append_nil] at hs
    exact sp (kN.mk ⟨ext, hs ▸ hf⟩)
theorem decimal_octets (n : Nat) (m : Int) (O : Ost) (h0 : 0 ≤ m) (h1 : m < 1000000) : CallX (R (tabs a₀ ns₀) (n + 30)) 21 [.int m] O (.bytes (digs m)) := by
  obtain ⟨k, rfl⟩ := Int.eq_ofNat_of_zero_le h0
  (refine CallS.mk ?_; intro G sp)
  (repeat' (first | specialize sp (by first | (with_reducible apply Cx2.mk; (with_reducible assumption)) | wtm_at "a") | (((refine Bool.two ?_ (fun hB => ?_) (fun hB => ?_); rotate_left; specialize sp (Bx.mk true hB); (with_reducible first | have hb := iEq_t hB | have hb := iEq_f hB | have hb := iLe_t hB | have hb := iLe_f hB | have hb := iLt_t hB | have hb := iLt_f hB | have hb := bEq_t hB | have hb := bEq_f hB | have hb := not_t hB | have hb := not_f hB | skip); rotate_left; specialize sp (Bx.mk false hB); (with_reducible first | have hb := iEq_t hB | have hb := iEq_f hB | have hb := iLe_t hB | have hb := iLe_f hB | have hb := iLt_t hB | have hb := iLt_f hB | have hb := bEq_t hB | have hb := bEq_f hB | have hb := not_t hB | have hb := not_f hB | skip); rotate_right))) | fail))
  refine dec_loop a₀ ns₀ n k O.length (O ++ [.list [.int (48 + (((k : Int).toNat % 10 : Nat) : Int))]]) h1 at_last G fun r O1 hc hp => ?_
  rw [Int.toNat_natCast, decL, ← fdiv10, ← fmod10] at hc
  specialize sp (wQ hc :)
  have hx : Ext O O1 := (Keep.app (Keep.refl _ _)).trans hp.1 |>.ext (Ext.refl _) (Nat.le_refl _)
  have hl := hp.2
  have hlen : (rdig k).length ≤ 1000000 := Nat.le_trans (rdig_len 6 _ (Int.ofNat_lt.mp h1)) (by decide)
  specialize sp bF
  specialize sp ⟨_, hl⟩
  specialize sp (by rw [List.length_map]; exact hlen)
  (repeat' (first | specialize sp (by first | (with_reducible apply Cx2.mk; (with_reducible assumption)) | wtm_at "a") | (((refine Bool.two ?_ (fun hB => ?_) (fun hB => ?_); rotate_left; specialize sp (Bx.mk true hB); (with_reducible first | have hb := iEq_t hB | have hb := iEq_f hB | have hb := iLe_t hB | have hb := iLe_f hB | have hb := iLt_t hB | have hb := iLt_f hB | have hb := bEq_t hB | have hb := bEq_f hB | have hb := not_t hB | have hb := not_f hB | skip); rotate_left; specialize sp (Bx.mk false hB); (with_reducible first | have hb := iEq_t hB | have hb := iEq_f hB | have hb := iLe_t hB | have hb := iLe_f hB | have hb := iLt_t hB | have hb := iLt_f hB | have hb := bEq_t hB | have hb := bEq_f hB | have hb := not_t hB | have hb := not_f hB | skip); rotate_right))) | fail))
  specialize sp (Ox.mk _ (intsAll_rev _))
  specialize sp ⟨by rw [List.length_reverse]; exact hlen, fun c hc => have z := rdig_byte _ c (List.mem_reverse.mp hc); ⟨Int.le_trans (by decide) z.1, Int.lt_of_le_of_lt z.2 (by decide)⟩⟩
  exact sp ⟨rfl, ext_app hx⟩
noncomputable def numGo (n : Int) : List Int → AV
  | [] => .int n
  | o :: r => cond (iLe 48 o && iLe o 57) (numGo (10 * n + o - 48) r) .none
noncomputable def numV (b : List Int) : AV := cond (iEq (b.length : Int) 0) .none (numGo 0 b)
noncomputable def numL (b : List Int) (s : Option AV × Int) : Locs := (Str.ofString "octets", .bytes b) :: (Str.ofString "number", .int s.2) :: (match s.1 with | some o => [(Str.ofString "octet", o)] | none => [])
theorem num_loop (n : Nat) (b : List Int) (O : Ost) :
    ForS (R (tabs a₀ ns₀) (n + 18)) (gm 4) (.one (Str.ofString "octet")) (wB (st 4 2)) (.bytes b) (numL b (none, 0)) O (kR (numL b) (fun _ => O) (fun s => numGo 0 b = .int s.2) fun v O' => v = .none ∧ O' = O ∧ numGo 0 b = .none) := by
  refine forR (f := AV.int) (L := numL b) (Q := fun _ => O) (fun _ x s => numL b (some (.int x), s.2)) (fun _ rest s => numGo s.2 rest = numGo 0 b) (fun i x s => by obtain ⟨o, N⟩ := s; cases o <;> rfl) (fun _ s h => h.symm) (fun _ _ _ _ => by exact trivial) ?_ b rfl (none, 0) rfl
  intro i x rest s ih g G sp
  (repeat' (first | specialize sp (by first | (with_reducible apply Cx2.mk; (with_reducible assumption)) | wtm_at "a") | (((refine Bool.two ?_ (fun hB => ?_) (fun hB => ?_); rotate_left; specialize sp (Bx.mk true hB); (with_reducible first | have hb := iEq_t hB | have hb := iEq_f hB | have hb := iLe_t hB | have hb := iLe_f hB | have hb := iLt_t hB | have hb := iLt_f hB | have hb := bEq_t hB | have hb := bEq_f hB | have hb := not_t hB | have hb := not_f hB | skip); rotate_left; specialize sp (Bx.mk false hB); (with_reducible first | have hb := iEq_t hB | have hb := iEq_f hB | have hb := iLe_t hB | have hb := iLe_f hB | have hb := iLt_t hB | have hb := iLt_f hB | have hb := bEq_t hB | have hb := bEq_f hB | have hb := not_t hB | have hb := not_f hB | skip); rotate_right))) | fail))
  · exact sp (kR.ret ⟨rfl, rfl, g.symm.trans (cf ((and_t (by assumption)).trans hb))⟩)
  · exact ih (some (.int x), 10 * s.2 + x - 48) ((ct ((and_t (by assumption)).trans hb)).symm.trans g) G sp
  · exact sp (kR.ret ⟨rfl, rfl, g.symm.trans (cf (and_f (by assumption)))⟩)
theorem num_for (n : Nat) (b : List Int) (O : Ost) {G : Prop} (h1 : ∀ o N, forP (R (tabs a₀ ns₀) (n + 18)) (gm 4) (.one (Str.ofString "octet")) (wB (st 4 2)) (.bytes b) (numL b (none, 0)) O .next (numL b (o, N)) O → numGo 0 b = .int N → G)
    (h2 : ∀ l', forP (R (tabs a₀ ns₀) (n + 18)) (gm 4) (.one (Str.ofString "octet")) (wB (st 4 2)) (.bytes b) (numL b (none, 0)) O (.ret .none) l' O → numGo 0 b = .none → G) : G :=
  (num_loop a₀ ns₀ n b O).out (fun s hc e => h1 s.1 s.2 hc e) fun v l' O' hc e => by obtain ⟨rfl, rfl, e⟩ := e; exact h2 l' hc e
theorem number_of (n : Nat) (b : List Int) (O : Ost) (hl : b.length ≤ 1000000) : (R (tabs a₀ ns₀) (n + 20)).C 28 [.bytes b] O (numV b) O := by
  refine CallS.pure ?_
  (refine CallS.mk ?_; intro G sp)
  (repeat' (first | specialize sp (by first | (with_reducible apply Cx2.mk; (with_reducible assumption)) | wtm_at "a") | (((refine Bool.two ?_ (fun hB => ?_) (fun hB => ?_); rotate_left; specialize sp (Bx.mk true hB); (with_reducible first | have hb := iEq_t hB | have hb := iEq_f hB | have hb := iLe_t hB | have hb := iLe_f hB | have hb := iLt_t hB | have hb := iLt_f hB | have hb := bEq_t hB | have hb := bEq_f hB | have hb := not_t hB | have hb := not_f hB | skip); rotate_left; specialize sp (Bx.mk false hB); (with_reducible first | have hb := iEq_t hB | have hb := iEq_f hB | have hb := iLe_t hB | have hb := iLe_f hB | have hb := iLt_t hB | have hb := iLt_f hB | have hb := bEq_t hB | have hb := bEq_f hB | have hb := not_t hB | have hb := not_f hB | skip); rotate_right))) | fail))
  · exact sp ⟨(ct hB).symm, rfl⟩
  · refine num_for a₀ ns₀ n b O (fun o N hc e => ?_) fun l' hc e => ?_
    · specialize sp (fQ hc :)
      (repeat' (first | specialize sp (by first | (with_reducible apply Cx2.mk; (with_reducible assumption)) | wtm_at "a") | (((refine Bool.two ?_ (fun hB => ?_) (fun hB => ?_); rotate_left; specialize sp (Bx.mk true hB); (with_reducible first | have hb := iEq_t hB | have hb := iEq_f hB | have hb := iLe_t hB | have hb := iLe_f hB | have hb := iLt_t hB | have hb := iLt_f hB | have hb := bEq_t hB | have hb := bEq_f hB | have hb := not_t hB | have hb := not_f hB | skip); rotate_left; specialize sp (Bx.mk false hB); (with_reducible first | have hb := iEq_t hB | have hb := iEq_f hB | have hb := iLe_t hB | have hb := iLe_f hB | have hb := iLt_t hB | have hb := iLt_f hB | have hb := bEq_t hB | have hb := bEq_f hB | have hb := not_t hB | have hb := not_f hB | skip); rotate_right))) | fail))
      exact sp ⟨((cf hB).trans e).symm, rfl⟩
    · specialize sp (fQ hc :)
      (repeat' (first | specialize sp (by first | (with_reducible apply Cx2.mk; (with_reducible assumption)) | wtm_at "a") | (((refine Bool.two ?_ (fun hB => ?_) (fun hB => ?_); rotate_left; specialize sp (Bx.mk true hB); (with_reducible first | have hb := iEq_t hB | have hb := iEq_f hB | have hb := iLe_t hB | have hb := iLe_f hB | have hb := iLt_t hB | have hb := iLt_f hB | have hb := bEq_t hB | have hb := bEq_f hB | have hb := not_t hB | have hb := not_f hB | skip); rotate_left; specialize sp (Bx.mk false hB); (with_reducible first | have hb := iEq_t hB | have hb := iEq_f hB | have hb := iLe_t hB | have hb := iLe_f hB | have hb := iLt_t hB | have hb := iLt_f hB | have hb := bEq_t hB | have hb := bEq_f hB | have hb := not_t hB | have hb := not_f hB | skip); rotate_right))) | fail))
      exact sp ⟨((cf hB).trans e).symm, rfl⟩
noncomputable def decOf (a b c : Int) : List Int := digs a ++ [59] ++ (digs b ++ [59] ++ digs c)
theorem decOf_len {a b c : Int} (ha : a < 1000000) (hb : b < 1000000) (hc : c < 1000000) : (decOf a b c).length ≤ 23 := by
  have := digs_len ha
  have := digs_len hb
  have := digs_len hc
  unfold decOf
  simp only [List.length_append, List.length_singleton]; omega
theorem dec_comp (n : Nat) (i : Nat) (a b c : Int) (O : Ost) (hi : O[i]? = some (.list [.int a, .int b, .int c])) (ha : 0 ≤ a ∧ a < 1000000) (hb : 0 ≤ b ∧ b < 1000000) (hc : 0 ≤ c ∧ c < 1000000) :
    CompS (R (tabs a₀ ns₀) (n + 41)) (cG (arg (wT (st 40 0)) 0) (gm 40)) [(Str.ofString "numbers", .obj i)] (Str.ofString "number") (cI (arg (wT (st 40 0)) 0)) (cE (arg (wT (st 40 0)) 0)) (.led i (.list [.int a, .int b, .int c]) [.int a, .int b, .int c]) O
      fun v O' => v = [.bytes (digs a), .bytes (digs b), .bytes (digs c)] ∧ Ext O O' := by
  refine .mk fun G sp => ?_
  (repeat' (first | specialize sp (by first | (with_reducible apply Cx2.mk; (with_reducible assumption)) | wtm_at "a") | (apply CallS.useP; rotate_left; intro O1 hc hk; specialize sp (cQ hc :); rotate_right; (exact decimal_octets _ _ _ _ _ (And.left (by wtm_at "A")) (And.right (by wtm_at "A"))); try (obtain ⟨hx, hk⟩ := hk)) | (((refine Bool.two ?_ (fun hB => ?_) (fun hB => ?_); rotate_left; specialize sp (Bx.mk true hB); (with_reducible first | have hb := iEq_t hB | have hb := iEq_f hB | have hb := iLe_t hB | have hb := iLe_f hB | have hb := iLt_t hB | have hb := iLt_f hB | have hb := bEq_t hB | have hb := bEq_f hB | have hb := not_t hB | have hb := not_f hB | skip); rotate_left; specialize sp (Bx.mk false hB); (with_reducible first | have hb := iEq_t hB | have hb := iEq_f hB | have hb := iLe_t hB | have hb := iLe_f hB | have hb := iLt_t hB | have hb := iLt_f hB | have hb := bEq_t hB | have hb := bEq_f hB | have hb := not_t hB | have hb := not_f hB | skip); rotate_right))) | fail))
  exact sp ⟨rfl, by wtm_at "p"⟩
theorem mouse_decimals (n : Nat) (i : Nat) (a b c : Int) (O : Ost) (hi : O[i]? = some (.list [.int a, .int b, .int c])) (ha : 0 ≤ a ∧ a < 1000000) (hb : 0 ≤ b ∧ b < 1000000) (hc : 0 ≤ c ∧ c < 1000000) : CallX (R (tabs a₀ ns₀) (n + 45)) 155 [.obj i] O (.bytes (decOf a b c)) := by
  have hg : (decOf a b c).length ≤ 1000000 := Nat.le_trans (decOf_len ha.2 hb.2 hc.2) (by decide)
  have hC := dec_comp a₀ ns₀ n i a b c O hi ha hb hc
  clear ha hb hc
  (refine CallS.mk ?_; intro G sp)
  (repeat' (first | specialize sp (by first | (with_reducible apply Cx2.mk; (with_reducible assumption)) | wtm_at "a") | (apply CallS.useP; rotate_left; intro O1 hc hk; specialize sp (cQ hc :); rotate_right; (exact decimal_octets _ _ _ _ _ (And.left (by wtm_at "A")) (And.right (by wtm_at "A"))); try (obtain ⟨hx, hk⟩ := hk)) | (((refine Bool.two ?_ (fun hB => ?_) (fun hB => ?_); rotate_left; specialize sp (Bx.mk true hB); (with_reducible first | have hb := iEq_t hB | have hb := iEq_f hB | have hb := iLe_t hB | have hb := iLe_f hB | have hb := iLt_t hB | have hb := iLt_f hB | have hb := bEq_t hB | have hb := bEq_f hB | have hb := not_t hB | have hb := not_f hB | skip); rotate_left; specialize sp (Bx.mk false hB); (with_reducible first | have hb := iEq_t hB | have hb := iEq_f hB | have hb := iLe_t hB | have hb := iLe_f hB | have hb := iLt_t hB | have hb := iLt_f hB | have hb := bEq_t hB | have hb := bEq_f hB | have hb := not_t hB | have hb := not_f hB | skip); rotate_right))) | fail))
  refine CompS.useX hC fun O1 hc hx => ?_
  specialize sp (pQ hc :)
  (repeat' (first | specialize sp (by first | (with_reducible apply Cx2.mk; (with_reducible assumption)) | wtm_at "a") | (apply CallS.useP; rotate_left; intro O1 hc hk; specialize sp (cQ hc :); rotate_right; (exact decimal_octets _ _ _ _ _ (And.left (by wtm_at "A")) (And.right (by wtm_at "A"))); try (obtain ⟨hx, hk⟩ := hk)) | (((refine Bool.two ?_ (fun hB => ?_) (fun hB => ?_); rotate_left; specialize sp (Bx.mk true hB); (with_reducible first | have hb := iEq_t hB | have hb := iEq_f hB | have hb := iLe_t hB | have hb := iLe_f hB | have hb := iLt_t hB | have hb := iLt_f hB | have hb := bEq_t hB | have hb := bEq_f hB | have hb := not_t hB | have hb := not_f hB | skip); rotate_left; specialize sp (Bx.mk false hB); (with_reducible first | have hb := iEq_t hB | have hb := iEq_f hB | have hb := iLe_t hB | have hb := iLe_f hB | have hb := iLt_t hB | have hb := iLt_f hB | have hb := bEq_t hB | have hb := bEq_f hB | have hb := not_t hB | have hb := not_f hB | skip); rotate_right))) | fail))
  exact sp ⟨rfl, by wtm_at "p"⟩
noncomputable def strI (t : Str) : List Int := t.cps.toList.map fun (c : Nat) => (c : Int)
theorem strI_append (s t : Str) : strI (s ++ t) = strI s ++ strI t := by
  show ((s.cps ++ t.cps).toList.map _) = _
  rw [Array.toList_append, List.map_append]; rfl
theorem strI_len (s : Str) : (strI s).length = s.length := by
  unfold strI Str.length; rw [List.length_map, Array.length_toList]
theorem digit_sign : ∀ d : Fin 10, (Nat.digitChar d.val).toNat = 48 + d.val := by decide +kernel
theorem toDigits_rdig : ∀ n : Nat, (Nat.toDigits 10 n).map (fun c => ((c.toNat : Nat) : Int)) = (rdig n).reverse := by
  intro n
  induction n using Nat.strongRecOn with
  | _ n ih =>
    rw [rdig_eq]
    by_cases h : n < 10
    · rw [Nat.toDigits_of_lt_base h, if_pos (by omega)]
      have := digit_sign ⟨n, h⟩
      simp only at this
      simp only [List.map_cons, List.map_nil, List.reverse_cons, List.reverse_nil, List.nil_append, this]
      rw [Nat.mod_eq_of_lt h]; rfl
    · rw [Nat.toDigits_of_base_le (by decide) (by omega), if_neg (by omega), List.map_append, ih _ (by omega), List.reverse_cons]
      have := digit_sign ⟨n % 10, by omega⟩
      simp only at this
      simp only [List.map_cons, List.map_nil, this]
      rfl
theorem strI_num {m : Int} (h : 0 ≤ m) : strI (Str.ofString (toString m)) = digs m := by
  obtain ⟨n, rfl⟩ := Int.eq_ofNat_of_zero_le h
  unfold strI digs
  rw [KIN.signs_num, List.map_map, Int.toNat_natCast, ← toDigits_rdig]
  rfl
theorem fig_comp (n : Nat) (i : Nat) (a b c : Int) (O : Ost) (hi : O[i]? = some (.list [.int a, .int b, .int c])) (ha : 0 ≤ a ∧ smallI a) (hb : 0 ≤ b ∧ smallI b) (hc : 0 ≤ c ∧ smallI c) :
    CompS (R (tabs a₀ ns₀) (n + 11)) (cG (arg (wT (st 55 0)) 0) (gm 55)) [(Str.ofString "numbers", .obj i)] (Str.ofString "number") (cI (arg (wT (st 55 0)) 0)) (cE (arg (wT (st 55 0)) 0)) (.led i (.list [.int a, .int b, .int c]) [.int a, .int b, .int c]) O
      fun v O' => v = [a, b, c].map (fun z => .str (Str.ofString (toString z))) ∧ O' = O := by
  refine .mk fun G sp => ?_
  (repeat' wtm_at "y")
  exact sp ⟨rfl, rfl⟩
theorem small_of {m : Int} (h : 0 ≤ m ∧ m < 1000000) : 0 ≤ m ∧ smallI m := ⟨h.1, by unfold smallI; omega⟩
theorem num_len {m : Int} (h : 0 ≤ m ∧ m < 1000000) : (Str.ofString (toString m)).length ≤ 7 := by rw [← strI_len, strI_num h.1]; exact digs_len h.2
theorem strI_join {a b c : Int} (ha : 0 ≤ a) (hb : 0 ≤ b) (hc : 0 ≤ c) : strI (Str.join (Str.ofString ";") ([a, b, c].map fun z => Str.ofString (toString z))) = decOf a b c := by
  have e : strI (Str.ofString ";") = [59] := by decide +kernel
  have j : Str.join (Str.ofString ";") [Str.ofString (toString a), Str.ofString (toString b), Str.ofString (toString c)] = Str.ofString (toString a) ++ (Str.ofString ";") ++ (Str.ofString (toString b) ++ (Str.ofString ";") ++ Str.ofString (toString c)) := by
    simp [Str.join]
  show strI (Str.join (Str.ofString ";") [Str.ofString (toString a), Str.ofString (toString b), Str.ofString (toString c)]) = _
  rw [j, strI_append, strI_append, strI_append, strI_append, strI_num ha, strI_num hb, strI_num hc, e]
  rfl
theorem fig_sum {a b c : Int} (ha : 0 ≤ a ∧ a < 1000000) (hb : 0 ≤ b ∧ b < 1000000) (hc : 0 ≤ c ∧ c < 1000000) : (([a, b, c].map fun z => Str.ofString (toString z)).map (·.length)).sum + ([a, b, c].map fun z => Str.ofString (toString z)).length * (Str.ofString ";").length ≤ 16777216 :=
  have x := num_len ha
  have y := num_len hb
  have z := num_len hc
  Nat.le_trans (Nat.add_le_add_right (Nat.add_le_add x (Nat.add_le_add y (Nat.add_le_add z (Nat.le_refl 0)))) _) (by decide +kernel : 7 + (7 + (7 + 0)) + 3 * (Str.ofString ";").length ≤ 16777216)
noncomputable def figS (a b c : Int) : Str := Str.join (Str.ofString ";") ([a, b, c].map fun z => Str.ofString (toString z))
theorem law_figures (n : Nat) (i : Nat) (a b c : Int) (O : Ost) (hi : O[i]? = some (.list [.int a, .int b, .int c])) (ha : 0 ≤ a ∧ a < 1000000) (hb : 0 ≤ b ∧ b < 1000000) (hc : 0 ≤ c ∧ c < 1000000) : CallX (R (tabs a₀ ns₀) (n + 15)) 286 [.obj i] O (.str (figS a b c)) := by
  have hg := fig_sum ha hb hc
  have hC := fig_comp a₀ ns₀ n i a b c O hi (small_of ha) (small_of hb) (small_of hc)
  clear ha hb hc
  (refine CallS.mk ?_; intro G sp)
  (repeat' wtm_at "y")
  refine CompS.use0 hC fun hc => ?_
  specialize sp (pQ hc :)
  (repeat' wtm_at "y")
  exact sp ⟨rfl, by wtm_at "p"⟩
theorem ord_comp (n : Nat) (t : Str) (O : Ost) (hl : t.cps.toList.length ≤ 1000000) :
    CompS (R (tabs a₀ ns₀) (n + 11)) (cG (arg (wT (st 56 0)) 0) (gm 56)) [(Str.ofString "text", .str t)] (Str.ofString "sign") (cI (arg (wT (st 56 0)) 0)) (cE (arg (wT (st 56 0)) 0)) (.str t) O
      fun v O' => v = t.cps.toList.map (fun c => .int (c : Int)) ∧ O' = O := by
  refine compR (f := fun c => AV.str ⟨#[c]⟩) t.cps.toList rfl hl trivial ?_
  intro y _ T U D G k sp
  (repeat' wtm_at "y")
  exact k sp
theorem law_octets (n : Nat) (t : Str) (O : Ost) (hl : (strI t).length ≤ 1000000) (hb : ∀ c ∈ strI t, 0 ≤ c ∧ c < 256) : CallX (R (tabs a₀ ns₀) (n + 15)) 291 [.str t] O (.bytes (strI t)) := by
  have hC := ord_comp a₀ ns₀ n t O (by unfold strI at hl; rw [List.length_map] at hl; exact hl)
  (refine CallS.mk ?_; intro G sp)
  (repeat' wtm_at "y")
  refine CompS.use0 hC fun hc => ?_
  specialize sp (pQ hc :)
  (repeat' wtm_at "y")
  specialize sp (Ox.mk (strI t) (by unfold strI; rw [← intsAll_int, List.map_map]; rfl))
  specialize sp ⟨hl, hb⟩
  exact sp ⟨rfl, by wtm_at "p"⟩
theorem at_dict {O : Ost} {i : Nat} {es es' : List (Str × AV)} (h : O[i]? = some (.dict es)) (e : es = es') : O[i]? = some (.dict es') := e ▸ h
noncomputable abbrev Es := List (Str × AV)
structure MoAt (O : Ost) (i s : Nat) (es : Es) : Prop where
  ex : ∃ d kp : Nat, O[i]? = some (.inst 69 d) ∧ O[d]? = some (.dict [(Str.ofString "states", .obj s), (Str.ofString "kept", .obj kp)]) ∧ s ≠ d
  st : O[s]? = some (.dict es)
theorem MoAt.out {O : Ost} {i s : Nat} {es : Es} (h : MoAt O i s es) {G : Prop} (k : ∀ d kp : Nat, O[i]? = some (.inst 69 d) → O[d]? = some (.dict [(Str.ofString "states", .obj s), (Str.ofString "kept", .obj kp)]) → s ≠ d → O[s]? = some (.dict es) → G) : G := let ⟨⟨d, kp, h1, h2, n⟩, h3⟩ := h; k d kp h1 h2 n h3
theorem MoAt.ext {O O' : Ost} {i s : Nat} {es : Es} (h : MoAt O i s es) (p : Ext O O') : MoAt O' i s es := h.out fun d kp h1 h2 n h3 => ⟨⟨d, kp, p _ _ h1, p _ _ h2, n⟩, p _ _ h3⟩
theorem MoAt.keep {O O' : Ost} {i s : Nat} {es es' : Es} (h : MoAt O i s es) (p : Keep s O O') (e : O'[s]? = some (.dict es')) : MoAt O' i s es' := h.out fun d kp h1 h2 n h3 =>
  ⟨⟨d, kp, p _ _ (ne_at h1 h3 AO.noConfusion) h1, p _ _ (Ne.symm n) h2, n⟩, e⟩
noncomputable def es0 : Es := [(Str.ofString "send_receive", .bool true), (Str.ofString "autowrap", .bool true), (Str.ofString "autorepeat", .bool true), (Str.ofString "show_cursor", .bool true), (Str.ofString "num_lock", .bool true)]
noncomputable def puts (v : AV) (ws : List Str) (es : Es) : Es := ws.foldl (fun es w => setL w v es) es
noncomputable abbrev PSt := Option Str × Ost × Es
noncomputable def PInv (s : Nat) (v : AV) (O : Ost) (E : Es) (rest : List Str) (x : PSt) : Prop := Keep s O x.2.1 ∧ x.2.1[s]? = some (.dict x.2.2) ∧ x.2.2.length + rest.length ≤ 500 ∧ puts v rest x.2.2 = E
noncomputable def PEnd (s : Nat) (O : Ost) (E : Es) (x : PSt) : Prop := Keep s O x.2.1 ∧ x.2.1[s]? = some (.dict E) ∧ E.length ≤ 500
theorem PInv.done {s : Nat} {v : AV} {O : Ost} {E : Es} {x : PSt} (h : PInv s v O E [] x) : PEnd s O E x := by
  obtain ⟨a, b, c, rfl⟩ := h; exact ⟨a, b, c⟩
theorem PInv.step {s : Nat} {v : AV} {O : Ost} {E : Es} {w : Str} {rest : List Str} {x : PSt} (h : PInv s v O E (w :: rest) x) : PInv s v O E rest (some w, x.2.1.set s (.dict (setL w v x.2.2)), setL w v x.2.2) :=
  ⟨Keep.set h.1, at_same h.2.1, Nat.le_trans (Nat.add_le_add_right (setL_b (Nat.le_refl _)) _) ((Nat.add_right_comm _ _ _).symm ▸ h.2.2.1), h.2.2.2⟩
noncomputable def iniL (i : Nat) (x : PSt) : Locs := (Str.ofString "self", .obj i) :: (match x.1 with | some o => [(Str.ofString "word", .str o)] | none => [])
noncomputable def onWords : List Str := [Str.ofString "send_receive", Str.ofString "autowrap", Str.ofString "autorepeat", Str.ofString "show_cursor", Str.ofString "num_lock"]
theorem init_loop (n : Nat) (i d s kp : Nat) (O : Ost) (h1 : O[i]? = some (.inst 69 d)) (h2 : O[d]? = some (.dict [(Str.ofString "states", .obj s), (Str.ofString "kept", .obj kp)])) (h3 : O[s]? = some (.dict [])) (n1 : i ≠ s) (n2 : d ≠ s) :
    ForS (R (tabs a₀ ns₀) (n + 13)) (gmI 10 0) (.one (Str.ofString "word")) (wB (stI 10 0 2)) (.glob 31 (onWords.map AV.str)) (iniL i (none, O, [])) O (kR (iniL i) (fun x => x.2.1) (PEnd s O es0) fun _ _ => False) := by
  refine forR (f := AV.str) (L := iniL i) (Q := fun x : PSt => x.2.1) (fun _ w x => iniL i (some w, x.2)) (fun _ => PInv s (.bool true) O es0) (fun i x s => by obtain ⟨o, N⟩ := s; cases o <;> rfl) (fun _ s h => h.done) (fun _ _ _ _ => by exact trivial) ?_ onWords rfl (none, O, []) ⟨Keep.refl _ _, h3, by exact Nat.le_of_ble_eq_true rfl, rfl⟩
  intro i x rest st ih g G sp
  have k1 := g.1 _ _ n1 h1
  have k2 := g.1 _ _ n2 h2
  have k3 := g.2.1
  have k4 := Nat.le_trans (Nat.le_add_right _ _) g.2.2.1
  clear h1 h2 h3
  (repeat' wtm_at "y")
  exact ih (some x, st.2.1.set s (.dict (setL x (.bool true) st.2.2)), setL x (.bool true) st.2.2) g.step G sp
theorem init_for (n : Nat) (i d s kp : Nat) (O : Ost) (h1 : O[i]? = some (.inst 69 d)) (h2 : O[d]? = some (.dict [(Str.ofString "states", .obj s), (Str.ofString "kept", .obj kp)])) (h3 : O[s]? = some (.dict [])) (n1 : i ≠ s) (n2 : d ≠ s) {G : Prop}
    (k : ∀ l' O', forP (R (tabs a₀ ns₀) (n + 13)) (gmI 10 0) (.one (Str.ofString "word")) (wB (stI 10 0 2)) (.glob 31 (onWords.map AV.str)) (iniL i (none, O, [])) O .next l' O' → Keep s O O' → O'[s]? = some (.dict es0) → G) : G :=
  (init_loop a₀ ns₀ n i d s kp O h1 h2 h3 n1 n2).out (fun x hc e => k _ _ hc e.1 e.2.1) fun _ _ _ _ e => e.elim
theorem Keep.two {d s : Nat} {O P Q : Ost} (h : Keep d O P) (h' : Keep s P Q) (n : O.length ≤ s) : Keep d O Q := fun j o m e => h' j o (Nat.ne_of_lt (Nat.lt_of_lt_of_le (lt_of_at e) n)) (h j o m e)
noncomputable def moD (s kp : Nat) : AO := .dict [(Str.ofString "states", .obj s), (Str.ofString "kept", .obj kp)]
noncomputable def moO (d : Nat) (O : Ost) : Ost := (O ++ [AO.dict []]).set d (AO.dict [(Str.ofString "states", .obj O.length)])
noncomputable def moP (d : Nat) (O : Ost) : Ost := (moO d O ++ [AO.dict []]).set d (moD O.length (moO d O).length)
theorem modes_init (n : Nat) (i d : Nat) (O : Ost) (hi : O[i]? = some (.inst 69 d)) (hd : O[d]? = some (.dict [])) : CallS (R (tabs a₀ ns₀) (n + 15)) 52 [.obj i] O fun u O' => u = .none ∧ Keep d O O' ∧ MoAt O' i O.length es0 := by
  have n1 : d ≠ i := (ne_at hi hd AO.noConfusion).symm
  have n2 : i ≠ O.length := Nat.ne_of_lt (lt_of_at hi)
  have n3 : d ≠ O.length := Nat.ne_of_lt (lt_of_at hd)
  have k0 : Keep d O (moP d O) := Keep.set (Keep.app (Keep.set (Keep.app (Keep.refl _ _))))
  have g2 : (moP d O)[d]? = some (moD O.length (moO d O).length) := at_same (at_old (at_same (at_old hd)))
  have g3 : (moP d O)[O.length]? = some (.dict []) := at_other n3 (at_old (at_other n3 at_last))
  refine init_for a₀ ns₀ n i d O.length (moO d O).length (moP d O) (k0 _ _ n1.symm hi) g2 g3 n2 n3 fun l' O' hc hk hl => ?_
  (refine CallS.mk ?_; intro G sp)
  (repeat' wtm_at "y")
  specialize sp (fQ hc :)
  (repeat' wtm_at "y")
  exact sp ⟨rfl, k0.two hk (Nat.le_refl _), ⟨d, (moO d O).length, hk _ _ n2 (k0 _ _ n1.symm hi), hk _ _ n3 g2, n3.symm⟩, hl⟩
theorem is_on (n : Nat) (i s : Nat) (es : Es) (x : Str) (O : Ost) (hm : MoAt O i s es) : (R (tabs a₀ ns₀) (n + 15)).C 59 [.obj i, .str x] O (dgetD es x (.bool false)) O := by
  refine hm.out fun d kp h1 h2 n1 h3 => ?_
  clear hm
  refine CallS.pure ?_
  (refine CallS.mk ?_; intro G sp)
  (repeat' wtm_at "y")
  exact sp ⟨rfl, rfl⟩
inductive Gp where
  | modes | ways | none
inductive Wd where
  | x10 | click | drag | all | utf8 | sgr | urxvt | pixels | focus | paste
noncomputable def Wd.s : Wd → Str
  | .x10 => Str.ofString "mouse_x10"
  | .click => Str.ofString "mouse_click"
  | .drag => Str.ofString "mouse_drag"
  | .all => Str.ofString "mouse_all"
  | .utf8 => Str.ofString "mouse_utf8"
  | .sgr => Str.ofString "mouse_sgr"
  | .urxvt => Str.ofString "mouse_urxvt"
  | .pixels => Str.ofString "mouse_pixels"
  | .focus => Str.ofString "focus"
  | .paste => Str.ofString "paste"
noncomputable def Wd.gp (w : Wd) : Gp := w.casesOn .modes .modes .modes .modes .ways .ways .ways .ways .none .none
noncomputable def Gp.xs : Gp → List Str
  | .modes => [Str.ofString "mouse_x10", Str.ofString "mouse_click", Str.ofString "mouse_drag", Str.ofString "mouse_all"]
  | .ways => [Str.ofString "mouse_utf8", Str.ofString "mouse_sgr", Str.ofString "mouse_urxvt", Str.ofString "mouse_pixels"]
  | .none => []
noncomputable def Gp.v (O : Ost) : Gp → AV
  | .modes => .val (.ref 29)
  | .ways => .val (.ref 30)
  | .none => .obj O.length
noncomputable def Gp.o (O : Ost) : Gp → Ost
  | .modes => O
  | .ways => O
  | .none => O ++ [.tuple []]
noncomputable def Gp.k (O : Ost) : Gp → ItK
  | .modes => .glob 29 (Gp.modes.xs.map AV.str)
  | .ways => .glob 30 (Gp.ways.xs.map AV.str)
  | .none => .led O.length (.tuple []) []
noncomputable def setOn (w : Wd) (es : Es) : Es := setL w.s (.bool true) (puts (.bool false) w.gp.xs es)
theorem modes_group (n : Nat) (wd : Wd) (O : Ost) : (R (tabs a₀ ns₀) (n + 15)).C 38 [.str wd.s] O (wd.gp.v O) (wd.gp.o O) := by
  have h : CallS (R (tabs a₀ ns₀) (n + 15)) 38 [.str wd.s] O fun u O' => u = wd.gp.v O ∧ O' = wd.gp.o O := by
    cases wd
    all_goals
      (refine CallS.mk ?_; intro G sp)
      (repeat' wtm_at "y")
      exact sp ⟨rfl, rfl⟩
  obtain ⟨⟨_, _, hc, rfl, rfl⟩⟩ := h
  exact hc
noncomputable def setLs (i : Nat) (w : Str) (x : PSt) : Locs := (Str.ofString "self", .obj i) :: (Str.ofString "word", .str w) :: (Str.ofString "is_on", .bool true) :: (match x.1 with | some o => [(Str.ofString "other", .str o)] | none => [])
noncomputable def setF : Option Stmt := sAt (wB (stI 10 2 0)) 0
theorem Gp.len (g : Gp) : g.xs.length ≤ 4 := by cases g <;> exact Nat.le_of_ble_eq_true rfl
theorem Gp.old {g : Gp} {O : Ost} {s : Nat} {a : AO} (h : O[s]? = some a) : (g.o O)[s]? = some a := by
  cases g
  · exact h
  · exact h
  · exact at_old h
theorem Gp.items (g : Gp) (O : Ost) : (g.k O).items = g.xs.map AV.str := by cases g <;> rfl
theorem Gp.still {g : Gp} {O O' : Ost} {s : Nat} (h : O.length ≠ s) (p : Keep s (g.o O) O') : (g.k O).still O' := by
  cases g
  · trivial
  · trivial
  · exact p _ _ h at_last
theorem set_loop (n : Nat) (i d s kp : Nat) (w : Str) (es : Es) (O : Ost) (K : ItK) (xs : List Str) (hK : K.items = xs.map AV.str) (still : ∀ O', Keep s O O' → K.still O') (h1 : O[i]? = some (.inst 69 d)) (h2 : O[d]? = some (.dict [(Str.ofString "states", .obj s), (Str.ofString "kept", .obj kp)])) (h3 : O[s]? = some (.dict es)) (n1 : i ≠ s) (n2 : d ≠ s) (hl : es.length + xs.length ≤ 500) :
    ForS (R (tabs a₀ ns₀) (n + 22)) (gmI 10 2) (.one (Str.ofString "other")) (wB setF) K (setLs i w (none, O, es)) O (kR (setLs i w) (fun x => x.2.1) (PEnd s O (puts (.bool false) xs es)) fun _ _ => False) := by
  refine forR (f := AV.str) (L := setLs i w) (Q := fun x : PSt => x.2.1) (fun _ v x => setLs i w (some v, x.2)) (fun _ => PInv s (.bool false) O (puts (.bool false) xs es)) (fun i x s => by obtain ⟨o, N⟩ := s; cases o <;> rfl) (fun _ s h => h.done) (fun _ _ s h => still _ h.1) ?_ xs hK (none, O, es) ⟨Keep.refl _ _, h3, hl, rfl⟩
  intro j x rest st ih g G sp
  have k1 := g.1 _ _ n1 h1
  have k2 := g.1 _ _ n2 h2
  have k3 := g.2.1
  have k4 := Nat.le_trans (Nat.le_add_right _ _) g.2.2.1
  clear h1 h2 h3 still hK hl
  (repeat' wtm_at "y")
  exact ih (some x, st.2.1.set s (.dict (setL x (.bool false) st.2.2)), setL x (.bool false) st.2.2) g.step G sp
theorem set_for (n : Nat) (i d s kp : Nat) (w : Str) (es : Es) (O : Ost) (g : Gp) (h1 : O[i]? = some (.inst 69 d)) (h2 : O[d]? = some (.dict [(Str.ofString "states", .obj s), (Str.ofString "kept", .obj kp)])) (h3 : O[s]? = some (.dict es)) (n1 : i ≠ s) (n2 : d ≠ s) (hl : es.length ≤ 100) {G : Prop}
    (k : ∀ o O', forP (R (tabs a₀ ns₀) (n + 22)) (gmI 10 2) (.one (Str.ofString "other")) (wB setF) (g.k O) (setLs i w (none, g.o O, es)) (g.o O) .next (setLs i w (o, O', puts (.bool false) g.xs es)) O' → Keep s O O' → O'[s]? = some (.dict (puts (.bool false) g.xs es)) → (puts (.bool false) g.xs es).length ≤ 500 → G) : G := by
  exact (set_loop a₀ ns₀ n i d s kp w es (g.o O) (g.k O) g.xs (g.items O) (fun O' p => Gp.still (Nat.ne_of_gt (lt_of_at h3)) p) (Gp.old h1) (Gp.old h2) (Gp.old h3) n1 n2 (Nat.le_trans (Nat.add_le_add hl g.len) (by decide))).out
    (fun x hc e => k x.1 x.2.1 hc (fun j o n h => e.1 j o n (Gp.old h)) e.2.1 e.2.2) fun _ _ _ _ e => e.elim
theorem modes_set (n : Nat) (i s : Nat) (es : Es) (wd : Wd) (O : Ost) (hm : MoAt O i s es) (hl : es.length ≤ 100) : CallS (R (tabs a₀ ns₀) (n + 25)) 66 [.obj i, .str wd.s, .bool true] O fun u O' => u = .none ∧ Keep s O O' ∧ O'[s]? = some (.dict (setOn wd es)) := by
  have hG := modes_group a₀ ns₀ (n + 6) wd O
  unfold setOn
  generalize wd.gp = g at hG ⊢
  generalize wd.s = w at hG ⊢
  refine hm.out fun d kp h1 h2 n1 h3 => ?_
  have n2 : i ≠ s := ne_at h1 h3 AO.noConfusion
  refine set_for a₀ ns₀ n i d s kp w es O g h1 h2 h3 n2 n1.symm hl fun o O' hc hk hs hz => ?_
  have h1 := hk _ _ n2 h1
  have h2 := hk _ _ n1.symm h2
  have he : Keep s O (O'.set s (.dict (setL w (.bool true) (puts (.bool false) g.xs es)))) := Keep.set hk
  have hf := at_same (a := .dict (setL w (.bool true) (puts (.bool false) g.xs es))) hs
  clear h3 hm hl hk n1 n2
  cases g
  all_goals
    have hT : (Gp.none.o O)[O.length]? = some (AO.tuple []) := at_last
    (refine CallS.mk ?_; intro G sp)
    (repeat' wtm_at "y")
    specialize sp (fQ hc :)
    (repeat' wtm_at "y")
    exact sp ⟨rfl, he, hf⟩
noncomputable def OnsAre (es : Es) : List (Str × Bool) → Prop
  | [] => True
  | p :: r => dgetD es p.1 (.bool false) = .bool p.2 ∧ OnsAre es r
noncomputable def firstB : List (Str × Bool) → AV
  | [] => .none
  | p :: r => cond p.2 (.str p.1) (firstB r)
noncomputable def Md.ons (md : Md) : List (Str × Bool) := [(Str.ofString "mouse_x10", md.casesOn false true false false false), (Str.ofString "mouse_click", md.casesOn false false true false false), (Str.ofString "mouse_drag", md.casesOn false false false true false), (Str.ofString "mouse_all", md.casesOn false false false false true)]
inductive Wy where
  | no | utf8 | sgr | urxvt | pixels
noncomputable def Wy.v : Wy → AV
  | .no => .none
  | .utf8 => .str (Str.ofString "mouse_utf8")
  | .sgr => .str (Str.ofString "mouse_sgr")
  | .urxvt => .str (Str.ofString "mouse_urxvt")
  | .pixels => .str (Str.ofString "mouse_pixels")
noncomputable def Wy.ons (wy : Wy) : List (Str × Bool) := [(Str.ofString "mouse_utf8", wy.casesOn false true false false false), (Str.ofString "mouse_sgr", wy.casesOn false false true false false), (Str.ofString "mouse_urxvt", wy.casesOn false false false true false), (Str.ofString "mouse_pixels", wy.casesOn false false false false true)]
noncomputable def onW (p : Str × Bool) : AV := .str p.1
noncomputable def mdL (i : Nat) (o : Option Str) : Locs := (Str.ofString "modes", .obj i) :: (match o with | some w => [(Str.ofString "word", .str w)] | none => [])
theorem mode_loop (n : Nat) (i s : Nat) (es : Es) (md : Md) (O : Ost) (hm : MoAt O i s es) (hv : OnsAre es md.ons) :
    ForS (R (tabs a₀ ns₀) (n + 28)) (gm 11) (.one (Str.ofString "word")) (wB (st 11 0)) (.glob 29 (md.ons.map onW)) (mdL i none) O (kR (mdL i) (fun _ => O) (fun _ => md.v = .none) fun w O' => w = md.v ∧ O' = O) := by
  refine forR (f := onW) (L := mdL i) (Q := fun _ => O) (fun _ w _ => mdL i (some w.1)) (fun _ rest _ => OnsAre es rest ∧ firstB rest = md.v) (fun _ x s => by cases s <;> rfl) (fun _ s h => h.2.symm) (fun _ _ _ _ => by exact trivial) ?_ md.ons rfl none ⟨hv, by cases md <;> rfl⟩
  intro j x rest st ih g
  have hq := g.1.1 ▸ is_on a₀ ns₀ (n + 10) i s es x.1 O hm
  have h : cond x.2 (AV.str x.1) (firstB rest) = md.v := g.2
  have g := g.1.2
  refine hm.out fun d kp h1 h2 _ _ => ?_
  clear hv hm
  intro G sp
  (repeat' wtm_at "y")
  · exact sp (kR.ret ⟨(ct hB).symm.trans h, rfl⟩)
  · exact ih (some x.1) ⟨g, (cf hB).symm.trans h⟩ G sp
theorem way_loop (n : Nat) (i s : Nat) (es : Es) (wy : Wy) (O : Ost) (hm : MoAt O i s es) (hv : OnsAre es wy.ons) :
    ForS (R (tabs a₀ ns₀) (n + 28)) (gm 12) (.one (Str.ofString "word")) (wB (st 12 0)) (.glob 30 (wy.ons.map onW)) (mdL i none) O (kR (mdL i) (fun _ => O) (fun _ => wy.v = .none) fun w O' => w = wy.v ∧ O' = O) := by
  refine forR (f := onW) (L := mdL i) (Q := fun _ => O) (fun _ w _ => mdL i (some w.1)) (fun _ rest _ => OnsAre es rest ∧ firstB rest = wy.v) (fun _ x s => by cases s <;> rfl) (fun _ s h => h.2.symm) (fun _ _ _ _ => by exact trivial) ?_ wy.ons rfl none ⟨hv, by cases wy <;> rfl⟩
  intro j x rest st ih g
  have hq := g.1.1 ▸ is_on a₀ ns₀ (n + 10) i s es x.1 O hm
  have h : cond x.2 (AV.str x.1) (firstB rest) = wy.v := g.2
  have g := g.1.2
  refine hm.out fun d kp h1 h2 _ _ => ?_
  clear hv hm
  intro G sp
  (repeat' wtm_at "y")
  · exact sp (kR.ret ⟨(ct hB).symm.trans h, rfl⟩)
  · exact ih (some x.1) ⟨g, (cf hB).symm.trans h⟩ G sp
theorem ForS.out0 {α : Type} {r : Rec} {Γ : Cx} {t : Tg} {b : List Stmt} {K : ItK} {l : Locs} {O : Ost} {L : α → Locs} {p : α → Prop} {v : AV} (h : ForS r Γ t b K l O (kR L (fun _ => O) p fun w O' => w = v ∧ O' = O)) {G : Prop}
    (h1 : ∀ s, forP r Γ t b K l O .next (L s) O → p s → G) (h2 : ∀ l', forP r Γ t b K l O (.ret v) l' O → G) : G :=
  h.out h1 fun w l' O' hc e => by obtain ⟨rfl, rfl⟩ := e; exact h2 l' hc
theorem mouse_mode (n : Nat) (i s : Nat) (es : Es) (md : Md) (O : Ost) (hm : MoAt O i s es) (hv : OnsAre es md.ons) : (R (tabs a₀ ns₀) (n + 30)).C 80 [.obj i] O md.v O := by
  refine (mode_loop a₀ ns₀ n i s es md O hm hv).out0 (fun s hc e => ?_) fun l' hc => ?_
  · refine CallS.pure ?_
    (refine CallS.mk ?_; intro G sp)
    (repeat' wtm_at "y")
    specialize sp (fQ hc :)
    (repeat' wtm_at "y")
    exact sp ⟨e.symm, rfl⟩
  · refine CallS.pure ?_
    (refine CallS.mk ?_; intro G sp)
    (repeat' wtm_at "y")
    specialize sp (fQ hc :)
    (repeat' wtm_at "y")
    exact sp ⟨rfl, rfl⟩
theorem mouse_encoding (n : Nat) (i s : Nat) (es : Es) (wy : Wy) (O : Ost) (hm : MoAt O i s es) (hv : OnsAre es wy.ons) : (R (tabs a₀ ns₀) (n + 30)).C 87 [.obj i] O wy.v O := by
  refine (way_loop a₀ ns₀ n i s es wy O hm hv).out0 (fun s hc e => ?_) fun l' hc => ?_
  · refine CallS.pure ?_
    (refine CallS.mk ?_; intro G sp)
    (repeat' wtm_at "y")
    specialize sp (fQ hc :)
    (repeat' wtm_at "y")
    exact sp ⟨e.symm, rfl⟩
  · refine CallS.pure ?_
    (refine CallS.mk ?_; intro G sp)
    (repeat' wtm_at "y")
    specialize sp (fQ hc :)
    (repeat' wtm_at "y")
    exact sp ⟨rfl, rfl⟩
noncomputable def newO (C : Addr) (O : Ost) : Ost := O ++ [.dict [], .inst C O.length]
theorem ev_init (n : Nat) (kd : Kd) (b row col mods : Int) (O : Ost) : CallS (R (tabs a₀ ns₀) (n + 15)) 103 [.obj (O.length + 1), .str kd.s, .int b, .int row, .int col, .int mods] (newO 106 O) fun u O' => u = .none ∧ Ext O O' ∧ EvAt O' (O.length + 1) kd b row col mods := by
  have h1 : (newO 106 O)[O.length + 1]? = some (.inst 106 O.length) := at_two1
  have h2 : (newO 106 O)[O.length]? = some (.dict []) := at_two0
  have n1 : O.length ≠ O.length + 1 := Nat.ne_of_lt (Nat.lt_succ_self _)
  have k0 : Ext O (newO 106 O) := ext_app (Ext.refl _)
  generalize newO 106 O = P at h1 h2 k0 ⊢
  (refine CallS.mk ?_; intro G sp)
  (repeat' wtm_at "y")
  exact sp ⟨rfl, by wtm_at "p", ⟨O.length, by wtm_at "l", at_dict (by wtm_at "l") (by rfl)⟩⟩
theorem ev_init4 (n : Nat) (kd : Kd) (b row col : Int) (O : Ost) : CallS (R (tabs a₀ ns₀) (n + 15)) 103 [.obj (O.length + 1), .str kd.s, .int b, .int row, .int col] (newO 106 O) fun u O' => u = .none ∧ Ext O O' ∧ EvAt O' (O.length + 1) kd b row col 0 := by
  have h1 : (newO 106 O)[O.length + 1]? = some (.inst 106 O.length) := at_two1
  have h2 : (newO 106 O)[O.length]? = some (.dict []) := at_two0
  have n1 : O.length ≠ O.length + 1 := Nat.ne_of_lt (Nat.lt_succ_self _)
  have k0 : Ext O (newO 106 O) := ext_app (Ext.refl _)
  generalize newO 106 O = P at h1 h2 k0 ⊢
  (refine CallS.mk ?_; intro G sp)
  (repeat' wtm_at "y")
  exact sp ⟨rfl, by wtm_at "p", ⟨O.length, by wtm_at "l", at_dict (by wtm_at "l") (by rfl)⟩⟩
theorem compF {r : Rec} {Γ : Cx} {l : Locs} {x : Str} {ifs : List Expr} {e : Expr} {K : ItK} {O : Ost} {β : Type} {f g : β → AV} (p : β → Bool) (xs : List β) (hx : K.items = xs.map f) (hl : xs.length ≤ 1000000) (still : K.still O)
    (step : ∀ y ∈ xs, ∀ (T : AV → Ost → Tr) (U : Ost → Tr) (D : Rs → Prop) (G : Prop), (p y = true → (T (g y) O).Sp D G → G) → (p y = false → (U O).Sp D G → G) → (testsT r Γ ((x, f y) :: l) ifs O fun c O1 => br c (r.E Γ ((x, f y) :: l) e O1 T) (U O1)).Sp D G → G) :
    CompS r Γ l x ifs e K O fun v O' => v = (xs.filter p).map g ∧ O' = O := by
  have go : ∀ (rest : List β) (acc : List AV), (∀ y ∈ rest, y ∈ xs) → acc.length + rest.length ≤ 1000000 → ∀ G : Prop, (compL r Γ l x ifs e K (rest.map f) acc O fun acc O1 => .done (.vs acc O1)).Sp (kV fun v O' => v = acc ++ (rest.filter p).map g ∧ O' = O) G → G := by
    intro rest
    induction rest with
    | nil => exact fun acc _ _ G sp => sp still ⟨(List.append_nil _).symm, rfl⟩
    | cons y rest ih =>
      intro acc hm hc G sp
      refine step y (hm y List.mem_cons_self) _ (fun O1 => compL r Γ l x ifs e K (rest.map f) acc O1 fun acc O1 => .done (.vs acc O1)) _ G (fun hp sp => ?_) (fun hp sp => ?_) (sp ⟨still, Nat.le_trans (Nat.le_add_right _ _) hc⟩)
      · refine ih (acc ++ [g y]) (fun z h => hm z (.tail _ h)) (by rw [List.length_append]; exact (Nat.add_right_comm ..).symm ▸ hc) G ?_
        rw [List.append_assoc]
        rw [List.filter_cons_of_pos hp] at sp
        exact sp
      · refine ih acc (fun z h => hm z (.tail _ h)) (Nat.le_trans (Nat.add_le_add_left (Nat.le_succ _) _) hc) G ?_
        rw [List.filter_cons_of_neg (by rw [hp]; exact Bool.noConfusion)] at sp
        exact sp
  exact .mk (by rw [hx]; exact go xs [] (fun _ h => h) (by rw [List.length_nil, Nat.zero_add]; exact hl))
noncomputable def cmpL (e : Expr) : Expr := match cmpOf e with | some q => q.1 | none => e
noncomputable def binR (e : Expr) : Expr := match ifIdx e.ctorIdx 2 (fun h => Expr.BinOp.elim (motive_1 := fun _ => Expr) e h fun _ _ r _ => r) with | some q => q | none => e
noncomputable def ifB (e : Expr) : Expr := match ifIdx e.ctorIdx 5 (fun h => Expr.IfExp.elim (motive_1 := fun _ => Expr) e h fun _ b _ _ => b) with | some q => q | none => e
noncomputable def plE : Expr := cmpL (wT (st 39 0))
theorem most_comp (n : Nat) (i : Nat) (most : Int) (u8 : Bool) (a b c : Int) (O : Ost) (hi : O[i]? = some (.list [.int a, .int b, .int c])) :
    CompS (R (tabs a₀ ns₀) (n + 31)) (cG plE (gm 39)) [(Str.ofString "numbers", .obj i), (Str.ofString "most", .int most), (Str.ofString "is_utf8", .bool u8)] (Str.ofString "number") (cI plE) (cE plE) (.led i (.list [.int a, .int b, .int c]) [.int a, .int b, .int c]) O
      fun v O' => v = ([a, b, c].filter fun z => iLt most z).map AV.int ∧ O' = O := by
  refine compF (f := AV.int) (fun z => iLt most z) [a, b, c] rfl (Nat.le_of_ble_eq_true rfl) hi ?_
  intro y _ T U D G k1 k2 sp
  (repeat' wtm_at "y")
  · exact k1 hB sp
  · exact k2 hB sp
theorem parts_comp (n : Nat) (i : Nat) (most : Int) (u8 : Bool) (a b c : Int) (O : Ost) (hi : O[i]? = some (.list [.int a, .int b, .int c])) :
    CompS (R (tabs a₀ ns₀) (n + 31)) (cG (wT (st 39 1)) (gm 39)) [(Str.ofString "numbers", .obj i), (Str.ofString "most", .int most), (Str.ofString "is_utf8", .bool u8)] (Str.ofString "number") (cI (wT (st 39 1))) (cE (wT (st 39 1))) (.led i (.list [.int a, .int b, .int c]) [.int a, .int b, .int c]) O
      fun v O' => v = [a, b, c].map (fun z => .int (z + 32)) ∧ O' = O := by
  refine compR (f := AV.int) [a, b, c] rfl (Nat.le_of_ble_eq_true rfl) hi ?_
  intro y _ T U D G k sp
  (repeat' wtm_at "y")
  exact k sp
noncomputable def utE : Expr := arg (ifB (binR (wT (st 39 2)))) 0
noncomputable def plLs (i p : Nat) (most : Int) (u8 : Bool) : Locs := [(Str.ofString "numbers", .obj i), (Str.ofString "most", .int most), (Str.ofString "is_utf8", .bool u8), (Str.ofString "parts", .obj p)]
theorem codes_comp (n : Nat) (i p : Nat) (most : Int) (x y z : Int) (O : Ost) (hp : O[p]? = some (.list [.int x, .int y, .int z])) (hx : 0 ≤ x ∧ x < 2048) (hy : 0 ≤ y ∧ y < 2048) (hz : 0 ≤ z ∧ z < 2048) :
    CompS (R (tabs a₀ ns₀) (n + 29)) (cG utE (gm 39)) (plLs i p most true) (Str.ofString "part") (cI utE) (cE utE) (.led p (.list [.int x, .int y, .int z]) [.int x, .int y, .int z]) O
      fun v O' => v = [.bytes (codeOf x), .bytes (codeOf y), .bytes (codeOf z)] ∧ Ext O O' := by
  refine .mk fun G sp => ?_
  (repeat' (first | specialize sp (by first | (with_reducible apply Cx2.mk; (with_reducible assumption)) | wtm_at "a") | (apply CallS.useP; rotate_left; intro O1 hc hk; specialize sp (cQ hc :); rotate_right; (exact code_octets _ _ _ _ _ (And.left (by wtm_at "A")) (And.right (by wtm_at "A"))); try (obtain ⟨hx, hk⟩ := hk)) | wtm_at "B" | fail))
  exact sp ⟨rfl, by wtm_at "p"⟩
noncomputable def plainOf (most : Int) (u8 : Bool) (a b c : Int) : List Int := match [a, b, c].filter (fun z => iLt most z) with
  | [] => [27, 91, 77] ++ cond u8 (codeOf (a + 32) ++ [] ++ (codeOf (b + 32) ++ [] ++ codeOf (c + 32))) [a + 32, b + 32, c + 32]
  | _ :: _ => []
theorem most_all {most a b c : Int} (h : [a, b, c].filter (fun z => iLt most z) = []) : a ≤ most ∧ b ≤ most ∧ c ≤ most := by
  have z : ∀ x ∈ [a, b, c], ¬ iLt most x = true := List.filter_eq_nil_iff.mp h
  have q : ∀ x, ¬ iLt most x = true → x ≤ most := fun x h => Int.not_lt.mp fun g => h (decide_eq_true g)
  exact ⟨q _ (z a (by simp)), q _ (z b (by simp)), q _ (z c (by simp))⟩
noncomputable abbrev plO (O : Ost) : Ost := O ++ [.list []] ++ [.list []]
noncomputable abbrev plP (a b c : Int) (O : Ost) : Ost := plO O ++ [.list ([a, b, c].map fun z => .int (z + 32))]
theorem plain_utf8 (n : Nat) (i : Nat) (a b c : Int) (O : Ost) (hi : O[i]? = some (.list [.int a, .int b, .int c])) (ha : 0 ≤ a) (hb : 0 ≤ b) (hc : 0 ≤ c) : CallX (R (tabs a₀ ns₀) (n + 35)) 150 [.obj i, .int 2015, .bool true] O (.bytes (plainOf 2015 true a b c)) := by
  refine CompS.use0 (most_comp a₀ ns₀ n i 2015 true a b c O hi) fun h1 => ?_
  refine CompS.use0 (parts_comp a₀ ns₀ (n + 2) i 2015 true a b c (plO O) (at_old (at_old hi))) fun h2 => ?_
  have hC := codes_comp a₀ ns₀ (n + 0) i (plO O).length 2015 (a + 32) (b + 32) (c + 32) (plP a b c O) at_last
  unfold plainOf
  have hm := most_all (most := 2015) (a := a) (b := b) (c := c)
  generalize [a, b, c].filter (fun z => iLt 2015 z) = ys at h1 hm
  cases ys with
  | cons x r =>
    clear hm hC h2
    (refine CallS.mk ?_; intro G sp)
    (repeat' (first | specialize sp (by first | (with_reducible apply Cx2.mk; (with_reducible assumption)) | wtm_at "a") | (apply CallS.useP; rotate_left; intro O1 hc hk; specialize sp (cQ hc :); rotate_right; (exact code_octets _ _ _ _ _ (And.left (by wtm_at "A")) (And.right (by wtm_at "A"))); try (obtain ⟨hx, hk⟩ := hk)) | wtm_at "B" | fail))
    specialize sp (pQ h1 :)
    (repeat' (first | specialize sp (by first | (with_reducible apply Cx2.mk; (with_reducible assumption)) | wtm_at "a") | (apply CallS.useP; rotate_left; intro O1 hc hk; specialize sp (cQ hc :); rotate_right; (exact code_octets _ _ _ _ _ (And.left (by wtm_at "A")) (And.right (by wtm_at "A"))); try (obtain ⟨hx, hk⟩ := hk)) | wtm_at "B" | fail))
    exact sp ⟨rfl, by wtm_at "p"⟩
  | nil =>
    obtain ⟨a1, b1, c1⟩ := hm rfl
    have hC := hC (by omega) (by omega) (by omega)
    have la := codeOf_len (a + 32)
    have lb := codeOf_len (b + 32)
    have lc := codeOf_len (c + 32)
    have hl : (codeOf (a + 32) ++ [] ++ (codeOf (b + 32) ++ [] ++ codeOf (c + 32))).length ≤ 1000 := by simp only [List.length_append, List.length_nil]; omega
    have hl1 := Nat.le_trans hl (by decide : 1000 ≤ 1000000)
    have hl2 : 3 + _ ≤ 16777216 := Nat.le_trans (Nat.add_le_add_left hl 3) (by decide)
    clear hm ha hb hc a1 b1 c1 la lb lc hl
    (refine CallS.mk ?_; intro G sp)
    (repeat' (first | specialize sp (by first | (with_reducible apply Cx2.mk; (with_reducible assumption)) | wtm_at "a") | (apply CallS.useP; rotate_left; intro O1 hc hk; specialize sp (cQ hc :); rotate_right; (exact code_octets _ _ _ _ _ (And.left (by wtm_at "A")) (And.right (by wtm_at "A"))); try (obtain ⟨hx, hk⟩ := hk)) | wtm_at "B" | fail))
    specialize sp (pQ h1 :)
    (repeat' (first | specialize sp (by first | (with_reducible apply Cx2.mk; (with_reducible assumption)) | wtm_at "a") | (apply CallS.useP; rotate_left; intro O1 hc hk; specialize sp (cQ hc :); rotate_right; (exact code_octets _ _ _ _ _ (And.left (by wtm_at "A")) (And.right (by wtm_at "A"))); try (obtain ⟨hx, hk⟩ := hk)) | wtm_at "B" | fail))
    specialize sp (pQ h2 :)
    (repeat' (first | specialize sp (by first | (with_reducible apply Cx2.mk; (with_reducible assumption)) | wtm_at "a") | (apply CallS.useP; rotate_left; intro O1 hc hk; specialize sp (cQ hc :); rotate_right; (exact code_octets _ _ _ _ _ (And.left (by wtm_at "A")) (And.right (by wtm_at "A"))); try (obtain ⟨hx, hk⟩ := hk)) | wtm_at "B" | fail))
    refine CompS.useX hC fun O1 h3 hx => ?_
    have hx : Ext O O1 := (ext_app (ext_app (ext_app (Ext.refl _)))).trans hx
    specialize sp (pQ h3 :)
    (repeat' (first | specialize sp (by first | (with_reducible apply Cx2.mk; (with_reducible assumption)) | wtm_at "a") | (apply CallS.useP; rotate_left; intro O1 hc hk; specialize sp (cQ hc :); rotate_right; (exact code_octets _ _ _ _ _ (And.left (by wtm_at "A")) (And.right (by wtm_at "A"))); try (obtain ⟨hx, hk⟩ := hk)) | wtm_at "B" | fail))
    exact sp ⟨rfl, by wtm_at "p"⟩
theorem plain_octets (n : Nat) (i : Nat) (a b c : Int) (O : Ost) (hi : O[i]? = some (.list [.int a, .int b, .int c])) (ha : 0 ≤ a) (hb : 0 ≤ b) (hc : 0 ≤ c) : CallX (R (tabs a₀ ns₀) (n + 35)) 150 [.obj i, .int 223, .bool false] O (.bytes (plainOf 223 false a b c)) := by
  refine CompS.use0 (most_comp a₀ ns₀ n i 223 false a b c O hi) fun h1 => ?_
  refine CompS.use0 (parts_comp a₀ ns₀ (n + 2) i 223 false a b c (plO O) (at_old (at_old hi))) fun h2 => ?_
  unfold plainOf
  have hm := most_all (most := 223) (a := a) (b := b) (c := c)
  generalize [a, b, c].filter (fun z => iLt 223 z) = ys at h1 hm
  cases ys with
  | cons x r =>
    clear hm h2
    (refine CallS.mk ?_; intro G sp)
    (repeat' (first | specialize sp (by first | (with_reducible apply Cx2.mk; (with_reducible assumption)) | wtm_at "a") | (apply CallS.useP; rotate_left; intro O1 hc hk; specialize sp (cQ hc :); rotate_right; (exact code_octets _ _ _ _ _ (And.left (by wtm_at "A")) (And.right (by wtm_at "A"))); try (obtain ⟨hx, hk⟩ := hk)) | wtm_at "B" | fail))
    specialize sp (pQ h1 :)
    (repeat' (first | specialize sp (by first | (with_reducible apply Cx2.mk; (with_reducible assumption)) | wtm_at "a") | (apply CallS.useP; rotate_left; intro O1 hc hk; specialize sp (cQ hc :); rotate_right; (exact code_octets _ _ _ _ _ (And.left (by wtm_at "A")) (And.right (by wtm_at "A"))); try (obtain ⟨hx, hk⟩ := hk)) | wtm_at "B" | fail))
    exact sp ⟨rfl, by wtm_at "p"⟩
  | nil =>
    obtain ⟨a1, b1, c1⟩ := hm rfl
    have hg : [a + 32, b + 32, c + 32].length ≤ 1000000 ∧ ∀ n ∈ [a + 32, b + 32, c + 32], 0 ≤ n ∧ n < 256 := ⟨Nat.le_of_ble_eq_true rfl, fun x hx => by
      simp only [List.mem_cons, List.not_mem_nil, or_false] at hx; omega⟩
    clear hm ha hb hc a1 b1 c1
    (refine CallS.mk ?_; intro G sp)
    (repeat' (first | specialize sp (by first | (with_reducible apply Cx2.mk; (with_reducible assumption)) | wtm_at "a") | (apply CallS.useP; rotate_left; intro O1 hc hk; specialize sp (cQ hc :); rotate_right; (exact code_octets _ _ _ _ _ (And.left (by wtm_at "A")) (And.right (by wtm_at "A"))); try (obtain ⟨hx, hk⟩ := hk)) | wtm_at "B" | fail))
    specialize sp (pQ h1 :)
    (repeat' (first | specialize sp (by first | (with_reducible apply Cx2.mk; (with_reducible assumption)) | wtm_at "a") | (apply CallS.useP; rotate_left; intro O1 hc hk; specialize sp (cQ hc :); rotate_right; (exact code_octets _ _ _ _ _ (And.left (by wtm_at "A")) (And.right (by wtm_at "A"))); try (obtain ⟨hx, hk⟩ := hk)) | wtm_at "B" | fail))
    specialize sp (pQ h2 :)
    (repeat' (first | specialize sp (by first | (with_reducible apply Cx2.mk; (with_reducible assumption)) | wtm_at "a") | (apply CallS.useP; rotate_left; intro O1 hc hk; specialize sp (cQ hc :); rotate_right; (exact code_octets _ _ _ _ _ (And.left (by wtm_at "A")) (And.right (by wtm_at "A"))); try (obtain ⟨hx, hk⟩ := hk)) | wtm_at "B" | fail))
    exact sp ⟨rfl, by wtm_at "p"⟩
noncomputable def domB (kd : Kd) (b : Int) : Bool := match kd with
  | .press => [1, 2, 3, 4, 7, 8, 11].contains b
  | .release => [0, 1, 2, 3, 8].contains b
  | .move => [0, 1, 2, 3, 8].contains b
noncomputable def numChk (kd : Kd) (b m : Int) (nm : Bool) : Bool := decide (0 ≤ numberOf kd b m nm ∧ numberOf kd b m nm < 192) && (iEq (Builtin.bitAnd (numberOf kd b m nm) 32) 0 == !kd.mv) &&
  (!domB kd b || (iEq (buttonOf (numberOf kd b m nm)) (cond (kd.rel && !nm) 0 b) && iEq ((Builtin.bitAnd (numberOf kd b m nm) 28).fdiv 4) m))
theorem numAll : ∀ b : Fin 12, ∀ m : Fin 8, ([Kd.press, .release, .move].all fun kd => numChk kd (b.val : Int) (m.val : Int) true && numChk kd (b.val : Int) (m.val : Int) false) = true := by decide +kernel
theorem num_chk {kd : Kd} {b m : Int} (nm : Bool) (hb : 0 ≤ b ∧ b < 12) (hm : 0 ≤ m ∧ m < 8) : numChk kd b m nm = true := by
  obtain ⟨x, rfl⟩ := Int.eq_ofNat_of_zero_le hb.1
  obtain ⟨y, rfl⟩ := Int.eq_ofNat_of_zero_le hm.1
  have z := Bool.and_eq_true_iff.mp (List.all_eq_true.mp (numAll ⟨x, Int.ofNat_lt.mp hb.2⟩ ⟨y, Int.ofNat_lt.mp hm.2⟩) kd (by cases kd <;> simp))
  cases nm
  · exact z.2
  · exact z.1
theorem num_b {kd : Kd} {b m : Int} (nm : Bool) (hb : 0 ≤ b ∧ b < 12) (hm : 0 ≤ m ∧ m < 8) : 0 ≤ numberOf kd b m nm ∧ numberOf kd b m nm < 192 :=
  of_decide_eq_true (Bool.and_eq_true_iff.mp (Bool.and_eq_true_iff.mp (num_chk nm hb hm)).1).1
noncomputable def modsOf (md : Md) (m : Int) : Int := md.casesOn m 0 m m m
noncomputable def Md.s (md : Md) : Str := md.casesOn (Str.ofString "") (Str.ofString "mouse_x10") (Str.ofString "mouse_click") (Str.ofString "mouse_drag") (Str.ofString "mouse_all")
theorem Md.v_s {md : Md} (h : md ≠ .no) : md.v = .str md.s := by cases md <;> first | exact absurd rfl h | rfl
noncomputable def wroteOf (wy : Wy) (kd : Kd) (b row col m wide high : Int) : List Int := match wy with
  | .sgr => [27, 91, 60] ++ decOf (numberOf kd b m true) (col + 1) (row + 1) ++ [cond kd.rel 109 77]
  | .pixels => [27, 91, 60] ++ decOf (numberOf kd b m true) (col * wide + 1) (row * high + 1) ++ [cond kd.rel 109 77]
  | .urxvt => [27, 91] ++ decOf (numberOf kd b m false + 32) (col + 1) (row + 1) ++ [77]
  | .utf8 => plainOf 2015 true (numberOf kd b m false) (col + 1) (row + 1)
  | .no => plainOf 223 false (numberOf kd b m false) (col + 1) (row + 1)
noncomputable def octetsOf (md : Md) (wy : Wy) (kd : Kd) (b row col mods wide high : Int) : List Int := cond (md.told kd b) (wroteOf wy kd b row col (modsOf md mods) wide high) []
theorem ib1 {x : Int} (h : 0 ≤ x ∧ x ≤ 3000) : 0 ≤ x + 1 ∧ x + 1 < 1000000 := by omega
theorem ib2 {x : Int} (h : 0 ≤ x ∧ x < 900000) : 0 ≤ x + 1 ∧ x + 1 < 1000000 := by omega
theorem ib3 {x : Int} (h : 0 ≤ x ∧ x < 192) : 0 ≤ x ∧ x < 1000000 := by omega
theorem ib4 {x : Int} (h : 0 ≤ x ∧ x < 192) : 0 ≤ x + 32 ∧ x + 32 < 1000000 := by omega
theorem ib5 {x : Int} (h : 0 ≤ x ∧ x ≤ 3000) : smallI x := by unfold smallI; omega
theorem g3 {A D : List Int} {p : Nat} (hA : A.length = p) (hp : p ≤ 10) (h : D.length ≤ 23) : A.length + D.length ≤ 16777216 := by omega
theorem g4 {A D : List Int} {x : List Int} {p : Nat} (hA : A.length = p) (hp : p ≤ 10) (h : D.length ≤ 23) (hx : x.length = 1) : (A ++ D).length + x.length ≤ 16777216 := by rw [List.length_append]; omega
theorem len23 {a b c : Int} (ha : 0 ≤ a ∧ a < 1000000) (hb : 0 ≤ b ∧ b < 1000000) (hc : 0 ≤ c ∧ c < 1000000) : (decOf a b c).length ≤ 23 := decOf_len ha.2 hb.2 hc.2
noncomputable def octL (e m : Nat) (wide high : Int) (w y : AV) (row col : Int) : Locs := [(Str.ofString "event", .obj e), (Str.ofString "modes", .obj m), (Str.ofString "cell_width", .int wide), (Str.ofString "cell_height", .int high), (Str.ofString "word", w), (Str.ofString "way", y), (Str.ofString "column", .int (col + 1)), (Str.ofString "row", .int (row + 1))]
noncomputable def octB : List Stmt := (fnOf (topS 41) []).body.drop 4
section
variable {e m : Nat} {kd : Kd} {b row col md wide high : Int} {w : AV} {O : Ost} {K : AF → Locs → Ost → Tr} {D : Rs → Prop} {G : Prop}
theorem wr_sgr {c : Bool} (h : sEq kd.s (Str.ofString "release") = c) : [27, 91, 60] ++ decOf (numberOf kd b md true) (col + 1) (row + 1) ++ [cond c 109 77] = wroteOf .sgr kd b row col md wide high := by rw [← kd_rel h]; rfl
theorem wr_pix {c : Bool} (h : sEq kd.s (Str.ofString "release") = c) : [27, 91, 60] ++ decOf (numberOf kd b md true) (col * wide + 1) (row * high + 1) ++ [cond c 109 77] = wroteOf .pixels kd b row col md wide high := by rw [← kd_rel h]; rfl
theorem oct_sgr (n : Nat) (he : EvAt O e kd b row col md) (hN : 0 ≤ numberOf kd b md true ∧ numberOf kd b md true < 192) (hr : 0 ≤ row ∧ row ≤ 3000) (hc : 0 ≤ col ∧ col ≤ 3000)
    (k : ∀ l' O', Ext O O' → (K (.ret (.bytes (wroteOf .sgr kd b row col md wide high))) l' O').Sp D G → G) (sp : (exs (R (tabs a₀ ns₀) (n + 64)) (gm 41) octB (octL e m wide high w Wy.sgr.v row col) O K).Sp D G) : G := by
  have d1 := ib3 hN
  have d2 := ib1 hc
  have d3 := ib1 hr
  have ld := len23 d1 d2 d3
  refine he.out fun d h1 h2 => ?_
  clear hN hr hc
  (repeat' (first | specialize sp (by first | (with_reducible apply Cx2.mk; (first | (exact mouse_number _ _ _ _ _ _ _ _ _ _ _ (EvAt.ext (by wtm_at "A") (by wtm_at "p"))) | (with_reducible assumption))) | (first | (with_reducible apply Lx.mk; wtm_at "l") | ((with_reducible apply Ox.mk); (first | with_reducible assumption | exact intsAll_int _ | exact strsAll_str _ | exact bytesAll_bytes _ | exact rfl)) | exact bT | exact bF | (with_reducible apply Bx.mk; with_reducible assumption) | (first | (first | ((with_reducible apply g3); exact rfl; decide; wtm_at "A") | ((with_reducible apply g4); exact rfl; decide; wtm_at "A"; exact rfl)) | (first | wtm_at "A" | (refine And.intro (show ItK.still _ _ by (first | exact True.intro | (show _[_]? = some _; wtm_at "l"))) ?_; first | (simp only [List.length_append, List.length_cons, List.length_nil, List.length_map]; omega) | omega) | (show ItK.still _ _; (first | exact True.intro | (show _[_]? = some _; wtm_at "l"))) | exact Nat.le_of_ble_eq_true rfl | exact of_decide_eq_true rfl | (simp only [smallI, List.length_append, List.length_cons, List.length_nil, List.length_map]; omega) | (refine And.intro (by simp) ?_; intro z hz; simp only [List.mem_cons, List.not_mem_nil, or_false] at hz; omega) | omega | decide)))) | (apply CallS.useP; rotate_left; intro O1 hc hk; specialize sp (cQ hc :); rotate_right; (first | exact mouse_decimals _ _ _ _ _ _ _ _ (by wtm_at "l") (by wtm_at "A") (by wtm_at "A") (by wtm_at "A") | exact plain_utf8 _ _ _ _ _ _ _ _ (by wtm_at "l") (And.left (by wtm_at "A")) (And.left (by wtm_at "A")) (And.left (by wtm_at "A")) | exact plain_octets _ _ _ _ _ _ _ _ (by wtm_at "l") (And.left (by wtm_at "A")) (And.left (by wtm_at "A")) (And.left (by wtm_at "A"))); try (obtain ⟨hx, hk⟩ := hk)) | wtm_at "B" | fail))
  · rw [← wr_sgr hB] at k
    exact k _ _ (by wtm_at "p") sp
  · rw [← wr_sgr hB] at k
    exact k _ _ (by wtm_at "p") sp
theorem oct_pix (n : Nat) (he : EvAt O e kd b row col md) (hN : 0 ≤ numberOf kd b md true ∧ numberOf kd b md true < 192) (hr : 0 ≤ row ∧ row ≤ 3000) (hc : 0 ≤ col ∧ col ≤ 3000) (hwd : 0 ≤ col * wide ∧ col * wide < 900000) (hhg : 0 ≤ row * high ∧ row * high < 900000) (s1 : smallI col) (s2 : smallI row)
    (k : ∀ l' O', Ext O O' → (K (.ret (.bytes (wroteOf .pixels kd b row col md wide high))) l' O').Sp D G → G) (sp : (exs (R (tabs a₀ ns₀) (n + 64)) (gm 41) octB (octL e m wide high w Wy.pixels.v row col) O K).Sp D G) : G := by
  have d1 := ib3 hN
  have d2 := ib2 hwd
  have d3 := ib2 hhg
  have ld := len23 d1 d2 d3
  refine he.out fun d h1 h2 => ?_
  clear hN hr hc hwd hhg
  (repeat' (first | specialize sp (by first | (with_reducible apply Cx2.mk; (first | (exact mouse_number _ _ _ _ _ _ _ _ _ _ _ (EvAt.ext (by wtm_at "A") (by wtm_at "p"))) | (with_reducible assumption))) | (first | (with_reducible apply Lx.mk; wtm_at "l") | ((with_reducible apply Ox.mk); (first | with_reducible assumption | exact intsAll_int _ | exact strsAll_str _ | exact bytesAll_bytes _ | exact rfl)) | exact bT | exact bF | (with_reducible apply Bx.mk; with_reducible assumption) | (first | (first | ((with_reducible apply g3); exact rfl; decide; wtm_at "A") | ((with_reducible apply g4); exact rfl; decide; wtm_at "A"; exact rfl)) | (first | wtm_at "A" | (refine And.intro (show ItK.still _ _ by (first | exact True.intro | (show _[_]? = some _; wtm_at "l"))) ?_; first | (simp only [List.length_append, List.length_cons, List.length_nil, List.length_map]; omega) | omega) | (show ItK.still _ _; (first | exact True.intro | (show _[_]? = some _; wtm_at "l"))) | exact Nat.le_of_ble_eq_true rfl | exact of_decide_eq_true rfl | (simp only [smallI, List.length_append, List.length_cons, List.length_nil, List.length_map]; omega) | (refine And.intro (by simp) ?_; intro z hz; simp only [List.mem_cons, List.not_mem_nil, or_false] at hz; omega) | omega | decide)))) | (apply CallS.useP; rotate_left; intro O1 hc hk; specialize sp (cQ hc :); rotate_right; (first | exact mouse_decimals _ _ _ _ _ _ _ _ (by wtm_at "l") (by wtm_at "A") (by wtm_at "A") (by wtm_at "A") | exact plain_utf8 _ _ _ _ _ _ _ _ (by wtm_at "l") (And.left (by wtm_at "A")) (And.left (by wtm_at "A")) (And.left (by wtm_at "A")) | exact plain_octets _ _ _ _ _ _ _ _ (by wtm_at "l") (And.left (by wtm_at "A")) (And.left (by wtm_at "A")) (And.left (by wtm_at "A"))); try (obtain ⟨hx, hk⟩ := hk)) | wtm_at "B" | fail))
  · rw [← wr_pix hB] at k
    exact k _ _ (by wtm_at "p") sp
  · rw [← wr_pix hB] at k
    exact k _ _ (by wtm_at "p") sp
theorem oct_urx (n : Nat) (he : EvAt O e kd b row col md) (hN : 0 ≤ numberOf kd b md false ∧ numberOf kd b md false < 192) (hr : 0 ≤ row ∧ row ≤ 3000) (hc : 0 ≤ col ∧ col ≤ 3000)
    (k : ∀ l' O', Ext O O' → (K (.ret (.bytes (wroteOf .urxvt kd b row col md wide high))) l' O').Sp D G → G) (sp : (exs (R (tabs a₀ ns₀) (n + 64)) (gm 41) octB (octL e m wide high w Wy.urxvt.v row col) O K).Sp D G) : G := by
  have d1 := ib4 hN
  have d2 := ib1 hc
  have d3 := ib1 hr
  have ld := len23 d1 d2 d3
  refine he.out fun d h1 h2 => ?_
  clear hN hr hc
  (repeat' (first | specialize sp (by first | (with_reducible apply Cx2.mk; (first | (exact mouse_number _ _ _ _ _ _ _ _ _ _ _ (EvAt.ext (by wtm_at "A") (by wtm_at "p"))) | (with_reducible assumption))) | (first | (with_reducible apply Lx.mk; wtm_at "l") | ((with_reducible apply Ox.mk); (first | with_reducible assumption | exact intsAll_int _ | exact strsAll_str _ | exact bytesAll_bytes _ | exact rfl)) | exact bT | exact bF | (with_reducible apply Bx.mk; with_reducible assumption) | (first | (first | ((with_reducible apply g3); exact rfl; decide; wtm_at "A") | ((with_reducible apply g4); exact rfl; decide; wtm_at "A"; exact rfl)) | (first | wtm_at "A" | (refine And.intro (show ItK.still _ _ by (first | exact True.intro | (show _[_]? = some _; wtm_at "l"))) ?_; first | (simp only [List.length_append, List.length_cons, List.length_nil, List.length_map]; omega) | omega) | (show ItK.still _ _; (first | exact True.intro | (show _[_]? = some _; wtm_at "l"))) | exact Nat.le_of_ble_eq_true rfl | exact of_decide_eq_true rfl | (simp only [smallI, List.length_append, List.length_cons, List.length_nil, List.length_map]; omega) | (refine And.intro (by simp) ?_; intro z hz; simp only [List.mem_cons, List.not_mem_nil, or_false] at hz; omega) | omega | decide)))) | (apply CallS.useP; rotate_left; intro O1 hc hk; specialize sp (cQ hc :); rotate_right; (first | exact mouse_decimals _ _ _ _ _ _ _ _ (by wtm_at "l") (by wtm_at "A") (by wtm_at "A") (by wtm_at "A") | exact plain_utf8 _ _ _ _ _ _ _ _ (by wtm_at "l") (And.left (by wtm_at "A")) (And.left (by wtm_at "A")) (And.left (by wtm_at "A")) | exact plain_octets _ _ _ _ _ _ _ _ (by wtm_at "l") (And.left (by wtm_at "A")) (And.left (by wtm_at "A")) (And.left (by wtm_at "A"))); try (obtain ⟨hx, hk⟩ := hk)) | wtm_at "B" | fail))
  exact k _ _ (by wtm_at "p") sp
theorem oct_utf (n : Nat) (he : EvAt O e kd b row col md) (hN : 0 ≤ numberOf kd b md false ∧ numberOf kd b md false < 192) (hr : 0 ≤ row ∧ row ≤ 3000) (hc : 0 ≤ col ∧ col ≤ 3000)
    (k : ∀ l' O', Ext O O' → (K (.ret (.bytes (wroteOf .utf8 kd b row col md wide high))) l' O').Sp D G → G) (sp : (exs (R (tabs a₀ ns₀) (n + 64)) (gm 41) octB (octL e m wide high w Wy.utf8.v row col) O K).Sp D G) : G := by
  have d2 := ib1 hc
  have d3 := ib1 hr
  refine he.out fun d h1 h2 => ?_
  clear hr hc
  (repeat' (first | specialize sp (by first | (with_reducible apply Cx2.mk; (first | (exact mouse_number _ _ _ _ _ _ _ _ _ _ _ (EvAt.ext (by wtm_at "A") (by wtm_at "p"))) | (with_reducible assumption))) | (first | (with_reducible apply Lx.mk; wtm_at "l") | ((with_reducible apply Ox.mk); (first | with_reducible assumption | exact intsAll_int _ | exact strsAll_str _ | exact bytesAll_bytes _ | exact rfl)) | exact bT | exact bF | (with_reducible apply Bx.mk; with_reducible assumption) | (first | (first | ((with_reducible apply g3); exact rfl; decide; wtm_at "A") | ((with_reducible apply g4); exact rfl; decide; wtm_at "A"; exact rfl)) | (first | wtm_at "A" | (refine And.intro (show ItK.still _ _ by (first | exact True.intro | (show _[_]? = some _; wtm_at "l"))) ?_; first | (simp only [List.length_append, List.length_cons, List.length_nil, List.length_map]; omega) | omega) | (show ItK.still _ _; (first | exact True.intro | (show _[_]? = some _; wtm_at "l"))) | exact Nat.le_of_ble_eq_true rfl | exact of_decide_eq_true rfl | (simp only [smallI, List.length_append, List.length_cons, List.length_nil, List.length_map]; omega) | (refine And.intro (by simp) ?_; intro z hz; simp only [List.mem_cons, List.not_mem_nil, or_false] at hz; omega) | omega | decide)))) | (apply CallS.useP; rotate_left; intro O1 hc hk; specialize sp (cQ hc :); rotate_right; (first | exact mouse_decimals _ _ _ _ _ _ _ _ (by wtm_at "l") (by wtm_at "A") (by wtm_at "A") (by wtm_at "A") | exact plain_utf8 _ _ _ _ _ _ _ _ (by wtm_at "l") (And.left (by wtm_at "A")) (And.left (by wtm_at "A")) (And.left (by wtm_at "A")) | exact plain_octets _ _ _ _ _ _ _ _ (by wtm_at "l") (And.left (by wtm_at "A")) (And.left (by wtm_at "A")) (And.left (by wtm_at "A"))); try (obtain ⟨hx, hk⟩ := hk)) | wtm_at "B" | fail))
  exact k _ _ (by wtm_at "p") sp
theorem oct_no (n : Nat) (he : EvAt O e kd b row col md) (hN : 0 ≤ numberOf kd b md false ∧ numberOf kd b md false < 192) (hr : 0 ≤ row ∧ row ≤ 3000) (hc : 0 ≤ col ∧ col ≤ 3000)
    (k : ∀ l' O', Ext O O' → (K (.ret (.bytes (wroteOf .no kd b row col md wide high))) l' O').Sp D G → G) (sp : (exs (R (tabs a₀ ns₀) (n + 64)) (gm 41) octB (octL e m wide high w Wy.no.v row col) O K).Sp D G) : G := by
  have d2 := ib1 hc
  have d3 := ib1 hr
  refine he.out fun d h1 h2 => ?_
  clear hr hc
  (repeat' (first | specialize sp (by first | (with_reducible apply Cx2.mk; (first | (exact mouse_number _ _ _ _ _ _ _ _ _ _ _ (EvAt.ext (by wtm_at "A") (by wtm_at "p"))) | (with_reducible assumption))) | (first | (with_reducible apply Lx.mk; wtm_at "l") | ((with_reducible apply Ox.mk); (first | with_reducible assumption | exact intsAll_int _ | exact strsAll_str _ | exact bytesAll_bytes _ | exact rfl)) | exact bT | exact bF | (with_reducible apply Bx.mk; with_reducible assumption) | (first | (first | ((with_reducible apply g3); exact rfl; decide; wtm_at "A") | ((with_reducible apply g4); exact rfl; decide; wtm_at "A"; exact rfl)) | (first | wtm_at "A" | (refine And.intro (show ItK.still _ _ by (first | exact True.intro | (show _[_]? = some _; wtm_at "l"))) ?_; first | (simp only [List.length_append, List.length_cons, List.length_nil, List.length_map]; omega) | omega) | (show ItK.still _ _; (first | exact True.intro | (show _[_]? = some _; wtm_at "l"))) | exact Nat.le_of_ble_eq_true rfl | exact of_decide_eq_true rfl | (simp only [smallI, List.length_append, List.length_cons, List.length_nil, List.length_map]; omega) | (refine And.intro (by simp) ?_; intro z hz; simp only [List.mem_cons, List.not_mem_nil, or_false] at hz; omega) | omega | decide)))) | (apply CallS.useP; rotate_left; intro O1 hc hk; specialize sp (cQ hc :); rotate_right; (first | exact mouse_decimals _ _ _ _ _ _ _ _ (by wtm_at "l") (by wtm_at "A") (by wtm_at "A") (by wtm_at "A") | exact plain_utf8 _ _ _ _ _ _ _ _ (by wtm_at "l") (And.left (by wtm_at "A")) (And.left (by wtm_at "A")) (And.left (by wtm_at "A")) | exact plain_octets _ _ _ _ _ _ _ _ (by wtm_at "l") (And.left (by wtm_at "A")) (And.left (by wtm_at "A")) (And.left (by wtm_at "A"))); try (obtain ⟨hx, hk⟩ := hk)) | wtm_at "B" | fail))
  exact k _ _ (by wtm_at "p") sp
theorem oct_tail (n : Nat) {wy : Wy} (he : EvAt O e kd b row col md) (hb : 0 ≤ b ∧ b < 12) (hm : 0 ≤ md ∧ md < 8) (hr : 0 ≤ row ∧ row ≤ 3000) (hc : 0 ≤ col ∧ col ≤ 3000) (hwd : 0 ≤ col * wide ∧ col * wide < 900000) (hhg : 0 ≤ row * high ∧ row * high < 900000)
    (k : ∀ l' O', Ext O O' → (K (.ret (.bytes (wroteOf wy kd b row col md wide high))) l' O').Sp D G → G) (sp : (exs (R (tabs a₀ ns₀) (n + 64)) (gm 41) octB (octL e m wide high w wy.v row col) O K).Sp D G) : G := by
  cases wy
  · exact oct_no a₀ ns₀ n he (num_b false hb hm) hr hc k sp
  · exact oct_utf a₀ ns₀ n he (num_b false hb hm) hr hc k sp
  · exact oct_sgr a₀ ns₀ n he (num_b true hb hm) hr hc k sp
  · exact oct_urx a₀ ns₀ n he (num_b false hb hm) hr hc k sp
  · exact oct_pix a₀ ns₀ n he (num_b true hb hm) hr hc hwd hhg (ib5 hc) (ib5 hr) k sp
end
theorem mods_x10 {md : Md} {m : Int} (h : sEq md.s (Str.ofString "mouse_x10") = true) : modsOf md m = 0 := by cases md <;> first | rfl | cases h
theorem mods_not {md : Md} {m : Int} (n : md ≠ .no) (h : sEq md.s (Str.ofString "mouse_x10") = false) : modsOf md m = m := by cases md <;> first | rfl | exact absurd rfl n | cases h
theorem mouse_octets (n : Nat) (i m s : Nat) (es : Es) (md : Md) (wy : Wy) (kd : Kd) (b row col mods wide high : Int) (O : Ost) (he : EvAt O i kd b row col mods) (hm : MoAt O m s es) (hi : OnsAre es md.ons) (hw : OnsAre es wy.ons)
    (hb : 0 ≤ b ∧ b < 12) (hmods : 0 ≤ mods ∧ mods < 8) (hr : 0 ≤ row ∧ row ≤ 3000) (hcl : 0 ≤ col ∧ col ≤ 3000) (hwd : 0 ≤ col * wide ∧ col * wide < 900000) (hhg : 0 ≤ row * high ∧ row * high < 900000) :
    CallX (R (tabs a₀ ns₀) (n + 65)) 163 [.obj i, .obj m, .int wide, .int high] O (.bytes (octetsOf md wy kd b row col mods wide high)) := by
  have hW : ∀ k P, Ext O P → (R (tabs a₀ ns₀) (k + 30)).C 87 [.obj m] P wy.v P := fun k P p => mouse_encoding a₀ ns₀ k m s es wy P (hm.ext p) hw
  have hr0 : iLt row 0 = false := decide_eq_false (Int.not_lt.mpr hr.1)
  have hc0 : iLt col 0 = false := decide_eq_false (Int.not_lt.mpr hcl.1)
  refine Bool.two (md.told kd b) (fun ht => ?_) (fun ht => ?_)
  · have e : octetsOf md wy kd b row col mods wide high = wroteOf wy kd b row col (modsOf md mods) wide high := ct ht
    rw [e]
    have nn : md ≠ .no := by rintro rfl; cases ht
    have hM : ∀ k P, Ext O P → (R (tabs a₀ ns₀) (k + 30)).C 80 [.obj m] P (.str md.s) P := fun k P p => Md.v_s nn ▸ mouse_mode a₀ ns₀ k m s es md P (hm.ext p) hi
    have hT : ∀ k P, Ext O P → (R (tabs a₀ ns₀) (k + 25)).C 138 [.obj i, .str md.s] P (.bool true) P := fun k P p => ht ▸ Md.v_s nn ▸ mouse_is_told a₀ ns₀ k i kd b row col mods md P (he.ext p)
    refine he.out fun d h1 h2 => ?_
    have mx := mods_x10 (md := md) (m := mods)
    have mn := mods_not (m := mods) nn
    (refine CallS.mk ?_; intro G sp)
    clear hm hi hw ht e nn
    (repeat' (first | specialize sp (by first | (with_reducible apply Cx2.mk; (first | (first | (apply hM; wtm_at "p") | (apply hW; wtm_at "p") | (apply hT; wtm_at "p")) | (exact mouse_number _ _ _ _ _ _ _ _ _ _ _ (EvAt.ext (by wtm_at "A") (by wtm_at "p"))) | (with_reducible assumption))) | (first | (with_reducible apply Lx.mk; wtm_at "l") | ((with_reducible apply Ox.mk); (first | with_reducible assumption | exact intsAll_int _ | exact strsAll_str _ | exact bytesAll_bytes _ | exact rfl)) | exact bT | exact bF | (with_reducible apply Bx.mk; with_reducible assumption) | (first | (first | ((with_reducible apply g3); exact rfl; decide; wtm_at "A") | ((with_reducible apply g4); exact rfl; decide; wtm_at "A"; exact rfl)) | (first | wtm_at "A" | (refine And.intro (show ItK.still _ _ by (first | exact True.intro | (show _[_]? = some _; wtm_at "l"))) ?_; first | (simp only [List.length_append, List.length_cons, List.length_nil, List.length_map]; omega) | omega) | (show ItK.still _ _; (first | exact True.intro | (show _[_]? = some _; wtm_at "l"))) | exact Nat.le_of_ble_eq_true rfl | exact of_decide_eq_true rfl | (simp only [smallI, List.length_append, List.length_cons, List.length_nil, List.length_map]; omega) | (refine And.intro (by simp) ?_; intro z hz; simp only [List.mem_cons, List.not_mem_nil, or_false] at hz; omega) | omega | decide)))) | (apply CallS.useP; rotate_left; intro O1 hc hk; specialize sp (cQ hc :); rotate_right; (first | (exact ev_init4 _ _ _ _ _ _ _ _) | (first | exact mouse_decimals _ _ _ _ _ _ _ _ (by wtm_at "l") (by wtm_at "A") (by wtm_at "A") (by wtm_at "A") | exact plain_utf8 _ _ _ _ _ _ _ _ (by wtm_at "l") (And.left (by wtm_at "A")) (And.left (by wtm_at "A")) (And.left (by wtm_at "A")) | exact plain_octets _ _ _ _ _ _ _ _ (by wtm_at "l") (And.left (by wtm_at "A")) (And.left (by wtm_at "A")) (And.left (by wtm_at "A")))); try (obtain ⟨hx, hk⟩ := hk)) | wtm_at "B" | fail))
    · refine hk.out fun d' e1 e2 => ?_
      (repeat' (first | specialize sp (by first | (with_reducible apply Cx2.mk; (first | (first | (apply hM; wtm_at "p") | (apply hW; wtm_at "p") | (apply hT; wtm_at "p")) | (exact mouse_number _ _ _ _ _ _ _ _ _ _ _ (EvAt.ext (by wtm_at "A") (by wtm_at "p"))) | (with_reducible assumption))) | (first | (with_reducible apply Lx.mk; wtm_at "l") | ((with_reducible apply Ox.mk); (first | with_reducible assumption | exact intsAll_int _ | exact strsAll_str _ | exact bytesAll_bytes _ | exact rfl)) | exact bT | exact bF | (with_reducible apply Bx.mk; with_reducible assumption) | (first | (first | ((with_reducible apply g3); exact rfl; decide; wtm_at "A") | ((with_reducible apply g4); exact rfl; decide; wtm_at "A"; exact rfl)) | (first | wtm_at "A" | (refine And.intro (show ItK.still _ _ by (first | exact True.intro | (show _[_]? = some _; wtm_at "l"))) ?_; first | (simp only [List.length_append, List.length_cons, List.length_nil, List.length_map]; omega) | omega) | (show ItK.still _ _; (first | exact True.intro | (show _[_]? = some _; wtm_at "l"))) | exact Nat.le_of_ble_eq_true rfl | exact of_decide_eq_true rfl | (simp only [smallI, List.length_append, List.length_cons, List.length_nil, List.length_map]; omega) | (refine And.intro (by simp) ?_; intro z hz; simp only [List.mem_cons, List.not_mem_nil, or_false] at hz; omega) | omega | decide)))) | (apply CallS.useP; rotate_left; intro O1 hc hk; specialize sp (cQ hc :); rotate_right; (first | (exact ev_init4 _ _ _ _ _ _ _ _) | (first | exact mouse_decimals _ _ _ _ _ _ _ _ (by wtm_at "l") (by wtm_at "A") (by wtm_at "A") (by wtm_at "A") | exact plain_utf8 _ _ _ _ _ _ _ _ (by wtm_at "l") (And.left (by wtm_at "A")) (And.left (by wtm_at "A")) (And.left (by wtm_at "A")) | exact plain_octets _ _ _ _ _ _ _ _ (by wtm_at "l") (And.left (by wtm_at "A")) (And.left (by wtm_at "A")) (And.left (by wtm_at "A")))); try (obtain ⟨hx, hk⟩ := hk)) | wtm_at "B" | fail))
      refine oct_tail a₀ ns₀ n (wy := wy) (hk.ext (by wtm_at "p")) hb ⟨Int.le_refl 0, by decide⟩ hr hcl hwd hhg ?_ sp
      exact fun l' O' p sp => sp ⟨by rw [mx hB], Ext.trans (by wtm_at "p") p⟩
    · refine oct_tail a₀ ns₀ n (wy := wy) (he.ext (by wtm_at "p")) hb hmods hr hcl hwd hhg ?_ sp
      exact fun l' O' p sp => sp ⟨by rw [mn hB], Ext.trans (by wtm_at "p") p⟩
  · have e : octetsOf md wy kd b row col mods wide high = [] := cf ht
    rw [e]
    have hM : ∀ k P, Ext O P → (R (tabs a₀ ns₀) (k + 30)).C 80 [.obj m] P md.v P := fun k P p => mouse_mode a₀ ns₀ k m s es md P (hm.ext p) hi
    have hT : ∀ k P, Ext O P → (R (tabs a₀ ns₀) (k + 25)).C 138 [.obj i, md.v] P (.bool false) P := fun k P p => ht ▸ mouse_is_told a₀ ns₀ k i kd b row col mods md P (he.ext p)
    clear he hm hi hw ht e hb hmods hr hcl hwd hhg hr0 hc0
    (refine CallS.mk ?_; intro G sp)
    (repeat' (first | specialize sp (by first | (with_reducible apply Cx2.mk; (first | (first | (apply hM; wtm_at "p") | (apply hW; wtm_at "p") | (apply hT; wtm_at "p")) | (exact mouse_number _ _ _ _ _ _ _ _ _ _ _ (EvAt.ext (by wtm_at "A") (by wtm_at "p"))) | (with_reducible assumption))) | (first | (with_reducible apply Lx.mk; wtm_at "l") | ((with_reducible apply Ox.mk); (first | with_reducible assumption | exact intsAll_int _ | exact strsAll_str _ | exact bytesAll_bytes _ | exact rfl)) | exact bT | exact bF | (with_reducible apply Bx.mk; with_reducible assumption) | (first | (first | ((with_reducible apply g3); exact rfl; decide; wtm_at "A") | ((with_reducible apply g4); exact rfl; decide; wtm_at "A"; exact rfl)) | (first | wtm_at "A" | (refine And.intro (show ItK.still _ _ by (first | exact True.intro | (show _[_]? = some _; wtm_at "l"))) ?_; first | (simp only [List.length_append, List.length_cons, List.length_nil, List.length_map]; omega) | omega) | (show ItK.still _ _; (first | exact True.intro | (show _[_]? = some _; wtm_at "l"))) | exact Nat.le_of_ble_eq_true rfl | exact of_decide_eq_true rfl | (simp only [smallI, List.length_append, List.length_cons, List.length_nil, List.length_map]; omega) | (refine And.intro (by simp) ?_; intro z hz; simp only [List.mem_cons, List.not_mem_nil, or_false] at hz; omega) | omega | decide)))) | (apply CallS.useP; rotate_left; intro O1 hc hk; specialize sp (cQ hc :); rotate_right; (first | (exact ev_init4 _ _ _ _ _ _ _ _) | (first | exact mouse_decimals _ _ _ _ _ _ _ _ (by wtm_at "l") (by wtm_at "A") (by wtm_at "A") (by wtm_at "A") | exact plain_utf8 _ _ _ _ _ _ _ _ (by wtm_at "l") (And.left (by wtm_at "A")) (And.left (by wtm_at "A")) (And.left (by wtm_at "A")) | exact plain_octets _ _ _ _ _ _ _ _ (by wtm_at "l") (And.left (by wtm_at "A")) (And.left (by wtm_at "A")) (And.left (by wtm_at "A")))); try (obtain ⟨hx, hk⟩ := hk)) | wtm_at "B" | fail))
    exact sp ⟨rfl, by wtm_at "p"⟩
structure CallJ (r : Rec) (a : Addr) (vs : List AV) (O : Ost) (p : Nat → Ost → Prop) : Prop where in_ ::
  ex : ∃ j O', r.C a vs O (.obj j) O' ∧ p j O'
theorem CallJ.use {r : Rec} {a : Addr} {vs : List AV} {O : Ost} {p : Nat → Ost → Prop} {G : Prop} (h : CallJ r a vs O p) (f : ∀ j O', r.C a vs O (.obj j) O' → p j O' → G) : G := let ⟨⟨j, O', hc, hp⟩⟩ := h; f j O' hc hp
theorem CallJ.mk {tb : Tb} {n : Nat} {a : Addr} {vs : List AV} {O : Ost} {p : Nat → Ost → Prop} (f : ∀ G : Prop, (stepC tb (R tb n) a vs O fun v O1 => .done (.v v O1)).Sp (kC fun u O' => ∃ j, u = .obj j ∧ p j O') G → G) : CallJ (R tb (n + 1)) a vs O p := by
  obtain ⟨⟨_, O', hc, j, rfl, hp⟩⟩ := CallS.mk f
  exact .in_ ⟨j, O', hc, hp⟩
noncomputable def kindOk (kd : Kd) (m : Int) (rel : AV) : Prop := match kd with
  | .move => (!iEq (Builtin.bitAnd m 32) 0) = true
  | .release => (!iEq (Builtin.bitAnd m 32) 0) = false ∧ (rel = .bool true ∨ (rel = .none ∧ iEq (buttonOf m) 0 = true))
  | .press => (!iEq (Builtin.bitAnd m 32) 0) = false ∧ (rel = .bool false ∨ rel = .none) ∧ iEq (buttonOf m) 0 = false
theorem event_move (n : Nat) (m col row : Int) (rel : AV) (cw ch : Int) (O : Ost) (h0 : 0 ≤ m) (h1 : m < 192) (hc : iLt col 1 = false) (hr : iLt row 1 = false) (hw : cw ≠ 0 ∧ smallI cw) (hh : ch ≠ 0 ∧ smallI ch) (hk : (!iEq (Builtin.bitAnd m 32) 0) = true) :
    CallJ (R (tabs a₀ ns₀) (n + 30)) 170 [.int m, .int col, .int row, rel, .int cw, .int ch] O fun j O' => Ext O O' ∧ EvAt O' j .move (buttonOf m) ((row - 1).fdiv ch) ((col - 1).fdiv cw) ((Builtin.bitAnd m 28).fdiv 4) := by
  refine .mk fun G sp => ?_
  (repeat' (first | specialize sp (by first | (with_reducible apply Cx2.mk; (with_reducible assumption)) | wtm_at "a") | (apply CallS.useP; rotate_left; intro O1 hc hk; specialize sp (cQ hc :); rotate_right; (first | exact mouse_button _ _ _ _ _ (by wtm_at "A") (by wtm_at "A") | exact ev_init _ _ _ .move _ _ _ _ _); try (obtain ⟨hx, hk⟩ := hk)) | wtm_at "B" | fail))
  exact sp ⟨_, rfl, by wtm_at "p", hk⟩
theorem event_release (n : Nat) (m col row : Int) (rel : AV) (cw ch : Int) (O : Ost) (h0 : 0 ≤ m) (h1 : m < 192) (hc : iLt col 1 = false) (hr : iLt row 1 = false) (hw : cw ≠ 0 ∧ smallI cw) (hh : ch ≠ 0 ∧ smallI ch) (hq : (!iEq (Builtin.bitAnd m 32) 0) = false) (hR : rel = .bool true ∨ (rel = .none ∧ iEq (buttonOf m) 0 = true)) :
    CallJ (R (tabs a₀ ns₀) (n + 30)) 170 [.int m, .int col, .int row, rel, .int cw, .int ch] O fun j O' => Ext O O' ∧ EvAt O' j .release (buttonOf m) ((row - 1).fdiv ch) ((col - 1).fdiv cw) ((Builtin.bitAnd m 28).fdiv 4) := by
  obtain rfl | ⟨rfl, hz⟩ := hR
  all_goals
    refine .mk fun G sp => ?_
    (repeat' (first | specialize sp (by first | (with_reducible apply Cx2.mk; (with_reducible assumption)) | wtm_at "a") | (apply CallS.useP; rotate_left; intro O1 hc hk; specialize sp (cQ hc :); rotate_right; (first | exact mouse_button _ _ _ _ _ (by wtm_at "A") (by wtm_at "A") | exact ev_init _ _ _ .release _ _ _ _ _); try (obtain ⟨hx, hk⟩ := hk)) | wtm_at "B" | fail))
    exact sp ⟨_, rfl, by wtm_at "p", hk⟩
theorem event_press (n : Nat) (m col row : Int) (rel : AV) (cw ch : Int) (O : Ost) (h0 : 0 ≤ m) (h1 : m < 192) (hc : iLt col 1 = false) (hr : iLt row 1 = false) (hw : cw ≠ 0 ∧ smallI cw) (hh : ch ≠ 0 ∧ smallI ch) (hq : (!iEq (Builtin.bitAnd m 32) 0) = false) (hR : rel = .bool false ∨ rel = .none) (hz : iEq (buttonOf m) 0 = false) :
    CallJ (R (tabs a₀ ns₀) (n + 30)) 170 [.int m, .int col, .int row, rel, .int cw, .int ch] O fun j O' => Ext O O' ∧ EvAt O' j .press (buttonOf m) ((row - 1).fdiv ch) ((col - 1).fdiv cw) ((Builtin.bitAnd m 28).fdiv 4) := by
  obtain rfl | rfl := hR
  all_goals
    refine .mk fun G sp => ?_
    (repeat' (first | specialize sp (by first | (with_reducible apply Cx2.mk; (with_reducible assumption)) | wtm_at "a") | (apply CallS.useP; rotate_left; intro O1 hc hk; specialize sp (cQ hc :); rotate_right; (first | exact mouse_button _ _ _ _ _ (by wtm_at "A") (by wtm_at "A") | exact ev_init _ _ _ .press _ _ _ _ _); try (obtain ⟨hx, hk⟩ := hk)) | wtm_at "B" | fail))
    exact sp ⟨_, rfl, by wtm_at "p", hk⟩
theorem event_of (n : Nat) (kd : Kd) (m col row : Int) (rel : AV) (cw ch : Int) (O : Ost) (h0 : 0 ≤ m) (h1 : m < 192) (hc : iLt col 1 = false) (hr : iLt row 1 = false) (hw : cw ≠ 0 ∧ smallI cw) (hh : ch ≠ 0 ∧ smallI ch) (hk : kindOk kd m rel) :
    CallJ (R (tabs a₀ ns₀) (n + 30)) 170 [.int m, .int col, .int row, rel, .int cw, .int ch] O fun j O' => Ext O O' ∧ EvAt O' j kd (buttonOf m) ((row - 1).fdiv ch) ((col - 1).fdiv cw) ((Builtin.bitAnd m 28).fdiv 4) := by
  cases kd with
  | move => exact event_move a₀ ns₀ n m col row rel cw ch O h0 h1 hc hr hw hh hk
  | release => exact event_release a₀ ns₀ n m col row rel cw ch O h0 h1 hc hr hw hh hk.1 hk.2
  | press => exact event_press a₀ ns₀ n m col row rel cw ch O h0 h1 hc hr hw hh hk.1 hk.2.1 hk.2.2
noncomputable def codeAt (b : List Int) (u8 : Bool) (p : Int) : Option (Int × Int) := cond (iLe b.length p) none (cond (!u8 || iLt (b.getD p.toNat 0) 128) (some (b.getD p.toNat 0, p + 1))
  (cond (!(iLe 194 (b.getD p.toNat 0) && iLe (b.getD p.toNat 0) 223)) none (cond (iLe b.length (p + 1)) none (cond (!iEq (Builtin.bitAnd (b.getD (p + 1).toNat 0) 192) 128) none
    (some (Builtin.bitOr (Builtin.bitAnd (b.getD p.toNat 0) 31 * 2 ^ (6 : Int).toNat) (Builtin.bitAnd (b.getD (p + 1).toNat 0) 63), p + 2))))))
noncomputable def codeV (O : Ost) (q : Option (Int × Int)) : AV := q.elim .none fun _ => .obj O.length
noncomputable def codeO (O : Ost) (q : Option (Int × Int)) : Ost := q.elim O fun q => O ++ [.tuple [.int q.1, .int q.2]]
theorem ce {b : List Int} {u8 : Bool} {p : Int} {q : Option (Int × Int)} {O O' : Ost} {v : AV} (e : codeAt b u8 p = q) (hv : v = codeV O q) (hO : O' = codeO O q) : v = codeV O (codeAt b u8 p) ∧ O' = codeO O (codeAt b u8 p) := by rw [e]; exact ⟨hv, hO⟩
theorem nab1 {a b : Bool} (ha : a = true) (h : (!b) = true) : (!(a && b)) = true := by rw [ha]; exact h
theorem nab2 {a b : Bool} (ha : a = true) (h : (!b) = false) : (!(a && b)) = false := by rw [ha]; exact h
theorem nab3 {a b : Bool} (ha : a = false) : (!(a && b)) = true := by rw [ha]; rfl
theorem gg {b : List Int} {p : Int} (hp : 0 ≤ p) (h : ¬ (b.length : Int) ≤ p) (hb : b.length ≤ 1000000) : 0 ≤ p ∧ p < b.length ∧ b.length ≤ 1000000 := ⟨hp, Int.not_le.mp h, hb⟩
theorem sm31 : ∀ x : Fin 30, smallI (Builtin.bitAnd (194 + (x.val : Int)) 31) := by unfold smallI; decide +kernel
theorem small31 {x : Int} (h : 194 ≤ x) (h' : iLe x 223 = true) : smallI (Builtin.bitAnd x 31) := by
  obtain ⟨k, rfl⟩ := Int.le.dest h
  exact sm31 ⟨k, by have := iLe_t h'; omega⟩
theorem code_at (n : Nat) (b : List Int) (u8 : Bool) (p : Int) (O : Ost) (hb : b.length ≤ 1000000) (hp : 0 ≤ p) : (R (tabs a₀ ns₀) (n + 20)).C 177 [.bytes b, .int p, .bool u8] O (codeV O (codeAt b u8 p)) (codeO O (codeAt b u8 p)) := by
  have hp1 : 0 ≤ p + 1 := Int.le_add_one hp
  have h : CallS (R (tabs a₀ ns₀) (n + 20)) 177 [.bytes b, .int p, .bool u8] O fun v O' => v = codeV O (codeAt b u8 p) ∧ O' = codeO O (codeAt b u8 p) := by
    (refine CallS.mk ?_; intro G sp)
    (repeat' (first | specialize sp (by first | (with_reducible apply Cx2.mk; (with_reducible assumption)) | (first | (with_reducible apply Lx.mk; wtm_at "l") | ((with_reducible apply Ox.mk); (first | with_reducible assumption | exact intsAll_int _ | exact strsAll_str _ | exact bytesAll_bytes _ | exact rfl)) | exact bT | exact bF | (with_reducible apply Bx.mk; with_reducible assumption) | (first | (first | exact ⟨small31 (by wtm_at "A") (by wtm_at "A"), by decide, by decide⟩ | ((with_reducible apply gg); wtm_at "A"; wtm_at "A"; wtm_at "A")) | (first | wtm_at "A" | (refine And.intro (show ItK.still _ _ by (first | exact True.intro | (show _[_]? = some _; wtm_at "l"))) ?_; first | (simp only [List.length_append, List.length_cons, List.length_nil, List.length_map]; omega) | omega) | (show ItK.still _ _; (first | exact True.intro | (show _[_]? = some _; wtm_at "l"))) | exact Nat.le_of_ble_eq_true rfl | exact of_decide_eq_true rfl | (simp only [smallI, List.length_append, List.length_cons, List.length_nil, List.length_map]; omega) | (refine And.intro (by simp) ?_; intro z hz; simp only [List.mem_cons, List.not_mem_nil, or_false] at hz; omega) | omega | decide)))) | (apply CallS.useP; rotate_left; intro O1 hc hk; specialize sp (cQ hc :); rotate_right; (first | exact mouse_button _ _ _ _ _ (by wtm_at "A") (by wtm_at "A") | exact ev_init _ _ _ .press _ _ _ _ _); try (obtain ⟨hx, hk⟩ := hk)) | (((refine Bool.two ?_ (fun hB => ?_) (fun hB => ?_); rotate_left; specialize sp (Bx.mk true hB); (with_reducible first | have hb := iEq_t hB | have hb := iEq_f hB | have hb := iLe_t hB | have hb := iLe_f hB | have hb := iLt_t hB | have hb := iLt_f hB | have hb := bEq_t hB | have hb := bEq_f hB | have hb := not_t hB | have hb := not_f hB | skip); rotate_left; specialize sp (Bx.mk false hB); (with_reducible first | have hb := iEq_t hB | have hb := iEq_f hB | have hb := iLe_t hB | have hb := iLe_f hB | have hb := iLt_t hB | have hb := iLt_f hB | have hb := bEq_t hB | have hb := bEq_f hB | have hb := not_t hB | have hb := not_f hB | skip); rotate_right))) | fail))
    · exact sp (ce (p := p) (ct hB) rfl rfl)
    · exact sp (ce (p := p) ((cf (by assumption)).trans (ct (or_t hB))) rfl rfl)
    · exact sp (ce (p := p) ((cf (by assumption)).trans (ct ((or_f (by assumption)).trans hB))) rfl rfl)
    · exact sp (ce (p := p) ((cf (by assumption)).trans ((cf ((or_f (by assumption)).trans (by assumption))).trans (ct (nab1 (by assumption) (by assumption))))) rfl rfl)
    · exact sp (ce (p := p) ((cf (by assumption)).trans ((cf ((or_f (by assumption)).trans (by assumption))).trans ((cf (nab2 (by assumption) (by assumption))).trans (ct (by assumption))))) rfl rfl)
    · exact sp (ce (p := p) ((cf (by assumption)).trans ((cf ((or_f (by assumption)).trans (by assumption))).trans ((cf (nab2 (by assumption) (by assumption))).trans ((cf (by assumption)).trans (ct (by assumption)))))) rfl rfl)
    · exact sp (ce (p := p) ((cf (by assumption)).trans ((cf ((or_f (by assumption)).trans (by assumption))).trans ((cf (nab2 (by assumption) (by assumption))).trans ((cf (by assumption)).trans (cf (by assumption)))))) rfl rfl)
    · exact sp (ce (p := p) ((cf (by assumption)).trans ((cf ((or_f (by assumption)).trans (by assumption))).trans (ct (nab3 (by assumption))))) rfl rfl)
  obtain ⟨⟨_, _, hc, rfl, rfl⟩⟩ := h
  exact hc
noncomputable def readN (b : List Int) (u8 : Bool) : Nat → Int → Option (List Int × Int)
  | 0, p => some ([], p)
  | k + 1, p => (codeAt b u8 p).bind fun q => cond (iLt q.1 32) none ((readN b u8 k q.2).map fun r => ((q.1 - 32) :: r.1, r.2))
theorem codeAt_pos {b : List Int} {u8 : Bool} {p : Int} {q : Int × Int} (hp : 0 ≤ p) (h : codeAt b u8 p = some q) : 0 ≤ q.2 := by
  have two : ∀ (c1 c2 c3 c4 c5 : Bool) (x y : Int), cond c1 none (cond c2 (some (x, p + 1)) (cond c3 none (cond c4 none (cond c5 none (some (y, p + 2)))))) = some q → q.2 = p + 1 ∨ q.2 = p + 2 := by
    intro c1 c2 c3 c4 c5 x y h
    cases c1
    · cases c2
      · cases c3
        · cases c4
          · cases c5
            · cases h; exact .inr rfl
            · cases h
          · cases h
        · cases h
      · cases h; exact .inl rfl
    · cases h
  rcases two _ _ _ _ _ _ _ h with e | e <;> omega
noncomputable abbrev RSt := Ost × List Int × Int × Option (Nat × AV)
noncomputable def rdL (b : List Int) (u8 : Bool) (f : Nat) (s : RSt) : Locs := (Str.ofString "octets", .bytes b) :: (Str.ofString "at", .int s.2.2.1) :: (Str.ofString "is_utf8", .bool u8) :: (Str.ofString "numbers", .obj f) ::
  (match s.2.2.2 with | some q => [(Str.ofString "turn", .int (q.1 : Int)), (Str.ofString "told", q.2)] | none => [])
noncomputable def rdB (b : List Int) (u8 : Bool) (f : Nat) (x : Nat) (s : RSt) : Locs := (Str.ofString "octets", .bytes b) :: (Str.ofString "at", .int s.2.2.1) :: (Str.ofString "is_utf8", .bool u8) :: (Str.ofString "numbers", .obj f) ::
  (match s.2.2.2 with | some q => [(Str.ofString "turn", .int (x : Int)), (Str.ofString "told", q.2)] | none => [(Str.ofString "turn", .int (x : Int))])
noncomputable def rInv (b : List Int) (u8 : Bool) (O : Ost) (f : Nat) (tot : Option (List Int × Int)) (rest : List Nat) (s : RSt) : Prop :=
  Ext O s.1 ∧ s.1[f]? = some (.list (s.2.1.map AV.int)) ∧ 0 ≤ s.2.2.1 ∧ s.2.1.length + rest.length ≤ 3 ∧ (readN b u8 rest.length s.2.2.1).map (fun r => (s.2.1 ++ r.1, r.2)) = tot
noncomputable def rEnd (O : Ost) (f : Nat) (tot : Option (List Int × Int)) (s : RSt) : Prop := Ext O s.1 ∧ s.1[f]? = some (.list (s.2.1.map AV.int)) ∧ tot = some (s.2.1, s.2.2.1)
theorem rInv.done {b : List Int} {u8 : Bool} {O : Ost} {f : Nat} {tot : Option (List Int × Int)} {s : RSt} (h : rInv b u8 O f tot [] s) : rEnd O f tot s := ⟨h.1, h.2.1, h.2.2.2.2.symm.trans (by rw [List.length_nil, readN, Option.map_some, List.append_nil])⟩
theorem rInv.no {b : List Int} {u8 : Bool} {O : Ost} {f x : Nat} {tot : Option (List Int × Int)} {rest : List Nat} {s : RSt} (h : rInv b u8 O f tot (x :: rest) s) (e : codeAt b u8 s.2.2.1 = none) : tot = none := by
  have z := h.2.2.2.2
  rw [List.length_cons, readN, e] at z
  exact z.symm
theorem rInv.low {b : List Int} {u8 : Bool} {O : Ost} {f x : Nat} {tot : Option (List Int × Int)} {rest : List Nat} {s : RSt} {q : Int × Int} (h : rInv b u8 O f tot (x :: rest) s) (e : codeAt b u8 s.2.2.1 = some q) (l : iLt q.1 32 = true) : tot = none := by
  have z := h.2.2.2.2
  rw [List.length_cons, readN, e, Option.bind_some, ct l] at z
  exact z.symm
theorem rInv.step {b : List Int} {u8 : Bool} {O P : Ost} {f x : Nat} {tot : Option (List Int × Int)} {rest : List Nat} {s : RSt} {q : Int × Int} {tl : Option (Nat × AV)} (h : rInv b u8 O f tot (x :: rest) s) (e : codeAt b u8 s.2.2.1 = some q) (l : iLt q.1 32 = false)
    (p : Ext O P) (hf : P[f]? = some (.list (s.2.1.map AV.int ++ [.int (q.1 - 32)]))) : rInv b u8 O f tot rest (P, s.2.1 ++ [q.1 - 32], q.2, tl) := by
  refine ⟨p, hf.trans (by rw [List.map_append]; rfl), codeAt_pos h.2.2.1 e, ?_, ?_⟩
  · have z := h.2.2.2.1
    rw [List.length_append]; exact (Nat.add_right_comm ..).symm ▸ z
  · have z := h.2.2.2.2
    rw [List.length_cons, readN, e, Option.bind_some, cf l, Option.map_map] at z
    refine Eq.trans ?_ z
    congr 1
    funext r
    show (s.2.1 ++ [q.1 - 32] ++ r.1, r.2) = _
    rw [List.append_assoc]; rfl
noncomputable abbrev rdO (P : Ost) (f : Nat) (ns : List Int) (q : Int × Int) : Ost := (P ++ [AO.tuple [.int q.1, .int q.2]]).set f (AO.list (ns.map AV.int ++ [.int (q.1 - 32)]))
theorem read_loop (n : Nat) (b : List Int) (u8 : Bool) (p : Int) (f : Nat) (O P : Ost) (hb : b.length ≤ 1000000) (hp : 0 ≤ p) (of : P[f]? = some (.list [])) (hx : Ext O P) (nf : O.length ≤ f) :
    ForS (R (tabs a₀ ns₀) (n + 43)) (gm 44) (.one (Str.ofString "turn")) (wB (st 44 1)) (.range 3) (rdL b u8 f (P, [], p, none)) P (kR (rdL b u8 f) (fun s => s.1) (rEnd O f (readN b u8 3 p)) fun v O' => v = .none ∧ Ext O O' ∧ readN b u8 3 p = none) := by
  refine forR (f := fun k : Nat => AV.int k) (L := rdL b u8 f) (Q := fun s : RSt => s.1) (fun _ x s => rdB b u8 f x s) (fun _ => rInv b u8 O f (readN b u8 3 p)) (fun i x s => by obtain ⟨_, _, _, tl⟩ := s; cases tl <;> rfl) (fun _ s h => h.done) (fun _ _ _ _ => by exact trivial) ?_ [0, 1, 2] rfl (P, [], p, none)
    ⟨hx, of, hp, Nat.le_refl _, by cases readN b u8 3 p <;> rfl⟩
  intro i x rest s ih g
  obtain ⟨P, ns, p', tl⟩ := s
  have hC := code_at a₀ ns₀ (n + 21) b u8 p' P hb g.2.2.1
  have hf : P[f]? = some (.list (ns.map AV.int)) := g.2.1
  have hx : Ext O P := g.1
  have hl : (ns.map AV.int).length ≤ 1000000 := by rw [List.length_map]; exact Nat.le_trans (Nat.le_of_add_right_le g.2.2.2.1) (by decide)
  cases e : codeAt b u8 p' with
  | none =>
    have ho := g.no e
    rw [e] at hC
    have hC : (R (tabs a₀ ns₀) (n + 41)).C 177 [.bytes b, .int p', .bool u8] P .none P := hC
    clear e hf hl g ih
    cases tl with
    | none =>
      intro G sp
      (repeat' wtm_at "y")
      exact sp (kR.ret ⟨rfl, hx, ho⟩)
    | some q =>
      intro G sp
      (repeat' wtm_at "y")
      exact sp (kR.ret ⟨rfl, hx, ho⟩)
  | some q =>
    rw [e] at hC
    have hC : (R (tabs a₀ ns₀) (n + 41)).C 177 [.bytes b, .int p', .bool u8] P (.obj P.length) (P ++ [.tuple [.int q.1, .int q.2]]) := hC
    have nfp : f ≠ P.length := Nat.ne_of_lt (lt_of_at hf)
    have hE : Ext O (rdO P f ns q) := ext_set (ext_app hx) nf
    have hS := at_same (a := AO.list (ns.map AV.int ++ [AV.int (q.1 - 32)])) (at_old (Y := [AO.tuple [.int q.1, .int q.2]]) hf)
    cases tl with
    | none =>
      intro G sp
      (repeat' wtm_at "y")
      · exact sp (kR.ret ⟨rfl, by wtm_at "p", g.low e hB⟩)
      · exact ih (rdO P f ns q, ns ++ [q.1 - 32], q.2, some (x, .obj P.length)) (g.step e hB hE hS) G sp
    | some q0 =>
      intro G sp
      (repeat' wtm_at "y")
      · exact sp (kR.ret ⟨rfl, by wtm_at "p", g.low e hB⟩)
      · exact ih (rdO P f ns q, ns ++ [q.1 - 32], q.2, some (x, .obj P.length)) (g.step e hB hE hS) G sp
theorem read_none (n : Nat) (b : List Int) (u8 : Bool) (p : Int) (O : Ost) (hb : b.length ≤ 1000000) (hp : 0 ≤ p) (e : readN b u8 3 p = none) : CallX (R (tabs a₀ ns₀) (n + 45)) 184 [.bytes b, .int p, .bool u8] O .none := by
  refine (read_loop a₀ ns₀ n b u8 p O.length O (O ++ [.list []]) hb hp at_last (ext_app (Ext.refl _)) (Nat.le_refl _)).out (fun s hc h => nomatch e.symm.trans h.2.2) fun v l' O' hc h => ?_
  obtain ⟨rfl, hx, -⟩ := h
  (refine CallS.mk ?_; intro G sp)
  (repeat' wtm_at "y")
  specialize sp (fQ hc :)
  exact sp ⟨rfl, hx⟩
theorem s1 : (1 : Int) ≠ 0 ∧ smallI 1 := ⟨by decide, by unfold smallI; decide⟩
theorem read_some (n : Nat) (kd : Kd) (b : List Int) (u8 : Bool) (p m x y q : Int) (O : Ost) (hb : b.length ≤ 1000000) (hp : 0 ≤ p) (e : readN b u8 3 p = some ([m, x, y], q)) (h0 : 0 ≤ m) (h1 : m < 192) (hcl : iLt x 1 = false) (hr : iLt y 1 = false) (hk : kindOk kd m .none) :
    CallJ (R (tabs a₀ ns₀) (n + 45)) 184 [.bytes b, .int p, .bool u8] O fun t O' => Ext O O' ∧ ∃ j, O'[t]? = some (.tuple [.obj j, .int q]) ∧ EvAt O' j kd (buttonOf m) ((y - 1).fdiv 1) ((x - 1).fdiv 1) ((Builtin.bitAnd m 28).fdiv 4) := by
  refine (read_loop a₀ ns₀ n b u8 p O.length O (O ++ [.list []]) hb hp at_last (ext_app (Ext.refl _)) (Nat.le_refl _)).out (fun s hc h => ?_) fun v l' O' hc h => nomatch e.symm.trans h.2.2
  obtain ⟨P, ns, p', tl⟩ := s
  obtain ⟨hx, hf, h⟩ := h
  obtain ⟨rfl, rfl⟩ := Prod.mk.inj (Option.some.inj (h.symm.trans e))
  have hx : Ext O P := hx
  have hf : P[O.length]? = some (.list [.int m, .int x, .int y]) := hf
  clear h e
  cases tl
  all_goals
    refine .mk fun G sp => ?_
    (repeat' (first | specialize sp (by first | (with_reducible apply Cx2.mk; (with_reducible assumption)) | wtm_at "a") | (apply CallJ.use; rotate_left; intro j O1 hc hk; specialize sp (cQ hc :); rotate_right; exact event_of _ _ _ _ _ _ _ _ _ _ _ (by wtm_at "A") (by wtm_at "A") (by wtm_at "A") (by wtm_at "A") s1 s1 (by wtm_at "A")) | wtm_at "B" | fail))
    specialize sp (fQ hc :)
    (repeat' (first | specialize sp (by first | (with_reducible apply Cx2.mk; (with_reducible assumption)) | wtm_at "a") | (apply CallJ.use; rotate_left; intro j O1 hc hk; specialize sp (cQ hc :); rotate_right; exact event_of _ _ _ _ _ _ _ _ _ _ _ (by wtm_at "A") (by wtm_at "A") (by wtm_at "A") (by wtm_at "A") s1 s1 (by wtm_at "A")) | wtm_at "B" | fail))
    exact sp ⟨_, rfl, Ext.trans hx (Ext.trans hk.1 (by wtm_at "p")), _, at_last, hk.2.ext (ext_app (Ext.refl _))⟩
noncomputable def dsAt (b : List Int) (q : Int) : Bool := iLt q b.length && ((iLe 48 (b.getD q.toNat 0) && iLe (b.getD q.toNat 0) 57) || iEq (b.getD q.toNat 0) 59)
section
variable {b : List Int} {q : Int}
theorem ds_1 (a : iLt q b.length = true) (c : iLe 48 (b.getD q.toNat 0) = true) (d : iLe (b.getD q.toNat 0) 57 = true) : dsAt b q = true := (and_t a).trans (or_t ((and_t c).trans d))
theorem ds_2 (a : iLt q b.length = true) (c : iLe 48 (b.getD q.toNat 0) = true) (d : iLe (b.getD q.toNat 0) 57 = false) : dsAt b q = iEq (b.getD q.toNat 0) 59 := (and_t a).trans (or_f ((and_t c).trans d))
theorem ds_3 (a : iLt q b.length = true) (c : iLe 48 (b.getD q.toNat 0) = false) : dsAt b q = iEq (b.getD q.toNat 0) 59 := (and_t a).trans (or_f (and_f c))
theorem ds_4 (a : iLt q b.length = false) : dsAt b q = false := and_f a
theorem gg2 (hp : 0 ≤ q) (h : q < b.length) (hb : b.length ≤ 1000000) : 0 ≤ q ∧ q < b.length ∧ b.length ≤ 1000000 := ⟨hp, h, hb⟩
end
structure Run (b : List Int) (p : Int) (L : Nat) : Prop where
  p0 : 0 ≤ p
  le : L ≤ 23
  all : ∀ i : Nat, i < L → dsAt b (p + i) = true
  stop : dsAt b (p + L) = false
noncomputable def daL (b : List Int) (p q : Int) : Locs := [(Str.ofString "octets", .bytes b), (Str.ofString "at", .int p), (Str.ofString "end", .int q)]
noncomputable def rInv2 (p : Int) (L m : Nat) (q : Int) : Prop := ∃ i : Nat, q = p + i ∧ i ≤ L ∧ L + 1 ≤ i + m
theorem Run.next {b : List Int} {p q : Int} {L m : Nat} (h : Run b p L) (g : rInv2 p L (m + 1) q) (t : dsAt b q = true) : rInv2 p L m (q + 1) := by
  obtain ⟨i, rfl, h1, h2⟩ := g
  refine ⟨i + 1, (Int.add_assoc ..), Nat.lt_of_le_of_ne h1 ?_, by omega⟩
  rintro rfl
  rw [h.stop] at t; cases t
theorem Run.last {b : List Int} {p q : Int} {L m : Nat} (h : Run b p L) (g : rInv2 p L m q) (t : dsAt b q = false) : q = p + L := by
  obtain ⟨i, rfl, h1, h2⟩ := g
  rcases Nat.lt_or_eq_of_le h1 with l | rfl
  · rw [h.all i l] at t; cases t
  · rfl
theorem run_loop (n : Nat) (b : List Int) (p : Int) (L : Nat) (O : Ost) (hb : b.length ≤ 1000000) (h : Run b p L) :
    LoopN (R (tabs a₀ ns₀) (n + 58)) (gm 45) (wT (st 45 1)) (wB (st 45 1)) (daL b p p) O (daL b p) fun q O' => q = p + L ∧ O' = O := by
  refine whileN n 34 (fun m q O1 => O1 = O ∧ rInv2 p L m q) (fun q O1 g => ?_) (fun m q O1 ih g => ?_) 24 p O ⟨rfl, 0, by omega, Nat.zero_le _, by have := h.le; omega⟩
  · obtain ⟨_, i, _, h1, h2⟩ := g; omega
  · obtain ⟨rfl, g⟩ := g
    have hq : 0 ≤ q := by obtain ⟨i, rfl, _, _⟩ := g; have := h.p0; omega
    intro G sp
    (repeat' (first | specialize sp (by first | (with_reducible apply Cx2.mk; (with_reducible assumption)) | (first | (with_reducible apply Lx.mk; wtm_at "l") | ((with_reducible apply Ox.mk); (first | with_reducible assumption | exact intsAll_int _ | exact strsAll_str _ | exact bytesAll_bytes _ | exact rfl)) | exact bT | exact bF | (with_reducible apply Bx.mk; with_reducible assumption) | (first | ((with_reducible apply gg2); wtm_at "A"; wtm_at "A"; wtm_at "A") | (first | wtm_at "A" | (refine And.intro (show ItK.still _ _ by (first | exact True.intro | (show _[_]? = some _; wtm_at "l"))) ?_; first | (simp only [List.length_append, List.length_cons, List.length_nil, List.length_map]; omega) | omega) | (show ItK.still _ _; (first | exact True.intro | (show _[_]? = some _; wtm_at "l"))) | exact Nat.le_of_ble_eq_true rfl | exact of_decide_eq_true rfl | (simp only [smallI, List.length_append, List.length_cons, List.length_nil, List.length_map]; omega) | (refine And.intro (by simp) ?_; intro z hz; simp only [List.mem_cons, List.not_mem_nil, or_false] at hz; omega) | omega | decide)))) | (((refine Bool.two ?_ (fun hB => ?_) (fun hB => ?_); rotate_left; specialize sp (Bx.mk true hB); (with_reducible first | have hb := iEq_t hB | have hb := iEq_f hB | have hb := iLe_t hB | have hb := iLe_f hB | have hb := iLt_t hB | have hb := iLt_f hB | have hb := bEq_t hB | have hb := bEq_f hB | have hb := not_t hB | have hb := not_f hB | skip); rotate_left; specialize sp (Bx.mk false hB); (with_reducible first | have hb := iEq_t hB | have hb := iEq_f hB | have hb := iLe_t hB | have hb := iLe_f hB | have hb := iLt_t hB | have hb := iLt_f hB | have hb := bEq_t hB | have hb := bEq_f hB | have hb := not_t hB | have hb := not_f hB | skip); rotate_right))) | fail))
    · exact ih (q + 1) O1 ⟨rfl, h.next g (ds_1 (by assumption) (by assumption) hB)⟩ G fun x O' hW hp => sp (wQ hW :) (kN.mk hp)
    · exact ih (q + 1) O1 ⟨rfl, h.next g ((ds_2 (by assumption) (by assumption) (by assumption)).trans hB)⟩ G fun x O' hW hp => sp (wQ hW :) (kN.mk hp)
    · exact sp (kN.mk ⟨h.last g ((ds_2 (by assumption) (by assumption) (by assumption)).trans hB), rfl⟩)
    · exact sp
    · exact sp (kN.mk ⟨h.last g ((ds_3 (by assumption) (by assumption)).trans hB), rfl⟩)
    · exact sp (kN.mk ⟨h.last g (ds_4 hB), rfl⟩)
theorem cut_len {α : Type} (xs : List α) (lo hi : Option Int) : (cut xs lo hi).length ≤ xs.length := by
  unfold cut
  rw [List.length_take, List.length_drop]
  exact Nat.le_trans (Nat.min_le_right _ _) (Nat.sub_le _ _)
theorem splitB_cons (x : Int) (b : List Int) : splitB 59 (x :: b) = if x = 59 then [] :: splitB 59 b else (match splitB 59 b with | [] => [[x]] | p :: ps => (x :: p) :: ps) := rfl
theorem splitB_ok : ∀ (b : List Int), (splitB 59 b).length ≤ b.length + 1 ∧ ∀ p ∈ splitB 59 b, p.length ≤ b.length
  | [] => ⟨Nat.le_refl _, fun p h => by rw [List.mem_singleton.mp h]; exact Nat.le_refl _⟩
  | x :: b => by
    obtain ⟨h1, h2⟩ := splitB_ok b
    rw [splitB_cons]
    split
    · refine ⟨Nat.succ_le_succ h1, fun p h => ?_⟩
      rcases List.mem_cons.mp h with rfl | h
      · exact Nat.zero_le _
      · exact Nat.le_succ_of_le (h2 p h)
    · cases e : splitB 59 b with
      | nil => exact ⟨Nat.succ_le_succ (Nat.zero_le _), fun p h => by rw [List.mem_singleton.mp h]; exact Nat.succ_le_succ (Nat.zero_le _)⟩
      | cons q r =>
        rw [e] at h1 h2
        refine ⟨Nat.le_succ_of_le h1, fun p h => ?_⟩
        rcases List.mem_cons.mp h with rfl | h
        · exact Nat.succ_le_succ (h2 q List.mem_cons_self)
        · exact Nat.le_succ_of_le (h2 p (.tail _ h))
theorem numV_kind (b : List Int) : numV b = .none ∨ ∃ n, numV b = .int n := by
  have go : ∀ (b : List Int) (n : Int), numGo n b = .none ∨ ∃ m, numGo n b = .int m := by
    intro b
    induction b with
    | nil => intro n; exact .inr ⟨n, rfl⟩
    | cons x b ih =>
      intro n
      show cond _ _ _ = _ ∨ ∃ m, cond _ _ _ = _
      cases (iLe 48 x && iLe x 57)
      · exact .inl rfl
      · exact ih _
  unfold numV
  cases iEq (b.length : Int) 0
  · exact go _ _
  · exact .inl rfl
theorem in_nums : ∀ (ps : List (List Int)), ∃ c, inAll .none (ps.map numV) = some c
  | [] => ⟨false, rfl⟩
  | p :: ps => by
    obtain ⟨c, hc⟩ := in_nums ps
    show ∃ c, oB or (eqS (numV p) .none) (inAll .none (ps.map numV)) = some c
    rw [hc]
    rcases numV_kind p with e | ⟨n, e⟩
    · rw [e]; exact ⟨_, rfl⟩
    · rw [e]; exact ⟨_, rfl⟩
noncomputable def daV (b : List Int) (p q : Int) : List AV := (splitB 59 (cut b (some p) (some q))).map numV
noncomputable abbrev daO (b : List Int) (p q : Int) (O : Ost) : Ost := O ++ [AO.list ((splitB 59 (cut b (some p) (some q))).map AV.bytes)]
theorem num_comp (n : Nat) (b : List Int) (p q : Int) (O : Ost) (hb : b.length ≤ 100000) :
    CompS (R (tabs a₀ ns₀) (n + 57)) (cG (wT (st 45 2)) (gm 45)) (daL b p q) (Str.ofString "part") (cI (wT (st 45 2))) (cE (wT (st 45 2))) (.led O.length (.list ((splitB 59 (cut b (some p) (some q))).map AV.bytes)) ((splitB 59 (cut b (some p) (some q))).map AV.bytes)) (daO b p q O)
      fun v O' => v = daV b p q ∧ O' = daO b p q O := by
  obtain ⟨h1, h2⟩ := splitB_ok (cut b (some p) (some q))
  have h0 := Nat.le_trans (cut_len b (some p) (some q)) hb
  refine compR (f := AV.bytes) (splitB 59 (cut b (some p) (some q))) rfl (Nat.le_trans h1 (Nat.le_trans (Nat.succ_le_succ h0) (by decide))) at_last ?_
  intro y hy T U D G k sp
  have hy := Nat.le_trans (h2 y hy) (Nat.le_trans h0 (by decide : 100000 ≤ 1000000))
  (repeat' (first | specialize sp (by first | (with_reducible apply Cx2.mk; (first | (exact number_of _ _ _ _ _ hy) | (with_reducible assumption))) | (first | (with_reducible apply Lx.mk; wtm_at "l") | ((with_reducible apply Ox.mk); (first | with_reducible assumption | exact intsAll_int _ | exact strsAll_str _ | exact bytesAll_bytes _ | exact rfl)) | exact bT | exact bF | (with_reducible apply Bx.mk; with_reducible assumption) | (first | ((with_reducible apply gg2); wtm_at "A"; wtm_at "A"; wtm_at "A") | (first | wtm_at "A" | (refine And.intro (show ItK.still _ _ by (first | exact True.intro | (show _[_]? = some _; wtm_at "l"))) ?_; first | (simp only [List.length_append, List.length_cons, List.length_nil, List.length_map]; omega) | omega) | (show ItK.still _ _; (first | exact True.intro | (show _[_]? = some _; wtm_at "l"))) | exact Nat.le_of_ble_eq_true rfl | exact of_decide_eq_true rfl | (simp only [smallI, List.length_append, List.length_cons, List.length_nil, List.length_map]; omega) | (refine And.intro (by simp) ?_; intro z hz; simp only [List.mem_cons, List.not_mem_nil, or_false] at hz; omega) | omega | decide)))) | (((refine Bool.two ?_ (fun hB => ?_) (fun hB => ?_); rotate_left; specialize sp (Bx.mk true hB); (with_reducible first | have hb := iEq_t hB | have hb := iEq_f hB | have hb := iLe_t hB | have hb := iLe_f hB | have hb := iLt_t hB | have hb := iLt_f hB | have hb := bEq_t hB | have hb := bEq_f hB | have hb := not_t hB | have hb := not_f hB | skip); rotate_left; specialize sp (Bx.mk false hB); (with_reducible first | have hb := iEq_t hB | have hb := iEq_f hB | have hb := iLe_t hB | have hb := iLe_f hB | have hb := iLt_t hB | have hb := iLt_f hB | have hb := bEq_t hB | have hb := bEq_f hB | have hb := not_t hB | have hb := not_f hB | skip); rotate_right))) | fail))
  exact k sp
theorem dec_none (n : Nat) (b : List Int) (p : Int) (L : Nat) (O : Ost) (hb : b.length ≤ 100000) (h : Run b p L) (he : iLe b.length (p + L) = true) : CallX (R (tabs a₀ ns₀) (n + 60)) 189 [.bytes b, .int p] O .none := by
  have hb1 := Nat.le_trans hb (by decide : 100000 ≤ 1000000)
  have hb2 := Nat.le_trans (cut_len b (some p) (some (p + L))) hb1
  refine run_loop a₀ ns₀ n b p L O hb1 h _ fun q O' hW hq => ?_
  obtain ⟨rfl, rfl⟩ := hq
  refine CompS.use0 (num_comp a₀ ns₀ (n + 1) b p (p + L) O' hb) fun hC => ?_
  have hV : (daV b p (p + L)).length ≤ 1000000 := by
    unfold daV
    rw [List.length_map]
    exact Nat.le_trans (splitB_ok _).1 (Nat.le_trans (Nat.succ_le_succ (Nat.le_trans (cut_len b (some p) (some (p + L))) hb)) (by decide))
  obtain ⟨c, hc⟩ := in_nums (splitB 59 (cut b (some p) (some (p + L))))
  have hc : inAll .none (daV b p (p + L)) = some c := hc
  (refine CallS.mk ?_; intro G sp)
  (repeat' (first | specialize sp (by first | (with_reducible apply Cx2.mk; (with_reducible assumption)) | (first | (with_reducible apply Lx.mk; wtm_at "l") | ((with_reducible apply Ox.mk); (first | with_reducible assumption | exact intsAll_int _ | exact strsAll_str _ | exact bytesAll_bytes _ | exact rfl)) | exact bT | exact bF | (with_reducible apply Bx.mk; with_reducible assumption) | (first | ((with_reducible apply gg2); wtm_at "A"; wtm_at "A"; wtm_at "A") | (first | wtm_at "A" | (refine And.intro (show ItK.still _ _ by (first | exact True.intro | (show _[_]? = some _; wtm_at "l"))) ?_; first | (simp only [List.length_append, List.length_cons, List.length_nil, List.length_map]; omega) | omega) | (show ItK.still _ _; (first | exact True.intro | (show _[_]? = some _; wtm_at "l"))) | exact Nat.le_of_ble_eq_true rfl | exact of_decide_eq_true rfl | (simp only [smallI, List.length_append, List.length_cons, List.length_nil, List.length_map]; omega) | (refine And.intro (by simp) ?_; intro z hz; simp only [List.mem_cons, List.not_mem_nil, or_false] at hz; omega) | omega | decide)))) | (((refine Bool.two ?_ (fun hB => ?_) (fun hB => ?_); rotate_left; specialize sp (Bx.mk true hB); (with_reducible first | have hb := iEq_t hB | have hb := iEq_f hB | have hb := iLe_t hB | have hb := iLe_f hB | have hb := iLt_t hB | have hb := iLt_f hB | have hb := bEq_t hB | have hb := bEq_f hB | have hb := not_t hB | have hb := not_f hB | skip); rotate_left; specialize sp (Bx.mk false hB); (with_reducible first | have hb := iEq_t hB | have hb := iEq_f hB | have hb := iLe_t hB | have hb := iLe_f hB | have hb := iLt_t hB | have hb := iLt_f hB | have hb := bEq_t hB | have hb := bEq_f hB | have hb := not_t hB | have hb := not_f hB | skip); rotate_right))) | fail))
  specialize sp (wQ hW :)
  (repeat' (first | specialize sp (by first | (with_reducible apply Cx2.mk; (with_reducible assumption)) | (first | (with_reducible apply Lx.mk; wtm_at "l") | ((with_reducible apply Ox.mk); (first | with_reducible assumption | exact intsAll_int _ | exact strsAll_str _ | exact bytesAll_bytes _ | exact rfl)) | exact bT | exact bF | (with_reducible apply Bx.mk; with_reducible assumption) | (first | ((with_reducible apply gg2); wtm_at "A"; wtm_at "A"; wtm_at "A") | (first | wtm_at "A" | (refine And.intro (show ItK.still _ _ by (first | exact True.intro | (show _[_]? = some _; wtm_at "l"))) ?_; first | (simp only [List.length_append, List.length_cons, List.length_nil, List.length_map]; omega) | omega) | (show ItK.still _ _; (first | exact True.intro | (show _[_]? = some _; wtm_at "l"))) | exact Nat.le_of_ble_eq_true rfl | exact of_decide_eq_true rfl | (simp only [smallI, List.length_append, List.length_cons, List.length_nil, List.length_map]; omega) | (refine And.intro (by simp) ?_; intro z hz; simp only [List.mem_cons, List.not_mem_nil, or_false] at hz; omega) | omega | decide)))) | (((refine Bool.two ?_ (fun hB => ?_) (fun hB => ?_); rotate_left; specialize sp (Bx.mk true hB); (with_reducible first | have hb := iEq_t hB | have hb := iEq_f hB | have hb := iLe_t hB | have hb := iLe_f hB | have hb := iLt_t hB | have hb := iLt_f hB | have hb := bEq_t hB | have hb := bEq_f hB | have hb := not_t hB | have hb := not_f hB | skip); rotate_left; specialize sp (Bx.mk false hB); (with_reducible first | have hb := iEq_t hB | have hb := iEq_f hB | have hb := iLe_t hB | have hb := iLe_f hB | have hb := iLt_t hB | have hb := iLt_f hB | have hb := bEq_t hB | have hb := bEq_f hB | have hb := not_t hB | have hb := not_f hB | skip); rotate_right))) | fail))
  specialize sp (pQ hC :)
  (repeat' (first | specialize sp (by first | (with_reducible apply Cx2.mk; (with_reducible assumption)) | (first | (with_reducible apply Lx.mk; wtm_at "l") | ((with_reducible apply Ox.mk); (first | with_reducible assumption | exact intsAll_int _ | exact strsAll_str _ | exact bytesAll_bytes _ | exact rfl)) | exact bT | exact bF | (with_reducible apply Bx.mk; with_reducible assumption) | (first | ((with_reducible apply gg2); wtm_at "A"; wtm_at "A"; wtm_at "A") | (first | wtm_at "A" | (refine And.intro (show ItK.still _ _ by (first | exact True.intro | (show _[_]? = some _; wtm_at "l"))) ?_; first | (simp only [List.length_append, List.length_cons, List.length_nil, List.length_map]; omega) | omega) | (show ItK.still _ _; (first | exact True.intro | (show _[_]? = some _; wtm_at "l"))) | exact Nat.le_of_ble_eq_true rfl | exact of_decide_eq_true rfl | (simp only [smallI, List.length_append, List.length_cons, List.length_nil, List.length_map]; omega) | (refine And.intro (by simp) ?_; intro z hz; simp only [List.mem_cons, List.not_mem_nil, or_false] at hz; omega) | omega | decide)))) | (((refine Bool.two ?_ (fun hB => ?_) (fun hB => ?_); rotate_left; specialize sp (Bx.mk true hB); (with_reducible first | have hb := iEq_t hB | have hb := iEq_f hB | have hb := iLe_t hB | have hb := iLe_f hB | have hb := iLt_t hB | have hb := iLt_f hB | have hb := bEq_t hB | have hb := bEq_f hB | have hb := not_t hB | have hb := not_f hB | skip); rotate_left; specialize sp (Bx.mk false hB); (with_reducible first | have hb := iEq_t hB | have hb := iEq_f hB | have hb := iLe_t hB | have hb := iLe_f hB | have hb := iLt_t hB | have hb := iLt_f hB | have hb := bEq_t hB | have hb := bEq_f hB | have hb := not_t hB | have hb := not_f hB | skip); rotate_right))) | fail))
  all_goals exact sp ⟨rfl, by wtm_at "p"⟩
theorem dec_some (n : Nat) (b : List Int) (p : Int) (L : Nat) (x y z e : Int) (O : Ost) (hb : b.length ≤ 100000) (h : Run b p L) (he : iLe b.length (p + L) = false) (hE : b.getD (p + L).toNat 0 = e) (hV : daV b p (p + L) = [.int x, .int y, .int z]) :
    CallJ (R (tabs a₀ ns₀) (n + 60)) 189 [.bytes b, .int p] O fun t O' => Ext O O' ∧ ∃ i, O'[t]? = some (.tuple [.obj i, .int e, .int (p + L + 1)]) ∧ O'[i]? = some (.list [.int x, .int y, .int z]) := by
  have hb1 := Nat.le_trans hb (by decide : 100000 ≤ 1000000)
  have hb2 := Nat.le_trans (cut_len b (some p) (some (p + L))) hb1
  refine run_loop a₀ ns₀ n b p L O hb1 h _ fun q O' hW hq => ?_
  obtain ⟨rfl, rfl⟩ := hq
  have hC := num_comp a₀ ns₀ (n + 1) b p (p + L) O' hb
  rw [hV] at hC
  refine CompS.use0 hC fun hC => ?_
  have hc : inAll .none [.int x, .int y, .int z] = some false := rfl
  have hq : 0 ≤ p + L := Int.add_nonneg h.p0 (Int.natCast_nonneg _)
  have hg := gg hq (iLe_f he) hb1
  subst e
  clear hV
  refine .mk fun G sp => ?_
  (repeat' (first | specialize sp (by first | (with_reducible apply Cx2.mk; (with_reducible assumption)) | (first | (with_reducible apply Lx.mk; wtm_at "l") | ((with_reducible apply Ox.mk); (first | with_reducible assumption | exact intsAll_int _ | exact strsAll_str _ | exact bytesAll_bytes _ | exact rfl)) | exact bT | exact bF | (with_reducible apply Bx.mk; with_reducible assumption) | (first | ((with_reducible apply gg2); wtm_at "A"; wtm_at "A"; wtm_at "A") | (first | wtm_at "A" | (refine And.intro (show ItK.still _ _ by (first | exact True.intro | (show _[_]? = some _; wtm_at "l"))) ?_; first | (simp only [List.length_append, List.length_cons, List.length_nil, List.length_map]; omega) | omega) | (show ItK.still _ _; (first | exact True.intro | (show _[_]? = some _; wtm_at "l"))) | exact Nat.le_of_ble_eq_true rfl | exact of_decide_eq_true rfl | (simp only [smallI, List.length_append, List.length_cons, List.length_nil, List.length_map]; omega) | (refine And.intro (by simp) ?_; intro z hz; simp only [List.mem_cons, List.not_mem_nil, or_false] at hz; omega) | omega | decide)))) | (((refine Bool.two ?_ (fun hB => ?_) (fun hB => ?_); rotate_left; specialize sp (Bx.mk true hB); (with_reducible first | have hb := iEq_t hB | have hb := iEq_f hB | have hb := iLe_t hB | have hb := iLe_f hB | have hb := iLt_t hB | have hb := iLt_f hB | have hb := bEq_t hB | have hb := bEq_f hB | have hb := not_t hB | have hb := not_f hB | skip); rotate_left; specialize sp (Bx.mk false hB); (with_reducible first | have hb := iEq_t hB | have hb := iEq_f hB | have hb := iLe_t hB | have hb := iLe_f hB | have hb := iLt_t hB | have hb := iLt_f hB | have hb := bEq_t hB | have hb := bEq_f hB | have hb := not_t hB | have hb := not_f hB | skip); rotate_right))) | fail))
  specialize sp (wQ hW :)
  (repeat' (first | specialize sp (by first | (with_reducible apply Cx2.mk; (with_reducible assumption)) | (first | (with_reducible apply Lx.mk; wtm_at "l") | ((with_reducible apply Ox.mk); (first | with_reducible assumption | exact intsAll_int _ | exact strsAll_str _ | exact bytesAll_bytes _ | exact rfl)) | exact bT | exact bF | (with_reducible apply Bx.mk; with_reducible assumption) | (first | ((with_reducible apply gg2); wtm_at "A"; wtm_at "A"; wtm_at "A") | (first | wtm_at "A" | (refine And.intro (show ItK.still _ _ by (first | exact True.intro | (show _[_]? = some _; wtm_at "l"))) ?_; first | (simp only [List.length_append, List.length_cons, List.length_nil, List.length_map]; omega) | omega) | (show ItK.still _ _; (first | exact True.intro | (show _[_]? = some _; wtm_at "l"))) | exact Nat.le_of_ble_eq_true rfl | exact of_decide_eq_true rfl | (simp only [smallI, List.length_append, List.length_cons, List.length_nil, List.length_map]; omega) | (refine And.intro (by simp) ?_; intro z hz; simp only [List.mem_cons, List.not_mem_nil, or_false] at hz; omega) | omega | decide)))) | (((refine Bool.two ?_ (fun hB => ?_) (fun hB => ?_); rotate_left; specialize sp (Bx.mk true hB); (with_reducible first | have hb := iEq_t hB | have hb := iEq_f hB | have hb := iLe_t hB | have hb := iLe_f hB | have hb := iLt_t hB | have hb := iLt_f hB | have hb := bEq_t hB | have hb := bEq_f hB | have hb := not_t hB | have hb := not_f hB | skip); rotate_left; specialize sp (Bx.mk false hB); (with_reducible first | have hb := iEq_t hB | have hb := iEq_f hB | have hb := iLe_t hB | have hb := iLe_f hB | have hb := iLt_t hB | have hb := iLt_f hB | have hb := bEq_t hB | have hb := bEq_f hB | have hb := not_t hB | have hb := not_f hB | skip); rotate_right))) | fail))
  specialize sp (pQ hC :)
  (repeat' (first | specialize sp (by first | (with_reducible apply Cx2.mk; (with_reducible assumption)) | (first | (with_reducible apply Lx.mk; wtm_at "l") | ((with_reducible apply Ox.mk); (first | with_reducible assumption | exact intsAll_int _ | exact strsAll_str _ | exact bytesAll_bytes _ | exact rfl)) | exact bT | exact bF | (with_reducible apply Bx.mk; with_reducible assumption) | (first | ((with_reducible apply gg2); wtm_at "A"; wtm_at "A"; wtm_at "A") | (first | wtm_at "A" | (refine And.intro (show ItK.still _ _ by (first | exact True.intro | (show _[_]? = some _; wtm_at "l"))) ?_; first | (simp only [List.length_append, List.length_cons, List.length_nil, List.length_map]; omega) | omega) | (show ItK.still _ _; (first | exact True.intro | (show _[_]? = some _; wtm_at "l"))) | exact Nat.le_of_ble_eq_true rfl | exact of_decide_eq_true rfl | (simp only [smallI, List.length_append, List.length_cons, List.length_nil, List.length_map]; omega) | (refine And.intro (by simp) ?_; intro z hz; simp only [List.mem_cons, List.not_mem_nil, or_false] at hz; omega) | omega | decide)))) | (((refine Bool.two ?_ (fun hB => ?_) (fun hB => ?_); rotate_left; specialize sp (Bx.mk true hB); (with_reducible first | have hb := iEq_t hB | have hb := iEq_f hB | have hb := iLe_t hB | have hb := iLe_f hB | have hb := iLt_t hB | have hb := iLt_f hB | have hb := bEq_t hB | have hb := bEq_f hB | have hb := not_t hB | have hb := not_f hB | skip); rotate_left; specialize sp (Bx.mk false hB); (with_reducible first | have hb := iEq_t hB | have hb := iEq_f hB | have hb := iLe_t hB | have hb := iLe_f hB | have hb := iLt_t hB | have hb := iLt_f hB | have hb := bEq_t hB | have hb := bEq_f hB | have hb := not_t hB | have hb := not_f hB | skip); rotate_right))) | fail))
  exact sp ⟨_, rfl, by wtm_at "p", _, at_last, by wtm_at "l"⟩
noncomputable def isDS (c : Int) : Bool := (iLe 48 c && iLe c 57) || iEq c 59
theorem fig_ds {c : Int} (h : 48 ≤ c ∧ c ≤ 57) : isDS c = true := or_t (by rw [show iLe 48 c = true from decide_eq_true h.1]; exact decide_eq_true h.2)
theorem cut_at {α : Type} {X Y b : List α} {p j : Nat} (hb : b = X ++ Y) (hp : p = X.length) : cut b (some (p : Int)) (some ((p : Int) + (j : Int))) = Y.take j := by
  subst hb hp
  unfold cut
  simp only [Option.elim]
  rw [show ((X.length : Int) + (j : Int)) = ((X.length + j : Nat) : Int) from rfl, clipAt_nat, clipAt_nat, List.length_append, Nat.min_eq_left (Nat.le_add_right _ _), List.drop_left]
  rcases Nat.le_total (X.length + j) (X.length + Y.length) with h | h
  · rw [Nat.min_eq_left h, Nat.add_sub_cancel_left]
  · rw [Nat.min_eq_right h, Nat.add_sub_cancel_left, List.take_of_length_le (Nat.le_refl _), List.take_of_length_le (Nat.le_of_add_le_add_left h)]
theorem getD_at {X D Z : List Int} {j : Nat} (hj : j < D.length) : (X ++ (D ++ Z)).getD (X.length + j) 0 = D.getD j 0 := by
  simp only [List.getD_eq_getElem?_getD]
  rw [List.getElem?_append_right (Nat.le_add_right _ _), Nat.add_sub_cancel_left, List.getElem?_append_left hj]
theorem getD_end {X D Z : List Int} {e : Int} : (X ++ (D ++ e :: Z)).getD (X.length + D.length) 0 = e := by
  simp only [List.getD_eq_getElem?_getD]
  rw [List.getElem?_append_right (Nat.le_add_right _ _), Nat.add_sub_cancel_left, List.getElem?_append_right (Nat.le_refl _), Nat.sub_self]
  rfl
theorem split_no {D : List Int} : (∀ c ∈ D, 48 ≤ c ∧ c ≤ 57) → splitB 59 D = [D] := by
  induction D with
  | nil => intro _; rfl
  | cons x D ih =>
    intro h
    have := h x List.mem_cons_self
    rw [splitB_cons, if_neg (by omega), ih fun c hc => h c (.tail _ hc)]
theorem split_sep {D E : List Int} : (∀ c ∈ D, 48 ≤ c ∧ c ≤ 57) → splitB 59 (D ++ 59 :: E) = D :: splitB 59 E := by
  induction D with
  | nil => intro _; show splitB 59 (59 :: E) = _; rw [splitB_cons, if_pos rfl]
  | cons x D ih =>
    intro h
    have := h x List.mem_cons_self
    show splitB 59 (x :: (D ++ 59 :: E)) = _
    rw [splitB_cons, if_neg (by omega), ih fun c hc => h c (.tail _ hc)]
theorem split_dec (a b c : Int) : splitB 59 (decOf a b c) = [digs a, digs b, digs c] := by
  unfold decOf
  rw [List.append_assoc]
  show splitB 59 (digs a ++ 59 :: (digs b ++ [59] ++ digs c)) = _
  rw [split_sep (digs_byte a), List.append_assoc]
  show _ :: splitB 59 (digs b ++ 59 :: digs c) = _
  rw [split_sep (digs_byte b), split_no (digs_byte c)]
theorem numGo_app : ∀ (A : List Int) (n : Int), (∀ c ∈ A, 48 ≤ c ∧ c ≤ 57) → numGo n A = .int (A.foldl (fun n o => 10 * n + o - 48) n)
  | [], n, _ => rfl
  | a :: A, n, h => (ct (by rw [show iLe 48 a = true from decide_eq_true (h a List.mem_cons_self).1]; exact decide_eq_true (h a List.mem_cons_self).2)).trans (numGo_app A _ fun c hc => h c (.tail _ hc))
theorem num_rdig : ∀ (m : Nat), (rdig m).reverse.foldl (fun n o => 10 * n + o - 48) (0 : Int) = (m : Int) := by
  intro m
  induction m using Nat.strongRecOn with
  | _ m ih =>
    rw [rdig_eq]
    split
    · rename_i h
      show 10 * (0 : Int) + (48 + ((m % 10 : Nat) : Int)) - 48 = _
      omega
    · rw [List.reverse_cons, List.foldl_append, ih _ (by omega)]
      show 10 * ((m / 10 : Nat) : Int) + (48 + ((m % 10 : Nat) : Int)) - 48 = _
      omega
theorem numV_digs {m : Int} (h : 0 ≤ m) : numV (digs m) = .int m := by
  obtain ⟨k, rfl⟩ := Int.eq_ofNat_of_zero_le h
  refine (cf ?_).trans ((numGo_app _ 0 (digs_byte _)).trans (congrArg AV.int (num_rdig k)))
  refine decide_eq_false fun q => ?_
  unfold digs at q
  rw [List.length_reverse, rdig_eq] at q
  exact absurd q (by rw [List.length_cons]; omega)
theorem dec_ds (a b c : Int) : ∀ x ∈ decOf a b c, isDS x = true := by
  intro x hx
  simp only [decOf, List.mem_append, List.mem_singleton] at hx
  rcases hx with (h | h) | ((h | h) | h)
  · exact fig_ds (digs_byte _ _ h)
  · rw [h]; rfl
  · exact fig_ds (digs_byte _ _ h)
  · rw [h]; rfl
  · exact fig_ds (digs_byte _ _ h)
theorem run_of {X D Z : List Int} {p : Int} (hp : p = (X.length : Int)) (hD : ∀ x ∈ D, isDS x = true) (hL : D.length ≤ 23) (hZ : Z = [] ∨ ∃ e r, Z = e :: r ∧ isDS e = false) : Run (X ++ (D ++ Z)) p D.length := by
  subst hp
  refine ⟨Int.natCast_nonneg _, hL, fun i hi => ?_, ?_⟩
  · have g : (X ++ (D ++ Z)).getD ((X.length : Int) + (i : Int)).toNat 0 = D.getD i 0 := getD_at hi
    refine (and_t (decide_eq_true ?_)).trans ?_
    · simp only [List.length_append]; omega
    · rw [g, List.getD_eq_getElem?_getD, List.getElem?_eq_getElem hi]
      exact hD _ (List.getElem_mem hi)
  · rcases hZ with rfl | ⟨e, r, rfl, he⟩
    · exact and_f (decide_eq_false (by simp only [List.length_append, List.length_nil]; omega))
    · have g : (X ++ (D ++ e :: r)).getD ((X.length : Int) + (D.length : Int)).toNat 0 = e := getD_end
      refine (and_t (decide_eq_true ?_)).trans ?_
      · simp only [List.length_append, List.length_cons]; omega
      · rw [g]; exact he
theorem daV_of {X Z : List Int} {x y z p : Int} (hp : p = (X.length : Int)) (x0 : 0 ≤ x) (y0 : 0 ≤ y) (z0 : 0 ≤ z) : daV (X ++ (decOf x y z ++ Z)) p (p + (decOf x y z).length) = [.int x, .int y, .int z] := by
  subst hp
  unfold daV
  rw [cut_at rfl rfl, List.take_left' rfl, split_dec]
  show [numV (digs x), numV (digs y), numV (digs z)] = _
  rw [numV_digs x0, numV_digs y0, numV_digs z0]
noncomputable abbrev TupEv (kd : Kd) (b row col m q : Int) (O : Ost) (t : Nat) (O' : Ost) : Prop := Ext O O' ∧ ∃ j, O'[t]? = some (.tuple [.obj j, .int q]) ∧ EvAt O' j kd b row col m
noncomputable abbrev rdA (b : List Int) (p : Int) (u8 : Bool) (cw ch : Int) : List AV := [.bytes b, .int p, .bool u8, .int cw, .int ch]
theorem nT {c : Bool} (h : c = true) : (!c) = false := by rw [h]; rfl
theorem nF {c : Bool} (h : c = false) : (!c) = true := by rw [h]; rfl
noncomputable abbrev esc2 : List Int := List.map (fun c : UInt8 => ((c.toNat : Nat) : Int)) [27, 91]
theorem esc_2 {b : List Int} {c : Bool} (h : bEq b [27, 91] = c) : bEq b esc2 = c := h
section
variable {b : List Int} {u8 : Bool} {p cw ch : Int} {O : Ost}
theorem rd_plain_ok (n : Nat) (kd : Kd) (m x y q : Int) (hb : b.length ≤ 1000000) (hp : 0 ≤ p + 3) (h3 : bEq (cut b (some p) (some (p + 3))) [27, 91, 77] = true) (e : readN b u8 3 (p + 3) = some ([m, x, y], q)) (h0 : 0 ≤ m) (h1 : m < 192) (hcl : iLt x 1 = false) (hr : iLt y 1 = false) (hk : kindOk kd m .none) :
    CallJ (R (tabs a₀ ns₀) (n + 75)) 197 (rdA b p u8 cw ch) O (TupEv kd (buttonOf m) ((y - 1).fdiv 1) ((x - 1).fdiv 1) ((Builtin.bitAnd m 28).fdiv 4) q O) := by
  refine .mk fun G sp => ?_
  (repeat' (first | specialize sp (by first | (with_reducible apply Cx2.mk; (with_reducible assumption)) | wtm_at "a") | (apply CallJ.use; rotate_left; intro j O1 hc hk; specialize sp (cQ hc :); rotate_right; exact read_some _ _ _ kd _ _ _ m x y q _ (by wtm_at "A") (by wtm_at "A") (by wtm_at "A") (by wtm_at "A") (by wtm_at "A") (by wtm_at "A") (by wtm_at "A") (by wtm_at "A")) | wtm_at "B" | fail))
  exact sp ⟨_, rfl, hk⟩
theorem rd_plain_no (n : Nat) (hb : b.length ≤ 1000000) (hp : 0 ≤ p + 3) (h3 : bEq (cut b (some p) (some (p + 3))) [27, 91, 77] = true) (e : readN b u8 3 (p + 3) = none) : CallX (R (tabs a₀ ns₀) (n + 75)) 197 (rdA b p u8 cw ch) O .none := by
  (refine CallS.mk ?_; intro G sp)
  (repeat' (first | specialize sp (by first | (with_reducible apply Cx2.mk; (with_reducible assumption)) | wtm_at "a") | (apply CallS.useP; rotate_left; intro O1 hc hk; specialize sp (cQ hc :); rotate_right; (exact read_none _ _ _ _ _ _ _ (by wtm_at "A") (by wtm_at "A") (by wtm_at "A")); try (obtain ⟨hx, hk⟩ := hk)) | wtm_at "B" | fail))
  exact sp ⟨rfl, hk⟩
theorem rd_short (n : Nat) (hb : b.length ≤ 1000000) (h3 : bEq (cut b (some p) (some (p + 3))) [27, 91, 77] = false) (hs : bEq (cut b (some p) (some (p + 3))) [27, 91, 60] = false) (h2 : bEq (cut b (some p) (some (p + 2))) [27, 91] = false) : CallX (R (tabs a₀ ns₀) (n + 75)) 197 (rdA b p u8 cw ch) O .none := by
  have hs := nF hs
  have h2 : (!bEq (cut b (some p) (some (p + 2))) esc2) = true := nF (esc_2 h2)
  (refine CallS.mk ?_; intro G sp)
  (repeat' (first | specialize sp (by first | (with_reducible apply Cx2.mk; (with_reducible assumption)) | wtm_at "a") | wtm_at "B" | fail))
  exact sp ⟨rfl, by wtm_at "p"⟩
theorem rd_sgr_no (n : Nat) (L : Nat) (hb : b.length ≤ 100000) (h3 : bEq (cut b (some p) (some (p + 3))) [27, 91, 77] = false) (hs : bEq (cut b (some p) (some (p + 3))) [27, 91, 60] = true) (hR : Run b (p + 3) L) (he : iLe b.length (p + 3 + L) = true) : CallX (R (tabs a₀ ns₀) (n + 75)) 197 (rdA b p u8 cw ch) O .none := by
  have hb1 := Nat.le_trans hb (by decide : 100000 ≤ 1000000)
  have hs1 := nT hs
  (refine CallS.mk ?_; intro G sp)
  (repeat' (first | specialize sp (by first | (with_reducible apply Cx2.mk; (with_reducible assumption)) | wtm_at "a") | (apply CallS.useP; rotate_left; intro O1 hc hk; specialize sp (cQ hc :); rotate_right; (exact dec_none _ _ _ _ _ L _ (by wtm_at "A") (by wtm_at "A") (by wtm_at "A")); try (obtain ⟨hx, hk⟩ := hk)) | wtm_at "B" | fail))
  exact sp ⟨rfl, by wtm_at "p"⟩
theorem rd_urx_no (n : Nat) (L : Nat) (hb : b.length ≤ 100000) (h3 : bEq (cut b (some p) (some (p + 3))) [27, 91, 77] = false) (hs : bEq (cut b (some p) (some (p + 3))) [27, 91, 60] = false) (h2 : bEq (cut b (some p) (some (p + 2))) [27, 91] = true) (hR : Run b (p + 2) L) (he : iLe b.length (p + 2 + L) = true) : CallX (R (tabs a₀ ns₀) (n + 75)) 197 (rdA b p u8 cw ch) O .none := by
  have hb1 := Nat.le_trans hb (by decide : 100000 ≤ 1000000)
  have hs1 := nF hs
  have h2 : (!bEq (cut b (some p) (some (p + 2))) esc2) = false := nT (esc_2 h2)
  (refine CallS.mk ?_; intro G sp)
  (repeat' (first | specialize sp (by first | (with_reducible apply Cx2.mk; (with_reducible assumption)) | wtm_at "a") | (apply CallS.useP; rotate_left; intro O1 hc hk; specialize sp (cQ hc :); rotate_right; (exact dec_none _ _ _ _ _ L _ (by wtm_at "A") (by wtm_at "A") (by wtm_at "A")); try (obtain ⟨hx, hk⟩ := hk)) | wtm_at "B" | fail))
  exact sp ⟨rfl, by wtm_at "p"⟩
theorem rd_sgr_ok (n : Nat) (kd : Kd) (rel : Bool) (L : Nat) (x y z : Int) (hb : b.length ≤ 100000) (h3 : bEq (cut b (some p) (some (p + 3))) [27, 91, 77] = false) (hs : bEq (cut b (some p) (some (p + 3))) [27, 91, 60] = true) (hR : Run b (p + 3) L) (he : iLe b.length (p + 3 + L) = false)
    (hE : b.getD (p + 3 + L).toNat 0 = cond rel 109 77) (hV : daV b (p + 3) (p + 3 + L) = [.int x, .int y, .int z]) (x0 : 0 ≤ x) (x1 : x < 192) (hy : iLt y 1 = false) (hz : iLt z 1 = false) (hw : max 1 cw ≠ 0 ∧ smallI (max 1 cw)) (hh : max 1 ch ≠ 0 ∧ smallI (max 1 ch)) (hkd : kindOk kd x (.bool rel)) :
    CallJ (R (tabs a₀ ns₀) (n + 75)) 197 (rdA b p u8 cw ch) O (TupEv kd (buttonOf x) ((z - 1).fdiv (max 1 ch)) ((y - 1).fdiv (max 1 cw)) ((Builtin.bitAnd x 28).fdiv 4) (p + 3 + L + 1) O) := by
  have hb1 := Nat.le_trans hb (by decide : 100000 ≤ 1000000)
  have hs1 := nT hs
  cases rel
  · have hE : b.getD (p + 3 + L).toNat 0 = 77 := hE
    refine .mk fun G sp => ?_
    (repeat' (first | specialize sp (by first | (with_reducible apply Cx2.mk; (with_reducible assumption)) | wtm_at "a") | (apply CallJ.use; rotate_left; intro j O1 hc hk; specialize sp (cQ hc :); rotate_right; first | (exact dec_some _ _ _ _ _ L x y z _ _ (by wtm_at "A") (by wtm_at "A") (by wtm_at "A") (by wtm_at "A") (by wtm_at "A"); obtain ⟨hx, i, ht, hl⟩ := hk) | (exact event_of _ _ _ kd _ _ _ _ _ _ _ (by wtm_at "A") (by wtm_at "A") (by wtm_at "A") (by wtm_at "A") (by wtm_at "A") (by wtm_at "A") (by wtm_at "A"); obtain ⟨hx, hev⟩ := hk)) | wtm_at "B" | fail))
    exact sp ⟨_, rfl, by wtm_at "p", _, at_last, hev.ext (by wtm_at "p")⟩
  · have hE : b.getD (p + 3 + L).toNat 0 = 109 := hE
    refine .mk fun G sp => ?_
    (repeat' (first | specialize sp (by first | (with_reducible apply Cx2.mk; (with_reducible assumption)) | wtm_at "a") | (apply CallJ.use; rotate_left; intro j O1 hc hk; specialize sp (cQ hc :); rotate_right; first | (exact dec_some _ _ _ _ _ L x y z _ _ (by wtm_at "A") (by wtm_at "A") (by wtm_at "A") (by wtm_at "A") (by wtm_at "A"); obtain ⟨hx, i, ht, hl⟩ := hk) | (exact event_of _ _ _ kd _ _ _ _ _ _ _ (by wtm_at "A") (by wtm_at "A") (by wtm_at "A") (by wtm_at "A") (by wtm_at "A") (by wtm_at "A") (by wtm_at "A"); obtain ⟨hx, hev⟩ := hk)) | wtm_at "B" | fail))
    exact sp ⟨_, rfl, by wtm_at "p", _, at_last, hev.ext (by wtm_at "p")⟩
theorem rd_urx_ok (n : Nat) (kd : Kd) (L : Nat) (x y z : Int) (hb : b.length ≤ 100000) (h3 : bEq (cut b (some p) (some (p + 3))) [27, 91, 77] = false) (hs : bEq (cut b (some p) (some (p + 3))) [27, 91, 60] = false) (h2 : bEq (cut b (some p) (some (p + 2))) [27, 91] = true) (hR : Run b (p + 2) L) (he : iLe b.length (p + 2 + L) = false)
    (hE : b.getD (p + 2 + L).toNat 0 = 77) (hV : daV b (p + 2) (p + 2 + L) = [.int x, .int y, .int z]) (hx32 : iLt x 32 = false) (x0 : 0 ≤ x - 32) (x1 : x - 32 < 192) (hy : iLt y 1 = false) (hz : iLt z 1 = false) (hw : (1 : Int) ≠ 0 ∧ smallI 1) (hkd : kindOk kd (x - 32) .none) :
    CallJ (R (tabs a₀ ns₀) (n + 75)) 197 (rdA b p u8 cw ch) O (TupEv kd (buttonOf (x - 32)) ((z - 1).fdiv 1) ((y - 1).fdiv 1) ((Builtin.bitAnd (x - 32) 28).fdiv 4) (p + 2 + L + 1) O) := by
  have hb1 := Nat.le_trans hb (by decide : 100000 ≤ 1000000)
  have hs1 := nF hs
  have h2 : (!bEq (cut b (some p) (some (p + 2))) esc2) = false := nT (esc_2 h2)
  refine .mk fun G sp => ?_
  (repeat' (first | specialize sp (by first | (with_reducible apply Cx2.mk; (with_reducible assumption)) | wtm_at "a") | (apply CallJ.use; rotate_left; intro j O1 hc hk; specialize sp (cQ hc :); rotate_right; first | (exact dec_some _ _ _ _ _ L x y z _ _ (by wtm_at "A") (by wtm_at "A") (by wtm_at "A") (by wtm_at "A") (by wtm_at "A"); obtain ⟨hx, i, ht, hl⟩ := hk) | (exact event_of _ _ _ kd _ _ _ _ _ _ _ (by wtm_at "A") (by wtm_at "A") (by wtm_at "A") (by wtm_at "A") (by wtm_at "A") (by wtm_at "A") (by wtm_at "A"); obtain ⟨hx, hev⟩ := hk)) | wtm_at "B" | fail))
  exact sp ⟨_, rfl, by wtm_at "p", _, at_last, hev.ext (by wtm_at "p")⟩
end
theorem numK_all : ∀ b : Fin 12, ∀ m : Fin 8, (!domB .press (b.val : Int) || (!(iEq (buttonOf (numberOf .press (b.val : Int) (m.val : Int) true)) 0) && !(iEq (buttonOf (numberOf .press (b.val : Int) (m.val : Int) false)) 0))) = true ∧
    (!domB .release (b.val : Int) || iEq (buttonOf (numberOf .release (b.val : Int) (m.val : Int) false)) 0) = true := by decide +kernel
section
variable {kd : Kd} {b m : Int}
theorem num_f (nm : Bool) (hb : 0 ≤ b ∧ b < 12) (hm : 0 ≤ m ∧ m < 8) (hd : domB kd b = true) : buttonOf (numberOf kd b m nm) = cond (kd.rel && !nm) 0 b ∧ (Builtin.bitAnd (numberOf kd b m nm) 28).fdiv 4 = m := by
  have z := (Bool.and_eq_true_iff.mp (num_chk (kd := kd) nm hb hm)).2
  rw [hd] at z
  have z := Bool.and_eq_true_iff.mp z
  exact ⟨iEq_t z.1, iEq_t z.2⟩
theorem num_mv (nm : Bool) (hb : 0 ≤ b ∧ b < 12) (hm : 0 ≤ m ∧ m < 8) : (!iEq (Builtin.bitAnd (numberOf kd b m nm) 32) 0) = kd.mv := by
  have z := beq_iff_eq.mp (Bool.and_eq_true_iff.mp (Bool.and_eq_true_iff.mp (num_chk (kd := kd) nm hb hm)).1).2
  rw [z, Bool.not_not]
theorem num_kind (hb : 0 ≤ b ∧ b < 12) (hm : 0 ≤ m ∧ m < 8) (hd : domB kd b = true) : kindOk kd (numberOf kd b m true) (.bool kd.rel) ∧ kindOk kd (numberOf kd b m false) .none := by
  have q : (!domB .press b || (!(iEq (buttonOf (numberOf .press b m true)) 0) && !(iEq (buttonOf (numberOf .press b m false)) 0))) = true ∧ (!domB .release b || iEq (buttonOf (numberOf .release b m false)) 0) = true := by
    obtain ⟨x, rfl⟩ := Int.eq_ofNat_of_zero_le hb.1
    obtain ⟨y, rfl⟩ := Int.eq_ofNat_of_zero_le hm.1
    exact numK_all ⟨x, Int.ofNat_lt.mp hb.2⟩ ⟨y, Int.ofNat_lt.mp hm.2⟩
  have a := num_mv (kd := kd) true hb hm
  have c := num_mv (kd := kd) false hb hm
  cases kd with
  | press =>
    have q := q.1
    rw [hd] at q
    have q := Bool.and_eq_true_iff.mp q
    exact ⟨⟨a, .inl rfl, not_t q.1⟩, ⟨c, .inr rfl, not_t q.2⟩⟩
  | release =>
    have q := q.2
    rw [hd] at q
    exact ⟨⟨a, .inl rfl⟩, ⟨c, .inr ⟨rfl, q⟩⟩⟩
  | move => exact ⟨a, c⟩
end
noncomputable def cd (u8 : Bool) (x : Int) : List Int := cond u8 (codeOf x) [x]
noncomputable def cds (u8 : Bool) : List Int → List Int
  | [] => []
  | x :: r => cd u8 x ++ cds u8 r
noncomputable def hiB (x : Int) : Int := Builtin.bitOr 192 (x.fdiv (2 ^ (6 : Int).toNat))
noncomputable def loB (x : Int) : Int := Builtin.bitOr 128 (Builtin.bitAnd x 63)
noncomputable def backOk (x : Int) : Bool := iLt x 128 || (!(iLt (hiB x) 128) && (iLe 194 (hiB x) && iLe (hiB x) 223) && iEq (Builtin.bitAnd (loB x) 192) 128 && iEq (Builtin.bitOr (Builtin.bitAnd (hiB x) 31 * 2 ^ (6 : Int).toNat) (Builtin.bitAnd (loB x) 63)) x)
theorem back2048 : ∀ n : Fin 2048, backOk (n.val : Int) = true := by decide +kernel
theorem back_ok {x : Int} (h : 0 ≤ x ∧ x < 2048) (hx : iLt x 128 = false) : iLt (hiB x) 128 = false ∧ (!(iLe 194 (hiB x) && iLe (hiB x) 223)) = false ∧ (!iEq (Builtin.bitAnd (loB x) 192) 128) = false ∧ Builtin.bitOr (Builtin.bitAnd (hiB x) 31 * 2 ^ (6 : Int).toNat) (Builtin.bitAnd (loB x) 63) = x := by
  obtain ⟨k, rfl⟩ := Int.eq_ofNat_of_zero_le h.1
  have z := (or_f hx).symm.trans (back2048 ⟨k, Int.ofNat_lt.mp h.2⟩)
  have z := Bool.and_eq_true_iff.mp z
  have y := Bool.and_eq_true_iff.mp z.1
  have w := Bool.and_eq_true_iff.mp y.1
  exact ⟨not_t w.1, nT w.2, nT y.2, iEq_t z.2⟩
theorem getD0 {X D Z : List Int} (x : Int) : (X ++ (x :: D ++ Z)).getD ((X.length : Int)).toNat 0 = x := getD_at (D := x :: D) (j := 0) (Nat.succ_pos _)
theorem getD1 {X Z : List Int} (x y : Int) : (X ++ ([x, y] ++ Z)).getD ((X.length : Int) + 1).toNat 0 = y := getD_at (D := [x, y]) (j := 1) (Nat.lt_succ_self _)
theorem in_len {X D : List Int} {k : Nat} (h : k < D.length) : iLe ((X ++ D).length : Int) ((X.length : Int) + (k : Int)) = false := decide_eq_false (by rw [List.length_append]; omega)
theorem codeAt_ok {X Z : List Int} {u8 : Bool} {x : Int} (h : 0 ≤ x ∧ x < 2048) : codeAt (X ++ (cd u8 x ++ Z)) u8 (X.length : Int) = some (x, (X.length : Int) + ((cd u8 x).length : Int)) := by
  have one : ∀ {c : Bool}, (!c || iLt x 128) = true → codeAt (X ++ ([x] ++ Z)) c (X.length : Int) = some (x, (X.length : Int) + 1) := by
    intro c hc
    have l : iLe ((X ++ ([x] ++ Z)).length : Int) (X.length : Int) = false := in_len (k := 0) (Nat.succ_pos _)
    have g := getD0 (X := X) (D := []) (Z := Z) x
    unfold codeAt
    rw [cf l, show ([x] ++ Z) = ([x] ++ Z) from rfl, g, ct hc]
  cases u8 with
  | false => exact one rfl
  | true =>
    cases hx : iLt x 128 with
    | true =>
      have e : cd true x = [x] := ct hx
      rw [e]; exact one (by rw [hx]; rfl)
    | false =>
      have e : cd true x = [hiB x, loB x] := cf hx
      obtain ⟨b1, b2, b3, b4⟩ := back_ok h hx
      rw [e]
      have l0 : iLe ((X ++ ([hiB x, loB x] ++ Z)).length : Int) (X.length : Int) = false := in_len (k := 0) (Nat.succ_pos _)
      have l1 : iLe ((X ++ ([hiB x, loB x] ++ Z)).length : Int) ((X.length : Int) + 1) = false := in_len (k := 1) (Nat.succ_lt_succ (Nat.succ_pos _))
      have g0 := getD0 (X := X) (D := [loB x]) (Z := Z) (hiB x)
      have g1 := getD1 (X := X) (Z := Z) (hiB x) (loB x)
      unfold codeAt
      rw [cf l0, cf l1, g0, g1, cf b2, cf b3, b4, cf (show (!true || iLt (hiB x) 128) = false from b1)]
      rfl
theorem codeAt_cut {X : List Int} {u8 : Bool} {x : Int} {j : Nat} (h : 0 ≤ x ∧ x < 2048) (hj : j < (cd u8 x).length) : codeAt (X ++ (cd u8 x).take j) u8 (X.length : Int) = none := by
  have nil : ∀ {c : Bool}, codeAt (X ++ []) c (X.length : Int) = none := ct (decide_eq_true (by rw [List.append_nil]; exact Int.le_refl _))
  cases j with
  | zero => exact nil
  | succ j =>
    cases u8 with
    | false => exact absurd hj (Nat.not_lt.mpr (Nat.succ_le_succ (Nat.zero_le _)))
    | true =>
      cases hx : iLt x 128 with
      | true =>
        have e : cd true x = [x] := ct hx
        rw [e] at hj; exact absurd hj (Nat.not_lt.mpr (Nat.succ_le_succ (Nat.zero_le _)))
      | false =>
        have e : cd true x = [hiB x, loB x] := cf hx
        obtain ⟨b1, b2, b3, b4⟩ := back_ok h hx
        rw [e] at hj ⊢
        have j0 : j = 0 := Nat.lt_one_iff.mp (Nat.lt_of_succ_lt_succ hj)
        subst j0
        have l0 : iLe ((X ++ [hiB x, loB x].take 1).length : Int) (X.length : Int) = false := in_len (D := [hiB x]) (k := 0) (Nat.succ_pos _)
        have l1 : iLe ((X ++ [hiB x, loB x].take 1).length : Int) ((X.length : Int) + 1) = true := decide_eq_true (by rw [List.length_append]; exact Int.le_refl _)
        have g0 := getD0 (X := X) (D := []) (Z := []) (hiB x)
        have g0 : (X ++ [hiB x, loB x].take 1).getD ((X.length : Int)).toNat 0 = hiB x := g0
        unfold codeAt
        rw [cf l0, g0, cf b2, ct l1, cf (show (!true || iLt (hiB x) 128) = false from b1)]
theorem readN_ok {u8 : Bool} {Z : List Int} : ∀ (xs : List Int) (X : List Int), (∀ x ∈ xs, 32 ≤ x ∧ x < 2048) → readN (X ++ (cds u8 xs ++ Z)) u8 xs.length (X.length : Int) = some (xs.map (· - 32), (X.length : Int) + ((cds u8 xs).length : Int))
  | [], X, _ => by show some ([], _) = some ([], _ + 0); rw [Int.add_zero]
  | x :: xs, X, h => by
    have hx := h x List.mem_cons_self
    have ih := readN_ok (u8 := u8) (Z := Z) xs (X ++ cd u8 x) fun y hy => h y (.tail _ hy)
    have e : X ++ (cds u8 (x :: xs) ++ Z) = X ++ (cd u8 x ++ (cds u8 xs ++ Z)) := by rw [cds, List.append_assoc]
    have e2 : X ++ (cd u8 x ++ (cds u8 xs ++ Z)) = (X ++ cd u8 x) ++ (cds u8 xs ++ Z) := by rw [List.append_assoc]
    rw [e, List.length_cons, readN, codeAt_ok ⟨Int.le_trans (by decide) hx.1, hx.2⟩, Option.bind_some]
    refine (cf (decide_eq_false (Int.not_lt.mpr hx.1))).trans ?_
    rw [List.length_append] at ih
    show Option.map _ (readN _ u8 xs.length ((X.length : Int) + ((cd u8 x).length : Int))) = _
    rw [e2, ← Int.natCast_add, ih, Option.map_some, cds, List.length_append, ← Int.natCast_add, ← Int.natCast_add, Nat.add_assoc]
    rfl
theorem readN_cut {u8 : Bool} : ∀ (xs : List Int) (X : List Int) (j : Nat), (∀ x ∈ xs, 32 ≤ x ∧ x < 2048) → j < (cds u8 xs).length → readN (X ++ (cds u8 xs).take j) u8 xs.length (X.length : Int) = none
  | [], X, j, _, hj => absurd hj (Nat.not_lt_zero _)
  | x :: xs, X, j, h, hj => by
    have hx := h x List.mem_cons_self
    have hx0 : 0 ≤ x ∧ x < 2048 := ⟨Int.le_trans (by decide) hx.1, hx.2⟩
    rw [List.length_cons, readN]
    rw [cds, List.length_append] at hj
    rw [cds]
    rcases Nat.lt_or_ge j (cd u8 x).length with l | l
    · rw [List.take_append_of_le_length (Nat.le_of_lt l), codeAt_cut hx0 l]; rfl
    · obtain ⟨i, rfl⟩ := Nat.exists_eq_add_of_le l
      have ih := readN_cut (u8 := u8) xs (X ++ cd u8 x) i (fun y hy => h y (.tail _ hy)) (Nat.lt_of_add_lt_add_left hj)
      rw [List.take_length_add_append, codeAt_ok hx0, Option.bind_some]
      refine (cf (decide_eq_false (Int.not_lt.mpr hx.1))).trans ?_
      rw [List.length_append] at ih
      show Option.map _ (readN _ u8 xs.length ((X.length : Int) + ((cd u8 x).length : Int))) = _
      rw [← List.append_assoc, ← Int.natCast_add, ih]
      rfl
theorem plain_cds {most : Int} {u8 : Bool} {a b c : Int} (h : plainOf most u8 a b c ≠ []) : plainOf most u8 a b c = [27, 91, 77] ++ cds u8 [a + 32, b + 32, c + 32] ∧ a ≤ most ∧ b ≤ most ∧ c ≤ most := by
  unfold plainOf at h ⊢
  have hm := most_all (most := most) (a := a) (b := b) (c := c)
  generalize [a, b, c].filter (fun z => iLt most z) = ys at h hm ⊢
  cases ys with
  | cons x r => exact absurd rfl h
  | nil =>
    refine ⟨?_, hm rfl⟩
    cases u8
    · rfl
    · show [27, 91, 77] ++ (codeOf (a + 32) ++ [] ++ (codeOf (b + 32) ++ [] ++ codeOf (c + 32))) = [27, 91, 77] ++ (codeOf (a + 32) ++ (codeOf (b + 32) ++ (codeOf (c + 32) ++ [])))
      simp only [List.append_nil]
theorem cut3 {X Y : List Int} : cut (X ++ Y) (some (X.length : Int)) (some ((X.length : Int) + 3)) = Y.take 3 := cut_at (j := 3) rfl rfl
theorem cut2 {X Y : List Int} : cut (X ++ Y) (some (X.length : Int)) (some ((X.length : Int) + 2)) = Y.take 2 := cut_at (j := 2) rfl rfl
theorem esc_d {d e : Int} (h : d ≤ 57) (he : 58 ≤ e) : bEq [27, 91, d] [27, 91, e] = false := decide_eq_false fun q => by
  injection q with _ q
  injection q with _ q
  injection q with q _
  omega
theorem digs_cons (m : Int) : ∃ d r, digs m = d :: r ∧ 48 ≤ d ∧ d ≤ 57 := by
  cases h : digs m with
  | nil => exfalso; unfold digs at h; rw [rdig_eq] at h; simp at h
  | cons d r => exact ⟨d, r, rfl, digs_byte m d (by rw [h]; exact List.mem_cons_self)⟩
theorem decOf_cons (a b c : Int) : ∃ d r, decOf a b c = d :: r ∧ 48 ≤ d ∧ d ≤ 57 := by
  obtain ⟨d, r, h, h1⟩ := digs_cons a
  exact ⟨d, _, by unfold decOf; rw [h]; rfl, h1⟩
theorem at_run {X H D : List Int} {k : Nat} (hk : H.length = k) (Z : List Int) (hD : ∀ x ∈ D, isDS x = true) (hL : D.length ≤ 23) (hZ : Z = [] ∨ ∃ e r, Z = e :: r ∧ isDS e = false) : Run (X ++ (H ++ (D ++ Z))) ((X.length : Int) + (k : Int)) D.length := by
  subst hk
  rw [← List.append_assoc]
  exact run_of (X := X ++ H) (by rw [List.length_append]; rfl) hD hL hZ
theorem at_end {X H D r : List Int} {e : Int} {k : Nat} (hk : H.length = k) : (X ++ (H ++ (D ++ e :: r))).getD ((X.length : Int) + (k : Int) + (D.length : Int)).toNat 0 = e := by
  subst hk
  have := getD_end (X := X ++ H) (D := D) (Z := r) (e := e)
  rw [← List.append_assoc]
  rw [List.length_append] at this
  exact this
theorem at_in {X H D r : List Int} {e : Int} {k : Nat} (hk : H.length = k) : iLe ((X ++ (H ++ (D ++ e :: r))).length : Int) ((X.length : Int) + (k : Int) + (D.length : Int)) = false := decide_eq_false (by simp only [List.length_append, List.length_cons]; omega)
theorem at_out {X H D : List Int} {k : Nat} (hk : H.length = k) : iLe ((X ++ (H ++ D)).length : Int) ((X.length : Int) + (k : Int) + (D.length : Int)) = true := decide_eq_true (by simp only [List.length_append]; omega)
theorem at_daV {X H Z : List Int} {x y z : Int} {k : Nat} (hk : H.length = k) (x0 : 0 ≤ x) (y0 : 0 ≤ y) (z0 : 0 ≤ z) : daV (X ++ (H ++ (decOf x y z ++ Z))) ((X.length : Int) + (k : Int)) ((X.length : Int) + (k : Int) + (decOf x y z).length) = [.int x, .int y, .int z] := by
  subst hk
  rw [← List.append_assoc]
  exact daV_of (X := X ++ H) (by rw [List.length_append]; rfl) x0 y0 z0
theorem at_len {X H D Z : List Int} (hX : X.length ≤ 10) (hH : H.length ≤ 10) (hD : D.length ≤ 23) (hZ : Z.length ≤ 10) : (X ++ (H ++ (D ++ Z))).length ≤ 100000 := by simp only [List.length_append]; omega
structure EvOk (kd : Kd) (b row col m : Int) : Prop where
  b0 : 0 ≤ b ∧ b < 12
  dom : domB kd b = true
  m0 : 0 ≤ m ∧ m < 8
  r0 : 0 ≤ row ∧ row ≤ 3000
  c0 : 0 ≤ col ∧ col ≤ 3000
noncomputable abbrev btn (kd : Kd) (b : Int) (nm : Bool) : Int := cond (kd.rel && !nm) 0 b
section
variable {kd : Kd} {b row col m wide high : Int}
theorem rb_sgr (n : Nat) (X : List Int) (u8 : Bool) (c2 r2 cw ch : Int) (O : Ost) (h : EvOk kd b row col m) (hX : X.length ≤ 10) (c0 : 1 ≤ c2 ∧ c2 < 1000000) (r0 : 1 ≤ r2 ∧ r2 < 1000000) (hw : max 1 cw ≠ 0 ∧ smallI (max 1 cw)) (hh : max 1 ch ≠ 0 ∧ smallI (max 1 ch)) :
    CallJ (R (tabs a₀ ns₀) (n + 75)) 197 (rdA (X ++ ([27, 91, 60] ++ (decOf (numberOf kd b m true) c2 r2 ++ cond kd.rel 109 77 :: [77, 49]))) X.length u8 cw ch) O
      (TupEv kd (btn kd b true) ((r2 - 1).fdiv (max 1 ch)) ((c2 - 1).fdiv (max 1 cw)) m ((X.length : Int) + 3 + (decOf (numberOf kd b m true) c2 r2).length + 1) O) := by
  obtain ⟨f1, f2⟩ := num_f (kd := kd) true h.b0 h.m0 h.dom
  have fb := num_b (kd := kd) true h.b0 h.m0
  have l := len23 (ib3 fb) ⟨Int.le_trans (by decide) c0.1, c0.2⟩ ⟨Int.le_trans (by decide) r0.1, r0.2⟩
  have hq := rd_sgr_ok a₀ ns₀ n kd kd.rel (decOf (numberOf kd b m true) c2 r2).length (numberOf kd b m true) c2 r2 (b := X ++ ([27, 91, 60] ++ (decOf (numberOf kd b m true) c2 r2 ++ cond kd.rel 109 77 :: [77, 49]))) (p := X.length) (u8 := u8) (cw := cw) (ch := ch) (O := O)
    (at_len hX (by decide) l (by exact Nat.le_of_ble_eq_true rfl)) (by rw [cut3]; rfl) (by rw [cut3]; rfl) (at_run rfl _ (dec_ds _ _ _) l (.inr ⟨_, _, rfl, by cases kd.rel <;> rfl⟩)) (at_in rfl) (at_end rfl) (at_daV rfl fb.1 (Int.le_trans (by decide) c0.1) (Int.le_trans (by decide) r0.1)) fb.1 fb.2
    (decide_eq_false (Int.not_lt.mpr c0.1)) (decide_eq_false (Int.not_lt.mpr r0.1)) hw hh (num_kind h.b0 h.m0 h.dom).1
  rw [f1, f2] at hq
  exact hq
theorem rb_urx (n : Nat) (X : List Int) (u8 : Bool) (cw ch : Int) (O : Ost) (h : EvOk kd b row col m) (hX : X.length ≤ 10) :
    CallJ (R (tabs a₀ ns₀) (n + 75)) 197 (rdA (X ++ ([27, 91] ++ (decOf (numberOf kd b m false + 32) (col + 1) (row + 1) ++ 77 :: [77, 49]))) X.length u8 cw ch) O
      (TupEv kd (btn kd b false) row col m ((X.length : Int) + 2 + (decOf (numberOf kd b m false + 32) (col + 1) (row + 1)).length + 1) O) := by
  obtain ⟨f1, f2⟩ := num_f (kd := kd) false h.b0 h.m0 h.dom
  have fb := num_b (kd := kd) false h.b0 h.m0
  have l := len23 (ib4 fb) (ib1 h.c0) (ib1 h.r0)
  have hd : ∀ {e : Int}, 58 ≤ e → bEq (cut (X ++ ([27, 91] ++ (decOf (numberOf kd b m false + 32) (col + 1) (row + 1) ++ 77 :: [77, 49]))) (some (X.length : Int)) (some ((X.length : Int) + 3))) [27, 91, e] = false := by
    intro e he
    obtain ⟨d, r, hdr, hd0, hd1⟩ := decOf_cons (numberOf kd b m false + 32) (col + 1) (row + 1)
    rw [cut3, hdr]
    exact esc_d hd1 he
  have hq := rd_urx_ok a₀ ns₀ n kd (decOf (numberOf kd b m false + 32) (col + 1) (row + 1)).length (numberOf kd b m false + 32) (col + 1) (row + 1) (b := X ++ ([27, 91] ++ (decOf (numberOf kd b m false + 32) (col + 1) (row + 1) ++ 77 :: [77, 49]))) (p := X.length) (u8 := u8) (cw := cw) (ch := ch) (O := O)
    (at_len hX (by decide) l (by decide)) (hd (by decide)) (hd (by decide)) (by rw [cut2]; rfl) (at_run rfl _ (dec_ds _ _ _) l (.inr ⟨_, _, rfl, rfl⟩)) (at_in rfl) (at_end rfl) (at_daV rfl (ib4 fb).1 (ib1 h.c0).1 (ib1 h.r0).1)
    (decide_eq_false (by omega)) (by rw [Int.add_sub_cancel]; exact fb.1) (by rw [Int.add_sub_cancel]; exact fb.2) (decide_eq_false (by have := h.c0; omega)) (decide_eq_false (by have := h.r0; omega)) s1 (by rw [Int.add_sub_cancel]; exact (num_kind h.b0 h.m0 h.dom).2)
  rw [Int.add_sub_cancel, Int.add_sub_cancel, Int.add_sub_cancel, Int.fdiv_one, Int.fdiv_one, f1, f2] at hq
  exact hq
theorem rb_plain (n : Nat) (X : List Int) (u8 : Bool) (cw ch : Int) (O : Ost) (h : EvOk kd b row col m) (hX : X.length ≤ 10) (q1 : numberOf kd b m false ≤ 2015) (q2 : col + 1 ≤ 2015) (q3 : row + 1 ≤ 2015) (Z : List Int) (hZ : Z.length ≤ 10) :
    CallJ (R (tabs a₀ ns₀) (n + 75)) 197 (rdA (X ++ ([27, 91, 77] ++ (cds u8 [numberOf kd b m false + 32, col + 1 + 32, row + 1 + 32] ++ Z))) X.length u8 cw ch) O
      (TupEv kd (btn kd b false) row col m ((X.length : Int) + 3 + (cds u8 [numberOf kd b m false + 32, col + 1 + 32, row + 1 + 32]).length) O) := by
  obtain ⟨f1, f2⟩ := num_f (kd := kd) false h.b0 h.m0 h.dom
  have fb := num_b (kd := kd) false h.b0 h.m0
  have hr := readN_ok (u8 := u8) (Z := Z) [numberOf kd b m false + 32, col + 1 + 32, row + 1 + 32] (X ++ [27, 91, 77]) (by
    have := h.c0
    have := h.r0
    intro x hx
    simp only [List.mem_cons, List.not_mem_nil, or_false] at hx
    omega)
  have cl : ∀ x, (cd u8 x).length ≤ 2 := fun x => by cases u8; exact Nat.succ_le_succ (Nat.zero_le _); exact codeOf_len x
  have hl : (X ++ ([27, 91, 77] ++ (cds u8 [numberOf kd b m false + 32, col + 1 + 32, row + 1 + 32] ++ Z))).length ≤ 1000000 := by
    have l1 := cl (numberOf kd b m false + 32)
    have l2 := cl (col + 1 + 32)
    have l3 := cl (row + 1 + 32)
    simp only [cds, List.length_append, List.length_cons, List.length_nil]; omega
  rw [List.append_assoc, List.length_append] at hr
  have hq := rd_plain_ok a₀ ns₀ n kd (numberOf kd b m false + 32 - 32) (col + 1 + 32 - 32) (row + 1 + 32 - 32) _ (cw := cw) (ch := ch) (O := O) hl (Int.add_nonneg (Int.natCast_nonneg _) (by decide)) (by rw [cut3]; rfl) hr (by rw [Int.add_sub_cancel]; exact fb.1) (by rw [Int.add_sub_cancel]; exact fb.2)
    (decide_eq_false (by have := h.c0; omega)) (decide_eq_false (by have := h.r0; omega)) (by rw [Int.add_sub_cancel]; exact (num_kind h.b0 h.m0 h.dom).2)
  rw [Int.add_sub_cancel, Int.add_sub_cancel, Int.add_sub_cancel, Int.add_sub_cancel, Int.add_sub_cancel, Int.fdiv_one, Int.fdiv_one, f1, f2] at hq
  exact hq
end
noncomputable def Wy.named (wy : Wy) : Bool := wy.casesOn false false true false true
noncomputable def Wy.u8 (wy : Wy) : Bool := wy.casesOn false true false false false
noncomputable def Wy.px (wy : Wy) : Bool := wy.casesOn false false false false true
section
variable {kd : Kd} {b row col m wide high : Int}
theorem mx_0 : max 1 (0 : Int) = 1 := rfl
theorem mx_s {s : Int} (h : 1 ≤ s) : max 1 s = s := by omega
theorem mx_ok {s : Int} (h : 1 ≤ s ∧ s ≤ 9) : max 1 s ≠ 0 ∧ smallI (max 1 s) := by unfold smallI; omega
theorem cell_b {r s : Int} (h : 0 ≤ r ∧ r ≤ 3000) (hs : 1 ≤ s ∧ s ≤ 9) : 0 ≤ r * s ∧ r * s < 900000 := by
  refine ⟨Int.mul_nonneg h.1 (Int.le_trans (by decide) hs.1), ?_⟩
  have := Int.mul_le_mul h.2 hs.2 (Int.le_trans (by decide) hs.1) (by decide)
  omega
theorem cell_c {x : Int} (h : 0 ≤ x ∧ x < 900000) : 1 ≤ x + 1 ∧ x + 1 < 1000000 := by omega
theorem back_0 {r : Int} : (r + 1 - 1).fdiv (max 1 0) = r := by rw [mx_0, Int.add_sub_cancel, Int.fdiv_one]
theorem back_s {r s : Int} (h : 1 ≤ s) : (r * s + 1 - 1).fdiv (max 1 s) = r := by
  rw [mx_s h, Int.add_sub_cancel, Int.fdiv_eq_ediv_of_nonneg _ (Int.le_trans (by decide) h), Int.mul_ediv_cancel _ (Int.ne_of_gt h)]
theorem sh_dec {X H D : List Int} {e : Int} : X ++ (H ++ D ++ [e]) ++ [77, 49] = X ++ (H ++ (D ++ e :: [77, 49])) := by simp only [List.append_assoc, List.cons_append, List.nil_append]
theorem ln_dec {X H D : List Int} {e k : Int} (hk : (H.length : Int) = k) : (X.length : Int) + k + (D.length : Int) + 1 = (X.length : Int) + ((H ++ D ++ [e]).length : Int) := by subst hk; simp only [List.length_append, List.length_cons, List.length_nil]; omega
theorem sh_pl {X H D : List Int} : X ++ (H ++ D) ++ [77, 49] = X ++ (H ++ (D ++ [77, 49])) := by simp only [List.append_assoc]
theorem ln_pl {X H D : List Int} {k : Int} (hk : (H.length : Int) = k) : (X.length : Int) + k + (D.length : Int) = (X.length : Int) + ((H ++ D).length : Int) := by subst hk; rw [List.length_append]; omega
theorem read_back (n : Nat) (wy : Wy) (X : List Int) (O : Ost) (h : EvOk kd b row col m) (hX : X.length ≤ 10) (hw : 1 ≤ wide ∧ wide ≤ 9) (hh : 1 ≤ high ∧ high ≤ 9) (hne : wroteOf wy kd b row col m wide high ≠ []) :
    CallJ (R (tabs a₀ ns₀) (n + 75)) 197 (rdA (X ++ wroteOf wy kd b row col m wide high ++ [77, 49]) X.length wy.u8 (cond wy.px wide 0) (cond wy.px high 0)) O (TupEv kd (btn kd b wy.named) row col m ((X.length : Int) + (wroteOf wy kd b row col m wide high).length) O) := by
  cases wy with
  | sgr =>
    have hq := rb_sgr a₀ ns₀ n X false (col + 1) (row + 1) 0 0 O h hX (by have := h.c0; omega) (by have := h.r0; omega) s1 s1
    rw [back_0, back_0, ← sh_dec, ln_dec (H := [27, 91, 60]) (e := cond kd.rel 109 77) (k := 3) rfl] at hq
    exact hq
  | pixels =>
    have hq := rb_sgr a₀ ns₀ n X false (col * wide + 1) (row * high + 1) wide high O h hX (cell_c (cell_b h.c0 hw)) (cell_c (cell_b h.r0 hh)) (mx_ok hw) (mx_ok hh)
    rw [back_s hw.1, back_s hh.1, ← sh_dec, ln_dec (H := [27, 91, 60]) (e := cond kd.rel 109 77) (k := 3) rfl] at hq
    exact hq
  | urxvt =>
    have hq := rb_urx a₀ ns₀ n X false 0 0 O h hX
    rw [← sh_dec, ln_dec (H := [27, 91]) (e := 77) (k := 2) rfl] at hq
    exact hq
  | utf8 =>
    obtain ⟨e, q1, q2, q3⟩ := plain_cds (u8 := true) (most := 2015) hne
    have hq := rb_plain a₀ ns₀ n X true 0 0 O h hX q1 q2 q3 [77, 49] (by decide)
    rw [← sh_pl, ln_pl (H := [27, 91, 77]) (k := 3) rfl, ← e] at hq
    exact hq
  | no =>
    obtain ⟨e, q1, q2, q3⟩ := plain_cds (u8 := false) (most := 223) hne
    have hq := rb_plain a₀ ns₀ n X false 0 0 O h hX (Int.le_trans q1 (by decide)) (Int.le_trans q2 (by decide)) (Int.le_trans q3 (by decide)) [77, 49] (by decide)
    rw [← sh_pl, ln_pl (H := [27, 91, 77]) (k := 3) rfl, ← e] at hq
    exact hq
theorem cut_head (n : Nat) (u8 : Bool) (R' : List Int) (c : Nat) (cw ch : Int) (O : Ost) (hc : c ≤ 2) : CallX (R (tabs a₀ ns₀) (n + 75)) 197 (rdA ((27 :: 91 :: R').take c) 0 u8 cw ch) O .none := by
  match c, hc with
  | 0, _ => exact rd_short a₀ ns₀ n (b := []) (p := 0) (by decide) rfl rfl rfl
  | 1, _ => exact rd_short a₀ ns₀ n (b := [27]) (p := 0) (by decide) rfl rfl rfl
  | 2, _ => exact rd_urx_no a₀ ns₀ n 0 (b := [27, 91]) (p := 0) (by decide) rfl rfl rfl (at_run (X := []) (H := [27, 91]) (D := []) rfl [] (fun _ h => nomatch h) (by decide) (.inl rfl)) (at_out (X := []) (H := [27, 91]) (D := []) rfl)
theorem c3 {a b c : Int} {D : List Int} : cut ([a, b, c] ++ D) (some 0) (some (0 + 3)) = [a, b, c] := cut3 (X := [])
theorem c2 {a b : Int} {D : List Int} : cut ([a, b] ++ D) (some 0) (some (0 + 2)) = [a, b] := cut2 (X := [])
theorem tl3 {H T : List Int} {k : Nat} (hH : H.length ≤ 3) (h : T.length ≤ k) : (H ++ T).length ≤ 3 + k := by rw [List.length_append]; exact Nat.add_le_add hH h
theorem ds_take {a b c : Int} {j : Nat} : ∀ x ∈ (decOf a b c).take j, isDS x = true := fun x h => dec_ds a b c x (List.mem_of_mem_take h)
theorem take_len {D : List Int} {j : Nat} (h : D.length ≤ 23) : (D.take j).length ≤ 23 := by rw [List.length_take]; exact Nat.le_trans (Nat.min_le_right _ _) h
theorem take_dec {H D : List Int} {e : Int} {j k : Nat} (hk : H.length = k) (h : k + j < (H ++ D ++ [e]).length) : (H ++ D ++ [e]).take (k + j) = H ++ D.take j := by
  subst hk
  rw [List.length_append, List.length_append] at h
  rw [List.append_assoc, List.take_length_add_append, List.take_append_of_le_length (Nat.le_of_lt_succ (Nat.lt_of_add_lt_add_left (n := H.length) (by rw [Nat.add_assoc] at h; exact h)))]
theorem cut_sgr (n : Nat) (u8 : Bool) (x y z e : Int) (c : Nat) (cw ch : Int) (O : Ost) (l : (decOf x y z).length ≤ 23) (hc : c < ([27, 91, 60] ++ decOf x y z ++ [e]).length) : CallX (R (tabs a₀ ns₀) (n + 75)) 197 (rdA (([27, 91, 60] ++ decOf x y z ++ [e]).take c) 0 u8 cw ch) O .none := by
  rcases Nat.lt_or_ge 2 c with q | q
  · obtain ⟨j, rfl⟩ := Nat.exists_eq_add_of_le q
    rw [take_dec (k := 3) rfl hc]
    have r := at_run (X := []) (H := [27, 91, 60]) (D := (decOf x y z).take j) (k := 3) rfl [] ds_take (take_len l) (.inl rfl)
    rw [List.append_nil] at r
    exact rd_sgr_no a₀ ns₀ n _ (p := 0) (Nat.le_trans (tl3 (by decide) (take_len l)) (by decide : 3 + 23 ≤ 100000)) (by rw [c3]; rfl) (by rw [c3]; rfl) r (at_out (X := []) (H := [27, 91, 60]) (k := 3) rfl)
  · exact cut_head a₀ ns₀ n u8 _ c cw ch O q
theorem cut_urx (n : Nat) (u8 : Bool) (x y z e : Int) (c : Nat) (cw ch : Int) (O : Ost) (l : (decOf x y z).length ≤ 23) (hc : c < ([27, 91] ++ decOf x y z ++ [e]).length) : CallX (R (tabs a₀ ns₀) (n + 75)) 197 (rdA (([27, 91] ++ decOf x y z ++ [e]).take c) 0 u8 cw ch) O .none := by
  rcases Nat.lt_or_ge 2 c with q | q
  · obtain ⟨i, rfl⟩ := Nat.exists_eq_add_of_le q
    have hi : 2 + 1 + i = 2 + (i + 1) := by omega
    rw [hi] at hc ⊢
    rw [take_dec (k := 2) rfl hc]
    obtain ⟨d, r, hdr, hd0, hd1⟩ := decOf_cons x y z
    have r' := at_run (X := []) (H := [27, 91]) (D := (decOf x y z).take (i + 1)) (k := 2) rfl [] ds_take (take_len l) (.inl rfl)
    rw [List.append_nil] at r'
    have hd : ∀ {e : Int}, 58 ≤ e → bEq (cut ([27, 91] ++ (decOf x y z).take (i + 1)) (some 0) (some (0 + 3))) [27, 91, e] = false := fun {e} he => by
      have z := cut3 (X := []) (Y := [27, 91] ++ (decOf x y z).take (i + 1))
      rw [hdr] at z ⊢
      exact (congrArg (fun q => bEq q [27, 91, e]) z).trans (esc_d hd1 he)
    exact rd_urx_no a₀ ns₀ n _ (p := 0) (Nat.le_trans (tl3 (by decide) (take_len l)) (by decide : 3 + 23 ≤ 100000)) (hd (by decide)) (hd (by decide)) (by rw [c2]; rfl) r' (at_out (X := []) (H := [27, 91]) (k := 2) rfl)
  · exact cut_head a₀ ns₀ n u8 _ c cw ch O q
theorem cut_pl (n : Nat) (u8 : Bool) (xs : List Int) (hn : xs.length = 3) (c : Nat) (cw ch : Int) (O : Ost) (h : ∀ x ∈ xs, 32 ≤ x ∧ x < 2048) (hl : (cds u8 xs).length ≤ 6) (hc : c < ([27, 91, 77] ++ cds u8 xs).length) : CallX (R (tabs a₀ ns₀) (n + 75)) 197 (rdA (([27, 91, 77] ++ cds u8 xs).take c) 0 u8 cw ch) O .none := by
  rcases Nat.lt_or_ge 2 c with q | q
  · obtain ⟨j, rfl⟩ := Nat.exists_eq_add_of_le q
    have e : ([27, 91, 77] ++ cds u8 xs).take (2 + 1 + j) = [27, 91, 77] ++ (cds u8 xs).take j := List.take_length_add_append (l₁ := [27, 91, 77]) j
    rw [e]
    have z := readN_cut (u8 := u8) xs [27, 91, 77] j h (Nat.lt_of_add_lt_add_left (n := 3) (by rw [List.length_append] at hc; exact hc))
    rw [hn] at z
    exact rd_plain_no a₀ ns₀ n (p := 0) (Nat.le_trans (tl3 (by decide) (Nat.le_trans (Nat.le_trans (Nat.le_of_eq List.length_take) (Nat.min_le_right _ _)) hl)) (by decide : 3 + 6 ≤ 1000000)) (by decide) (by rw [c3]; rfl) z
  · exact cut_head a₀ ns₀ n u8 _ c cw ch O q
theorem cds_len {u8 : Bool} {x y z : Int} : (cds u8 [x, y, z]).length ≤ 6 := by
  have cl : ∀ x, (cd u8 x).length ≤ 2 := fun x => by cases u8; exact Nat.succ_le_succ (Nat.zero_le _); exact codeOf_len x
  have l1 := cl x
  have l2 := cl y
  have l3 := cl z
  simp only [cds, List.length_append, List.length_nil]; omega
theorem cds_b {most N r c : Int} (h : most ≤ 2015) (h0 : 0 ≤ N) (h1 : N ≤ most) (r0 : 0 ≤ r) (r1 : r + 1 ≤ most) (c0 : 0 ≤ c) (c1 : c + 1 ≤ most) : ∀ x ∈ [N + 32, c + 1 + 32, r + 1 + 32], 32 ≤ x ∧ x < 2048 := by
  intro x hx
  simp only [List.mem_cons, List.not_mem_nil, or_false] at hx
  omega
theorem read_cut (n : Nat) (wy : Wy) (c : Nat) (cw ch : Int) (O : Ost) (h : EvOk kd b row col m) (hw : 1 ≤ wide ∧ wide ≤ 9) (hh : 1 ≤ high ∧ high ≤ 9) (hne : wroteOf wy kd b row col m wide high ≠ []) (hc : c < (wroteOf wy kd b row col m wide high).length) :
    CallX (R (tabs a₀ ns₀) (n + 75)) 197 (rdA ((wroteOf wy kd b row col m wide high).take c) 0 wy.u8 cw ch) O .none := by
  have fb := fun nm => num_b (kd := kd) nm h.b0 h.m0
  cases wy with
  | sgr => exact cut_sgr a₀ ns₀ n false _ _ _ _ c cw ch O (len23 (ib3 (fb true)) (ib1 h.c0) (ib1 h.r0)) hc
  | pixels => exact cut_sgr a₀ ns₀ n false _ _ _ _ c cw ch O (len23 (ib3 (fb true)) (ib2 (cell_b h.c0 hw)) (ib2 (cell_b h.r0 hh))) hc
  | urxvt => exact cut_urx a₀ ns₀ n false _ _ _ _ c cw ch O (len23 (ib4 (fb false)) (ib1 h.c0) (ib1 h.r0)) hc
  | utf8 =>
    obtain ⟨e, q1, q2, q3⟩ := plain_cds (u8 := true) (most := 2015) hne
    have e : wroteOf .utf8 kd b row col m wide high = _ := e
    rw [e] at hc ⊢
    exact cut_pl a₀ ns₀ n true _ rfl c cw ch O (cds_b (by decide) (fb false).1 q1 h.r0.1 q3 h.c0.1 q2) cds_len hc
  | no =>
    obtain ⟨e, q1, q2, q3⟩ := plain_cds (u8 := false) (most := 223) hne
    have e : wroteOf .no kd b row col m wide high = _ := e
    rw [e] at hc ⊢
    exact cut_pl a₀ ns₀ n false _ rfl c cw ch O (cds_b (by decide) (fb false).1 q1 h.r0.1 q3 h.c0.1 q2) cds_len hc
theorem wrote_len (wy : Wy) (h : EvOk kd b row col m) (hw : 1 ≤ wide ∧ wide ≤ 9) (hh : 1 ≤ high ∧ high ≤ 9) : (wroteOf wy kd b row col m wide high).length ≤ 40 := by
  have fb := fun nm => num_b (kd := kd) nm h.b0 h.m0
  have dl : ∀ {H D : List Int} {e : Int}, H.length ≤ 3 → D.length ≤ 23 → (H ++ D ++ [e]).length ≤ 40 := fun hH hD => by rw [List.length_append, List.length_append]; exact Nat.le_trans (Nat.add_le_add_right (Nat.add_le_add hH hD) 1) (by decide)
  have pl : ∀ {most u8 x y z}, (plainOf most u8 x y z).length ≤ 40 := fun {most u8 x y z} => by
    rcases Decidable.em (plainOf most u8 x y z = []) with e | e
    · rw [e]; exact Nat.zero_le _
    · rw [(plain_cds e).1, List.length_append]; exact Nat.le_trans (Nat.add_le_add_left cds_len 3) (by decide)
  cases wy with
  | sgr => exact dl (by decide) (len23 (ib3 (fb true)) (ib1 h.c0) (ib1 h.r0))
  | pixels => exact dl (by decide) (len23 (ib3 (fb true)) (ib2 (cell_b h.c0 hw)) (ib2 (cell_b h.r0 hh)))
  | urxvt => exact dl (by decide) (len23 (ib4 (fb false)) (ib1 h.c0) (ib1 h.r0))
  | utf8 => exact pl
  | no => exact pl
end
noncomputable def ItmAt (O : Ost) (i : Nat) (kd : Kd) (b row col mods : Int) : Prop := O[i]? = some (.tuple [.str kd.s, .int b, .int row, .int col, .int mods])
theorem ItmAt.ext {O O' : Ost} {i : Nat} {kd : Kd} {b row col mods : Int} (h : ItmAt O i kd b row col mods) (p : Ext O O') : ItmAt O' i kd b row col mods := p _ _ h
noncomputable def lawTold (md : Md) (kd : Kd) (b : Int) : Bool := match md with
  | .no => false
  | .x10 => kd.casesOn (iEq 1 b || (iEq 2 b || (iEq 3 b || false))) false false
  | .click => kd.casesOn true (!(iLe 4 b && iLe b 7)) false
  | .drag => kd.casesOn true (!(iLe 4 b && iLe b 7)) (iLt 0 b)
  | .all => kd.casesOn true (!(iLe 4 b && iLe b 7)) true
noncomputable def b2i (c : Bool) : Int := match c with | true => 1 | false => 0
noncomputable def lnA (kd : Kd) (b : Int) (nm : Bool) : Bool := iEq b 0 || (sEq kd.s (Str.ofString "release") && !nm)
noncomputable def lnC (b : Int) : Int := cond (iLe 4 b && iLe b 7) 60 (cond (iLt 7 b) 120 0)
noncomputable def lawN (kd : Kd) (b : Int) (nm : Bool) : Int := cond (lnA kd b nm) 3 (cond (lnA kd b nm) 3 (b - 1) + lnC b + b2i (iLt 3 b)) + 32 * b2i (sEq kd.s (Str.ofString "move"))
noncomputable def lawChk (kd : Kd) (b : Int) : Bool := !domB kd b || (([Md.no, .x10, .click, .drag, .all].all fun md => lawTold md kd b == md.told kd b) &&
  ([true, false].all fun nm => iEq (lawN kd b nm) (cond kd.mv (numOf0 kd b nm + 32) (numOf0 kd b nm))))
theorem lawAll : ∀ b : Fin 12, ([Kd.press, .release, .move].all fun kd => lawChk kd (b.val : Int)) = true := by decide +kernel
section
variable {kd : Kd} {b row col mods : Int}
theorem law_chk (hb : 0 ≤ b ∧ b < 12) (hd : domB kd b = true) : (∀ md, lawTold md kd b = md.told kd b) ∧ ∀ nm, lawN kd b nm = cond kd.mv (numOf0 kd b nm + 32) (numOf0 kd b nm) := by
  obtain ⟨x, rfl⟩ := Int.eq_ofNat_of_zero_le hb.1
  have z := List.all_eq_true.mp (lawAll ⟨x, Int.ofNat_lt.mp hb.2⟩) kd (by cases kd <;> simp)
  have z : (!domB kd (x : Int) || _) = true := z
  rw [hd] at z
  have z := Bool.and_eq_true_iff.mp z
  exact ⟨fun md => beq_iff_eq.mp (List.all_eq_true.mp z.1 md (by cases md <;> simp)), fun nm => iEq_t (List.all_eq_true.mp z.2 nm (by cases nm <;> simp))⟩
theorem bit7 {m : Int} (h : 0 ≤ m ∧ m < 8) : Builtin.bitAnd m 7 = m := by
  have t : ∀ a : Fin 8, Builtin.bitAnd (a.val : Int) 7 = (a.val : Int) := by decide +kernel
  obtain ⟨x, rfl⟩ := Int.eq_ofNat_of_zero_le h.1
  exact t ⟨x, Int.ofNat_lt.mp h.2⟩
theorem law_num {m : Int} (nm : Bool) (hb : 0 ≤ b ∧ b < 12) (hd : domB kd b = true) (hm : 0 ≤ m ∧ m < 8) : lawN kd b nm + 4 * m = numberOf kd b m nm := by
  unfold numberOf
  rw [(law_chk hb hd).2, bit7 hm]
theorem law_is_told (n : Nat) (i : Nat) (md : Md) (O : Ost) (he : ItmAt O i kd b row col mods) (hb : 0 ≤ b ∧ b < 12) (hd : domB kd b = true) : CallX (R (tabs a₀ ns₀) (n + 25)) 298 [.obj i, md.v] O (.bool (md.told kd b)) := by
  rw [← (law_chk hb hd).1]
  clear hb hd
  unfold ItmAt at he
  cases md <;> cases kd <;> ((refine CallS.mk ?_; intro G sp); (repeat' wtm_at "y"))
  all_goals first
    | exact sp ⟨rfl, by wtm_at "p"⟩
    | exact sp ⟨congrArg AV.bool (congrArg not (and_t hB).symm), by wtm_at "p"⟩
    | exact sp ⟨congrArg AV.bool (congrArg not (and_f hB).symm), by wtm_at "p"⟩
noncomputable def lnL (i : Nat) (v : AV) (nm : Bool) (x : Int) : Locs := [(Str.ofString "it", .obj i), (Str.ofString "mode", v), (Str.ofString "is_named", .bool nm), (Str.ofString "number", .int x)]
noncomputable def stS (i j : Nat) : Stmt := (st i j).elim (.Pass default) id
noncomputable def kont (k : AV → Ost → Tr) (f : AF) (_ : Locs) (O1 : Ost) : Tr := match f with
  | .ret v => k v O1
  | .next => k .none O1
  | _ => .fail
theorem CallS.mkB {tb : Tb} {n : Nat} {a : Addr} {vs : List AV} {O : Ost} {k : AV → Ost → Prop} (Γ : Cx) (body : List Stmt) (l : Locs) (h : ∀ k', stepC tb (R tb n) a vs O k' = exs (R tb n) Γ body l O (kont k'))
    (f : ∀ G : Prop, (exs (R tb n) Γ body l O (kont fun v O1 => .done (.v v O1))).Sp (kC k) G → G) : CallS (R tb (n + 1)) a vs O k := .mk fun G sp => f G (h _ ▸ sp)
noncomputable def Leaves (r : Rec) (Γ : Cx) (s : Stmt) (l l' : Locs) (O O' : Ost) : Prop := ∀ (ss : List Stmt) (K : AF → Locs → Ost → Tr) (D : Rs → Prop) (G : Prop), (exs r Γ (s :: ss) l O K).Sp D G → ((exs r Γ ss l' O' K).Sp D G → G) → G
noncomputable def Gives (r : Rec) (Γ : Cx) (s : Stmt) (l : Locs) (O : Ost) (v : AV) : Prop := ∀ (ss : List Stmt) (K : AF → Locs → Ost → Tr) (D : Rs → Prop) (G : Prop), (exs r Γ (s :: ss) l O K).Sp D G → (∀ l' O', Ext O O' → (K (.ret v) l' O').Sp D G → G) → G
section
variable {v : AV} {x y : Int} {nm : Bool}
theorem ln_3n (n : Nat) (i : Nat) (O : Ost) (he : ItmAt O i kd b row col mods) : Gives (R (tabs a₀ ns₀) (n + 24)) (gm 58) (stS 58 3) (lnL i .none nm x) O (.int (x + 32 * b2i (sEq kd.s (Str.ofString "move")) + 4 * mods)) := by
  intro ss K D G sp k
  unfold ItmAt at he
  (repeat' wtm_at "y")
  exact k _ _ (by wtm_at "p") sp
theorem ln_3t (n : Nat) (i : Nat) (s : Str) (O : Ost) (he : ItmAt O i kd b row col mods) (hs : sEq s (Str.ofString "mouse_x10") = true) : Gives (R (tabs a₀ ns₀) (n + 24)) (gm 58) (stS 58 3) (lnL i (.str s) nm x) O (.int (x + 32 * b2i (sEq kd.s (Str.ofString "move")) + 0)) := by
  intro ss K D G sp k
  unfold ItmAt at he
  (repeat' wtm_at "y")
  exact k _ _ (by wtm_at "p") sp
theorem ln_3f (n : Nat) (i : Nat) (s : Str) (O : Ost) (he : ItmAt O i kd b row col mods) (hs : sEq s (Str.ofString "mouse_x10") = false) : Gives (R (tabs a₀ ns₀) (n + 24)) (gm 58) (stS 58 3) (lnL i (.str s) nm x) O (.int (x + 32 * b2i (sEq kd.s (Str.ofString "move")) + 4 * mods)) := by
  intro ss K D G sp k
  unfold ItmAt at he
  (repeat' wtm_at "y")
  exact k _ _ (by wtm_at "p") sp
theorem lA_1 (h : iEq b 0 = true) : lnA kd b nm = true := or_t h
theorem lA_2 {c : Bool} (h : iEq b 0 = false) (r : sEq kd.s (Str.ofString "release") = true) (q : (!nm) = c) : lnA kd b nm = c := (or_f h).trans ((and_t r).trans q)
theorem lA_3 (h : iEq b 0 = false) (r : sEq kd.s (Str.ofString "release") = false) : lnA kd b nm = false := (or_f h).trans (and_f r)
theorem ln_0 (n : Nat) (i : Nat) (O : Ost) (he : ItmAt O i kd b row col mods) : Leaves (R (tabs a₀ ns₀) (n + 24)) (gm 58) (stS 58 0) [(Str.ofString "it", .obj i), (Str.ofString "mode", v), (Str.ofString "is_named", .bool nm)] (lnL i v nm (cond (lnA kd b nm) 3 (b - 1))) O O := by
  intro ss K D G sp k
  unfold ItmAt at he
  (repeat' wtm_at "y")
  · rw [ct (lA_1 hB)] at k; exact k sp
  · rw [ct (lA_2 (by assumption) (by assumption) hB)] at k; exact k sp
  · rw [cf (lA_2 (by assumption) (by assumption) hB)] at k; exact k sp
  · rw [cf (lA_3 (by assumption) hB)] at k; exact k sp
theorem ln_2 (n : Nat) (i : Nat) (O : Ost) (he : ItmAt O i kd b row col mods) : Leaves (R (tabs a₀ ns₀) (n + 24)) (gm 58) (stS 58 2) (lnL i v nm x) (lnL i v nm (cond (lnA kd b nm) 3 x)) O O := by
  intro ss K D G sp k
  unfold ItmAt at he
  (repeat' wtm_at "y")
  · rw [ct (lA_1 hB)] at k; exact k sp
  · rw [ct (lA_2 (by assumption) (by assumption) hB)] at k; exact k sp
  · rw [cf (lA_2 (by assumption) (by assumption) hB)] at k; exact k sp
  · rw [cf (lA_3 (by assumption) hB)] at k; exact k sp
theorem lC_1 (a : iLe 4 b = true) (c : iLe b 7 = true) : lnC b = 60 := ct ((and_t a).trans c)
theorem lC_2 {q : Bool} (a : iLe 4 b = true) (c : iLe b 7 = false) (d : iLt 7 b = q) : lnC b = cond q 120 0 := (cf ((and_t a).trans c)).trans (by rw [d])
theorem lC_3 {q : Bool} (a : iLe 4 b = false) (d : iLt 7 b = q) : lnC b = cond q 120 0 := (cf (and_f a)).trans (by rw [d])
theorem ln_1 (n : Nat) (i : Nat) (O : Ost) (he : ItmAt O i kd b row col mods) : Leaves (R (tabs a₀ ns₀) (n + 24)) (gm 58) (stS 58 1) (lnL i v nm x) (lnL i v nm (x + lnC b + b2i (iLt 3 b))) O O := by
  intro ss K D G sp k
  unfold ItmAt at he
  (repeat' wtm_at "y")
  · rw [lC_1 (by assumption) hB] at k; exact k sp
  · rw [lC_2 (by assumption) (by assumption) hB] at k; exact k sp
  · rw [lC_2 (by assumption) (by assumption) hB] at k; exact k sp
  · rw [lC_3 (by assumption) hB] at k; exact k sp
  · rw [lC_3 (by assumption) hB] at k; exact k sp
theorem ln_all (n : Nat) (i : Nat) (O : Ost) {y : Int} (he : ItmAt O i kd b row col mods) (h3 : ∀ x, Gives (R (tabs a₀ ns₀) (n + 24)) (gm 58) (stS 58 3) (lnL i v nm x) O (.int (x + 32 * b2i (sEq kd.s (Str.ofString "move")) + y))) :
    CallX (R (tabs a₀ ns₀) (n + 25)) 305 [.obj i, v, .bool nm] O (.int (lawN kd b nm + y)) := by
  refine .mkB (gm 58) [stS 58 0, stS 58 1, stS 58 2, stS 58 3] [(Str.ofString "it", .obj i), (Str.ofString "mode", v), (Str.ofString "is_named", .bool nm)] (fun _ => rfl) fun G sp => ?_
  refine ln_0 a₀ ns₀ n i O he _ _ _ G sp fun sp => ?_
  refine ln_1 a₀ ns₀ n i O he _ _ _ G sp fun sp => ?_
  refine ln_2 a₀ ns₀ n i O he _ _ _ G sp fun sp => ?_
  exact h3 _ _ _ _ G sp fun l' O' p sp => sp ⟨rfl, p⟩
theorem law_number (n : Nat) (i : Nat) (md : Md) (nm : Bool) (O : Ost) (he : ItmAt O i kd b row col mods) (hb : 0 ≤ b ∧ b < 12) (hd : domB kd b = true) (hm : 0 ≤ mods ∧ mods < 8) : CallX (R (tabs a₀ ns₀) (n + 25)) 305 [.obj i, md.v, .bool nm] O (.int (numberOf kd b (modsOf md mods) nm)) := by
  have e := law_num (kd := kd) (m := mods) nm hb hd hm
  have e0 := law_num (kd := kd) (m := 0) nm hb hd (by decide)
  cases md with
  | no => exact e ▸ ln_all a₀ ns₀ n i O he fun x => ln_3n a₀ ns₀ n i O he
  | x10 => exact e0 ▸ ln_all a₀ ns₀ n i O he fun x => ln_3t a₀ ns₀ n i _ O he rfl
  | click => exact e ▸ ln_all a₀ ns₀ n i O he fun x => ln_3f a₀ ns₀ n i _ O he rfl
  | drag => exact e ▸ ln_all a₀ ns₀ n i O he fun x => ln_3f a₀ ns₀ n i _ O he rfl
  | all => exact e ▸ ln_all a₀ ns₀ n i O he fun x => ln_3f a₀ ns₀ n i _ O he rfl
end
end
section
variable {kd : Kd} {b row col mods wide high : Int}
theorem fig_len {a b c : Int} (ha : 0 ≤ a ∧ a < 1000000) (hb : 0 ≤ b ∧ b < 1000000) (hc : 0 ≤ c ∧ c < 1000000) : (figS a b c).length ≤ 23 := by
  rw [← strI_len]
  unfold figS
  rw [strI_join ha.1 hb.1 hc.1]
  exact len23 ha hb hc
theorem g24 {A D : List Int} {p : Nat} (hA : A.length = p) (hp : p ≤ 10) (h : D.length ≤ 24) : A.length + D.length ≤ 16777216 := by omega
theorem fig_g {a b c : Int} {s : Str} (hs : s.length = 1) (h : (figS a b c).length ≤ 23) : (figS a b c).length + s.length ≤ 16777216 := by omega
theorem octets_dec (n : Nat) (a b c cc : Int) (s : Str) (O : Ost) (ha : 0 ≤ a ∧ a < 1000000) (hb : 0 ≤ b ∧ b < 1000000) (hc : 0 ≤ c ∧ c < 1000000) (hs : strI s = [cc]) (h : 0 ≤ cc ∧ cc < 256) : CallX (R (tabs a₀ ns₀) (n + 15)) 291 [.str (figS a b c ++ s)] O (.bytes (decOf a b c ++ [cc])) := by
  have e : strI (figS a b c ++ s) = decOf a b c ++ [cc] := by rw [strI_append, hs]; exact congrArg (· ++ [cc]) (strI_join ha.1 hb.1 hc.1)
  have l := len23 ha hb hc
  rw [← e]
  refine law_octets a₀ ns₀ n (figS a b c ++ s) O ?_ ?_
  · rw [e, List.length_append]; exact Nat.le_trans (Nat.add_le_add_right l 1) (by decide)
  · rw [e]
    intro x hx
    rcases List.mem_append.mp hx with hx | hx
    · have z := dec_ds a b c x hx
      unfold isDS at z
      rcases Bool.or_eq_true_iff.mp z with z | z
      · have z := Bool.and_eq_true_iff.mp z
        exact ⟨Int.le_trans (by decide) (iLe_t z.1), Int.lt_of_le_of_lt (iLe_t z.2) (by decide)⟩
      · rw [iEq_t z]; decide
    · rw [List.mem_singleton.mp hx]; exact h
theorem sm_ : strI (Str.ofString "m") = [109] := by decide +kernel
theorem sM_ : strI (Str.ofString "M") = [77] := by decide +kernel
theorem lm_ : (Str.ofString "m").length = 1 := by decide +kernel
theorem lM_ : (Str.ofString "M").length = 1 := by decide +kernel
theorem lw_sgr (n : Nat) (i : Nat) (md : Md) (O : Ost) (he : ItmAt O i kd b row col mods) (h : EvOk kd b row col mods) (ht : md.told kd b = true) (hN : 0 ≤ numberOf kd b (modsOf md mods) true ∧ numberOf kd b (modsOf md mods) true < 192) :
    CallX (R (tabs a₀ ns₀) (n + 40)) 312 [.obj i, md.v, Wy.sgr.v, .int wide, .int high] O (.bytes (wroteOf .sgr kd b row col (modsOf md mods) wide high)) := by
  have d1 := ib3 hN
  have d2 := ib1 h.c0
  have d3 := ib1 h.r0
  have ld := fig_len d1 d2 d3
  have l4 : (decOf (numberOf kd b (modsOf md mods) true) (col + 1) (row + 1) ++ [109]).length ≤ 24 := by rw [List.length_append]; exact Nat.add_le_add_right (len23 d1 d2 d3) 1
  have l5 : (decOf (numberOf kd b (modsOf md mods) true) (col + 1) (row + 1) ++ [77]).length ≤ 24 := by rw [List.length_append]; exact Nat.add_le_add_right (len23 d1 d2 d3) 1
  have he0 := he
  unfold ItmAt at he0
  obtain ⟨hb, hd, hm, hr, hcl⟩ := h
  have hT : ∀ k P, Ext O P → CallX (R (tabs a₀ ns₀) (k + 25)) 298 [.obj i, md.v] P (.bool true) := fun k P p => ht ▸ law_is_told a₀ ns₀ k i md P (he.ext p) hb hd
  (refine CallS.mk ?_; intro G sp)
  clear ht hr hcl
  (repeat' (first | specialize sp (by first | (with_reducible apply Cx2.mk; (with_reducible assumption)) | (first | (with_reducible apply Lx.mk; wtm_at "l") | ((with_reducible apply Ox.mk); (first | with_reducible assumption | exact intsAll_int _ | exact strsAll_str _ | exact bytesAll_bytes _ | exact rfl)) | exact bT | exact bF | (with_reducible apply Bx.mk; with_reducible assumption) | (first | (first | ((with_reducible apply fig_g); (with_reducible first | exact lm_ | exact lM_); wtm_at "A") | ((with_reducible apply g24); exact rfl; decide; wtm_at "A")) | (first | wtm_at "A" | (refine And.intro (show ItK.still _ _ by (first | exact True.intro | (show _[_]? = some _; wtm_at "l"))) ?_; first | (simp only [List.length_append, List.length_cons, List.length_nil, List.length_map]; omega) | omega) | (show ItK.still _ _; (first | exact True.intro | (show _[_]? = some _; wtm_at "l"))) | exact Nat.le_of_ble_eq_true rfl | exact of_decide_eq_true rfl | (simp only [smallI, List.length_append, List.length_cons, List.length_nil, List.length_map]; omega) | (refine And.intro (by simp) ?_; intro z hz; simp only [List.mem_cons, List.not_mem_nil, or_false] at hz; omega) | omega | decide)))) | (apply CallS.useP; rotate_left; intro O1 hc hk; specialize sp (cQ hc :); rotate_right; (first | (apply hT; wtm_at "p") | (apply law_number; (first | wtm_at "A" | (refine ItmAt.ext (by wtm_at "A") ?_; wtm_at "p")); (wtm_at "A"); (wtm_at "A"); (wtm_at "A")) | (apply law_figures; (wtm_at "l"); (wtm_at "A"); (wtm_at "A"); (wtm_at "A")) | (apply octets_dec; (wtm_at "A"); (wtm_at "A"); (wtm_at "A"); (with_reducible first | exact sm_ | exact sM_); decide)); try (obtain ⟨hx, hk⟩ := hk)) | wtm_at "B" | fail))
  · exact sp ⟨congrArg AV.bytes (by rw [← wr_sgr hB, List.append_assoc]; rfl), by wtm_at "p"⟩
  · exact sp ⟨congrArg AV.bytes (by rw [← wr_sgr hB, List.append_assoc]; rfl), by wtm_at "p"⟩
theorem lw_pix (n : Nat) (i : Nat) (md : Md) (O : Ost) (he : ItmAt O i kd b row col mods) (h : EvOk kd b row col mods) (ht : md.told kd b = true) (hN : 0 ≤ numberOf kd b (modsOf md mods) true ∧ numberOf kd b (modsOf md mods) true < 192) (hwd : 0 ≤ col * wide ∧ col * wide < 900000) (hhg : 0 ≤ row * high ∧ row * high < 900000) :
    CallX (R (tabs a₀ ns₀) (n + 40)) 312 [.obj i, md.v, Wy.pixels.v, .int wide, .int high] O (.bytes (wroteOf .pixels kd b row col (modsOf md mods) wide high)) := by
  have d1 := ib3 hN
  have d2 := ib2 hwd
  have d3 := ib2 hhg
  have e1 := ib5 h.c0
  have e2 := ib5 h.r0
  have ld := fig_len d1 d2 d3
  have l4 : (decOf (numberOf kd b (modsOf md mods) true) (col * wide + 1) (row * high + 1) ++ [109]).length ≤ 24 := by rw [List.length_append]; exact Nat.add_le_add_right (len23 d1 d2 d3) 1
  have l5 : (decOf (numberOf kd b (modsOf md mods) true) (col * wide + 1) (row * high + 1) ++ [77]).length ≤ 24 := by rw [List.length_append]; exact Nat.add_le_add_right (len23 d1 d2 d3) 1
  have he0 := he
  unfold ItmAt at he0
  obtain ⟨hb, hd, hm, hr, hcl⟩ := h
  have hT : ∀ k P, Ext O P → CallX (R (tabs a₀ ns₀) (k + 25)) 298 [.obj i, md.v] P (.bool true) := fun k P p => ht ▸ law_is_told a₀ ns₀ k i md P (he.ext p) hb hd
  (refine CallS.mk ?_; intro G sp)
  clear ht hr hcl
  (repeat' (first | specialize sp (by first | (with_reducible apply Cx2.mk; (with_reducible assumption)) | (first | (with_reducible apply Lx.mk; wtm_at "l") | ((with_reducible apply Ox.mk); (first | with_reducible assumption | exact intsAll_int _ | exact strsAll_str _ | exact bytesAll_bytes _ | exact rfl)) | exact bT | exact bF | (with_reducible apply Bx.mk; with_reducible assumption) | (first | (first | ((with_reducible apply fig_g); (with_reducible first | exact lm_ | exact lM_); wtm_at "A") | ((with_reducible apply g24); exact rfl; decide; wtm_at "A")) | (first | wtm_at "A" | (refine And.intro (show ItK.still _ _ by (first | exact True.intro | (show _[_]? = some _; wtm_at "l"))) ?_; first | (simp only [List.length_append, List.length_cons, List.length_nil, List.length_map]; omega) | omega) | (show ItK.still _ _; (first | exact True.intro | (show _[_]? = some _; wtm_at "l"))) | exact Nat.le_of_ble_eq_true rfl | exact of_decide_eq_true rfl | (simp only [smallI, List.length_append, List.length_cons, List.length_nil, List.length_map]; omega) | (refine And.intro (by simp) ?_; intro z hz; simp only [List.mem_cons, List.not_mem_nil, or_false] at hz; omega) | omega | decide)))) | (apply CallS.useP; rotate_left; intro O1 hc hk; specialize sp (cQ hc :); rotate_right; (first | (apply hT; wtm_at "p") | (apply law_number; (first | wtm_at "A" | (refine ItmAt.ext (by wtm_at "A") ?_; wtm_at "p")); (wtm_at "A"); (wtm_at "A"); (wtm_at "A")) | (apply law_figures; (wtm_at "l"); (wtm_at "A"); (wtm_at "A"); (wtm_at "A")) | (apply octets_dec; (wtm_at "A"); (wtm_at "A"); (wtm_at "A"); (with_reducible first | exact sm_ | exact sM_); decide)); try (obtain ⟨hx, hk⟩ := hk)) | wtm_at "B" | fail))
  · exact sp ⟨congrArg AV.bytes (by rw [← wr_pix hB, List.append_assoc]; rfl), by wtm_at "p"⟩
  · exact sp ⟨congrArg AV.bytes (by rw [← wr_pix hB, List.append_assoc]; rfl), by wtm_at "p"⟩
theorem lw_urx (n : Nat) (i : Nat) (md : Md) (O : Ost) (he : ItmAt O i kd b row col mods) (h : EvOk kd b row col mods) (ht : md.told kd b = true) (hN : 0 ≤ numberOf kd b (modsOf md mods) false ∧ numberOf kd b (modsOf md mods) false < 192) :
    CallX (R (tabs a₀ ns₀) (n + 40)) 312 [.obj i, md.v, Wy.urxvt.v, .int wide, .int high] O (.bytes (wroteOf .urxvt kd b row col (modsOf md mods) wide high)) := by
  have d1 := ib4 hN
  have d2 := ib1 h.c0
  have d3 := ib1 h.r0
  have ld := fig_len d1 d2 d3
  have l5 : (decOf (numberOf kd b (modsOf md mods) false + 32) (col + 1) (row + 1) ++ [77]).length ≤ 24 := by rw [List.length_append]; exact Nat.add_le_add_right (len23 d1 d2 d3) 1
  have he0 := he
  unfold ItmAt at he0
  obtain ⟨hb, hd, hm, hr, hcl⟩ := h
  have hT : ∀ k P, Ext O P → CallX (R (tabs a₀ ns₀) (k + 25)) 298 [.obj i, md.v] P (.bool true) := fun k P p => ht ▸ law_is_told a₀ ns₀ k i md P (he.ext p) hb hd
  (refine CallS.mk ?_; intro G sp)
  clear ht hr hcl
  (repeat' (first | specialize sp (by first | (with_reducible apply Cx2.mk; (with_reducible assumption)) | (first | (with_reducible apply Lx.mk; wtm_at "l") | ((with_reducible apply Ox.mk); (first | with_reducible assumption | exact intsAll_int _ | exact strsAll_str _ | exact bytesAll_bytes _ | exact rfl)) | exact bT | exact bF | (with_reducible apply Bx.mk; with_reducible assumption) | (first | (first | ((with_reducible apply fig_g); (with_reducible first | exact lm_ | exact lM_); wtm_at "A") | ((with_reducible apply g24); exact rfl; decide; wtm_at "A")) | (first | wtm_at "A" | (refine And.intro (show ItK.still _ _ by (first | exact True.intro | (show _[_]? = some _; wtm_at "l"))) ?_; first | (simp only [List.length_append, List.length_cons, List.length_nil, List.length_map]; omega) | omega) | (show ItK.still _ _; (first | exact True.intro | (show _[_]? = some _; wtm_at "l"))) | exact Nat.le_of_ble_eq_true rfl | exact of_decide_eq_true rfl | (simp only [smallI, List.length_append, List.length_cons, List.length_nil, List.length_map]; omega) | (refine And.intro (by simp) ?_; intro z hz; simp only [List.mem_cons, List.not_mem_nil, or_false] at hz; omega) | omega | decide)))) | (apply CallS.useP; rotate_left; intro O1 hc hk; specialize sp (cQ hc :); rotate_right; (first | (apply hT; wtm_at "p") | (apply law_number; (first | wtm_at "A" | (refine ItmAt.ext (by wtm_at "A") ?_; wtm_at "p")); (wtm_at "A"); (wtm_at "A"); (wtm_at "A")) | (apply law_figures; (wtm_at "l"); (wtm_at "A"); (wtm_at "A"); (wtm_at "A")) | (apply octets_dec; (wtm_at "A"); (wtm_at "A"); (wtm_at "A"); (with_reducible first | exact sm_ | exact sM_); decide)); try (obtain ⟨hx, hk⟩ := hk)) | wtm_at "B" | fail))
  exact sp ⟨congrArg AV.bytes (List.append_assoc ..).symm, by wtm_at "p"⟩
end
section
variable {kd : Kd} {b row col mods wide high : Int}
theorem gt_max {most x y : Int} : iLt most (max x y) = (iLt most x || iLt most y) := by
  unfold iLt
  rw [← Bool.decide_or]
  exact decide_eq_decide.mpr (by omega)
theorem pl_hi {most N c r : Int} {u8 : Bool} (h : iLt most (max r c) = true) : plainOf most u8 N c r = [] := by
  unfold plainOf
  have e : [N, c, r].filter (fun z => iLt most z) ≠ [] := fun q => by
    have z := most_all q
    rw [gt_max, Bool.or_eq_true_iff] at h
    rcases h with h | h
    · exact absurd (iLt_t h) (Int.not_lt.mpr z.2.2)
    · exact absurd (iLt_t h) (Int.not_lt.mpr z.2.1)
  generalize [N, c, r].filter (fun z => iLt most z) = ys at e ⊢
  cases ys with
  | nil => exact absurd rfl e
  | cons x l => rfl
theorem pl_lo {most N c r : Int} {u8 : Bool} (h : iLt most (max r c) = false) (hN : N ≤ most) : plainOf most u8 N c r = [27, 91, 77] ++ cond u8 (codeOf (N + 32) ++ [] ++ (codeOf (c + 32) ++ [] ++ codeOf (r + 32))) [N + 32, c + 32, r + 32] := by
  unfold plainOf
  rw [gt_max, Bool.or_eq_false_iff] at h
  have e : [N, c, r].filter (fun z => iLt most z) = [] := List.filter_eq_nil_iff.mpr fun x hx => by
    simp only [List.mem_cons, List.not_mem_nil, or_false] at hx
    rcases hx with rfl | rfl | rfl
    · exact fun q => absurd (iLt_t q) (Int.not_lt.mpr hN)
    · rw [h.2]; exact Bool.noConfusion
    · rw [h.1]; exact Bool.noConfusion
  rw [e]
theorem ints3 (A B C : List Int) : intsAll (A.map AV.int ++ B.map AV.int ++ C.map AV.int) = some (A ++ B ++ C) := by rw [← List.map_append, ← List.map_append, intsAll_int]
theorem lo_b {most r c q : Int} (hq : most + 33 = q) (hr : 0 ≤ r) (hc : 0 ≤ c) (h : iLt most (max (r + 1) (c + 1)) = false) : (0 ≤ c + 1 + 32 ∧ c + 1 + 32 < q) ∧ (0 ≤ r + 1 + 32 ∧ r + 1 + 32 < q) := by
  have z := iLt_f h
  omega
theorem lw_no (n : Nat) (i : Nat) (md : Md) (O : Ost) (he : ItmAt O i kd b row col mods) (h : EvOk kd b row col mods) (ht : md.told kd b = true) (hN : 0 ≤ numberOf kd b (modsOf md mods) false ∧ numberOf kd b (modsOf md mods) false < 192) :
    CallX (R (tabs a₀ ns₀) (n + 40)) 312 [.obj i, md.v, Wy.no.v, .int wide, .int high] O (.bytes (wroteOf .no kd b row col (modsOf md mods) wide high)) := by
  have he0 := he
  unfold ItmAt at he0
  obtain ⟨hb, hd, hm, hr, hcl⟩ := h
  have hT : ∀ k P, Ext O P → CallX (R (tabs a₀ ns₀) (k + 25)) 298 [.obj i, md.v] P (.bool true) := fun k P p => ht ▸ law_is_told a₀ ns₀ k i md P (he.ext p) hb hd
  refine Bool.two (iLt 223 (max (row + 1) (col + 1))) (fun hM => ?_) fun hM => ?_
  · have e : wroteOf .no kd b row col (modsOf md mods) wide high = [] := pl_hi hM
    rw [e]
    (refine CallS.mk ?_; intro G sp)
    (repeat' (first | specialize sp (by first | (with_reducible apply Cx2.mk; (with_reducible assumption)) | (first | (with_reducible apply Lx.mk; wtm_at "l") | ((with_reducible apply Ox.mk); (first | (exact ints3 _ _ _) | (first | with_reducible assumption | exact intsAll_int _ | exact strsAll_str _ | exact bytesAll_bytes _ | exact rfl))) | exact bT | exact bF | (with_reducible apply Bx.mk; with_reducible assumption) | wtm_at "g")) | (apply CallS.useP; rotate_left; intro O1 hc hk; specialize sp (cQ hc :); rotate_right; (first | (apply hT; wtm_at "p") | (apply law_number; (first | wtm_at "A" | (refine ItmAt.ext (by wtm_at "A") ?_; wtm_at "p")); (wtm_at "A"); (wtm_at "A"); (wtm_at "A")) | (apply law_code; (exact And.left (by wtm_at "A")); (exact And.right (by wtm_at "A")))); try (obtain ⟨hx, hk⟩ := hk)) | wtm_at "B" | fail))
    exact sp ⟨rfl, by wtm_at "p"⟩
  · have e : wroteOf .no kd b row col (modsOf md mods) wide high = _ := pl_lo hM (Int.le_trans (Int.le_of_lt hN.2) (by decide))
    rw [e]
    have z := lo_b (q := 256) (by decide) hr.1 hcl.1 hM
    have hg : [numberOf kd b (modsOf md mods) false + 32, col + 1 + 32, row + 1 + 32].length ≤ 1000000 ∧ ∀ n ∈ [numberOf kd b (modsOf md mods) false + 32, col + 1 + 32, row + 1 + 32], 0 ≤ n ∧ n < 256 := ⟨Nat.le_of_ble_eq_true rfl, fun x hx => by
      simp only [List.mem_cons, List.not_mem_nil, or_false] at hx
      rcases hx with rfl | rfl | rfl
      · omega
      · exact z.1
      · exact z.2⟩
    clear z hN hr hcl
    (refine CallS.mk ?_; intro G sp)
    (repeat' (first | specialize sp (by first | (with_reducible apply Cx2.mk; (with_reducible assumption)) | (first | (with_reducible apply Lx.mk; wtm_at "l") | ((with_reducible apply Ox.mk); (first | (exact ints3 _ _ _) | (first | with_reducible assumption | exact intsAll_int _ | exact strsAll_str _ | exact bytesAll_bytes _ | exact rfl))) | exact bT | exact bF | (with_reducible apply Bx.mk; with_reducible assumption) | wtm_at "g")) | (apply CallS.useP; rotate_left; intro O1 hc hk; specialize sp (cQ hc :); rotate_right; (first | (apply hT; wtm_at "p") | (apply law_number; (first | wtm_at "A" | (refine ItmAt.ext (by wtm_at "A") ?_; wtm_at "p")); (wtm_at "A"); (wtm_at "A"); (wtm_at "A")) | (apply law_code; (exact And.left (by wtm_at "A")); (exact And.right (by wtm_at "A")))); try (obtain ⟨hx, hk⟩ := hk)) | wtm_at "B" | fail))
    exact sp ⟨rfl, by wtm_at "p"⟩
theorem lw_utf (n : Nat) (i : Nat) (md : Md) (O : Ost) (he : ItmAt O i kd b row col mods) (h : EvOk kd b row col mods) (ht : md.told kd b = true) (hN : 0 ≤ numberOf kd b (modsOf md mods) false ∧ numberOf kd b (modsOf md mods) false < 192) :
    CallX (R (tabs a₀ ns₀) (n + 40)) 312 [.obj i, md.v, Wy.utf8.v, .int wide, .int high] O (.bytes (wroteOf .utf8 kd b row col (modsOf md mods) wide high)) := by
  have he0 := he
  unfold ItmAt at he0
  obtain ⟨hb, hd, hm, hr, hcl⟩ := h
  have hT : ∀ k P, Ext O P → CallX (R (tabs a₀ ns₀) (k + 25)) 298 [.obj i, md.v] P (.bool true) := fun k P p => ht ▸ law_is_told a₀ ns₀ k i md P (he.ext p) hb hd
  refine Bool.two (iLt 2015 (max (row + 1) (col + 1))) (fun hM => ?_) fun hM => ?_
  · have e : wroteOf .utf8 kd b row col (modsOf md mods) wide high = [] := pl_hi hM
    rw [e]
    (refine CallS.mk ?_; intro G sp)
    (repeat' (first | specialize sp (by first | (with_reducible apply Cx2.mk; (with_reducible assumption)) | (first | (with_reducible apply Lx.mk; wtm_at "l") | ((with_reducible apply Ox.mk); (first | (exact ints3 _ _ _) | (first | with_reducible assumption | exact intsAll_int _ | exact strsAll_str _ | exact bytesAll_bytes _ | exact rfl))) | exact bT | exact bF | (with_reducible apply Bx.mk; with_reducible assumption) | wtm_at "g")) | (apply CallS.useP; rotate_left; intro O1 hc hk; specialize sp (cQ hc :); rotate_right; (first | (apply hT; wtm_at "p") | (apply law_number; (first | wtm_at "A" | (refine ItmAt.ext (by wtm_at "A") ?_; wtm_at "p")); (wtm_at "A"); (wtm_at "A"); (wtm_at "A")) | (apply law_code; (exact And.left (by wtm_at "A")); (exact And.right (by wtm_at "A")))); try (obtain ⟨hx, hk⟩ := hk)) | wtm_at "B" | fail))
    exact sp ⟨rfl, by wtm_at "p"⟩
  · have e : wroteOf .utf8 kd b row col (modsOf md mods) wide high = _ := pl_lo hM (Int.le_trans (Int.le_of_lt hN.2) (by decide))
    rw [e]
    obtain ⟨zc, zr⟩ := lo_b (q := 2048) (by decide) hr.1 hcl.1 hM
    have zn : 0 ≤ numberOf kd b (modsOf md mods) false + 32 ∧ numberOf kd b (modsOf md mods) false + 32 < 2048 := by omega
    have la := codeOf_len (numberOf kd b (modsOf md mods) false + 32)
    have lb := codeOf_len (col + 1 + 32)
    have lc := codeOf_len (row + 1 + 32)
    have l1 : ((codeOf (numberOf kd b (modsOf md mods) false + 32)).map AV.int).length + ((codeOf (col + 1 + 32)).map AV.int).length ≤ 16777216 := by simp only [List.length_map]; omega
    have l2 : ((codeOf (numberOf kd b (modsOf md mods) false + 32)).map AV.int ++ (codeOf (col + 1 + 32)).map AV.int).length + ((codeOf (row + 1 + 32)).map AV.int).length ≤ 16777216 := by simp only [List.length_map, List.length_append]; omega
    have hg : (codeOf (numberOf kd b (modsOf md mods) false + 32) ++ codeOf (col + 1 + 32) ++ codeOf (row + 1 + 32)).length ≤ 1000000 ∧ ∀ n ∈ codeOf (numberOf kd b (modsOf md mods) false + 32) ++ codeOf (col + 1 + 32) ++ codeOf (row + 1 + 32), 0 ≤ n ∧ n < 256 := ⟨by simp only [List.length_append]; omega, fun x hx => by
      rcases List.mem_append.mp hx with hx | hx
      · rcases List.mem_append.mp hx with hx | hx
        · exact codeOf_byte zn.1 zn.2 x hx
        · exact codeOf_byte zc.1 zc.2 x hx
      · exact codeOf_byte zr.1 zr.2 x hx⟩
    have l3 : ([27, 91, 77] : List Int).length + (codeOf (numberOf kd b (modsOf md mods) false + 32) ++ codeOf (col + 1 + 32) ++ codeOf (row + 1 + 32)).length ≤ 16777216 := by simp only [List.length_append]; exact Nat.le_trans (Nat.add_le_add_left (Nat.add_le_add (Nat.add_le_add la lb) lc) _) (by decide)
    clear hN hr hcl la lb lc
    (refine CallS.mk ?_; intro G sp)
    (repeat' (first | specialize sp (by first | (with_reducible apply Cx2.mk; (with_reducible assumption)) | (first | (with_reducible apply Lx.mk; wtm_at "l") | ((with_reducible apply Ox.mk); (first | (exact ints3 _ _ _) | (first | with_reducible assumption | exact intsAll_int _ | exact strsAll_str _ | exact bytesAll_bytes _ | exact rfl))) | exact bT | exact bF | (with_reducible apply Bx.mk; with_reducible assumption) | wtm_at "g")) | (apply CallS.useP; rotate_left; intro O1 hc hk; specialize sp (cQ hc :); rotate_right; (first | (apply hT; wtm_at "p") | (apply law_number; (first | wtm_at "A" | (refine ItmAt.ext (by wtm_at "A") ?_; wtm_at "p")); (wtm_at "A"); (wtm_at "A"); (wtm_at "A")) | (apply law_code; (exact And.left (by wtm_at "A")); (exact And.right (by wtm_at "A")))); try (obtain ⟨hx, hk⟩ := hk)) | wtm_at "B" | fail))
    exact sp ⟨congrArg AV.bytes (by simp only [List.append_nil, List.append_assoc]; rfl), by wtm_at "p"⟩
theorem law_written (n : Nat) (i : Nat) (md : Md) (wy : Wy) (O : Ost) (he : ItmAt O i kd b row col mods) (h : EvOk kd b row col mods) (hwd : 0 ≤ col * wide ∧ col * wide < 900000) (hhg : 0 ≤ row * high ∧ row * high < 900000) :
    CallX (R (tabs a₀ ns₀) (n + 40)) 312 [.obj i, md.v, wy.v, .int wide, .int high] O (.bytes (octetsOf md wy kd b row col mods wide high)) := by
  refine Bool.two (md.told kd b) (fun ht => ?_) (fun ht => ?_)
  · have e : octetsOf md wy kd b row col mods wide high = wroteOf wy kd b row col (modsOf md mods) wide high := ct ht
    rw [e]
    have hm : 0 ≤ modsOf md mods ∧ modsOf md mods < 8 := by cases md <;> first | exact h.m0 | exact ⟨Int.le_refl 0, show (0 : Int) < 8 by decide⟩
    have fb := fun nm => num_b (kd := kd) nm h.b0 hm
    cases wy with
    | no => exact lw_no a₀ ns₀ n i md O he h ht (fb false)
    | utf8 => exact lw_utf a₀ ns₀ n i md O he h ht (fb false)
    | sgr => exact lw_sgr a₀ ns₀ n i md O he h ht (fb true)
    | urxvt => exact lw_urx a₀ ns₀ n i md O he h ht (fb false)
    | pixels => exact lw_pix a₀ ns₀ n i md O he h ht (fb true) hwd hhg
  · have e : octetsOf md wy kd b row col mods wide high = [] := cf ht
    rw [e]
    have hT : ∀ k P, Ext O P → CallX (R (tabs a₀ ns₀) (k + 25)) 298 [.obj i, md.v] P (.bool false) := fun k P p => ht ▸ law_is_told a₀ ns₀ k i md P (he.ext p) h.b0 h.dom
    clear he h ht e
    (refine CallS.mk ?_; intro G sp)
    (repeat' (first | specialize sp (by first | (with_reducible apply Cx2.mk; (with_reducible assumption)) | (first | (with_reducible apply Lx.mk; wtm_at "l") | ((with_reducible apply Ox.mk); (first | (exact ints3 _ _ _) | (first | with_reducible assumption | exact intsAll_int _ | exact strsAll_str _ | exact bytesAll_bytes _ | exact rfl))) | exact bT | exact bF | (with_reducible apply Bx.mk; with_reducible assumption) | wtm_at "g")) | (apply CallS.useP; rotate_left; intro O1 hc hk; specialize sp (cQ hc :); rotate_right; (first | (apply hT; wtm_at "p") | (apply law_number; (first | wtm_at "A" | (refine ItmAt.ext (by wtm_at "A") ?_; wtm_at "p")); (wtm_at "A"); (wtm_at "A"); (wtm_at "A")) | (apply law_code; (exact And.left (by wtm_at "A")); (exact And.right (by wtm_at "A")))); try (obtain ⟨hx, hk⟩ := hk)) | wtm_at "B" | fail))
    exact sp ⟨rfl, by wtm_at "p"⟩
end
section
variable {kd : Kd} {b row col mods : Int}
theorem law_told (n : Nat) (i : Nat) (O : Ost) (he : EvAt O i kd b row col mods) : CallJ (R (tabs a₀ ns₀) (n + 15)) 319 [.obj i] O fun t O' => Ext O O' ∧ ItmAt O' t kd b row col mods := by
  refine he.out fun d h1 h2 => ?_
  refine .mk fun G sp => ?_
  (repeat' wtm_at "y")
  exact sp ⟨_, rfl, by wtm_at "p", at_last⟩
theorem law_made (n : Nat) (i : Nat) (O : Ost) (he : ItmAt O i kd b row col mods) : CallJ (R (tabs a₀ ns₀) (n + 25)) 333 [.obj i] O fun t O' => Ext O O' ∧ EvAt O' t kd b row col mods := by
  unfold ItmAt at he
  refine .mk fun G sp => ?_
  (repeat' (first | specialize sp (by first | (with_reducible apply Cx2.mk; (with_reducible assumption)) | wtm_at "a") | (apply CallS.useP; rotate_left; intro O1 hc hk; specialize sp (cQ hc :); rotate_right; (exact ev_init _ _ _ kd _ _ _ _ _); try (obtain ⟨hx, hk⟩ := hk)) | wtm_at "B" | fail))
  exact sp ⟨_, rfl, by wtm_at "p", hk⟩
end
theorem modes_new (n : Nat) (O : Ost) : CallS (R (tabs a₀ ns₀) (n + 15)) 52 [.obj (O.length + 1)] (newO 69 O) fun u O' => u = .none ∧ Ext O O' ∧ MoAt O' (O.length + 1) (newO 69 O).length es0 := by
  obtain ⟨⟨v, O', hc, rfl, kp, hm⟩⟩ := modes_init a₀ ns₀ n (O.length + 1) O.length (newO 69 O) at_two1 at_two0
  exact .in_ ⟨_, O', hc, rfl, kp.ext (ext_app (Ext.refl _)) (Nat.le_refl _), hm⟩
theorem modes_put (n : Nat) (i s : Nat) (es : Es) (wd : Wd) (O : Ost) (hm : MoAt O i s es) (hl : es.length ≤ 100) : CallS (R (tabs a₀ ns₀) (n + 25)) 66 [.obj i, .str wd.s, .bool true] O fun u O' => u = .none ∧ Keep s O O' ∧ MoAt O' i s (setOn wd es) := by
  obtain ⟨⟨v, O', hc, rfl, kp, h⟩⟩ := modes_set a₀ ns₀ n i s es wd O hm hl
  exact .in_ ⟨_, O', hc, rfl, kp, hm.keep kp h⟩
noncomputable def Md.w (md : Md) : Wd := md.casesOn .x10 .x10 .click .drag .all
noncomputable def Wy.w (wy : Wy) : Wd := wy.casesOn .utf8 .utf8 .sgr .urxvt .pixels
theorem Md.s_w {md : Md} (h : md ≠ .no) : md.v = .str md.w.s := by cases md <;> first | exact absurd rfl h | rfl
theorem Wy.s_w {wy : Wy} (h : wy ≠ .no) : wy.v = .str wy.w.s := by cases wy <;> first | exact absurd rfl h | rfl
theorem es_b (wd : Wd) : (setOn wd es0).length ≤ 100 := by cases wd <;> decide +kernel
theorem at_keep {O O' : Ost} {s j : Nat} {a : AO} (kp : Keep s O O') (n : j ≠ s) (h : O[j]? = some a) : O'[j]? = some a := kp j a n h
noncomputable def oV (o : Option Wd) : AV := o.elim .none fun w => .str w.s
noncomputable def oE (o : Option Wd) (es : Es) : Es := o.elim es fun w => setOn w es
noncomputable def Md.o (md : Md) : Option Wd := md.casesOn none (some .x10) (some .click) (some .drag) (some .all)
noncomputable def Wy.o (wy : Wy) : Option Wd := wy.casesOn none (some .utf8) (some .sgr) (some .urxvt) (some .pixels)
theorem Md.v_o (md : Md) : md.v = oV md.o := by cases md <;> rfl
theorem Wy.v_o (wy : Wy) : wy.v = oV wy.o := by cases wy <;> rfl
theorem o_ons (md : Md) (wy : Wy) : OnsAre (oE wy.o (oE md.o es0)) md.ons ∧ OnsAre (oE wy.o (oE md.o es0)) wy.ons := by
  cases md <;> cases wy <;> exact ⟨⟨rfl, rfl, rfl, rfl, trivial⟩, ⟨rfl, rfl, rfl, rfl, trivial⟩⟩
theorem oE_len (o : Option Wd) : (oE o es0).length ≤ 100 := by
  cases o with
  | none => decide +kernel
  | some w => exact es_b w
noncomputable def orL (i : Nat) (v v' : AV) (w : Int) (m : Nat) (r : Locs) : Locs := (Str.ofString "it", .obj i) :: (Str.ofString "mode", v) :: (Str.ofString "way", v') :: (Str.ofString "whole", .int w) :: (Str.ofString "modes", .obj m) :: (Str.ofString "wide", .int (1 + w.fmod 9)) :: (Str.ofString "high", .int (1 + (w.fdiv 9).fmod 5)) :: r
theorem word_loop (n : Nat) (i : Nat) (o o' : Option Wd) (w : Int) (m s t : Nat) (O : Ost) (hm : MoAt O m s es0) (ht : O[t]? = some (.tuple [oV o, oV o'])) :
    ForS (R (tabs a₀ ns₀) (n + 93)) (gm 63) (.one (Str.ofString "word")) (wB (st 63 1)) (.led t (.tuple [oV o, oV o']) [oV o, oV o']) (orL i (oV o) (oV o') w m []) O fun f l' O' => f = .next ∧ l' = orL i (oV o) (oV o') w m [(Str.ofString "word", oV o')] ∧ Keep s O O' ∧ MoAt O' m s (oE o' (oE o es0)) := by
  have n1 : t ≠ s := ne_at ht hm.st AO.noConfusion
  refine hm.out fun d kp h1 h2 n2 h3 => ?_
  have n3 : m ≠ s := ne_at h1 h3 AO.noConfusion
  have n4 := n2.symm
  have hl : es0.length ≤ 100 := by decide +kernel
  cases o with
  | none =>
    cases o' with
    | none =>
      refine .mk fun G sp => ?_
      (repeat' (first | specialize sp (by first | (with_reducible apply Cx2.mk; (with_reducible assumption)) | (first | (with_reducible apply Lx.mk; (first | ((repeat (first | wtm_at "A" | (apply at_keep; (wtm_at "A"); (wtm_at "A")) | apply at_ext (by wtm_at "A"))); done) | (focus ((repeat (first | wtm_at "A" | with_reducible exact at_last | with_reducible exact at_two0 | with_reducible exact at_two1 | with_reducible apply at_same | with_reducible apply at_old | (with_reducible apply at_other; (first | wtm_at "A" | omega)) | (apply at_ext; wtm_at "A"))); done)))) | ((with_reducible apply Ox.mk); (first | with_reducible assumption | exact intsAll_int _ | exact strsAll_str _ | exact bytesAll_bytes _ | exact rfl)) | exact bT | exact bF | (with_reducible apply Bx.mk; with_reducible assumption) | (first | wtm_at "A" | (refine And.intro (show ItK.still _ _ by (first | exact True.intro | (show _[_]? = some _; (first | ((repeat (first | wtm_at "A" | (apply at_keep; (wtm_at "A"); (wtm_at "A")) | apply at_ext (by wtm_at "A"))); done) | (focus ((repeat (first | wtm_at "A" | with_reducible exact at_last | with_reducible exact at_two0 | with_reducible exact at_two1 | with_reducible apply at_same | with_reducible apply at_old | (with_reducible apply at_other; (first | wtm_at "A" | omega)) | (apply at_ext; wtm_at "A"))); done)))))) ?_; first | (simp only [List.length_append, List.length_cons, List.length_nil, List.length_map]; omega) | omega) | (show ItK.still _ _; (first | exact True.intro | (show _[_]? = some _; (first | ((repeat (first | wtm_at "A" | (apply at_keep; (wtm_at "A"); (wtm_at "A")) | apply at_ext (by wtm_at "A"))); done) | (focus ((repeat (first | wtm_at "A" | with_reducible exact at_last | with_reducible exact at_two0 | with_reducible exact at_two1 | with_reducible apply at_same | with_reducible apply at_old | (with_reducible apply at_other; (first | wtm_at "A" | omega)) | (apply at_ext; wtm_at "A"))); done)))))) | exact Nat.le_of_ble_eq_true rfl | exact of_decide_eq_true rfl | (simp only [smallI, List.length_append, List.length_cons, List.length_nil, List.length_map]; omega) | (refine And.intro (by simp) ?_; intro z hz; simp only [List.mem_cons, List.not_mem_nil, or_false] at hz; omega) | omega | decide))) | (apply CallS.useP; rotate_left; intro O1 hc hk; specialize sp (cQ hc :); rotate_right; (exact modes_put _ _ _ _ _ _ _ _ (by wtm_at "A") (by first | wtm_at "A" | exact es_b _ | exact oE_len _)); try (obtain ⟨hx, hk⟩ := hk)) | wtm_at "B" | fail))
      exact sp ⟨rfl, rfl, Keep.refl _ _, hm⟩
    | some a =>
      refine .mk fun G sp => ?_
      (repeat' (first | specialize sp (by first | (with_reducible apply Cx2.mk; (with_reducible assumption)) | (first | (with_reducible apply Lx.mk; (first | ((repeat (first | wtm_at "A" | (apply at_keep; (wtm_at "A"); (wtm_at "A")) | apply at_ext (by wtm_at "A"))); done) | (focus ((repeat (first | wtm_at "A" | with_reducible exact at_last | with_reducible exact at_two0 | with_reducible exact at_two1 | with_reducible apply at_same | with_reducible apply at_old | (with_reducible apply at_other; (first | wtm_at "A" | omega)) | (apply at_ext; wtm_at "A"))); done)))) | ((with_reducible apply Ox.mk); (first | with_reducible assumption | exact intsAll_int _ | exact strsAll_str _ | exact bytesAll_bytes _ | exact rfl)) | exact bT | exact bF | (with_reducible apply Bx.mk; with_reducible assumption) | (first | wtm_at "A" | (refine And.intro (show ItK.still _ _ by (first | exact True.intro | (show _[_]? = some _; (first | ((repeat (first | wtm_at "A" | (apply at_keep; (wtm_at "A"); (wtm_at "A")) | apply at_ext (by wtm_at "A"))); done) | (focus ((repeat (first | wtm_at "A" | with_reducible exact at_last | with_reducible exact at_two0 | with_reducible exact at_two1 | with_reducible apply at_same | with_reducible apply at_old | (with_reducible apply at_other; (first | wtm_at "A" | omega)) | (apply at_ext; wtm_at "A"))); done)))))) ?_; first | (simp only [List.length_append, List.length_cons, List.length_nil, List.length_map]; omega) | omega) | (show ItK.still _ _; (first | exact True.intro | (show _[_]? = some _; (first | ((repeat (first | wtm_at "A" | (apply at_keep; (wtm_at "A"); (wtm_at "A")) | apply at_ext (by wtm_at "A"))); done) | (focus ((repeat (first | wtm_at "A" | with_reducible exact at_last | with_reducible exact at_two0 | with_reducible exact at_two1 | with_reducible apply at_same | with_reducible apply at_old | (with_reducible apply at_other; (first | wtm_at "A" | omega)) | (apply at_ext; wtm_at "A"))); done)))))) | exact Nat.le_of_ble_eq_true rfl | exact of_decide_eq_true rfl | (simp only [smallI, List.length_append, List.length_cons, List.length_nil, List.length_map]; omega) | (refine And.intro (by simp) ?_; intro z hz; simp only [List.mem_cons, List.not_mem_nil, or_false] at hz; omega) | omega | decide))) | (apply CallS.useP; rotate_left; intro O1 hc hk; specialize sp (cQ hc :); rotate_right; (exact modes_put _ _ _ _ _ _ _ _ (by wtm_at "A") (by first | wtm_at "A" | exact es_b _ | exact oE_len _)); try (obtain ⟨hx, hk⟩ := hk)) | wtm_at "B" | fail))
      exact sp ⟨rfl, rfl, hx, hk⟩
  | some a =>
    cases o' with
    | none =>
      refine .mk fun G sp => ?_
      (repeat' (first | specialize sp (by first | (with_reducible apply Cx2.mk; (with_reducible assumption)) | (first | (with_reducible apply Lx.mk; (first | ((repeat (first | wtm_at "A" | (apply at_keep; (wtm_at "A"); (wtm_at "A")) | apply at_ext (by wtm_at "A"))); done) | (focus ((repeat (first | wtm_at "A" | with_reducible exact at_last | with_reducible exact at_two0 | with_reducible exact at_two1 | with_reducible apply at_same | with_reducible apply at_old | (with_reducible apply at_other; (first | wtm_at "A" | omega)) | (apply at_ext; wtm_at "A"))); done)))) | ((with_reducible apply Ox.mk); (first | with_reducible assumption | exact intsAll_int _ | exact strsAll_str _ | exact bytesAll_bytes _ | exact rfl)) | exact bT | exact bF | (with_reducible apply Bx.mk; with_reducible assumption) | (first | wtm_at "A" | (refine And.intro (show ItK.still _ _ by (first | exact True.intro | (show _[_]? = some _; (first | ((repeat (first | wtm_at "A" | (apply at_keep; (wtm_at "A"); (wtm_at "A")) | apply at_ext (by wtm_at "A"))); done) | (focus ((repeat (first | wtm_at "A" | with_reducible exact at_last | with_reducible exact at_two0 | with_reducible exact at_two1 | with_reducible apply at_same | with_reducible apply at_old | (with_reducible apply at_other; (first | wtm_at "A" | omega)) | (apply at_ext; wtm_at "A"))); done)))))) ?_; first | (simp only [List.length_append, List.length_cons, List.length_nil, List.length_map]; omega) | omega) | (show ItK.still _ _; (first | exact True.intro | (show _[_]? = some _; (first | ((repeat (first | wtm_at "A" | (apply at_keep; (wtm_at "A"); (wtm_at "A")) | apply at_ext (by wtm_at "A"))); done) | (focus ((repeat (first | wtm_at "A" | with_reducible exact at_last | with_reducible exact at_two0 | with_reducible exact at_two1 | with_reducible apply at_same | with_reducible apply at_old | (with_reducible apply at_other; (first | wtm_at "A" | omega)) | (apply at_ext; wtm_at "A"))); done)))))) | exact Nat.le_of_ble_eq_true rfl | exact of_decide_eq_true rfl | (simp only [smallI, List.length_append, List.length_cons, List.length_nil, List.length_map]; omega) | (refine And.intro (by simp) ?_; intro z hz; simp only [List.mem_cons, List.not_mem_nil, or_false] at hz; omega) | omega | decide))) | (apply CallS.useP; rotate_left; intro O1 hc hk; specialize sp (cQ hc :); rotate_right; (exact modes_put _ _ _ _ _ _ _ _ (by wtm_at "A") (by first | wtm_at "A" | exact es_b _ | exact oE_len _)); try (obtain ⟨hx, hk⟩ := hk)) | wtm_at "B" | fail))
      exact sp ⟨rfl, rfl, hx, hk⟩
    | some a' =>
      refine .mk fun G sp => ?_
      (repeat' (first | specialize sp (by first | (with_reducible apply Cx2.mk; (with_reducible assumption)) | (first | (with_reducible apply Lx.mk; (first | ((repeat (first | wtm_at "A" | (apply at_keep; (wtm_at "A"); (wtm_at "A")) | apply at_ext (by wtm_at "A"))); done) | (focus ((repeat (first | wtm_at "A" | with_reducible exact at_last | with_reducible exact at_two0 | with_reducible exact at_two1 | with_reducible apply at_same | with_reducible apply at_old | (with_reducible apply at_other; (first | wtm_at "A" | omega)) | (apply at_ext; wtm_at "A"))); done)))) | ((with_reducible apply Ox.mk); (first | with_reducible assumption | exact intsAll_int _ | exact strsAll_str _ | exact bytesAll_bytes _ | exact rfl)) | exact bT | exact bF | (with_reducible apply Bx.mk; with_reducible assumption) | (first | wtm_at "A" | (refine And.intro (show ItK.still _ _ by (first | exact True.intro | (show _[_]? = some _; (first | ((repeat (first | wtm_at "A" | (apply at_keep; (wtm_at "A"); (wtm_at "A")) | apply at_ext (by wtm_at "A"))); done) | (focus ((repeat (first | wtm_at "A" | with_reducible exact at_last | with_reducible exact at_two0 | with_reducible exact at_two1 | with_reducible apply at_same | with_reducible apply at_old | (with_reducible apply at_other; (first | wtm_at "A" | omega)) | (apply at_ext; wtm_at "A"))); done)))))) ?_; first | (simp only [List.length_append, List.length_cons, List.length_nil, List.length_map]; omega) | omega) | (show ItK.still _ _; (first | exact True.intro | (show _[_]? = some _; (first | ((repeat (first | wtm_at "A" | (apply at_keep; (wtm_at "A"); (wtm_at "A")) | apply at_ext (by wtm_at "A"))); done) | (focus ((repeat (first | wtm_at "A" | with_reducible exact at_last | with_reducible exact at_two0 | with_reducible exact at_two1 | with_reducible apply at_same | with_reducible apply at_old | (with_reducible apply at_other; (first | wtm_at "A" | omega)) | (apply at_ext; wtm_at "A"))); done)))))) | exact Nat.le_of_ble_eq_true rfl | exact of_decide_eq_true rfl | (simp only [smallI, List.length_append, List.length_cons, List.length_nil, List.length_map]; omega) | (refine And.intro (by simp) ?_; intro z hz; simp only [List.mem_cons, List.not_mem_nil, or_false] at hz; omega) | omega | decide))) | (apply CallS.useP; rotate_left; intro O1 hc hk; specialize sp (cQ hc :); rotate_right; (exact modes_put _ _ _ _ _ _ _ _ (by wtm_at "A") (by first | wtm_at "A" | exact es_b _ | exact oE_len _)); try (obtain ⟨hx, hk⟩ := hk)) | wtm_at "B" | fail))
      exact sp ⟨rfl, rfl, Keep.trans (by assumption) hx, hk⟩
theorem word_for (n : Nat) (i : Nat) (o o' : Option Wd) (w : Int) (m s t : Nat) (O : Ost) (hm : MoAt O m s es0) (ht : O[t]? = some (.tuple [oV o, oV o'])) {G : Prop}
    (k : ∀ O', forP (R (tabs a₀ ns₀) (n + 93)) (gm 63) (.one (Str.ofString "word")) (wB (st 63 1)) (.led t (.tuple [oV o, oV o']) [oV o, oV o']) (orL i (oV o) (oV o') w m []) O .next (orL i (oV o) (oV o') w m [(Str.ofString "word", oV o')]) O' → Keep s O O' → MoAt O' m s (oE o' (oE o es0)) → G) : G := by
  obtain ⟨f, l', O', hc, rfl, rfl, a, b⟩ := word_loop a₀ ns₀ n i o o' w m s t O hm ht
  exact k O' hc a b
noncomputable abbrev orO (m : Nat) (w : Int) (O : Ost) : Ost := O ++ [AO.tuple [.obj m, .int (1 + w.fmod 9), .int (1 + (w.fdiv 9).fmod 5)]]
theorem or_A (n : Nat) (i : Nat) (o o' : Option Wd) (w : Int) (O : Ost) (ss : List Stmt) (K : AF → Locs → Ost → Tr) (D : Rs → Prop) (G : Prop)
    (sp : (exs (R (tabs a₀ ns₀) (n + 94)) (gm 63) (stS 63 0 :: stS 63 1 :: ss) [(Str.ofString "it", .obj i), (Str.ofString "mode", oV o), (Str.ofString "way", oV o'), (Str.ofString "whole", .int w)] O K).Sp D G)
    (k : ∀ O' s, Ext O O' → O.length ≤ s → MoAt O' (O.length + 1) s (oE o' (oE o es0)) → (exs (R (tabs a₀ ns₀) (n + 94)) (gm 63) ss (orL i (oV o) (oV o') w (O.length + 1) [(Str.ofString "word", oV o')]) O' K).Sp D G → G) : G := by
  (repeat' (first | specialize sp (by first | (with_reducible apply Cx2.mk; (with_reducible assumption)) | (first | (with_reducible apply Lx.mk; (first | ((repeat (first | wtm_at "A" | (apply at_keep; (wtm_at "A"); (wtm_at "A")) | apply at_ext (by wtm_at "A"))); done) | (focus ((repeat (first | wtm_at "A" | with_reducible exact at_last | with_reducible exact at_two0 | with_reducible exact at_two1 | with_reducible apply at_same | with_reducible apply at_old | (with_reducible apply at_other; (first | wtm_at "A" | omega)) | (apply at_ext; wtm_at "A"))); done)))) | ((with_reducible apply Ox.mk); (first | with_reducible assumption | exact intsAll_int _ | exact strsAll_str _ | exact bytesAll_bytes _ | exact rfl)) | exact bT | exact bF | (with_reducible apply Bx.mk; with_reducible assumption) | (first | wtm_at "A" | (refine And.intro (show ItK.still _ _ by (first | exact True.intro | (show _[_]? = some _; (first | ((repeat (first | wtm_at "A" | (apply at_keep; (wtm_at "A"); (wtm_at "A")) | apply at_ext (by wtm_at "A"))); done) | (focus ((repeat (first | wtm_at "A" | with_reducible exact at_last | with_reducible exact at_two0 | with_reducible exact at_two1 | with_reducible apply at_same | with_reducible apply at_old | (with_reducible apply at_other; (first | wtm_at "A" | omega)) | (apply at_ext; wtm_at "A"))); done)))))) ?_; first | (simp only [List.length_append, List.length_cons, List.length_nil, List.length_map]; omega) | omega) | (show ItK.still _ _; (first | exact True.intro | (show _[_]? = some _; (first | ((repeat (first | wtm_at "A" | (apply at_keep; (wtm_at "A"); (wtm_at "A")) | apply at_ext (by wtm_at "A"))); done) | (focus ((repeat (first | wtm_at "A" | with_reducible exact at_last | with_reducible exact at_two0 | with_reducible exact at_two1 | with_reducible apply at_same | with_reducible apply at_old | (with_reducible apply at_other; (first | wtm_at "A" | omega)) | (apply at_ext; wtm_at "A"))); done)))))) | exact Nat.le_of_ble_eq_true rfl | exact of_decide_eq_true rfl | (simp only [smallI, List.length_append, List.length_cons, List.length_nil, List.length_map]; omega) | (refine And.intro (by simp) ?_; intro z hz; simp only [List.mem_cons, List.not_mem_nil, or_false] at hz; omega) | omega | decide))) | (apply CallS.useP; rotate_left; intro O1 hc hk; specialize sp (cQ hc :); rotate_right; (exact modes_new _ _ _ _); try (obtain ⟨hx, hk⟩ := hk)) | wtm_at "B" | fail))
  refine word_for a₀ ns₀ n i o o' w (O.length + 1) _ (orO (O.length + 1) w O1).length (orO (O.length + 1) w O1 ++ [.tuple [oV o, oV o']]) (hk.ext (ext_app (ext_app (Ext.refl _)))) at_last fun O' hc kp hm => ?_
  have hl : O.length ≤ (newO 69 O).length := Nat.le_trans (Nat.le_add_right _ _) (Nat.le_of_eq List.length_append.symm)
  have hy : Ext O O' := kp.ext (hx.trans (ext_app (ext_app (Ext.refl _)))) hl
  specialize sp (fQ hc :)
  exact k O' _ hy hl hm sp
noncomputable abbrev orW (md : Md) (wy : Wy) (kd : Kd) (b row col mods w : Int) : List Int := octetsOf md wy kd b row col mods (1 + w.fmod 9) (1 + (w.fdiv 9).fmod 5)
section
variable {kd : Kd} {b row col mods : Int}
theorem fmod_b (x : Int) {m : Int} (h : 0 < m) : 0 ≤ x.fmod m ∧ x.fmod m < m := by
  rw [Int.fmod_eq_emod_of_nonneg _ (Int.le_of_lt h)]
  exact ⟨Int.emod_nonneg _ (Int.ne_of_gt h), Int.emod_lt_of_pos _ h⟩
theorem wide_b (w : Int) : 1 ≤ 1 + w.fmod 9 ∧ 1 + w.fmod 9 ≤ 9 := by have := fmod_b w (m := 9) (by decide); omega
theorem high_b (w : Int) : 1 ≤ 1 + (w.fdiv 9).fmod 5 ∧ 1 + (w.fdiv 9).fmod 5 ≤ 9 := by have := fmod_b (w.fdiv 9) (m := 5) (by decide); omega
theorem or_B (n : Nat) (i m s : Nat) (md : Md) (wy : Wy) (w : Int) (O : Ost) (he : ItmAt O i kd b row col mods) (h : EvOk kd b row col mods) (hm : MoAt O m s (oE wy.o (oE md.o es0))) (ss : List Stmt) (K : AF → Locs → Ost → Tr) (D : Rs → Prop) (G : Prop)
    (sp : (exs (R (tabs a₀ ns₀) (n + 94)) (gm 63) (stS 63 2 :: ss) (orL i md.v wy.v w m [(Str.ofString "word", wy.v)]) O K).Sp D G)
    (k : ∀ O', Ext O O' → (exs (R (tabs a₀ ns₀) (n + 94)) (gm 63) ss (orL i md.v wy.v w m [(Str.ofString "word", wy.v), (Str.ofString "due", .bytes (orW md wy kd b row col mods w)), (Str.ofString "told", .bytes (orW md wy kd b row col mods w))]) O' K).Sp D G → G) : G := by
  have hwd := cell_b h.c0 (wide_b w)
  have hhg := cell_b h.r0 (high_b w)
  have ons := o_ons md wy
  have hL : ∀ k P, Ext O P → CallX (R (tabs a₀ ns₀) (k + 40)) 312 [.obj i, md.v, wy.v, .int (1 + w.fmod 9), .int (1 + (w.fdiv 9).fmod 5)] P (.bytes (orW md wy kd b row col mods w)) := fun k P p => law_written a₀ ns₀ k i md wy P (he.ext p) h hwd hhg
  have hM : ∀ k P, Ext O P → CallJ (R (tabs a₀ ns₀) (k + 25)) 333 [.obj i] P fun t O' => Ext P O' ∧ EvAt O' t kd b row col mods := fun k P p => law_made a₀ ns₀ k i P (he.ext p)
  have hO : ∀ k P j, EvAt P j kd b row col mods → Ext O P → CallX (R (tabs a₀ ns₀) (k + 65)) 163 [.obj j, .obj m, .int (1 + w.fmod 9), .int (1 + (w.fdiv 9).fmod 5)] P (.bytes (orW md wy kd b row col mods w)) := fun k P j q p => mouse_octets a₀ ns₀ k j m s _ md wy kd b row col mods _ _ P q (hm.ext p) ons.1 ons.2 h.b0 h.m0 h.r0 h.c0 hwd hhg
  clear he h hm hwd hhg ons
  (repeat' (first | specialize sp (by first | (with_reducible apply Cx2.mk; (with_reducible assumption)) | wtm_at "a") | (apply CallS.useP; rotate_left; intro O1 hc hk; specialize sp (cQ hc :); rotate_right; (first | (apply hL; wtm_at "p") | (apply hO; (exact hev); (wtm_at "p"))); try (obtain ⟨hx, hk⟩ := hk)) | (apply CallJ.use; rotate_left; intro j O1 hc hk; specialize sp (cQ hc :); rotate_right; (apply hM; (wtm_at "p")); obtain ⟨hx, hev⟩ := hk) | wtm_at "B" | fail))
  exact k _ (by wtm_at "p") sp
noncomputable abbrev orM (v : AV) (W : List Int) (r : Locs) : Locs := (Str.ofString "word", v) :: (Str.ofString "due", .bytes W) :: (Str.ofString "told", .bytes W) :: r
theorem ne_self (W : List Int) : (!bEq W W) = false := by rw [show bEq W W = true from decide_eq_true rfl]; rfl
noncomputable abbrev noB : List Int := List.map (fun c : UInt8 => ((c.toNat : Nat) : Int)) []
theorem or_C0 (n : Nat) (i m : Nat) (v v' : AV) (w : Int) (O : Ost) (ss : List Stmt) (K : AF → Locs → Ost → Tr) (D : Rs → Prop) (G : Prop)
    (sp : (exs (R (tabs a₀ ns₀) (n + 94)) (gm 63) (stS 63 3 :: stS 63 4 :: ss) (orL i v v' w m (orM v' [] [])) O K).Sp D G) (k : ∀ l', (K (.ret (.bool true)) l' O).Sp D G → G) : G := by
  have h1 := ne_self []
  have h2 : bEq [] noB = true := rfl
  (repeat' (first | specialize sp (by first | (with_reducible apply Cx2.mk; (with_reducible assumption)) | wtm_at "a") | wtm_at "B" | fail))
  exact k _ sp
theorem or_C1 (n : Nat) (i m : Nat) (v v' : AV) (w : Int) (W : List Int) (O : Ost) (hW : W ≠ []) : Leaves (R (tabs a₀ ns₀) (n + 94)) (gm 63) (stS 63 3) (orL i v v' w m (orM v' W [])) (orL i v v' w m (orM v' W [])) O O := by
  intro ss K D G sp k
  have h1 := ne_self W
  (repeat' (first | specialize sp (by first | (with_reducible apply Cx2.mk; (with_reducible assumption)) | wtm_at "a") | wtm_at "B" | fail))
  exact k sp
theorem or_C2 (n : Nat) (i m : Nat) (v v' : AV) (w : Int) (W : List Int) (O : Ost) (hW : W ≠ []) : Leaves (R (tabs a₀ ns₀) (n + 94)) (gm 63) (stS 63 4) (orL i v v' w m (orM v' W [])) (orL i v v' w m (orM v' W [])) O O := by
  intro ss K D G sp k
  have h2 : bEq W noB = false := decide_eq_false hW
  (repeat' (first | specialize sp (by first | (with_reducible apply Cx2.mk; (with_reducible assumption)) | wtm_at "a") | wtm_at "B" | fail))
  exact k sp
end
section
variable {kd : Kd} {b row col mods : Int}
theorem in_named (wy : Wy) : inAll wy.v [.str (Str.ofString "mouse_sgr"), .str (Str.ofString "mouse_pixels")] = some wy.named := by cases wy <;> rfl
theorem or_D5 (n : Nat) (i m : Nat) (v : AV) (wy : Wy) (w : Int) (W : List Int) (O : Ost) (ss : List Stmt) (K : AF → Locs → Ost → Tr) (D : Rs → Prop) (G : Prop)
    (sp : (exs (R (tabs a₀ ns₀) (n + 94)) (gm 63) (stS 63 5 :: ss) (orL i v wy.v w m (orM wy.v W [])) O K).Sp D G)
    (k : ∀ O', Ext O O' → (exs (R (tabs a₀ ns₀) (n + 94)) (gm 63) ss (orL i v wy.v w m (orM wy.v W [(Str.ofString "is_named", .bool wy.named), (Str.ofString "at", .int (w.fmod 3))])) O' K).Sp D G → G) : G := by
  have hin := in_named wy
  (repeat' wtm_at "y")
  exact k _ (by wtm_at "p") sp
noncomputable abbrev orD (v : AV) (wy : Wy) (w : Int) (W : List Int) (r : Locs) : Locs := orM v W ((Str.ofString "is_named", .bool wy.named) :: (Str.ofString "at", .int (w.fmod 3)) :: r)
noncomputable abbrev szT (wy : Wy) (w : Int) : AO := .tuple [.int (cond wy.px (1 + w.fmod 9) 0), .int (cond wy.px (1 + (w.fdiv 9).fmod 5) 0)]
theorem or_D6 (n : Nat) (i m : Nat) (v : AV) (wy : Wy) (w : Int) (W : List Int) (O : Ost) (ss : List Stmt) (K : AF → Locs → Ost → Tr) (D : Rs → Prop) (G : Prop)
    (sp : (exs (R (tabs a₀ ns₀) (n + 94)) (gm 63) (stS 63 6 :: ss) (orL i v wy.v w m (orD wy.v wy w W [])) O K).Sp D G)
    (k : ∀ O' z, Ext O O' → O'[z]? = some (szT wy w) → (exs (R (tabs a₀ ns₀) (n + 94)) (gm 63) ss (orL i v wy.v w m (orD wy.v wy w W [(Str.ofString "sizes", .obj z)])) O' K).Sp D G → G) : G := by
  cases wy
  all_goals
    (repeat' wtm_at "y")
    exact k _ _ (by wtm_at "p") at_last sp
end
section
variable {kd : Kd} {b row col mods m : Int}
theorem rep_len (c : Int) : ∀ n : Nat, (rep [c] n).length = n
  | 0 => rfl
  | n + 1 => by
    have := rep_len c n
    unfold rep at this ⊢
    rw [List.replicate_succ, List.flatten_cons, List.length_append, this]; exact Nat.add_comm 1 n
noncomputable abbrev xs3 (w : Int) : List Int := rep (List.map (fun c : UInt8 => ((c.toNat : Nat) : Int)) [120]) (w.fmod 3).toNat
theorem xs3_len (w : Int) : (xs3 w).length = (w.fmod 3).toNat := rep_len 120 _
theorem xs3_b (w : Int) : ((xs3 w).length : Int) = w.fmod 3 ∧ (xs3 w).length ≤ 10 := by
  have := fmod_b w (m := 3) (by decide)
  rw [xs3_len]; omega
theorem g_mul (w : Int) : 0 ≤ w.fmod 3 ∧ w.fmod 3 ≤ 1000 ∧ List.map (fun c : UInt8 => ((c.toNat : Nat) : Int)) [120] ≠ [] ∧ (List.map (fun c : UInt8 => ((c.toNat : Nat) : Int)) [120]).length ≤ 16 := by
  have := fmod_b w (m := 3) (by decide)
  exact ⟨this.1, by omega, by simp, by decide⟩
theorem or_E7 (n : Nat) (i mo z : Nat) (v : AV) (wy : Wy) (w : Int) (W : List Int) (O : Ost) (h : EvOk kd b row col m) (hz : O[z]? = some (szT wy w)) (hW : wroteOf wy kd b row col m (1 + w.fmod 9) (1 + (w.fdiv 9).fmod 5) = W) (hne : W ≠ []) (ss : List Stmt) (K : AF → Locs → Ost → Tr) (D : Rs → Prop) (G : Prop)
    (sp : (exs (R (tabs a₀ ns₀) (n + 94)) (gm 63) (stS 63 7 :: ss) (orL i v wy.v w mo (orD wy.v wy w W [(Str.ofString "sizes", .obj z)])) O K).Sp D G)
    (k : ∀ O' t, TupEv kd (btn kd b wy.named) row col m (w.fmod 3 + W.length) O t O' → (exs (R (tabs a₀ ns₀) (n + 94)) (gm 63) ss (orL i v wy.v w mo (orD wy.v wy w W [(Str.ofString "sizes", .obj z), (Str.ofString "found", .obj t)])) O' K).Sp D G → G) : G := by
  have lW : W.length ≤ 40 := hW ▸ wrote_len wy h (wide_b w) (high_b w)
  have xb := xs3_b w
  have hR : ∀ k P, CallJ (R (tabs a₀ ns₀) (k + 75)) 197 (rdA (xs3 w ++ W ++ [77, 49]) (w.fmod 3) wy.u8 (cond wy.px (1 + w.fmod 9) 0) (cond wy.px (1 + (w.fdiv 9).fmod 5) 0)) P (TupEv kd (btn kd b wy.named) row col m (w.fmod 3 + W.length) P) := fun k P => by
    have q := read_back a₀ ns₀ k wy (xs3 w) P h xb.2 (wide_b w) (high_b w) (hW ▸ hne)
    rw [hW, xb.1] at q
    exact q
  have g1 := g_mul w
  have g2 : (xs3 w).length + W.length ≤ 16777216 := Nat.le_trans (Nat.add_le_add xb.2 lW) (by decide)
  have g3 : (xs3 w ++ W).length + 2 ≤ 16777216 := by rw [List.length_append]; exact Nat.le_trans (Nat.add_le_add_right (Nat.add_le_add xb.2 lW) 2) (by decide)
  clear h hW hne xb lW
  cases wy
  all_goals
    (repeat' (first | specialize sp (by first | (with_reducible apply Cx2.mk; (with_reducible assumption)) | wtm_at "a") | (apply CallJ.use; rotate_left; intro j O1 hc hk; specialize sp (cQ hc :); rotate_right; (apply hR)) | wtm_at "B" | fail))
    exact k _ _ hk sp
end
section
variable {kd : Kd} {b row col mods m : Int}
noncomputable abbrev orF (v : AV) (wy : Wy) (w : Int) (W : List Int) (z t : Nat) (r : Locs) : Locs := orD v wy w W ((Str.ofString "sizes", .obj z) :: (Str.ofString "found", .obj t) :: r)
theorem ne_int (x : Int) : (!iEq x x) = false := by rw [show iEq x x = true from decide_eq_true rfl]; rfl
theorem or_F8 (n : Nat) (i mo z t j : Nat) (v : AV) (wy : Wy) (w : Int) (W : List Int) (O : Ost) (ht : O[t]? = some (.tuple [.obj j, .int (w.fmod 3 + W.length)])) (lW : W.length ≤ 1000000) : Leaves (R (tabs a₀ ns₀) (n + 94)) (gm 63) (stS 63 8) (orL i v wy.v w mo (orF wy.v wy w W z t [])) (orL i v wy.v w mo (orF wy.v wy w W z t [])) O O := by
  intro ss K D G sp k
  have h1 := ne_int (w.fmod 3 + W.length)
  (repeat' wtm_at "y")
  exact k sp
theorem bt_1 {nm : Bool} (h : sEq kd.s (Str.ofString "release") = true) {c : Bool} (q : (!nm) = c) : btn kd b nm = cond c 0 b := by unfold btn; rw [kd_rel h, q]; rfl
theorem bt_2 {nm : Bool} (h : sEq kd.s (Str.ofString "release") = false) : btn kd b nm = b := by unfold btn; rw [kd_rel h]; rfl
theorem or_F9 (n : Nat) (i mo z t : Nat) (v : AV) (wy : Wy) (w : Int) (W : List Int) (O : Ost) (he : ItmAt O i kd b row col mods) : Leaves (R (tabs a₀ ns₀) (n + 94)) (gm 63) (stS 63 9) (orL i v wy.v w mo (orF wy.v wy w W z t [])) (orL i v wy.v w mo (orF wy.v wy w W z t [(Str.ofString "button", .int (btn kd b wy.named))])) O O := by
  intro ss K D G sp k
  unfold ItmAt at he
  (repeat' wtm_at "y")
  · rw [bt_1 (by assumption) hB] at k; exact k sp
  · rw [bt_1 (by assumption) hB] at k; exact k sp
  · rw [bt_2 hB] at k; exact k sp
noncomputable abbrev sameT (s : Str) (b row col m : Int) : Bool := and (sEq s s) (and (iEq b b) (and (iEq row row) (and (iEq col col) (and (iEq m m) true))))
theorem ne_tup (s : Str) (b row col m : Int) : (!sameT s b row col m) = false := by
  have e : ∀ x : Int, iEq x x = true := fun x => decide_eq_true rfl
  have e' : sEq s s = true := decide_eq_true rfl
  unfold sameT
  rw [e', e, e, e, e]; rfl
theorem or_F10 (n : Nat) (i mo z t j : Nat) (md : Md) (wy : Wy) (w q : Int) (W : List Int) (O : Ost) (nn : md ≠ .no) (he : ItmAt O i kd b row col mods) (ht : O[t]? = some (.tuple [.obj j, .int q])) (hev : EvAt O j kd (btn kd b wy.named) row col (modsOf md mods)) (ss : List Stmt) (K : AF → Locs → Ost → Tr) (D : Rs → Prop) (G : Prop)
    (sp : (exs (R (tabs a₀ ns₀) (n + 94)) (gm 63) (stS 63 10 :: ss) (orL i (.str md.s) wy.v w mo (orF wy.v wy w W z t [(Str.ofString "button", .int (btn kd b wy.named))])) O K).Sp D G)
    (k : ∀ O', Ext O O' → (exs (R (tabs a₀ ns₀) (n + 94)) (gm 63) ss (orL i (.str md.s) wy.v w mo (orF wy.v wy w W z t [(Str.ofString "button", .int (btn kd b wy.named))])) O' K).Sp D G → G) : G := by
  have h0 := ne_tup kd.s (btn kd b wy.named) row col 0
  have hm := ne_tup kd.s (btn kd b wy.named) row col mods
  unfold ItmAt at he
  refine Bool.two (sEq md.s (Str.ofString "mouse_x10")) (fun hx => ?_) fun hx => ?_
  · rw [mods_x10 hx] at hev
    (repeat' (first | specialize sp (by first | (with_reducible apply Cx2.mk; (with_reducible assumption)) | wtm_at "a") | (apply CallJ.use; rotate_left; intro j O1 hc hk; specialize sp (cQ hc :); rotate_right; exact law_told _ _ _ _ _ (by wtm_at "A"); obtain ⟨hx, hit⟩ := hk; unfold ItmAt at hit) | wtm_at "B" | fail))
    exact k _ (by wtm_at "p") sp
  · rw [mods_not nn hx] at hev
    (repeat' (first | specialize sp (by first | (with_reducible apply Cx2.mk; (with_reducible assumption)) | wtm_at "a") | (apply CallJ.use; rotate_left; intro j O1 hc hk; specialize sp (cQ hc :); rotate_right; exact law_told _ _ _ _ _ (by wtm_at "A"); obtain ⟨hx, hit⟩ := hk; unfold ItmAt at hit) | wtm_at "B" | fail))
    exact k _ (by wtm_at "p") sp
end
section
variable {kd : Kd} {b row col mods m : Int}
theorem or_G11 (n : Nat) (i mo z t : Nat) (v : AV) (wy : Wy) (w : Int) (W : List Int) (O : Ost) (r : AV) (hW : (W.length : Int) ≠ 0) (lW : W.length ≤ 1000000) : Leaves (R (tabs a₀ ns₀) (n + 94)) (gm 63) (stS 63 11) (orL i v wy.v w mo (orF wy.v wy w W z t [(Str.ofString "button", r)])) (orL i v wy.v w mo (orF wy.v wy w W z t [(Str.ofString "button", r), (Str.ofString "cut", .int (w.fmod W.length))])) O O := by
  intro ss K D G sp k
  (repeat' wtm_at "y")
  exact k sp
theorem cut_to {W : List Int} {x : Int} (h0 : 0 ≤ x) (h1 : x ≤ W.length) : cut W none (some x) = W.take x.toNat := by
  unfold cut
  simp only [Option.elim, List.drop_zero, Nat.sub_zero]
  rw [clipAt_in h0 h1]
theorem or_G12 (n : Nat) (i mo z t : Nat) (v : AV) (wy : Wy) (w : Int) (W : List Int) (O : Ost) (r : AV) (hz : O[z]? = some (szT wy w)) (h : EvOk kd b row col m) (hW : wroteOf wy kd b row col m (1 + w.fmod 9) (1 + (w.fdiv 9).fmod 5) = W) (hne : W ≠ []) (ss : List Stmt) (K : AF → Locs → Ost → Tr) (D : Rs → Prop) (G : Prop)
    (sp : (exs (R (tabs a₀ ns₀) (n + 94)) (gm 63) (stS 63 12 :: ss) (orL i v wy.v w mo (orF wy.v wy w W z t [(Str.ofString "button", r), (Str.ofString "cut", .int (w.fmod W.length))])) O K).Sp D G)
    (k : ∀ l' O', Ext O O' → (K (.ret (.bool true)) l' O').Sp D G → G) : G := by
  have lW : W.length ≤ 1000000 := Nat.le_trans (hW ▸ wrote_len wy h (wide_b w) (high_b w)) (by decide)
  have wl := fmod_b w (m := (W.length : Int)) (Int.ofNat_lt.mpr (List.length_pos_iff.mpr hne))
  have hR : ∀ k P, CallX (R (tabs a₀ ns₀) (k + 75)) 197 (rdA (cut W none (some (w.fmod W.length))) 0 wy.u8 (cond wy.px (1 + w.fmod 9) 0) (cond wy.px (1 + (w.fdiv 9).fmod 5) 0)) P .none := fun k P => by
    rw [cut_to wl.1 (Int.le_of_lt wl.2)]
    have q := read_cut a₀ ns₀ k wy (w.fmod W.length).toNat (cond wy.px (1 + w.fmod 9) 0) (cond wy.px (1 + (w.fdiv 9).fmod 5) 0) P h (wide_b w) (high_b w) (hW ▸ hne) (by rw [hW]; omega)
    rw [hW] at q
    exact q
  clear h hW hne wl
  cases wy
  all_goals
    (repeat' (first | specialize sp (by first | (with_reducible apply Cx2.mk; (with_reducible assumption)) | wtm_at "a") | (apply CallS.useP; rotate_left; intro O1 hc hk; specialize sp (cQ hc :); rotate_right; (apply hR); try (obtain ⟨hx, hk⟩ := hk)) | wtm_at "B" | fail))
    exact k _ _ (by wtm_at "p") sp
end
section
variable {kd : Kd} {b row col mods : Int}
theorem one_right (n : Nat) (i : Nat) (md : Md) (wy : Wy) (w : Int) (O : Ost) (he : ItmAt O i kd b row col mods) (h : EvOk kd b row col mods) : CallX (R (tabs a₀ ns₀) (n + 95)) 340 [.obj i, md.v, wy.v, .int w] O (.bool true) := by
  refine .mkB (gm 63) [stS 63 0, stS 63 1, stS 63 2, stS 63 3, stS 63 4, stS 63 5, stS 63 6, stS 63 7, stS 63 8, stS 63 9, stS 63 10, stS 63 11, stS 63 12] [(Str.ofString "it", .obj i), (Str.ofString "mode", md.v), (Str.ofString "way", wy.v), (Str.ofString "whole", .int w)] (fun _ => rfl) fun G sp => ?_
  rw [Md.v_o, Wy.v_o] at sp
  refine or_A a₀ ns₀ n i md.o wy.o w O _ _ _ G sp fun P s hx _ hm sp => ?_
  rw [← Md.v_o, ← Wy.v_o] at sp
  refine or_B a₀ ns₀ n i (O.length + 1) s md wy w P (he.ext hx) h hm _ _ _ G sp fun P1 h1 sp => ?_
  have hx := hx.trans h1
  clear h1 hm
  rcases Decidable.em (orW md wy kd b row col mods w = []) with e | e
  · rw [e] at sp
    exact or_C0 a₀ ns₀ n i _ md.v wy.v w P1 _ _ _ G sp fun l' sp => sp ⟨rfl, hx⟩
  · have ht : md.told kd b = true := (Bool.not_eq_false _).mp fun q => e (cf q)
    have eW : orW md wy kd b row col mods w = wroteOf wy kd b row col (modsOf md mods) (1 + w.fmod 9) (1 + (w.fdiv 9).fmod 5) := ct ht
    have nn : md ≠ .no := by rintro rfl; cases ht
    have hm : EvOk kd b row col (modsOf md mods) := ⟨h.b0, h.dom, by cases md <;> first | exact h.m0 | exact ⟨Int.le_refl 0, show (0 : Int) < 8 by decide⟩, h.r0, h.c0⟩
    have lW : (orW md wy kd b row col mods w).length ≤ 1000000 := Nat.le_trans (eW ▸ wrote_len wy hm (wide_b w) (high_b w)) (by decide)
    have l0 : ((orW md wy kd b row col mods w).length : Int) ≠ 0 := fun q => e (List.length_eq_zero_iff.mp (Int.ofNat.inj q))
    have eW := eW.symm
    generalize orW md wy kd b row col mods w = W at sp e eW lW l0
    refine or_C1 a₀ ns₀ n i _ md.v wy.v w W P1 e _ _ _ G sp fun sp => ?_
    refine or_C2 a₀ ns₀ n i _ md.v wy.v w W P1 e _ _ _ G sp fun sp => ?_
    refine or_D5 a₀ ns₀ n i _ md.v wy w W P1 _ _ _ G sp fun P2 h2 sp => ?_
    refine or_D6 a₀ ns₀ n i _ md.v wy w W P2 _ _ _ G sp fun P3 z h3 hz sp => ?_
    refine or_E7 a₀ ns₀ n i _ z md.v wy w W P3 hm hz eW e _ _ _ G sp fun P4 t h4 sp => ?_
    obtain ⟨h4, j, htt, hev⟩ := h4
    have hx4 := hx.trans (h2.trans (h3.trans h4))
    refine or_F8 a₀ ns₀ n i _ z t j md.v wy w W P4 htt lW _ _ _ G sp fun sp => ?_
    refine or_F9 a₀ ns₀ n i _ z t md.v wy w W P4 (he.ext hx4) _ _ _ G sp fun sp => ?_
    rw [Md.v_s nn] at sp
    refine or_F10 a₀ ns₀ n i _ z t j md wy w _ W P4 nn (he.ext hx4) htt hev _ _ _ G sp fun P5 h5 sp => ?_
    refine or_G11 a₀ ns₀ n i _ z t _ wy w W P5 _ l0 lW _ _ _ G sp fun sp => ?_
    refine or_G12 a₀ ns₀ n i _ z t _ wy w W P5 _ ((h4.trans h5) _ _ hz) hm eW e _ _ _ G sp fun l' P6 h6 sp => ?_
    exact sp ⟨rfl, hx4.trans (h5.trans h6)⟩
end
theorem pick {L : List Int} {x : Int} {k : Nat} (hk : L.length = k) (h : 0 ≤ x ∧ x < (k : Int)) : ∃ b, b ∈ L ∧ (L.map AV.int)[x.toNat]? = some (.int b) := by
  subst hk
  have hl : x.toNat < L.length := by omega
  exact ⟨L[x.toNat], List.getElem_mem hl, by rw [List.getElem?_map, List.getElem?_eq_getElem hl]; rfl⟩
theorem kind_pick {x : Int} (h : 0 ≤ x ∧ x < 3) : ∃ kd : Kd, [AV.str (Str.ofString "press"), .str (Str.ofString "release"), .str (Str.ofString "move")][x.toNat]? = some (.str kd.s) := by
  have hl : x.toNat < 3 := by omega
  match x.toNat, hl with
  | 0, _ => exact ⟨.press, rfl⟩
  | 1, _ => exact ⟨.release, rfl⟩
  | 2, _ => exact ⟨.move, rfl⟩
theorem press_pick {x : Int} (h : 0 ≤ x ∧ x < 7) : ∃ b : Int, [AV.int 1, .int 2, .int 3, .int 4, .int 7, .int 8, .int 11][x.toNat]? = some (.int b) ∧ (0 ≤ b ∧ b < 12) ∧ domB .press b = true := by
  obtain ⟨b, hb, e⟩ := pick (L := [1, 2, 3, 4, 7, 8, 11]) (k := 7) rfl h
  exact ⟨b, e, (by decide : ∀ b ∈ ([1, 2, 3, 4, 7, 8, 11] : List Int), 0 ≤ b ∧ b < 12) b hb, List.contains_iff_mem.mpr hb⟩
theorem other_pick {x : Int} (h : 0 ≤ x ∧ x < 5) : ∃ b : Int, [AV.int 0, .int 1, .int 2, .int 3, .int 8][x.toNat]? = some (.int b) ∧ (0 ≤ b ∧ b < 12) ∧ domB .release b = true ∧ domB .move b = true := by
  obtain ⟨b, hb, e⟩ := pick (L := [0, 1, 2, 3, 8]) (k := 5) rfl h
  exact ⟨b, e, (by decide : ∀ b ∈ ([0, 1, 2, 3, 8] : List Int), 0 ≤ b ∧ b < 12) b hb, List.contains_iff_mem.mpr hb, List.contains_iff_mem.mpr hb⟩
theorem far_pick {x : Int} (h : 0 ≤ x ∧ x < 7) : ∃ b : Int, [AV.int 3, .int 222, .int 223, .int 95, .int 2014, .int 2015, .int 3000][x.toNat]? = some (.int b) ∧ 0 ≤ b ∧ b ≤ 3000 := by
  obtain ⟨b, hb, e⟩ := pick (L := [3, 222, 223, 95, 2014, 2015, 3000]) (k := 7) rfl h
  exact ⟨b, e, (by decide : ∀ b ∈ ([3, 222, 223, 95, 2014, 2015, 3000] : List Int), 0 ≤ b ∧ b ≤ 3000) b hb⟩
noncomputable def evL (i : Nat) (kd : Kd) (b : Int) (r : Locs) : Locs := (Str.ofString "cells", .obj i) :: (Str.ofString "kind", .str kd.s) :: (Str.ofString "button", .int b) :: r
noncomputable def cells5 (O : Ost) (i : Nat) (c0 c1 c2 c3 c4 : Int) : Prop := O[i]? = some (.list [.int c0, .int c1, .int c2, .int c3, .int c4])
section
variable {c0 c1 c2 c3 c4 : Int} {kd : Kd} {b row : Int}
theorem ev_1 (n : Nat) (i : Nat) (O : Ost) (hi : cells5 O i c0 c1 c2 c3 c4) (ss : List Stmt) (K : AF → Locs → Ost → Tr) (D : Rs → Prop) (G : Prop)
    (sp : (exs (R (tabs a₀ ns₀) (n + 19)) (gm 61) (stS 61 0 :: stS 61 1 :: ss) [(Str.ofString "cells", .obj i)] O K).Sp D G)
    (k : ∀ kd b O', Ext O O' → 0 ≤ b ∧ b < 12 → domB kd b = true → (exs (R (tabs a₀ ns₀) (n + 19)) (gm 61) ss (evL i kd b []) O' K).Sp D G → G) : G := by
  unfold cells5 at hi
  have q0 := fmod_b (c0.fdiv 4) (m := 3) (by decide)
  have g0 : 0 ≤ (c0.fdiv 4).fmod 3 ∧ (c0.fdiv 4).fmod 3 < 1000000 := ⟨q0.1, by omega⟩
  have q1 := fmod_b c1 (m := 7) (by decide)
  have g1 : 0 ≤ c1.fmod 7 ∧ c1.fmod 7 < 1000000 := ⟨q1.1, by omega⟩
  have q2 := fmod_b c1 (m := 5) (by decide)
  have g2 : 0 ≤ c1.fmod 5 ∧ c1.fmod 5 < 1000000 := ⟨q2.1, by omega⟩
  obtain ⟨kd, e0⟩ := kind_pick q0
  obtain ⟨b1, e1, f1, f2⟩ := press_pick q1
  obtain ⟨b2, e2, f3, f4, f5⟩ := other_pick q2
  clear q0 q1 q2
  cases kd
  · (repeat' wtm_at "y")
    exact k .press b1 _ (by wtm_at "p") f1 f2 sp
  · (repeat' wtm_at "y")
    exact k .release b2 _ (by wtm_at "p") f3 f4 sp
  · (repeat' wtm_at "y")
    exact k .move b2 _ (by wtm_at "p") f3 f5 sp
noncomputable abbrev farO : AO := .list [.int 3, .int 222, .int 223, .int 95, .int 2014, .int 2015, .int 3000]
noncomputable abbrev evF (i : Nat) (kd : Kd) (b : Int) (f : Nat) (r : Locs) : Locs := evL i kd b ((Str.ofString "far", .obj f) :: r)
theorem m5_b (x : Int) : 0 ≤ x.fmod 5 ∧ x.fmod 5 ≤ 3000 := by have := fmod_b x (m := 5) (by decide); omega
theorem ev_3 (n : Nat) (i f : Nat) (O : Ost) (hi : cells5 O i c0 c1 c2 c3 c4) (hf : O[f]? = some farO) (ss : List Stmt) (K : AF → Locs → Ost → Tr) (D : Rs → Prop) (G : Prop)
    (sp : (exs (R (tabs a₀ ns₀) (n + 19)) (gm 61) (stS 61 3 :: ss) (evF i kd b f []) O K).Sp D G)
    (k : ∀ r, 0 ≤ r ∧ r ≤ 3000 → (exs (R (tabs a₀ ns₀) (n + 19)) (gm 61) ss (evF i kd b f [(Str.ofString "row", .int r)]) O K).Sp D G → G) : G := by
  unfold cells5 at hi
  have q1 := fmod_b c2 (m := 7) (by decide)
  have g1 : 0 ≤ c2.fmod 7 ∧ c2.fmod 7 < 1000000 := ⟨q1.1, by omega⟩
  obtain ⟨b1, e1, f1⟩ := far_pick q1
  clear q1
  (repeat' wtm_at "y")
  · exact k b1 f1 sp
  · exact k _ (m5_b c2) sp
theorem ev_4 (n : Nat) (i f : Nat) (O : Ost) (hi : cells5 O i c0 c1 c2 c3 c4) (hf : O[f]? = some farO) (ss : List Stmt) (K : AF → Locs → Ost → Tr) (D : Rs → Prop) (G : Prop)
    (sp : (exs (R (tabs a₀ ns₀) (n + 19)) (gm 61) (stS 61 4 :: ss) (evF i kd b f [(Str.ofString "row", .int row)]) O K).Sp D G)
    (k : ∀ r, 0 ≤ r ∧ r ≤ 3000 → (exs (R (tabs a₀ ns₀) (n + 19)) (gm 61) ss (evF i kd b f [(Str.ofString "row", .int row), (Str.ofString "column", .int r)]) O K).Sp D G → G) : G := by
  unfold cells5 at hi
  have q1 := fmod_b c3 (m := 7) (by decide)
  have g1 : 0 ≤ c3.fmod 7 ∧ c3.fmod 7 < 1000000 := ⟨q1.1, by omega⟩
  obtain ⟨b1, e1, f1⟩ := far_pick q1
  clear q1
  (repeat' wtm_at "y")
  · exact k b1 f1 sp
  · exact k _ (m5_b c3) sp
theorem CallJ.mkB {tb : Tb} {n : Nat} {a : Addr} {vs : List AV} {O : Ost} {p : Nat → Ost → Prop} (Γ : Cx) (body : List Stmt) (l : Locs) (h : ∀ k', stepC tb (R tb n) a vs O k' = exs (R tb n) Γ body l O (kont k'))
    (f : ∀ G : Prop, (exs (R tb n) Γ body l O (kont fun v O1 => .done (.v v O1))).Sp (kC fun u O' => ∃ j, u = .obj j ∧ p j O') G → G) : CallJ (R tb (n + 1)) a vs O p := .mk fun G sp => f G (h _ ▸ sp)
theorem law_event (n : Nat) (i : Nat) (O : Ost) (hi : cells5 O i c0 c1 c2 c3 c4) : CallJ (R (tabs a₀ ns₀) (n + 20)) 326 [.obj i] O fun t O' => Ext O O' ∧ ∃ kd b row col mods, ItmAt O' t kd b row col mods ∧ EvOk kd b row col mods := by
  refine .mkB (gm 61) [stS 61 0, stS 61 1, stS 61 2, stS 61 3, stS 61 4, stS 61 5] [(Str.ofString "cells", .obj i)] (fun _ => rfl) fun G sp => ?_
  refine ev_1 a₀ ns₀ n i O hi _ _ _ G sp fun kd b P h1 hb hd sp => ?_
  have hP : cells5 P i c0 c1 c2 c3 c4 := h1 _ _ hi
  have hQ : cells5 (P ++ [farO]) i c0 c1 c2 c3 c4 := at_old hP
  iterate 1 wtm_at "y"
  refine ev_3 a₀ ns₀ n i P.length (P ++ [farO]) hQ at_last _ _ _ G sp fun row hr sp => ?_
  refine ev_4 a₀ ns₀ n i P.length (P ++ [farO]) hQ at_last _ _ _ G sp fun col hc sp => ?_
  have h2 := h1.trans (ext_app (Y := [farO]) (Ext.refl _))
  have hm := fmod_b c4 (m := 8) (by decide)
  unfold cells5 at hQ
  clear hi h1 hP
  (repeat' wtm_at "y")
  exact sp ⟨_, rfl, ext_app h2, kd, b, row, col, _, at_last, ⟨hb, hd, hm, hr, hc⟩⟩
end
noncomputable def PlAt (O : Ost) (pv : AV) (pl : Option (Int × Int)) : Prop := match pl with
  | none => pv = .none
  | some q => ∃ t : Nat, pv = .obj t ∧ O[t]? = some (.tuple [.int q.1, .int q.2])
noncomputable def stD (lh : Nat) (pv : AV) : AO := .dict [(Str.ofString "held", .obj lh), (Str.ofString "place", pv)]
structure StAt (O : Ost) (j d lh : Nat) (pv : AV) (hs : List Int) (pl : Option (Int × Int)) : Prop where
  a : O[j]? = some (.inst 234 d)
  b : O[d]? = some (stD lh pv)
  c : O[lh]? = some (.list (hs.map AV.int))
  e : PlAt O pv pl
noncomputable def Keep2 (d lh : Nat) (O O' : Ost) : Prop := (∀ (j : Nat) (o : AO), j ≠ d → j ≠ lh → O[j]? = some o → O'[j]? = some o) ∧ O.length ≤ O'.length
section
variable {O P Q : Ost} {d lh : Nat}
theorem Keep2.refl (d lh : Nat) (O : Ost) : Keep2 d lh O O := ⟨fun _ _ _ _ h => h, Nat.le_refl _⟩
theorem Keep2.app {Y : Ost} (h : Keep2 d lh O P) : Keep2 d lh O (P ++ Y) := ⟨fun j o n m e => at_old (h.1 j o n m e), Nat.le_trans h.2 (ext_app (Ext.refl P)).len⟩
theorem Keep2.setd {a : AO} (h : Keep2 d lh O P) : Keep2 d lh O (P.set d a) := ⟨fun j o n m e => at_other (Ne.symm n) (h.1 j o n m e), Nat.le_trans h.2 (Nat.le_of_eq List.length_set.symm)⟩
theorem Keep2.setl {a : AO} (h : Keep2 d lh O P) : Keep2 d lh O (P.set lh a) := ⟨fun j o n m e => at_other (Ne.symm m) (h.1 j o n m e), Nat.le_trans h.2 (Nat.le_of_eq List.length_set.symm)⟩
theorem Keep2.ext (h : Keep2 d lh O P) (p : Ext P Q) : Keep2 d lh O Q := ⟨fun j o n m e => p j o (h.1 j o n m e), Nat.le_trans h.2 p.len⟩
noncomputable def aoN : AO → Nat
  | .dict es => es.length
  | _ => 0
theorem evd_ne {kd : Kd} {b r c m : Int} {lh : Nat} {pv : AV} : EvD kd b r c m ≠ stD lh pv := fun q => absurd (show (5 : Nat) = 2 from congrArg aoN q) (by decide)
variable {j : Nat} {pv : AV} {hs : List Int} {pl : Option (Int × Int)}
theorem Keep2.tuple {x : Nat} {xs : List AV} (h : Keep2 d lh O P) (st : StAt O j d lh pv hs pl) (e : O[x]? = some (.tuple xs)) : P[x]? = some (.tuple xs) := h.1 x _ (ne_at e st.b AO.noConfusion) (ne_at e st.c AO.noConfusion) e
theorem Keep2.inst {x C dd : Nat} (h : Keep2 d lh O P) (st : StAt O j d lh pv hs pl) (e : O[x]? = some (.inst C dd)) : P[x]? = some (.inst C dd) := h.1 x _ (ne_at e st.b AO.noConfusion) (ne_at e st.c AO.noConfusion) e
theorem Keep2.dict {x : Nat} {es : Es} (h : Keep2 d lh O P) (st : StAt O j d lh pv hs pl) (n : x ≠ d) (e : O[x]? = some (.dict es)) : P[x]? = some (.dict es) := h.1 x _ n (ne_at e st.c AO.noConfusion) e
theorem Keep2.ev {i : Nat} {kd : Kd} {b r c m : Int} (h : Keep2 d lh O P) (st : StAt O j d lh pv hs pl) (e : EvAt O i kd b r c m) : EvAt P i kd b r c m :=
  e.out fun x h1 h2 => ⟨x, h.inst st h1, h.dict st (ne_at h2 st.b evd_ne) h2⟩
theorem Keep2.pl' {pv' : AV} {pl' : Option (Int × Int)} (h : Keep2 d lh O P) (st : StAt O j d lh pv hs pl) (e : PlAt O pv' pl') : PlAt P pv' pl' := by
  cases pl' with
  | none => exact e
  | some q => obtain ⟨t, e1, e2⟩ := e; exact ⟨t, e1, h.tuple st e2⟩
theorem StAt.upd {lh' : Nat} {pv' : AV} {hs' : List Int} {pl' : Option (Int × Int)} (st : StAt O j d lh pv hs pl) (h : Keep2 d lh O P) (b : P[d]? = some (stD lh' pv')) (c : P[lh']? = some (.list (hs'.map AV.int))) (e : PlAt P pv' pl') : StAt P j d lh' pv' hs' pl' := ⟨h.inst st st.a, b, c, e⟩
theorem PlAt.ext {pv : AV} {pl : Option (Int × Int)} (h : PlAt O pv pl) (p : Ext O P) : PlAt P pv pl := by
  cases pl with
  | none => exact h
  | some q => obtain ⟨t, e1, e2⟩ := h; exact ⟨t, e1, p _ _ e2⟩
theorem StAt.ext (h : StAt O j d lh pv hs pl) (p : Ext O P) : StAt P j d lh pv hs pl := ⟨p _ _ h.a, p _ _ h.b, p _ _ h.c, h.e.ext p⟩
theorem StAt.ne (st : StAt O j d lh pv hs pl) : d ≠ j ∧ lh ≠ j ∧ d ≠ lh ∧ lh ≠ d := ⟨ne_at st.b st.a AO.noConfusion, ne_at st.c st.a AO.noConfusion, ne_at st.b st.c AO.noConfusion, ne_at st.c st.b AO.noConfusion⟩
theorem StAt.off {x : Nat} {a : AO} (st : StAt O j d lh pv hs pl) (h : O[x]? = some a) (n1 : stD lh pv ≠ a) (n2 : AO.list (hs.map AV.int) ≠ a) : d ≠ x ∧ lh ≠ x := ⟨ne_at st.b h n1, ne_at st.c h n2⟩
end
noncomputable abbrev gC : Cx := gmI 47 1
noncomputable def stSI (i h j : Nat) : Stmt := (stI i h j).elim (.Pass default) id
noncomputable abbrev chL (j e t : Nat) (r : Locs) : Locs := (Str.ofString "self", .obj j) :: (Str.ofString "event", .obj e) :: (Str.ofString "place", .obj t) :: r
noncomputable def hsOf (held : Int) : List Int := cond (iEq held 0) [] [held]
noncomputable def samePl (pl : Option (Int × Int)) (r c : Int) : Bool := match pl with
  | none => false
  | some q => iEq r q.1 && (iEq c q.2 && true)
noncomputable abbrev ChOk (kd : Kd) (d lh j : Nat) (b held r c m : Int) (O : Ost) (t : Nat) (O' : Ost) : Prop :=
  Keep2 d lh O O' ∧ (∃ lh' pv', (lh' = lh ∨ O.length ≤ lh') ∧ StAt O' j d lh' pv' (hsOf held) (some (r, c))) ∧ EvAt O' t kd b r c m
section
variable {j d lh : Nat} {pv : AV} {hs : List Int} {pl : Option (Int × Int)} {b r c m : Int}
noncomputable abbrev chP (O : Ost) (r c : Int) : Ost := O ++ [.tuple [.int r, .int c]]
theorem ch_A (n e : Nat) (O : Ost) (he : EvAt O e .move b r c m) (ss : List Stmt) (K : AF → Locs → Ost → Tr) (D : Rs → Prop) (G : Prop)
    (sp : (exs (R (tabs a₀ ns₀) (n + 29)) gC (stSI 47 1 0 :: stSI 47 1 1 :: stSI 47 1 2 :: stSI 47 1 3 :: ss) [(Str.ofString "self", .obj j), (Str.ofString "event", .obj e)] O K).Sp D G)
    (k : (exs (R (tabs a₀ ns₀) (n + 29)) gC ss (chL j e O.length []) (chP O r c) K).Sp D G → G) : G := by
  refine he.out fun x h1 h2 => ?_
  clear he
  (repeat' wtm_at "y")
  exact k sp
noncomputable abbrev chSet (O : Ost) (d lh t : Nat) : Ost := O.set d (stD lh (.obj t))
theorem ch_B0 (n e t : Nat) (O : Ost) (hj : O[j]? = some (.inst 234 d)) (hd : O[d]? = some (stD lh .none)) (ht : O[t]? = some (.tuple [.int r, .int c])) (ss : List Stmt) (K : AF → Locs → Ost → Tr) (D : Rs → Prop) (G : Prop)
    (sp : (exs (R (tabs a₀ ns₀) (n + 29)) gC (stSI 47 1 4 :: stSI 47 1 5 :: ss) (chL j e t []) O K).Sp D G)
    (k : (exs (R (tabs a₀ ns₀) (n + 29)) gC ss (chL j e t []) (chSet O d lh t) K).Sp D G → G) : G := by
  (repeat' wtm_at "y")
  exact k sp
theorem ch_B1 (n e t u : Nat) (q1 q2 : Int) (O : Ost) (hj : O[j]? = some (.inst 234 d)) (hd : O[d]? = some (stD lh (.obj u))) (ht : O[t]? = some (.tuple [.int r, .int c])) (hu : O[u]? = some (.tuple [.int q1, .int q2])) (hq : (iEq r q1 && (iEq c q2 && true)) = false) (ss : List Stmt) (K : AF → Locs → Ost → Tr) (D : Rs → Prop) (G : Prop)
    (sp : (exs (R (tabs a₀ ns₀) (n + 29)) gC (stSI 47 1 4 :: stSI 47 1 5 :: ss) (chL j e t []) O K).Sp D G)
    (k : (exs (R (tabs a₀ ns₀) (n + 29)) gC ss (chL j e t []) (chSet O d lh t) K).Sp D G → G) : G := by
  (repeat' wtm_at "y")
  exact k sp
theorem ch_B2 (n e t u : Nat) (q1 q2 : Int) (O : Ost) (hj : O[j]? = some (.inst 234 d)) (hd : O[d]? = some (stD lh (.obj u))) (ht : O[t]? = some (.tuple [.int r, .int c])) (hu : O[u]? = some (.tuple [.int q1, .int q2])) (hq : (iEq r q1 && (iEq c q2 && true)) = true) (ss : List Stmt) (K : AF → Locs → Ost → Tr) (D : Rs → Prop) (G : Prop)
    (sp : (exs (R (tabs a₀ ns₀) (n + 29)) gC (stSI 47 1 4 :: ss) (chL j e t []) O K).Sp D G)
    (k : ∀ l', (K (.ret .none) l' O).Sp D G → G) : G := by
  (repeat' wtm_at "y")
  exact k _ sp
noncomputable abbrev noL (O : Ost) : Ost := O ++ [.list []]
theorem ch_D (n e t : Nat) (held : Int) (O : Ost) (hj : O[j]? = some (.inst 234 d)) (hd : O[d]? = some (stD lh pv)) (hl : O[lh]? = some (.list ((hsOf held).map AV.int))) (ss : List Stmt) (K : AF → Locs → Ost → Tr) (D : Rs → Prop) (G : Prop)
    (sp : (exs (R (tabs a₀ ns₀) (n + 29)) gC (stSI 47 1 6 :: ss) (chL j e t []) O K).Sp D G)
    (k : (exs (R (tabs a₀ ns₀) (n + 29)) gC ss (chL j e t [(Str.ofString "button", .int held)]) (noL O) K).Sp D G → G) : G := by
  unfold hsOf at hl
  refine Bool.two (iEq held 0) (fun hz => ?_) fun hz => ?_
  · rw [ct hz] at hl
    rw [iEq_t hz] at k
    (repeat' wtm_at "y")
    exact k sp
  · rw [cf hz] at hl
    (repeat' wtm_at "y")
    exact k sp
theorem ch_E (n e t : Nat) (held : Int) (O : Ost) (he : EvAt O e .move b r c m) (K : AF → Locs → Ost → Tr) (D : Rs → Prop) (G : Prop)
    (sp : (exs (R (tabs a₀ ns₀) (n + 29)) gC [stSI 47 1 7] (chL j e t [(Str.ofString "button", .int held)]) O K).Sp D G)
    (k : ∀ u l' O', Ext O O' → EvAt O' u .move held r c m → (K (.ret (.obj u)) l' O').Sp D G → G) : G := by
  refine he.out fun x h1 h2 => ?_
  clear he
  (repeat' (first | specialize sp (by first | (with_reducible apply Cx2.mk; (with_reducible assumption)) | wtm_at "a") | (apply CallS.useP; rotate_left; intro O1 hc hk; specialize sp (cQ hc :); rotate_right; (exact ev_init _ _ _ .move _ _ _ _ _); try (obtain ⟨hx, hk⟩ := hk)) | wtm_at "B" | fail))
  exact k _ _ _ (by wtm_at "p") hk sp
end
section
variable {j d lh : Nat} {pv : AV} {hs : List Int} {pl : Option (Int × Int)} {b r c m held : Int}
theorem samePl_t (h : samePl pl r c = true) : pl = some (r, c) := by
  cases pl with
  | none => cases h
  | some q =>
    have z := Bool.and_eq_true_iff.mp h
    rw [iEq_t z.1, iEq_t (Bool.and_eq_true_iff.mp z.2).1]
theorem changed_no (n e : Nat) (O : Ost) (st : StAt O j d lh pv hs pl) (he : EvAt O e .move b r c m) (hs' : samePl pl r c = true) :
    CallS (R (tabs a₀ ns₀) (n + 30)) 216 [.obj j, .obj e] O fun u O' => u = .none ∧ Ext O O' := by
  refine .mkB gC [stSI 47 1 0, stSI 47 1 1, stSI 47 1 2, stSI 47 1 3, stSI 47 1 4, stSI 47 1 5, stSI 47 1 6, stSI 47 1 7] [(Str.ofString "self", .obj j), (Str.ofString "event", .obj e)] (fun _ => rfl) fun G sp => ?_
  refine ch_A a₀ ns₀ n e O he _ _ _ G sp fun sp => ?_
  obtain rfl := samePl_t hs'
  obtain ⟨u, rfl, hu⟩ := st.e
  exact ch_B2 a₀ ns₀ n e O.length u r c (chP O r c) (at_old st.a) (at_old st.b) at_last (at_old hu) hs' _ _ _ G sp fun l' sp => sp ⟨rfl, ext_app (Ext.refl _)⟩
theorem ch_move (n e t : Nat) (O P : Ost) (st : StAt O j d lh pv (hsOf held) pl) (he : EvAt O e .move b r c m) (ht : P[t]? = some (.tuple [.int r, .int c])) (hx : Ext O P) (G : Prop)
    (sp : (exs (R (tabs a₀ ns₀) (n + 29)) gC [stSI 47 1 6, stSI 47 1 7] (chL j e t []) (chSet P d lh t) (kont fun v O1 => .done (.v v O1))).Sp (kC fun u O' => ∃ t, u = .obj t ∧ ChOk .move d lh j held held r c m O t O') G) : G := by
  have hP := st.ext hx
  have kp : Keep2 d lh O (chSet P d lh t) := Keep2.setd ((Keep2.refl d lh O).ext hx)
  have s2 : StAt (chSet P d lh t) j d lh (.obj t) (hsOf held) (some (r, c)) := st.upd kp (at_same hP.b) (at_other hP.ne.2.2.1 hP.c) ⟨t, rfl, at_other (ne_at hP.b ht AO.noConfusion) ht⟩
  refine ch_D a₀ ns₀ n e t held _ s2.a s2.b s2.c _ _ _ G sp fun sp => ?_
  refine ch_E a₀ ns₀ n e t held (noL (chSet P d lh t)) ((kp.ev st he).ext (ext_app (Ext.refl _))) _ _ G sp fun u l' O' p hu sp => ?_
  exact sp ⟨u, rfl, Keep2.ext (Keep2.app kp) p, ⟨lh, _, .inl rfl, (s2.ext (ext_app (Ext.refl _))).ext p⟩, hu⟩
theorem changed_move (n e : Nat) (O : Ost) (st : StAt O j d lh pv (hsOf held) pl) (he : EvAt O e .move b r c m) (hs' : samePl pl r c = false) :
    CallJ (R (tabs a₀ ns₀) (n + 30)) 216 [.obj j, .obj e] O (ChOk .move d lh j held held r c m O) := by
  refine .mkB gC [stSI 47 1 0, stSI 47 1 1, stSI 47 1 2, stSI 47 1 3, stSI 47 1 4, stSI 47 1 5, stSI 47 1 6, stSI 47 1 7] [(Str.ofString "self", .obj j), (Str.ofString "event", .obj e)] (fun _ => rfl) fun G sp => ?_
  refine ch_A a₀ ns₀ n e O he _ _ _ G sp fun sp => ?_
  have hx : Ext O (chP O r c) := ext_app (Ext.refl _)
  cases pl with
  | none =>
    obtain rfl : pv = .none := st.e
    exact ch_B0 a₀ ns₀ n e O.length (chP O r c) (at_old st.a) (at_old st.b) at_last _ _ _ G sp fun sp => ch_move a₀ ns₀ n e _ O _ st he at_last hx G sp
  | some q =>
    obtain ⟨u, rfl, hu⟩ := st.e
    exact ch_B1 a₀ ns₀ n e O.length u q.1 q.2 (chP O r c) (at_old st.a) (at_old st.b) at_last (at_old hu) hs' _ _ _ G sp fun sp => ch_move a₀ ns₀ n e _ O _ st he at_last hx G sp
theorem nz_hs {x : Int} (h : 1 ≤ x) : hsOf x = [x] := cf (decide_eq_false (by omega))
theorem nw_b {x : Int} (h : x ≤ 3) : (!(iLe 4 x && iLe x 7)) = true := by rw [show iLe 4 x = false from decide_eq_false (by omega)]; rfl
theorem changed_press (n e : Nat) (O : Ost) (st : StAt O j d lh pv [] pl) (he : EvAt O e .press b r c m) (hb : 1 ≤ b ∧ b ≤ 3) :
    CallJ (R (tabs a₀ ns₀) (n + 30)) 216 [.obj j, .obj e] O (ChOk .press d lh j b b r c m O) := by
  have hw := nw_b hb.2
  have hP := st.ext (ext_app (Y := [.tuple [.int r, .int c]]) (Ext.refl O))
  have kp : Keep2 d lh O (chSet ((chP O r c).set lh (.list ([] ++ [.int b]))) d lh O.length) := Keep2.setd (Keep2.setl (Keep2.app (Keep2.refl _ _ _)))
  have nt : (chP O r c)[O.length]? = some (.tuple [.int r, .int c]) := at_last
  have hf : ChOk .press d lh j b b r c m O e (chSet ((chP O r c).set lh (.list ([] ++ [.int b]))) d lh O.length) :=
    ⟨kp, ⟨lh, _, .inl rfl, st.upd kp (at_same (at_other hP.ne.2.2.2 hP.b)) (by rw [nz_hs hb.1]; exact at_other hP.ne.2.2.1 (at_same hP.c)) ⟨_, rfl, at_other (ne_at hP.b nt AO.noConfusion) (at_other (ne_at hP.c nt AO.noConfusion) nt)⟩⟩, kp.ev st he⟩
  refine he.out fun x h1 h2 => ?_
  have h3 : (chP O r c)[e]? = some (.inst 106 x) := at_old h1
  have h4 : (chP O r c)[x]? = some (EvD .press b r c m) := at_old h2
  have h5 := hP.a
  have h6 := hP.b
  have h7 : (chP O r c)[lh]? = some (.list []) := hP.c
  have h8 := at_other (a := .list ([] ++ [.int b])) (hP.off h3 AO.noConfusion AO.noConfusion).2 h3
  have h9 := at_other (a := .list ([] ++ [.int b])) (hP.off h4 evd_ne.symm AO.noConfusion).2 h4
  have h10 := at_other (a := .list ([] ++ [.int b])) hP.ne.2.1 h5
  have h11 := at_other (a := .list ([] ++ [.int b])) hP.ne.2.2.2 h6
  clear he st hP kp nt
  refine .mk fun G sp => ?_
  (repeat' (first | specialize sp (by first | (with_reducible apply Cx2.mk; (first | (exact is_wheel _ _ _ _ _) | (with_reducible assumption))) | wtm_at "a") | wtm_at "B" | fail))
  exact sp ⟨_, rfl, hf⟩
end
section
variable {j d lh : Nat} {pv : AV} {hs : List Int} {pl : Option (Int × Int)} {b r c m held : Int} {kd : Kd}
theorem exsN {r : Rec} {Γ : Cx} {l : Locs} {O : Ost} {K : AF → Locs → Ost → Tr} {D : Rs → Prop} {G : Prop} (h : (exs r Γ [] l O K).Sp D G) : (K .next l O).Sp D G := h
noncomputable def relS : Option Stmt := sAt (wB (stI 47 1 2)) 0
noncomputable abbrev relO (O : Ost) (b : Int) : Ost := O ++ [.tuple [.int b, .int 0]]
theorem rel_q (b : Int) : (!(iEq b b || (iEq 0 b || false))) = false := by rw [show iEq b b = true from decide_eq_true rfl]; rfl
theorem rel_comp (n e x t : Nat) (O : Ost) (hl : O[lh]? = some (.list [.int b])) (h1 : O[e]? = some (.inst 106 x)) (h2 : O[x]? = some (EvD .release b r c m)) :
    CompS (R (tabs a₀ ns₀) (n + 26)) (cG (wT relS) gC) (chL j e t []) (Str.ofString "button") (cI (wT relS)) (cE (wT relS)) (.led lh (.list [.int b]) [.int b]) O fun v O' => v = [] ∧ O' = relO O b := by
  have hq := rel_q b
  refine .mk fun G sp => ?_
  (repeat' wtm_at "y")
  exact sp ⟨rfl, rfl⟩
noncomputable abbrev relP (O : Ost) (b : Int) (d : Nat) (pv : AV) : Ost := (relO O b ++ [AO.list []]).set d (stD (relO O b).length pv)
theorem ch_R2 (n e x t : Nat) (O : Ost) (hj : O[j]? = some (.inst 234 d)) (hd : O[d]? = some (stD lh pv)) (hl : O[lh]? = some (.list [.int b])) (h1 : O[e]? = some (.inst 106 x)) (h2 : O[x]? = some (EvD .release b r c m)) (ss : List Stmt) (K : AF → Locs → Ost → Tr) (D : Rs → Prop) (G : Prop)
    (sp : (exs (R (tabs a₀ ns₀) (n + 29)) gC (stSI 47 1 2 :: ss) (chL j e t []) O K).Sp D G)
    (k : (exs (R (tabs a₀ ns₀) (n + 29)) gC ss (chL j e t []) (relP O b d pv) K).Sp D G → G) : G := by
  have hC := rel_comp a₀ ns₀ n e x t O (j := j) (lh := lh) hl h1 h2
  (repeat' wtm_at "y")
  refine CompS.useX hC fun O' hc hk => ?_
  subst hk
  specialize sp (pQ hc :)
  (repeat' wtm_at "y")
  exact k (exsN sp :)
theorem ch_01 (n e : Nat) (O : Ost) (he : EvAt O e .release b r c m) (ss : List Stmt) (K : AF → Locs → Ost → Tr) (D : Rs → Prop) (G : Prop)
    (sp : (exs (R (tabs a₀ ns₀) (n + 29)) gC (stSI 47 1 0 :: stSI 47 1 1 :: ss) [(Str.ofString "self", .obj j), (Str.ofString "event", .obj e)] O K).Sp D G)
    (k : (exs (R (tabs a₀ ns₀) (n + 29)) gC ss (chL j e O.length []) (chP O r c) K).Sp D G → G) : G := by
  refine he.out fun x h1 h2 => ?_
  clear he
  (repeat' wtm_at "y")
  exact k sp
theorem ch_3 (n e x t : Nat) (O : Ost) (hj : O[j]? = some (.inst 234 d)) (hd : O[d]? = some (stD lh pv)) (h1 : O[e]? = some (.inst 106 x)) (h2 : O[x]? = some (EvD .release b r c m)) (ss : List Stmt) (K : AF → Locs → Ost → Tr) (D : Rs → Prop) (G : Prop)
    (sp : (exs (R (tabs a₀ ns₀) (n + 29)) gC (stSI 47 1 3 :: ss) (chL j e t []) O K).Sp D G)
    (k : ∀ l', (K (.ret (.obj e)) l' (chSet O d lh t)).Sp D G → G) : G := by
  (repeat' wtm_at "y")
  exact k _ sp
theorem changed_release (n e : Nat) (O : Ost) (st : StAt O j d lh pv [b] pl) (he : EvAt O e .release b r c m) :
    CallJ (R (tabs a₀ ns₀) (n + 30)) 216 [.obj j, .obj e] O (ChOk .release d lh j b 0 r c m O) := by
  refine .mkB gC [stSI 47 1 0, stSI 47 1 1, stSI 47 1 2, stSI 47 1 3, stSI 47 1 4, stSI 47 1 5, stSI 47 1 6, stSI 47 1 7] [(Str.ofString "self", .obj j), (Str.ofString "event", .obj e)] (fun _ => rfl) fun G sp => ?_
  refine ch_01 a₀ ns₀ n e O he _ _ _ G sp fun sp => ?_
  have nt : (chP O r c)[O.length]? = some (.tuple [.int r, .int c]) := at_last
  have hP : StAt (chP O r c) j d lh pv [b] pl := st.ext (ext_app (Y := [.tuple [.int r, .int c]]) (Ext.refl O))
  have hev : EvAt (chP O r c) e .release b r c m := he.ext (ext_app (Y := [.tuple [.int r, .int c]]) (Ext.refl O))
  have kx : Ext O (chP O r c) := ext_app (Ext.refl _)
  have kp0 : Keep2 d lh O (chP O r c) := Keep2.app (Keep2.refl _ _ _)
  generalize chP O r c = P at nt hP hev kp0 kx sp
  have hR := hP.b
  have hR : (relO P b ++ [AO.list []])[d]? = some (stD lh pv) := at_old (at_old hR)
  have kp1 : Keep2 d lh O (relP P b d pv) := Keep2.setd (Keep2.app (Keep2.app kp0))
  have nl : (relO P b ++ [AO.list []])[(relO P b).length]? = some (.list []) := at_last
  have n2 : d ≠ (relO P b).length := ne_at hR nl AO.noConfusion
  have n1 : d ≠ O.length := ne_at hP.b nt AO.noConfusion
  have he1 := kp1.ev st he
  have hd1 : (relP P b d pv)[d]? = some (stD (relO P b).length pv) := at_same hR
  have hl1 : (relP P b d pv)[(relO P b).length]? = some (.list []) := at_other n2 nl
  have ht1 : (relP P b d pv)[O.length]? = some (.tuple [.int r, .int c]) := at_other n1 (at_old (at_old nt))
  have hlen : O.length ≤ (relO P b).length := (ext_app kx).len
  refine hev.out fun x h1 h2 => ?_
  refine ch_R2 a₀ ns₀ n e x O.length P hP.a hP.b hP.c h1 h2 _ _ _ G sp fun sp => ?_
  generalize relP P b d pv = Q at he1 hd1 hl1 ht1 kp1 sp
  generalize (relO P b).length = lh' at hlen hd1 hl1 n2
  refine he1.out fun x' g1 g2 => ?_
  refine ch_3 a₀ ns₀ n e x' O.length Q (kp1.inst st st.a) hd1 g1 g2 _ _ _ G sp fun l' sp => ?_
  have kp2 : Keep2 d lh O (chSet Q d lh' O.length) := Keep2.setd kp1
  exact sp ⟨_, rfl, kp2, ⟨lh', _, .inr hlen, st.upd kp2 (at_same hd1) (at_other n2 hl1) ⟨_, rfl, at_other n1 ht1⟩⟩, kp2.ev st he⟩
end
section
variable {j d lh : Nat} {pv : AV} {hs : List Int} {pl : Option (Int × Int)} {b r c m held : Int} {kd : Kd} {mo s : Nat} {es : Es}
noncomputable abbrev OcK (d lh j : Nat) (held r c : Int) (O O' : Ost) : Prop := Keep2 d lh O O' ∧ ∃ lh' pv', (lh' = lh ∨ O.length ≤ lh') ∧ StAt O' j d lh' pv' (hsOf held) (some (r, c))
theorem stt_no (n e : Nat) (O : Ost) (hj : O[j]? = some (.inst 234 d)) (hd : O[d]? = some (stD lh pv)) (hC : ∀ k, CallS (R (tabs a₀ ns₀) (k + 30)) 216 [.obj j, .obj e] O fun u O' => u = .none ∧ Ext O O') : CallS (R (tabs a₀ ns₀) (n + 80)) 224 [.obj j, .obj e, .obj mo] O fun u O' => u = .bytes [] ∧ Ext O O' := by
  refine .mk fun G sp => ?_
  (repeat' (first | specialize sp (by first | (with_reducible apply Cx2.mk; (with_reducible assumption)) | wtm_at "a") | (apply CallS.useP; rotate_left; intro O1 hc hk; specialize sp (cQ hc :); rotate_right; (exact hC _); try (obtain ⟨hx, hk⟩ := hk)) | wtm_at "B" | fail))
  exact sp ⟨rfl, hk⟩
theorem stt_yes (n e : Nat) (O : Ost) (W : List Int) (hj : O[j]? = some (.inst 234 d)) (hd : O[d]? = some (stD lh pv)) (hC : ∀ k, CallJ (R (tabs a₀ ns₀) (k + 30)) 216 [.obj j, .obj e] O (ChOk kd d lh j b held r c m O))
    (hO : ∀ k P t, Keep2 d lh O P → EvAt P t kd b r c m → CallX (R (tabs a₀ ns₀) (k + 65)) 163 [.obj t, .obj mo, .int 1, .int 1] P (.bytes W)) : CallS (R (tabs a₀ ns₀) (n + 80)) 224 [.obj j, .obj e, .obj mo] O fun u O' => u = .bytes W ∧ OcK d lh j held r c O O' := by
  refine .mk fun G sp => ?_
  (repeat' (first | specialize sp (by first | (with_reducible apply Cx2.mk; (with_reducible assumption)) | wtm_at "a") | (apply CallS.useP; rotate_left; intro O1 hc hk; specialize sp (cQ hc :); rotate_right; (apply hO; (exact kp); (exact hev)); try (obtain ⟨hx, hk⟩ := hk)) | (apply CallJ.use; rotate_left; intro t O1 hc hk; specialize sp (cQ hc :); rotate_right; exact hC _; obtain ⟨kp, ⟨lh', pv', hl', st'⟩, hev⟩ := hk) | wtm_at "B" | fail))
  exact sp ⟨rfl, kp.ext hk, lh', pv', hl', st'.ext hk⟩
noncomputable def evB (kd : Kd) (b held : Int) : Int := kd.casesOn b b held
noncomputable def nhB (kd : Kd) (b held : Int) : Int := kd.casesOn b 0 held
noncomputable def KdOk (kd : Kd) (b held : Int) : Prop := kd.casesOn (held = 0 ∧ 1 ≤ b ∧ b ≤ 3) (b = held ∧ 1 ≤ held) True
theorem state_oct (n e : Nat) (O : Ost) (W : List Int) (st : StAt O j d lh pv (hsOf held) pl) (hk : KdOk kd b held) (he : EvAt O e kd b r c m)
    (hO : ∀ k P t, Keep2 d lh O P → EvAt P t kd (evB kd b held) r c m → CallX (R (tabs a₀ ns₀) (k + 65)) 163 [.obj t, .obj mo, .int 1, .int 1] P (.bytes W)) :
    CallS (R (tabs a₀ ns₀) (n + 80)) 224 [.obj j, .obj e, .obj mo] O fun u O' => u = .bytes (cond (kd.mv && samePl pl r c) [] W) ∧ OcK d lh j (nhB kd b held) r c O O' := by
  cases kd with
  | press =>
    obtain ⟨rfl, hb⟩ := hk
    exact stt_yes a₀ ns₀ n e O W st.a st.b (fun k => changed_press a₀ ns₀ k e O st he hb) hO
  | release =>
    obtain ⟨rfl, hb⟩ := hk
    rw [nz_hs hb] at st
    exact stt_yes a₀ ns₀ n e O W st.a st.b (fun k => changed_release a₀ ns₀ k e O st he) hO
  | move =>
    refine Bool.two (samePl pl r c) (fun h => ?_) fun h => ?_
    · obtain ⟨⟨v, O', hc, rfl, p⟩⟩ := stt_no a₀ ns₀ (mo := mo) n e O st.a st.b fun k => changed_no a₀ ns₀ k e O st he h
      refine .in_ ⟨_, O', hc, by rw [h]; rfl, (Keep2.refl d lh O).ext p, lh, pv, .inl rfl, ?_⟩
      rw [samePl_t h] at st
      exact st.ext p
    · rw [h]
      exact stt_yes a₀ ns₀ n e O W st.a st.b (fun k => changed_move a₀ ns₀ k e O st he h) hO
end
theorem st_new (n : Nat) (O : Ost) : CallS (R (tabs a₀ ns₀) (n + 15)) 211 [.obj (O.length + 1)] (newO 234 O) fun u O' => u = .none ∧ Ext O O' ∧ ∃ lh, O.length ≤ lh ∧ StAt O' (O.length + 1) O.length lh .none [] none := by
  have h1 : (newO 234 O)[O.length + 1]? = some (.inst 234 O.length) := at_two1
  have h2 : (newO 234 O)[O.length]? = some (.dict []) := at_two0
  have n1 : O.length ≠ O.length + 1 := Nat.ne_of_lt (Nat.lt_succ_self _)
  have n2 : O.length ≠ (newO 234 O).length := Nat.ne_of_lt (lt_of_at h2)
  have k0 : Ext O (newO 234 O) := ext_app (Ext.refl _)
  have k1 := k0.len
  have k2 := Nat.le_refl O.length
  generalize newO 234 O = P at h1 h2 k0 k1 n2 ⊢
  (refine CallS.mk ?_; intro G sp)
  (repeat' (first | specialize sp (by first | (with_reducible apply Cx2.mk; (with_reducible assumption)) | wtm_at "a") | (apply CallS.useP; rotate_left; intro O1 hc hk; specialize sp (cQ hc :); rotate_right; (apply hO; (exact kp); (exact hev)); try (obtain ⟨hx, hk⟩ := hk)) | (apply CallJ.use; rotate_left; intro t O1 hc hk; specialize sp (cQ hc :); rotate_right; exact hC _; obtain ⟨kp, ⟨lh', pv', hl', st'⟩, hev⟩ := hk) | wtm_at "B" | fail))
  exact sp ⟨rfl, by wtm_at "p", P.length, k1, at_other n1 (at_other n1 (at_old h1)), at_same (at_same (at_old h2)), at_other n2 (at_other n2 at_last), rfl⟩
section
variable {O P Q R' : Ost} {j d lh lh0 : Nat} {pv : AV} {hs : List Int} {pl : Option (Int × Int)} {mo s : Nat} {es : Es}
theorem Keep2.step (h0 : Keep2 d lh0 P Q) (h : Keep2 d lh Q R') (hl : lh = lh0 ∨ P.length ≤ lh) : Keep2 d lh0 P R' := ⟨fun x o n1 n2 e =>
  h.1 x o n1 (by rcases hl with rfl | hl; exact n2; exact Nat.ne_of_lt (Nat.lt_of_lt_of_le (lt_of_at e) hl)) (h0.1 x o n1 n2 e), Nat.le_trans h0.2 h.2⟩
theorem Keep2.old {B : Ost} (h : Keep2 d lh P Q) (p : Ext B P) (n : B.length ≤ d) (m : B.length ≤ lh) : Ext B Q := fun x o e =>
  h.1 x o (Nat.ne_of_lt (Nat.lt_of_lt_of_le (lt_of_at e) n)) (Nat.ne_of_lt (Nat.lt_of_lt_of_le (lt_of_at e) m)) (p x o e)
noncomputable def aoH : AO → Bool
  | .dict ((x, _) :: _) => sEq x (Str.ofString "held")
  | _ => false
theorem std_ne {a : AO} {lh : Nat} {pv : AV} (h : aoH a = false) : a ≠ stD lh pv := fun q => Bool.noConfusion (show false = true from h.symm.trans (congrArg aoH q))
theorem mo_keep (st : StAt P j d lh pv hs pl) (hm : MoAt P mo s es) (he : aoH (.dict es) = false) (kp : Keep2 d lh P Q) : MoAt Q mo s es :=
  hm.out fun dd k h1 h2 n h3 => ⟨⟨dd, k, kp.inst st h1, kp.dict st (ne_at h2 st.b (std_ne rfl)) h2, n⟩, kp.dict st (ne_at h3 st.b (std_ne he)) h3⟩
theorem StAt.keepS (st : StAt O j d lh pv hs none) (kp : Keep s O P) (hs' : O[s]? = some (.dict es)) (he : aoH (.dict es) = false) : StAt P j d lh pv hs none :=
  ⟨kp _ _ (ne_at st.a hs' AO.noConfusion) st.a, kp _ _ (ne_at hs' st.b (std_ne he)).symm st.b, kp _ _ (ne_at st.c hs' AO.noConfusion) st.c, st.e⟩
end
noncomputable def rS (k : Nat) : Stmt := (sAt (wB (st 64 3)) k).elim (.Pass default) id
noncomputable abbrev rowL (i : Nat) (w : Int) (mo j : Nat) (held : Int) (last : AV) (r : Locs) : Locs := (Str.ofString "cells", .obj i) :: (Str.ofString "whole", .int w) :: (Str.ofString "modes", .obj mo) :: (Str.ofString "state", .obj j) :: (Str.ofString "held", .int held) :: (Str.ofString "last", last) :: r
noncomputable def rk (x held : Int) : Kd := cond (iEq (x.fmod 2) 0) .move (cond (iEq held 0) .press .release)
noncomputable def rb (kd : Kd) (x held : Int) : Int := kd.casesOn (1 + (x.fdiv 4).fmod 3) held 0
section
variable {i mo j : Nat} {w held x b row col m : Int} {last : AV} {kd : Kd} {T : Locs}
theorem rk_1 (h : iEq (x.fmod 2) 0 = true) : rk x held = .move := ct h
theorem rk_2 (h : iEq (x.fmod 2) 0 = false) {q : Bool} (g : iEq held 0 = q) : rk x held = cond q .press .release := (cf h).trans (by rw [g])
theorem rw_0 (n : Nat) (O : Ost) : Leaves (R (tabs a₀ ns₀) (n + 93)) (gm 64) (rS 0) (rowL i w mo j held last ((Str.ofString "cell", .int x) :: T)) (rowL i w mo j held last ((Str.ofString "cell", .int x) :: setL (Str.ofString "kind") (.str (rk x held).s) T)) O O := by
  intro ss K D G sp k
  (repeat' wtm_at "y")
  · rw [rk_1 (by assumption)] at k; exact k sp
  · rw [rk_2 (by assumption) hB] at k; exact k sp
  · rw [rk_2 (by assumption) hB] at k; exact k sp
theorem rw_1 (n : Nat) (O : Ost) (ss : List Stmt) (K : AF → Locs → Ost → Tr) (D : Rs → Prop) (G : Prop)
    (sp : (exs (R (tabs a₀ ns₀) (n + 93)) (gm 64) (rS 1 :: ss) (rowL i w mo j held last ((Str.ofString "cell", .int x) :: (Str.ofString "kind", .str kd.s) :: T)) O K).Sp D G)
    (k : ∀ O', Ext O O' → (exs (R (tabs a₀ ns₀) (n + 93)) (gm 64) ss (rowL i w mo j held last ((Str.ofString "cell", .int x) :: (Str.ofString "kind", .str kd.s) :: setL (Str.ofString "button") (.int (rb kd x held)) T)) O' K).Sp D G → G) : G := by
  cases kd
  all_goals
    (repeat' wtm_at "y")
    exact k _ (by wtm_at "p") sp
noncomputable abbrev rowT (x : Int) (kd : Kd) (b : Int) (r : Locs) : Locs := (Str.ofString "cell", .int x) :: (Str.ofString "kind", .str kd.s) :: (Str.ofString "button", .int b) :: r
noncomputable abbrev itO (O : Ost) (kd : Kd) (b x : Int) : Ost := O ++ [.tuple [.str kd.s, .int b, .int ((x.fdiv 12).fmod 2), .int ((x.fdiv 24).fmod 3), .int ((x.fdiv 72).fmod 8)]]
theorem rw_2 (n : Nat) (O : Ost) : Leaves (R (tabs a₀ ns₀) (n + 93)) (gm 64) (rS 2) (rowL i w mo j held last (rowT x kd b T)) (rowL i w mo j held last (rowT x kd b (setL (Str.ofString "it") (.obj O.length) T))) O (itO O kd b x) := by
  intro ss K D G sp k
  (repeat' wtm_at "y")
  exact k sp
theorem rw_3 (n t : Nat) (O : Ost) (hi : ItmAt O t kd b row col m) (ss : List Stmt) (K : AF → Locs → Ost → Tr) (D : Rs → Prop) (G : Prop)
    (sp : (exs (R (tabs a₀ ns₀) (n + 93)) (gm 64) (rS 3 :: ss) (rowL i w mo j held last (rowT x kd b ((Str.ofString "it", .obj t) :: T))) O K).Sp D G)
    (k : ∀ O' u, Ext O O' → ItmAt O' u kd (evB kd b held) row col m → (exs (R (tabs a₀ ns₀) (n + 93)) (gm 64) ss (rowL i w mo j held last (rowT x kd b ((Str.ofString "it", .obj t) :: setL (Str.ofString "due") (.obj u) T))) O' K).Sp D G → G) : G := by
  have hi' := hi
  unfold ItmAt at hi
  cases kd
  · (repeat' wtm_at "y")
    exact k _ _ (Ext.refl _) hi' sp
  · (repeat' wtm_at "y")
    exact k _ _ (Ext.refl _) hi' sp
  · (repeat' wtm_at "y")
    exact k _ _ (ext_app (Ext.refl _)) at_last sp
noncomputable abbrev rowU (x : Int) (kd : Kd) (b : Int) (t u : Nat) (r : Locs) : Locs := rowT x kd b ((Str.ofString "it", .obj t) :: (Str.ofString "due", .obj u) :: r)
theorem rw_4 (n t u : Nat) (O : Ost) (md : Md) (W : List Int) (em : [AV.str (Str.ofString "mouse_all"), .str (Str.ofString "mouse_drag")][(w.fmod 2).toNat]? = some (.str md.w.s))
    (hL : ∀ k P, Ext O P → CallX (R (tabs a₀ ns₀) (k + 40)) 312 [.obj u, .str md.w.s, .str (Str.ofString "mouse_sgr"), .int 1, .int 1] P (.bytes W)) (ss : List Stmt) (K : AF → Locs → Ost → Tr) (D : Rs → Prop) (G : Prop)
    (sp : (exs (R (tabs a₀ ns₀) (n + 93)) (gm 64) (rS 4 :: ss) (rowL i w mo j held last (rowU x kd b t u T)) O K).Sp D G)
    (k : ∀ O', Ext O O' → (exs (R (tabs a₀ ns₀) (n + 93)) (gm 64) ss (rowL i w mo j held last (rowU x kd b t u (setL (Str.ofString "octets") (.bytes W) T))) O' K).Sp D G → G) : G := by
  have q := fmod_b w (m := 2) (by decide)
  have g : 0 ≤ w.fmod 2 ∧ w.fmod 2 < 1000000 := ⟨q.1, by omega⟩
  clear q
  (repeat' (first | specialize sp (by first | (with_reducible apply Cx2.mk; (with_reducible assumption)) | wtm_at "a") | (apply CallS.useP; rotate_left; intro O1 hc hk; specialize sp (cQ hc :); rotate_right; (apply hL; wtm_at "p"); try (obtain ⟨hx, hk⟩ := hk)) | wtm_at "B" | fail))
  exact k _ (by wtm_at "p") sp
noncomputable abbrev rowV (x : Int) (kd : Kd) (b : Int) (t u : Nat) (W : List Int) : Locs := rowU x kd b t u [(Str.ofString "octets", .bytes W)]
theorem iEq_c (a b : Int) : iEq a b = iEq b a := decide_eq_decide.mpr eq_comm
theorem same_c {q1 q2 r c : Int} : (iEq q1 r && (iEq q2 c && true)) = samePl (some (q1, q2)) r c := by rw [iEq_c q1, iEq_c q2]; rfl
theorem rw_5 (n t u : Nat) (O : Ost) (W : List Int) (pl : Option (Int × Int)) (hi : ItmAt O t kd b row col m) (hp : PlAt O last pl) (ss : List Stmt) (K : AF → Locs → Ost → Tr) (D : Rs → Prop) (G : Prop)
    (sp : (exs (R (tabs a₀ ns₀) (n + 93)) (gm 64) (rS 5 :: ss) (rowL i w mo j held last (rowV x kd b t u W)) O K).Sp D G)
    (k : ∀ O', Ext O O' → (exs (R (tabs a₀ ns₀) (n + 93)) (gm 64) ss (rowL i w mo j held last (rowV x kd b t u (cond (kd.mv && samePl pl row col) [] W))) O' K).Sp D G → G) : G := by
  unfold ItmAt at hi
  cases kd
  · (repeat' (first | specialize sp (by first | (with_reducible apply Cx2.mk; (with_reducible assumption)) | wtm_at "a") | wtm_at "B" | fail))
    exact k _ (by wtm_at "p") sp
  · (repeat' (first | specialize sp (by first | (with_reducible apply Cx2.mk; (with_reducible assumption)) | wtm_at "a") | wtm_at "B" | fail))
    exact k _ (by wtm_at "p") sp
  · cases pl with
    | none =>
      obtain rfl : last = .none := hp
      (repeat' (first | specialize sp (by first | (with_reducible apply Cx2.mk; (with_reducible assumption)) | wtm_at "a") | wtm_at "B" | fail))
      exact k _ (by wtm_at "p") sp
    | some q =>
      obtain ⟨v, rfl, hv⟩ := hp
      (repeat' (first | specialize sp (by first | (with_reducible apply Cx2.mk; (with_reducible assumption)) | wtm_at "a") | wtm_at "B" | fail))
      · rw [ct (show (Kd.move.mv && samePl (some q) row col) = true from same_c.symm.trans hB)] at k
        exact k _ (by wtm_at "p") sp
      · rw [cf (show (Kd.move.mv && samePl (some q) row col) = false from same_c.symm.trans hB)] at k
        exact k _ (by wtm_at "p") sp
theorem rw_6 (n t u : Nat) (O : Ost) (W : List Int) (hi : ItmAt O t kd b row col m) (ss : List Stmt) (K : AF → Locs → Ost → Tr) (D : Rs → Prop) (G : Prop)
    (sp : (exs (R (tabs a₀ ns₀) (n + 93)) (gm 64) (rS 6 :: ss) (rowL i w mo j held last (rowV x kd b t u W)) O K).Sp D G)
    (k : ∀ O' v, Ext O O' → O'[v]? = some (.tuple [.int row, .int col]) → (exs (R (tabs a₀ ns₀) (n + 93)) (gm 64) ss (rowL i w mo j (nhB kd b held) (.obj v) (rowV x kd b t u W)) O' K).Sp D G → G) : G := by
  unfold ItmAt at hi
  cases kd
  all_goals
    (repeat' (first | specialize sp (by first | (with_reducible apply Cx2.mk; (with_reducible assumption)) | wtm_at "a") | wtm_at "B" | fail))
    exact k _ _ (by wtm_at "p") (at_old at_last) sp
end
theorem Keep2.trans {d lh : Nat} {O P Q : Ost} (h : Keep2 d lh O P) (h' : Keep2 d lh P Q) : Keep2 d lh O Q := ⟨fun x o n m e => h'.1 x o n m (h.1 x o n m e), Nat.le_trans h.2 h'.2⟩
section
variable {i mo j d lh : Nat} {w held x b row col m : Int} {last pv : AV} {kd : Kd} {T : Locs} {hs : List Int} {pl : Option (Int × Int)} {s : Nat} {es : Es}
theorem rw_7 (n t u : Nat) (O : Ost) (W : List Int) (h' : Int) (hi : ItmAt O t kd b row col m) (hj : O[j]? = some (.inst 234 d)) (hd : O[d]? = some (stD lh pv))
    (hS : ∀ k P e, Ext O P → EvAt P e kd b row col m → CallS (R (tabs a₀ ns₀) (k + 80)) 224 [.obj j, .obj e, .obj mo] P fun u O' => u = .bytes W ∧ OcK d lh j h' row col P O') (ss : List Stmt) (K : AF → Locs → Ost → Tr) (D : Rs → Prop) (G : Prop)
    (sp : (exs (R (tabs a₀ ns₀) (n + 93)) (gm 64) (rS 7 :: ss) (rowL i w mo j held last (rowV x kd b t u W)) O K).Sp D G)
    (k : ∀ P O', Ext O P → OcK d lh j h' row col P O' → (exs (R (tabs a₀ ns₀) (n + 93)) (gm 64) ss (rowL i w mo j held last (rowV x kd b t u W)) O' K).Sp D G → G) : G := by
  have hn := ne_self W
  (repeat' (first | specialize sp (by first | (with_reducible apply Cx2.mk; (with_reducible assumption)) | wtm_at "a") | (apply CallS.useP; rotate_left; intro O1 hc hk; specialize sp (cQ hc :); rotate_right; (apply hS; (wtm_at "p"); (exact hev)); try (obtain ⟨hx, hk⟩ := hk)) | (apply CallJ.use; rotate_left; intro e O1 hc hk; specialize sp (cQ hc :); rotate_right; exact law_made _ _ _ _ _ (by wtm_at "A"); obtain ⟨hxe, hev⟩ := hk) | wtm_at "B" | fail))
  exact k _ _ hxe ⟨hx, hk⟩ sp
noncomputable abbrev Rw5 := Kd × Int × Nat × Nat × List Int
noncomputable def tlT (o : Option Rw5) : Locs := match o with
  | none => []
  | some q => [(Str.ofString "kind", .str q.1.s), (Str.ofString "button", .int q.2.1), (Str.ofString "it", .obj q.2.2.1), (Str.ofString "due", .obj q.2.2.2.1), (Str.ofString "octets", .bytes q.2.2.2.2)]
theorem tl_0 (o : Option Rw5) : ∃ T, ∀ v, setL (Str.ofString "kind") v (tlT o) = (Str.ofString "kind", v) :: T ∧ ∃ T1, ∀ v, setL (Str.ofString "button") v T = (Str.ofString "button", v) :: T1 ∧ ∃ T2, ∀ v, setL (Str.ofString "it") v T1 = (Str.ofString "it", v) :: T2 ∧
    ∃ T3, ∀ v, setL (Str.ofString "due") v T2 = (Str.ofString "due", v) :: T3 ∧ ∀ v, setL (Str.ofString "octets") v T3 = [(Str.ofString "octets", v)] := by
  cases o with
  | none => exact ⟨_, fun _ => ⟨rfl, _, fun _ => ⟨rfl, _, fun _ => ⟨rfl, _, fun _ => ⟨rfl, fun _ => rfl⟩⟩⟩⟩⟩
  | some q => exact ⟨_, fun _ => ⟨rfl, _, fun _ => ⟨rfl, _, fun _ => ⟨rfl, _, fun _ => ⟨rfl, fun _ => rfl⟩⟩⟩⟩⟩
theorem rw_ok (h : 0 ≤ held ∧ held ≤ 3) : KdOk (rk x held) (rb (rk x held) x held) held ∧ (0 ≤ nhB (rk x held) (rb (rk x held) x held) held ∧ nhB (rk x held) (rb (rk x held) x held) held ≤ 3) ∧
    (0 ≤ evB (rk x held) (rb (rk x held) x held) held ∧ evB (rk x held) (rb (rk x held) x held) held < 12) ∧ domB (rk x held) (evB (rk x held) (rb (rk x held) x held) held) = true := by
  have d4 : ∀ {b : Int}, 0 ≤ b → b ≤ 3 → 0 ≤ b ∧ b < 12 := by omega
  have dm : ∀ b : Fin 4, domB .release (b.val : Int) = true ∧ domB .move (b.val : Int) = true := by decide +kernel
  have dp : ∀ b : Fin 3, domB .press (1 + (b.val : Int)) = true := by decide +kernel
  have c := fmod_b (x.fdiv 4) (m := 3) (by decide)
  refine Bool.two (iEq (x.fmod 2) 0) (fun h0 => ?_) fun h0 => ?_
  · rw [rk_1 h0]
    obtain ⟨y, rfl⟩ := Int.eq_ofNat_of_zero_le h.1
    exact ⟨trivial, h, d4 h.1 h.2, (dm ⟨y, Int.ofNat_lt.mp (by omega)⟩).2⟩
  · refine Bool.two (iEq held 0) (fun h1 => ?_) fun h1 => ?_
    · rw [rk_2 h0 h1]
      obtain rfl := iEq_t h1
      have e : 1 ≤ 1 + (x.fdiv 4).fmod 3 ∧ 1 + (x.fdiv 4).fmod 3 ≤ 3 := by omega
      refine ⟨⟨rfl, e⟩, d4 (Int.le_trans (by decide) e.1) e.2 |>.1 |> fun z => ⟨z, e.2⟩, d4 (Int.le_trans (by decide) e.1) e.2, ?_⟩
      show domB .press (1 + (x.fdiv 4).fmod 3) = true
      obtain ⟨y, hy⟩ := Int.eq_ofNat_of_zero_le c.1
      rw [hy] at c ⊢
      exact dp ⟨y, Int.ofNat_lt.mp c.2⟩
    · rw [rk_2 h0 h1]
      have e := iEq_f h1
      obtain ⟨y, rfl⟩ := Int.eq_ofNat_of_zero_le h.1
      exact ⟨⟨rfl, by omega⟩, ⟨Int.le_refl 0, (by decide : (0 : Int) ≤ 3)⟩, d4 h.1 h.2, (dm ⟨y, Int.ofNat_lt.mp (by omega)⟩).1⟩
theorem cell1 {c : Int} (h : 0 ≤ c ∧ c ≤ 3000) : 0 ≤ c * 1 ∧ c * 1 < 900000 := by omega
noncomputable def rBody : List Stmt := [rS 0, rS 1, rS 2, rS 3, rS 4, rS 5, rS 6, rS 7]
theorem row_turn (n : Nat) (O : Ost) (o : Option Rw5) (md : Md) (nn : md ≠ .no) (em : [AV.str (Str.ofString "mouse_all"), .str (Str.ofString "mouse_drag")][(w.fmod 2).toNat]? = some (.str md.w.s)) (st : StAt O j d lh pv (hsOf held) pl) (hp : PlAt O last pl) (hh : 0 ≤ held ∧ held ≤ 3)
    (hM : ∀ P, Keep2 d lh O P → MoAt P mo s es) (on1 : OnsAre es md.ons) (on2 : OnsAre es Wy.sgr.ons) (K : AF → Locs → Ost → Tr) (D : Rs → Prop) (G : Prop)
    (sp : (exs (R (tabs a₀ ns₀) (n + 93)) (gm 64) rBody (rowL i w mo j held last ((Str.ofString "cell", .int x) :: tlT o)) O K).Sp D G)
    (k : ∀ O' held' last' o' lh' pv' pl', Keep2 d lh O O' → (lh' = lh ∨ O.length ≤ lh') → StAt O' j d lh' pv' (hsOf held') pl' → PlAt O' last' pl' → 0 ≤ held' ∧ held' ≤ 3 → (K .next (rowL i w mo j held' last' ((Str.ofString "cell", .int x) :: tlT (some o'))) O').Sp D G → G) : G := by
  obtain ⟨ko, hnh, hb, hd⟩ := rw_ok (x := x) hh
  obtain ⟨T0, e0⟩ := tl_0 o
  refine rw_0 a₀ ns₀ n O _ _ _ G sp fun sp => ?_
  generalize rk x held = kd at *
  rw [(e0 _).1] at sp
  obtain ⟨T1, e1⟩ := (e0 .none).2
  refine rw_1 a₀ ns₀ n O _ _ _ G sp fun P1 h1 sp => ?_
  generalize rb kd x held = b at *
  rw [(e1 _).1] at sp
  obtain ⟨T2, e2⟩ := (e1 .none).2
  refine rw_2 a₀ ns₀ n P1 _ _ _ G sp fun sp => ?_
  rw [(e2 _).1] at sp
  obtain ⟨T3, e3⟩ := (e2 .none).2
  have rb := fmod_b (x.fdiv 12) (m := 2) (by decide)
  have cb := fmod_b (x.fdiv 24) (m := 3) (by decide)
  have mb := fmod_b (x.fdiv 72) (m := 8) (by decide)
  have rb : 0 ≤ (x.fdiv 12).fmod 2 ∧ (x.fdiv 12).fmod 2 ≤ 3000 := ⟨rb.1, by omega⟩
  have cb : 0 ≤ (x.fdiv 24).fmod 3 ∧ (x.fdiv 24).fmod 3 ≤ 3000 := ⟨cb.1, by omega⟩
  have hi : ItmAt (itO P1 kd b x) P1.length kd b ((x.fdiv 12).fmod 2) ((x.fdiv 24).fmod 3) ((x.fdiv 72).fmod 8) := at_last
  have h2 : Ext O (itO P1 kd b x) := ext_app h1
  generalize itO P1 kd b x = P2 at *
  generalize P1.length = t at *
  generalize (x.fdiv 12).fmod 2 = row at *
  generalize (x.fdiv 24).fmod 3 = col at *
  generalize (x.fdiv 72).fmod 8 = m at *
  refine rw_3 a₀ ns₀ n t P2 hi _ _ _ G sp fun P3 u h3 hu sp => ?_
  rw [(e3 _).1] at sp
  refine rw_4 a₀ ns₀ n t u P3 md (octetsOf md .sgr kd (evB kd b held) row col m 1 1) em (fun k P p => Md.s_w nn ▸ law_written a₀ ns₀ k u md .sgr P (hu.ext p) ⟨hb, hd, mb, rb, cb⟩ (cell1 cb) (cell1 rb)) _ _ _ G sp fun P4 h4 sp => ?_
  rw [(e3 .none).2] at sp
  have h4 := (h2.trans h3).trans h4
  have hi := hi.ext (h3.trans (by assumption))
  refine rw_5 a₀ ns₀ n t u P4 _ pl hi (hp.ext h4) _ _ _ G sp fun P5 h5 sp => ?_
  have hi := hi.ext h5
  have h5 := h4.trans h5
  refine rw_6 a₀ ns₀ n t u P5 _ hi _ _ _ G sp fun P6 v h6 hv sp => ?_
  have hi := hi.ext h6
  have h6 := h5.trans h6
  have s6 := st.ext h6
  have k6 : Keep2 d lh O P6 := (Keep2.refl d lh O).ext h6
  refine rw_7 a₀ ns₀ n t u P6 _ (nhB kd b held) hi s6.a s6.b (fun k P e p hev => state_oct a₀ ns₀ k e P _ (s6.ext p) ko hev fun k' P' t' kp' hev' => ?_) _ _ _ G sp fun P7 P8 h7 hk sp => ?_
  · exact mouse_octets a₀ ns₀ k' t' mo s es md .sgr kd _ row col m 1 1 P' hev' (hM P' ((k6.ext p).trans kp')) on1 on2 hb mb rb cb (cell1 cb) (cell1 rb)
  · obtain ⟨kp, lh', pv', hl', st'⟩ := hk
    have l7 := (h6.trans h7).len
    exact k P8 _ (.obj v) (kd, b, t, u, _) lh' pv' (some (row, col)) ((k6.ext h7).trans kp) (hl'.imp id (Nat.le_trans l7)) st' ⟨v, rfl, kp.tuple (s6.ext h7) (h7 _ _ hv)⟩ hnh (exsN sp :)
end
section
variable {i mo j d lh : Nat} {w : Int} {sm : Nat} {es : Es}
noncomputable abbrev RwS := Ost × Int × AV × Option (Int × Rw5)
noncomputable def tlC (o : Option (Int × Rw5)) : Locs := match o with
  | none => []
  | some q => (Str.ofString "cell", .int q.1) :: tlT (some q.2)
noncomputable def rwL (i mo j : Nat) (w : Int) (x : RwS) : Locs := rowL i w mo j x.2.1 x.2.2.1 (tlC x.2.2.2)
noncomputable def rwI (P : Ost) (j d lh0 : Nat) (x : RwS) : Prop := Keep2 d lh0 P x.1 ∧ (0 ≤ x.2.1 ∧ x.2.1 ≤ 3) ∧ ∃ lh pv pl, (lh = lh0 ∨ P.length ≤ lh) ∧ StAt x.1 j d lh pv (hsOf x.2.1) pl ∧ PlAt x.1 x.2.2.1 pl
theorem row_loop (n : Nat) (P : Ost) (cs : List Int) (md : Md) (nn : md ≠ .no) (em : [AV.str (Str.ofString "mouse_all"), .str (Str.ofString "mouse_drag")][(w.fmod 2).toNat]? = some (.str md.w.s)) (hst : StAt P j d lh .none [] none) (hi : P[i]? = some (.list (cs.map AV.int))) (n1 : i ≠ d) (n2 : i ≠ lh)
    (hM : ∀ Q, Keep2 d lh P Q → MoAt Q mo sm es) (on1 : OnsAre es md.ons) (on2 : OnsAre es Wy.sgr.ons) :
    ForS (R (tabs a₀ ns₀) (n + 93)) (gm 64) (.one (Str.ofString "cell")) (wB (st 64 3)) (.led i (.list (cs.map AV.int)) (cs.map AV.int)) (rwL i mo j w (P, 0, .none, none)) P (kR (rwL i mo j w) (fun x => x.1) (fun x => Keep2 d lh P x.1) fun _ _ => False) := by
  refine forR (f := AV.int) (L := rwL i mo j w) (Q := fun x : RwS => x.1) (fun _ c x => rowL i w mo j x.2.1 x.2.2.1 ((Str.ofString "cell", .int c) :: tlT (x.2.2.2.map Prod.snd))) (fun _ _ x => rwI P j d lh x) (fun _ c x => by obtain ⟨_, _, _, o⟩ := x; cases o <;> rfl) (fun _ _ h => h.1)
    (fun _ _ _ h => by exact h.1.1 _ _ n1 n2 hi) ?_ cs rfl (P, 0, .none, none) ⟨Keep2.refl _ _ _, ⟨Int.le_refl 0, (by decide : (0 : Int) ≤ 3)⟩, lh, .none, none, .inl rfl, hst, rfl⟩
  intro _ c rest x ih h G sp
  obtain ⟨kp, hh, lh1, pv1, pl1, hl, st1, hp⟩ := h
  refine row_turn a₀ ns₀ n x.1 (x.2.2.2.map Prod.snd) md nn em st1 hp hh (fun Q k => hM Q (kp.step k hl)) on1 on2 _ _ G sp fun O' held' last' o' lh' pv' pl' kp' hl' st' hp' hh' sp => ?_
  refine ih (O', held', last', some (c, o')) ⟨kp.step kp' hl, hh', lh', pv', pl', ?_, st', hp'⟩ G sp
  rcases hl' with rfl | hl'
  · exact hl
  · exact .inr (Nat.le_trans kp.2 hl')
end
section
variable {i mo j d lh : Nat} {w : Int} {sm : Nat} {es : Es}
theorem row_A (n : Nat) (O : Ost) (ss : List Stmt) (K : AF → Locs → Ost → Tr) (D : Rs → Prop) (G : Prop)
    (sp : (exs (R (tabs a₀ ns₀) (n + 94)) (gm 64) (stS 64 0 :: ss) [(Str.ofString "cells", .obj i), (Str.ofString "whole", .int w)] O K).Sp D G)
    (k : ∀ O' j d lh sm, Ext O O' → MoAt O' (O.length + 1) sm es0 → StAt O' j d lh .none [] none → O.length ≤ d → O.length ≤ lh → O.length ≤ sm → (exs (R (tabs a₀ ns₀) (n + 94)) (gm 64) ss (rowL i w (O.length + 1) j 0 .none []) O' K).Sp D G → G) : G := by
  (repeat' (first | specialize sp (by first | (with_reducible apply Cx2.mk; (with_reducible assumption)) | wtm_at "a") | (first | (apply CallS.useP; rotate_left; intro P1 hc hk; specialize sp (cQ hc :); rotate_right; exact modes_new _ _ _ _; obtain ⟨hx1, hm1⟩ := hk) | (apply CallS.useP; rotate_left; intro P2 hc hk; specialize sp (cQ hc :); rotate_right; exact st_new _ _ _ _; obtain ⟨hx2, lh, hl, hst⟩ := hk)) | wtm_at "B" | fail))
  have hl0 : O.length ≤ (newO 69 O).length := (ext_app (Y := [.dict [], .inst 69 O.length]) (Ext.refl O)).len
  exact k _ _ _ _ _ (hx1.trans (ext_app hx2)) (hm1.ext (ext_app hx2)) (hst.ext (ext_app (Ext.refl _))) hx1.len (Nat.le_trans hx1.len hl) hl0 sp
theorem row_B (n : Nat) (O : Ost) (md : Md) (em : [AV.str (Str.ofString "mouse_all"), .str (Str.ofString "mouse_drag")][(w.fmod 2).toNat]? = some (.str md.w.s)) (hm : MoAt O mo sm es) (he : es.length ≤ 100) (ss : List Stmt) (K : AF → Locs → Ost → Tr) (D : Rs → Prop) (G : Prop)
    (sp : (exs (R (tabs a₀ ns₀) (n + 94)) (gm 64) (stS 64 1 :: ss) (rowL i w mo j 0 .none []) O K).Sp D G)
    (k : ∀ O', Keep sm O O' → MoAt O' mo sm (setOn md.w es) → (exs (R (tabs a₀ ns₀) (n + 94)) (gm 64) ss (rowL i w mo j 0 .none []) O' K).Sp D G → G) : G := by
  have q := fmod_b w (m := 2) (by decide)
  have g : 0 ≤ w.fmod 2 ∧ w.fmod 2 < 1000000 := ⟨q.1, by omega⟩
  have hm' := hm.ext (ext_app (Y := [.list [.str (Str.ofString "mouse_all"), .str (Str.ofString "mouse_drag")]]) (Ext.refl O))
  refine hm.out fun dd kp h1 h2 h3 h4 => ?_
  clear q
  (repeat' (first | specialize sp (by first | (with_reducible apply Cx2.mk; (with_reducible assumption)) | wtm_at "a") | (apply CallS.useP; rotate_left; intro O1 hc hk; specialize sp (cQ hc :); rotate_right; (exact modes_put _ _ _ _ _ _ _ _ (by wtm_at "A") (by wtm_at "A")); try (obtain ⟨hx, hk⟩ := hk)) | wtm_at "B" | fail))
  exact k _ (Keep.trans (Keep.app (Keep.refl _ _)) hx) hk sp
theorem row_C (n : Nat) (O : Ost) (hm : MoAt O mo sm es) (he : es.length ≤ 100) (ss : List Stmt) (K : AF → Locs → Ost → Tr) (D : Rs → Prop) (G : Prop)
    (sp : (exs (R (tabs a₀ ns₀) (n + 94)) (gm 64) (stS 64 2 :: ss) (rowL i w mo j 0 .none []) O K).Sp D G)
    (k : ∀ O', Keep sm O O' → MoAt O' mo sm (setOn .sgr es) → (exs (R (tabs a₀ ns₀) (n + 94)) (gm 64) ss (rowL i w mo j 0 .none []) O' K).Sp D G → G) : G := by
  refine hm.out fun dd kp h1 h2 h3 h4 => ?_
  (repeat' (first | specialize sp (by first | (with_reducible apply Cx2.mk; (with_reducible assumption)) | wtm_at "a") | (apply CallS.useP; rotate_left; intro O1 hc hk; specialize sp (cQ hc :); rotate_right; (exact modes_put _ _ _ _ _ _ .sgr _ (by wtm_at "A") (by wtm_at "A")); try (obtain ⟨hx, hk⟩ := hk)) | wtm_at "B" | fail))
  exact k _ hx hk sp
theorem ao_md (md : Md) : aoH (.dict (setOn md.w es0)) = false ∧ aoH (.dict (setOn .sgr (setOn md.w es0))) = false := by cases md <;> exact ⟨rfl, rfl⟩
theorem ons_md {md : Md} (h : md ≠ .no) : OnsAre (setOn .sgr (setOn md.w es0)) md.ons ∧ OnsAre (setOn .sgr (setOn md.w es0)) Wy.sgr.ons := by
  have := o_ons md .sgr
  cases md <;> first | exact absurd rfl h | exact this
theorem row_pick {x : Int} (h : 0 ≤ x ∧ x < 2) : ∃ md : Md, md ≠ .no ∧ [AV.str (Str.ofString "mouse_all"), .str (Str.ofString "mouse_drag")][x.toNat]? = some (.str md.w.s) := by
  have hl : x.toNat < 2 := by omega
  match x.toNat, hl with
  | 0, _ => exact ⟨.all, Md.noConfusion, rfl⟩
  | 1, _ => exact ⟨.drag, Md.noConfusion, rfl⟩
theorem row_right (n : Nat) (i : Nat) (cs : List Int) (w : Int) (O : Ost) (hi : O[i]? = some (.list (cs.map AV.int))) : CallX (R (tabs a₀ ns₀) (n + 95)) 347 [.obj i, .int w] O (.bool true) := by
  obtain ⟨md, nn, em⟩ := row_pick (fmod_b w (m := 2) (by decide))
  refine .mkB (gm 64) [stS 64 0, stS 64 1, stS 64 2, stS 64 3, stS 64 4] [(Str.ofString "cells", .obj i), (Str.ofString "whole", .int w)] (fun _ => rfl) fun G sp => ?_
  refine row_A a₀ ns₀ n O _ _ _ G sp fun P j d lh sm hx hm hst l1 l2 l3 sp => ?_
  generalize O.length + 1 = mo at hm sp
  refine row_B a₀ ns₀ n P md em hm (by decide +kernel) _ _ _ G sp fun P2 k2 hm2 sp => ?_
  have hst2 := hst.keepS k2 hm.st rfl
  have hx2 := k2.ext hx l3
  refine row_C a₀ ns₀ n P2 hm2 (es_b md.w) _ _ _ G sp fun P3 k3 hm3 sp => ?_
  have hst3 := hst2.keepS k3 hm2.st (ao_md md).1
  have hx3 := k3.ext hx2 l3
  have hi3 := hx3 _ _ hi
  have ons := ons_md nn
  have n1 := ne_at hi3 hst3.b AO.noConfusion
  have n2 : i ≠ lh := Nat.ne_of_lt (Nat.lt_of_lt_of_le (lt_of_at hi) l2)
  have hM : ∀ Q, Keep2 d lh P3 Q → MoAt Q mo sm (setOn .sgr (setOn md.w es0)) := fun Q k => mo_keep hst3 hm3 (ao_md md).2 k
  refine (row_loop a₀ ns₀ n P3 cs md nn em hst3 hi3 n1 n2 hM ons.1 ons.2).out (fun x hc kx => ?_) fun _ _ _ _ e => e.elim
  have hf := kx.old hx3 l1 l2
  clear hi hx hm hst k2 hm2 hst2 hx2 k3 hm3 hst3 ons n1 n2 hM
  (first | specialize sp (by first | (with_reducible apply Cx2.mk; (with_reducible assumption)) | wtm_at "a") | wtm_at "B" | fail)
  specialize sp (fQ hc :)
  (repeat' (first | specialize sp (by first | (with_reducible apply Cx2.mk; (with_reducible assumption)) | wtm_at "a") | wtm_at "B" | fail))
  exact sp ⟨rfl, hf⟩
end
section
variable {es : Es}
theorem focus_octets (n : Nat) (i s : Nat) (is on : Bool) (O : Ost) (hm : MoAt O i s es) (e : dgetD es (Str.ofString "focus") (.bool false) = .bool on) :
    (R (tabs a₀ ns₀) (n + 25)).C 245 [.bool is, .obj i] O (.bytes (cond on (cond is [27, 91, 73] [27, 91, 79]) [])) O := by
  have hOn : ∀ k, (R (tabs a₀ ns₀) (k + 15)).C 59 [.obj i, .str (Str.ofString "focus")] O (.bool on) O := fun k => e ▸ is_on a₀ ns₀ k i s es (Str.ofString "focus") O hm
  refine hm.out fun dd kp h1 h2 h3 h4 => ?_
  clear e hm
  refine CallS.pure ?_
  cases on
  · (refine CallS.mk ?_; intro G sp)
    (repeat' (first | specialize sp (by first | (with_reducible apply Cx2.mk; (exact hOn _)) | wtm_at "a") | wtm_at "B" | fail))
    exact sp ⟨rfl, rfl⟩
  · cases is
    all_goals
      (refine CallS.mk ?_; intro G sp)
      (repeat' (first | specialize sp (by first | (with_reducible apply Cx2.mk; (exact hOn _)) | wtm_at "a") | wtm_at "B" | fail))
      exact sp ⟨rfl, rfl⟩
end
noncomputable def lineS (p x : Int) : List Int := cond (iEq x 10) (cond (iEq p 13) [] [13]) [x]
noncomputable def linesGo : Int → List Int → List Int
  | _, [] => []
  | p, x :: r => lineS p x ++ linesGo x r
theorem line_len (p x : Int) : (lineS p x).length ≤ 1 := by unfold lineS; cases iEq x 10 <;> cases iEq p 13 <;> exact Nat.le_of_ble_eq_true rfl
theorem lines_len : ∀ (b : List Int) (p : Int), (linesGo p b).length ≤ b.length
  | [], _ => Nat.le_refl _
  | x :: r, p => by
    have h := Nat.add_le_add (line_len p x) (lines_len r x)
    rw [Nat.add_comm] at h
    show (lineS p x ++ linesGo x r).length ≤ _
    rw [List.length_append, Nat.add_comm]; exact Nat.le_trans h (Nat.le_of_eq (Nat.add_comm 1 r.length))
noncomputable abbrev PlS := Ost × List Int × Int × Option (Int × Int)
noncomputable def plnL (b : List Int) (f : Nat) (s : PlS) : Locs := (Str.ofString "octets", .bytes b) :: (Str.ofString "found", .obj f) :: (match s.2.2.2 with | none => [] | some q => [(Str.ofString "at", .int q.1), (Str.ofString "octet", .int q.2)])
noncomputable abbrev plnB (b : List Int) (f : Nat) (q x : Int) : Locs := [(Str.ofString "octets", .bytes b), (Str.ofString "found", .obj f), (Str.ofString "at", .int q), (Str.ofString "octet", .int x)]
structure PlI (O : Ost) (b : List Int) (f : Nat) (i : Nat) (rest : List Int) (s : PlS) : Prop where
  kp : Keep f O s.1
  at_ : s.1[f]? = some (.barr s.2.1)
  len : s.2.1.length ≤ i
  pos : i + rest.length = b.length
  sum : linesGo 0 b = s.2.1 ++ linesGo s.2.2.1 rest
  bef : i = 0 ∧ s.2.2.1 = 0 ∨ 1 ≤ i ∧ b.getD ((i : Int) - 1).toNat 0 = s.2.2.1
  cur : ∀ x ∈ rest, 0 ≤ x ∧ x < 256
  here : b.drop i = rest
noncomputable def plnT : List Stmt := wB (st 49 1)
section
variable {O Q : Ost} {b acc : List Int} {f : Nat} {x : Int}
theorem getD_drop {b rest : List Int} {i : Nat} {x : Int} (h : b.drop i = x :: rest) : b.getD i 0 = x := by
  have e : (b.drop i)[0]? = some x := by rw [h]; rfl
  rw [List.getElem?_drop] at e
  rw [List.getD_eq_getElem?_getD, show i = i + 0 from rfl, e]; rfl
theorem pln_1 (n : Nat) (q : Int) (hf : Q[f]? = some (.barr acc)) (hx : 0 ≤ x ∧ x < 256) (hl : acc.length ≤ 1000000) (h : (!iEq x 10) = true) (K : AF → Locs → Ost → Tr) (D : Rs → Prop) (G : Prop)
    (sp : (exs (R (tabs a₀ ns₀) (n + 23)) (gm 49) plnT (plnB b f q x) Q K).Sp D G) (k : (K .next (plnB b f q x) (Q.set f (.barr (acc ++ [x])))).Sp D G → G) : G := by
  (repeat' (first | specialize sp (by first | (with_reducible apply Cx2.mk; (exact hOn _)) | wtm_at "a") | wtm_at "B" | fail))
  exact k sp
theorem pln_2 (n : Nat) (hf : Q[f]? = some (.barr acc)) (hl : acc.length ≤ 1000000) (h : (!iEq x 10) = false) (K : AF → Locs → Ost → Tr) (D : Rs → Prop) (G : Prop)
    (sp : (exs (R (tabs a₀ ns₀) (n + 23)) (gm 49) plnT (plnB b f 0 x) Q K).Sp D G) (k : (K .next (plnB b f 0 x) (Q.set f (.barr (acc ++ [13])))).Sp D G → G) : G := by
  (repeat' (first | specialize sp (by first | (with_reducible apply Cx2.mk; (exact hOn _)) | wtm_at "a") | wtm_at "B" | fail))
  exact k sp
theorem pln_3 (n : Nat) (q : Int) (hf : Q[f]? = some (.barr acc)) (hl : acc.length ≤ 1000000) (h : (!iEq x 10) = false) (h0 : iEq q 0 = false) (hg : 0 ≤ q - 1 ∧ q - 1 < b.length ∧ b.length ≤ 1000000) (h1 : (!iEq (b.getD (q - 1).toNat 0) 13) = true) (K : AF → Locs → Ost → Tr) (D : Rs → Prop) (G : Prop)
    (sp : (exs (R (tabs a₀ ns₀) (n + 23)) (gm 49) plnT (plnB b f q x) Q K).Sp D G) (k : (K .next (plnB b f q x) (Q.set f (.barr (acc ++ [13])))).Sp D G → G) : G := by
  (repeat' (first | specialize sp (by first | (with_reducible apply Cx2.mk; (exact hOn _)) | wtm_at "a") | wtm_at "B" | fail))
  exact k sp
theorem pln_4 (n : Nat) (q : Int) (h : (!iEq x 10) = false) (h0 : iEq q 0 = false) (hg : 0 ≤ q - 1 ∧ q - 1 < b.length ∧ b.length ≤ 1000000) (h1 : (!iEq (b.getD (q - 1).toNat 0) 13) = false) (K : AF → Locs → Ost → Tr) (D : Rs → Prop) (G : Prop)
    (sp : (exs (R (tabs a₀ ns₀) (n + 23)) (gm 49) plnT (plnB b f q x) Q K).Sp D G) (k : (K .next (plnB b f q x) Q).Sp D G → G) : G := by
  (repeat' (first | specialize sp (by first | (with_reducible apply Cx2.mk; (exact hOn _)) | wtm_at "a") | wtm_at "B" | fail))
  exact k sp
end
section
variable {O P : Ost} {b rest : List Int} {f i : Nat} {x : Int} {s : PlS}
theorem PlI.next (h : PlI O b f i (x :: rest) s) {y : List Int} (hy : lineS s.2.2.1 x = y) (kp : Keep f O P) (hP : P[f]? = some (.barr (s.2.1 ++ y))) : PlI O b f (i + 1) rest (P, s.2.1 ++ y, x, some ((i : Int), x)) where
  kp := kp
  at_ := hP
  len := by
    have z := line_len s.2.2.1 x
    rw [hy] at z
    show (s.2.1 ++ y).length ≤ i + 1
    rw [List.length_append]
    exact Nat.add_le_add h.len z
  pos := (Nat.add_right_comm i 1 rest.length).trans h.pos
  sum := by
    rw [h.sum]
    show s.2.1 ++ (lineS s.2.2.1 x ++ linesGo x rest) = _
    rw [hy, List.append_assoc]
  bef := .inr ⟨Nat.le_add_left 1 i, by rw [show ((i + 1 : Nat) : Int) - 1 = (i : Int) from Int.add_sub_cancel (i : Int) 1, Int.toNat_natCast]; exact getD_drop h.here⟩
  cur := fun z hz => h.cur z (.tail _ hz)
  here := by rw [← List.drop_drop, h.here]; rfl
theorem nb_t {a : Bool} (h : a = false) : (!a) = true := by rw [h]; rfl
theorem nb_f {a : Bool} (h : a = true) : (!a) = false := by rw [h]; rfl
theorem pln_loop (n : Nat) (f : Nat) (b : List Int) (O : Ost) (hf : O[f]? = some (.barr [])) (hl : b.length ≤ 500000) (hb : ∀ x ∈ b, 0 ≤ x ∧ x < 256) :
    ForS (R (tabs a₀ ns₀) (n + 23)) (gm 49) (.two (Str.ofString "at") (Str.ofString "octet")) plnT (.enumB b) (plnL b f (O, [], 0, none)) O (kR (plnL b f) (fun s => s.1) (fun s => Keep f O s.1 ∧ s.1[f]? = some (.barr (linesGo 0 b))) fun _ _ => False) := by
  refine forR (f := AV.int) (L := plnL b f) (Q := fun s : PlS => s.1) (fun i x _ => plnB b f (i : Int) x) (PlI O b f) (fun i x s => by obtain ⟨_, _, _, o⟩ := s; cases o <;> rfl) (fun i s h => ⟨h.kp, by rw [h.sum]; exact (List.append_nil s.2.1).symm ▸ h.at_⟩)
    (fun _ _ _ _ => by exact trivial) ?_ b rfl (O, [], 0, none) ⟨Keep.refl _ _, hf, Nat.le_refl _, Nat.zero_add _, rfl, .inl ⟨rfl, rfl⟩, hb, rfl⟩
  intro i x rest s ih h G sp
  have hx := h.cur x List.mem_cons_self
  have hi : i < b.length := by rw [← h.pos]; exact Nat.lt_add_of_pos_right (Nat.succ_pos _)
  have la : s.2.1.length ≤ 1000000 := Nat.le_trans h.len (Nat.le_trans (Nat.le_of_lt hi) (Nat.le_trans hl (by decide)))
  refine Bool.two (iEq x 10) (fun h1 => ?_) fun h1 => ?_
  · rcases h.bef with ⟨rfl, hp⟩ | ⟨q, hp⟩
    · refine pln_2 a₀ ns₀ n h.at_ la (nb_f h1) _ _ G sp fun sp => ?_
      exact ih (_, _, x, some (0, x)) (h.next ((ct h1).trans (by rw [hp]; rfl)) (Keep.set h.kp) (at_same h.at_)) G sp
    · have h0 : iEq (i : Int) 0 = false := decide_eq_false (by omega)
      have hg : 0 ≤ (i : Int) - 1 ∧ (i : Int) - 1 < b.length ∧ b.length ≤ 1000000 := by omega
      refine Bool.two (iEq s.2.2.1 13) (fun h2 => ?_) fun h2 => ?_
      · refine pln_4 a₀ ns₀ n (i : Int) (nb_f h1) h0 hg (nb_f (by rw [hp]; exact h2)) _ _ G sp fun sp => ?_
        exact ih (s.1, _, x, some ((i : Int), x)) (h.next ((ct h1).trans (ct h2)) h.kp (by rw [List.append_nil]; exact h.at_)) G sp
      · refine pln_3 a₀ ns₀ n (i : Int) h.at_ la (nb_f h1) h0 hg (nb_t (by rw [hp]; exact h2)) _ _ G sp fun sp => ?_
        exact ih (_, _, x, some ((i : Int), x)) (h.next ((ct h1).trans (cf h2)) (Keep.set h.kp) (at_same h.at_)) G sp
  · refine pln_1 a₀ ns₀ n (i : Int) h.at_ hx la (nb_t h1) _ _ G sp fun sp => ?_
    exact ih (_, _, x, some ((i : Int), x)) (h.next (cf h1) (Keep.set h.kp) (at_same h.at_)) G sp
theorem paste_lines (n : Nat) (b : List Int) (O : Ost) (hl : b.length ≤ 500000) (hb : ∀ x ∈ b, 0 ≤ x ∧ x < 256) : CallX (R (tabs a₀ ns₀) (n + 25)) 252 [.bytes b] O (.bytes (linesGo 0 b)) := by
  have hL := Nat.le_trans (lines_len b 0) (Nat.le_trans hl (by decide : 500000 ≤ 1000000))
  refine (pln_loop a₀ ns₀ n O.length b (O ++ [.barr []]) at_last hl hb).out (fun s hc h => ?_) fun _ _ _ _ e => e.elim
  have hf := h.2
  have hx : Ext O s.1 := h.1.ext (ext_app (Ext.refl _)) (Nat.le_refl _)
  clear hl hb h
  (refine CallS.mk ?_; intro G sp)
  (repeat' wtm_at "y")
  specialize sp (fQ hc :)
  (repeat' wtm_at "y")
  exact sp ⟨rfl, hx⟩
end
noncomputable def strip (e a : List Int) : List Int := cond (bEq (cut a (some (-(e.length : Int))) none) e) (a.take ((a.length : Int) - e.length).toNat) a
noncomputable def end1 : List Int := [27, 91, 50, 48, 49, 126]
noncomputable def end2 : List Int := [155, 50, 48, 49, 126]
noncomputable def end3 : List Int := [194, 155, 50, 48, 49, 126]
noncomputable def ends : List (List Int) := [end1, end2, end3]
noncomputable def cleanStep (a : List Int) (x : Int) : List Int := ends.foldl (fun a e => strip e a) (a ++ [x])
theorem strip_len (e a : List Int) : (strip e a).length ≤ a.length := by
  unfold strip
  cases bEq (cut a (some (-(e.length : Int))) none) e
  · exact Nat.le_refl _
  · exact Nat.le_trans (Nat.le_of_eq List.length_take) (Nat.min_le_right _ _)
theorem cut_neg (a : List Int) (j : Nat) (hj : 1 ≤ j) : cut a (some (-(j : Int))) none = a.drop (a.length - j) := by
  unfold cut
  simp only [Option.elim]
  rw [clipAt_neg _ _ hj, List.take_of_length_le (by rw [List.length_drop]; exact Nat.le_refl _)]
theorem cut_le {a e : List Int} (hj : 1 ≤ e.length) (h : cut a (some (-(e.length : Int))) none = e) : e.length ≤ a.length := by
  rw [cut_neg a _ hj] at h
  have := congrArg List.length h
  rw [List.length_drop] at this
  omega
noncomputable abbrev clB (b : List Int) (f : Nat) (x : Int) (e : List Int) : Locs := [(Str.ofString "octets", .bytes b), (Str.ofString "found", .obj f), (Str.ofString "octet", .int x), (Str.ofString "end", .bytes e)]
noncomputable def clI : Option Stmt := sAt (wB (st 50 1)) 1
section
variable {O Q : Ost} {b acc e : List Int} {f : Nat} {x : Int}
theorem cl_1 (n : Nat) (he : e.length ≤ 1000000) (hf : Q[f]? = some (.barr acc)) (hl : acc.length ≤ 1000000) (hc : bEq (cut acc (some (-(e.length : Int))) none) e = true) (hg : 0 ≤ (acc.length : Int) - e.length ∧ (acc.length : Int) - e.length ≤ acc.length ∧ acc.length ≤ 1000000) (K : AF → Locs → Ost → Tr) (D : Rs → Prop) (G : Prop)
    (sp : (exs (R (tabs a₀ ns₀) (n + 22)) (gm 50) (wB clI) (clB b f x e) Q K).Sp D G) (k : (K .next (clB b f x e) ((Q ++ [AO.barr (cut acc (some (-(e.length : Int))) none)]).set f (.barr (acc.take ((acc.length : Int) - e.length).toNat)))).Sp D G → G) : G := by
  (repeat' wtm_at "y")
  exact k sp
theorem cl_2 (n : Nat) (he : e.length ≤ 1000000) (hf : Q[f]? = some (.barr acc)) (hl : acc.length ≤ 1000000) (hc : bEq (cut acc (some (-(e.length : Int))) none) e = false) (K : AF → Locs → Ost → Tr) (D : Rs → Prop) (G : Prop)
    (sp : (exs (R (tabs a₀ ns₀) (n + 22)) (gm 50) (wB clI) (clB b f x e) Q K).Sp D G) (k : (K .next (clB b f x e) (Q ++ [AO.barr (cut acc (some (-(e.length : Int))) none)])).Sp D G → G) : G := by
  (repeat' wtm_at "y")
  exact k sp
noncomputable abbrev ClS := Ost × List Int × Option (List Int)
noncomputable def clL (b : List Int) (f : Nat) (x : Int) (s : ClS) : Locs := (Str.ofString "octets", .bytes b) :: (Str.ofString "found", .obj f) :: (Str.ofString "octet", .int x) :: (match s.2.2 with | none => [] | some e => [(Str.ofString "end", .bytes e)])
noncomputable def ClI (O : Ost) (f : Nat) (F : List Int) (rest : List (List Int)) (s : ClS) : Prop := Keep f O s.1 ∧ s.1[f]? = some (.barr s.2.1) ∧ s.2.1.length ≤ 500000 ∧ (∀ e ∈ rest, 1 ≤ e.length ∧ e.length ≤ 1000000) ∧ rest.foldl (fun a e => strip e a) s.2.1 = F
theorem cl_loop (n : Nat) (hf : O[f]? = some (.barr acc)) (hl : acc.length ≤ 500000) (o : Option (List Int)) :
    ForS (R (tabs a₀ ns₀) (n + 22)) (gm 50) (.one (Str.ofString "end")) (wB clI) (.glob 88 (ends.map AV.bytes)) (clL b f x (O, acc, o)) O (kR (clL b f x) (fun s => s.1) (ClI O f (ends.foldl (fun a e => strip e a) acc) []) fun _ _ => False) := by
  refine forR (f := AV.bytes) (L := clL b f x) (Q := fun s : ClS => s.1) (fun _ e _ => clB b f x e) (fun _ => ClI O f (ends.foldl (fun a e => strip e a) acc)) (fun i x s => by obtain ⟨_, _, o⟩ := s; cases o <;> rfl) (fun _ _ h => h)
    (fun _ _ _ _ => by exact trivial) ?_ ends rfl (O, acc, o) ⟨Keep.refl _ _, hf, hl, by unfold ends end1 end2 end3; decide, rfl⟩
  intro _ e rest s ih h G sp
  obtain ⟨kp, hf, hl, he, hF⟩ := h
  have la : s.2.1.length ≤ 1000000 := Nat.le_trans hl (by decide)
  have he' : ∀ e ∈ rest, 1 ≤ e.length ∧ e.length ≤ 1000000 := fun z hz => he z (.tail _ hz)
  refine Bool.two (bEq (cut s.2.1 (some (-(e.length : Int))) none) e) (fun h1 => ?_) fun h1 => ?_
  · have z := cut_le (he e List.mem_cons_self).1 (bEq_t h1)
    have e1 : strip e s.2.1 = s.2.1.take ((s.2.1.length : Int) - e.length).toNat := ct h1
    refine cl_1 a₀ ns₀ n (he e List.mem_cons_self).2 hf la h1 (by omega) _ _ G sp fun sp => ?_
    exact ih (_, _, some e) ⟨Keep.set (Keep.app kp), at_same (at_old hf), Nat.le_trans (e1 ▸ strip_len e s.2.1) hl, he', by rw [← hF, ← e1]; rfl⟩ G sp
  · have e1 : strip e s.2.1 = s.2.1 := cf h1
    refine cl_2 a₀ ns₀ n (he e List.mem_cons_self).2 hf la h1 _ _ G sp fun sp => ?_
    exact ih (_, _, some e) ⟨Keep.app kp, at_old hf, hl, he', by rw [← hF]; exact (congrArg (fun z => rest.foldl (fun a e => strip e a) z) e1).symm⟩ G sp
end
section
variable {O Q : Ost} {b acc e : List Int} {f : Nat} {x : Int}
theorem cl_turn (n : Nat) (s0 : ClS) (hf : Q[f]? = some (.barr acc)) (hx : 0 ≤ x ∧ x < 256) (hl : acc.length ≤ 499999) (hs : s0.1 = Q) (K : AF → Locs → Ost → Tr) (D : Rs → Prop) (G : Prop)
    (sp : (exs (R (tabs a₀ ns₀) (n + 23)) (gm 50) (wB (st 50 1)) (clL b f x s0) Q K).Sp D G)
    (k : ∀ s : ClS, Keep f Q s.1 → s.1[f]? = some (.barr (cleanStep acc x)) → (K .next (clL b f x s) s.1).Sp D G → G) : G := by
  have la : acc.length ≤ 1000000 := Nat.le_trans hl (by decide)
  have la' : (acc ++ [x]).length ≤ 500000 := by rw [List.length_append]; exact Nat.add_le_add_right hl 1
  have hf' : (Q.set f (.barr (acc ++ [x])))[f]? = some (.barr (acc ++ [x])) := at_same hf
  refine (cl_loop a₀ ns₀ (x := x) (b := b) n hf' la' s0.2.2).out (fun s hc h => ?_) fun _ _ _ _ e => e.elim
  have h1 : Keep f Q s.1 := Keep.trans (Keep.set (Keep.refl _ _)) h.1
  have h2 : s.1[f]? = some (.barr (cleanStep acc x)) := by rw [h.2.1]; exact congrArg (fun z => some (AO.barr z)) h.2.2.2.2
  obtain ⟨_, _, o⟩ := s0
  clear hf' la' h hs
  cases o
  all_goals
    (repeat' wtm_at "y")
    specialize sp (fQ hc :)
    (repeat' wtm_at "y")
    exact k s h1 h2 (exsN sp :)
noncomputable abbrev CoS := Ost × List Int × Option (Int × Option (List Int))
noncomputable def coL (b : List Int) (f : Nat) (s : CoS) : Locs := (Str.ofString "octets", .bytes b) :: (Str.ofString "found", .obj f) :: (match s.2.2 with | none => [] | some q => (Str.ofString "octet", .int q.1) :: (match q.2 with | none => [] | some e => [(Str.ofString "end", .bytes e)]))
noncomputable def CoI (O : Ost) (f : Nat) (F : List Int) (rest : List Int) (s : CoS) : Prop := Keep f O s.1 ∧ s.1[f]? = some (.barr s.2.1) ∧ s.2.1.length + rest.length ≤ 499999 ∧ (∀ x ∈ rest, 0 ≤ x ∧ x < 256) ∧ rest.foldl cleanStep s.2.1 = F
theorem foldl_strip : ∀ (es : List (List Int)) (a : List Int), (es.foldl (fun a e => strip e a) a).length ≤ a.length
  | [], _ => Nat.le_refl _
  | e :: es, a => Nat.le_trans (foldl_strip es (strip e a)) (strip_len e a)
theorem clean_len (a : List Int) (x : Int) : (cleanStep a x).length ≤ a.length + 1 := Nat.le_trans (foldl_strip ends (a ++ [x])) (Nat.le_of_eq List.length_append)
theorem co_loop (n : Nat) (hf : O[f]? = some (.barr [])) (hl : b.length ≤ 499999) (hb : ∀ x ∈ b, 0 ≤ x ∧ x < 256) :
    ForS (R (tabs a₀ ns₀) (n + 23)) (gm 50) (.one (Str.ofString "octet")) (wB (st 50 1)) (.bytes b) (coL b f (O, [], none)) O (kR (coL b f) (fun s => s.1) (CoI O f (b.foldl cleanStep []) []) fun _ _ => False) := by
  refine forR (f := AV.int) (L := coL b f) (Q := fun s : CoS => s.1) (fun _ x s => clL b f x (s.1, s.2.1, s.2.2.bind Prod.snd)) (fun _ => CoI O f (b.foldl cleanStep [])) (fun i x s => by obtain ⟨_, _, _ | ⟨_, _ | _⟩⟩ := s <;> rfl) (fun _ _ h => h)
    (fun _ _ _ _ => by exact trivial) ?_ b rfl (O, [], none) ⟨Keep.refl _ _, hf, by rw [List.length_nil, Nat.zero_add]; exact hl, hb, rfl⟩
  intro _ x rest s ih h G sp
  obtain ⟨kp, hf, hl, hx, hF⟩ := h
  refine cl_turn a₀ ns₀ n (s.1, s.2.1, s.2.2.bind Prod.snd) hf (hx x List.mem_cons_self) (Nat.le_trans (Nat.le_add_right _ _) hl) rfl _ _ G sp fun s' k1 h1 sp => ?_
  refine ih (s'.1, _, some (x, s'.2.2)) ⟨Keep.trans kp k1, h1, Nat.le_trans (Nat.add_le_add_right (clean_len _ _) _) ?_, fun z hz => hx z (.tail _ hz), hF⟩ G sp
  rw [Nat.add_assoc, Nat.add_comm 1]; exact hl
theorem paste_cleaned (n : Nat) (b : List Int) (O : Ost) (hl : b.length ≤ 499999) (hb : ∀ x ∈ b, 0 ≤ x ∧ x < 256) : CallX (R (tabs a₀ ns₀) (n + 25)) 259 [.bytes b] O (.bytes (b.foldl cleanStep [])) := by
  refine (co_loop a₀ ns₀ n (f := O.length) (O := O ++ [.barr []]) at_last hl hb).out (fun s hc h => ?_) fun _ _ _ _ e => e.elim
  obtain ⟨kp, hf, hz, _, hF⟩ := h
  have hF : s.2.1 = b.foldl cleanStep [] := hF
  rw [hF] at hf hz
  have hx : Ext O s.1 := kp.ext (ext_app (Ext.refl _)) (Nat.le_refl _)
  have hL : (b.foldl cleanStep []).length ≤ 1000000 := Nat.le_trans (Nat.le_trans (Nat.le_add_right _ _) hz) (by decide)
  clear hl hb kp hz hF
  (refine CallS.mk ?_; intro G sp)
  (repeat' wtm_at "y")
  specialize sp (fQ hc :)
  (repeat' wtm_at "y")
  exact sp ⟨rfl, hx⟩
end
noncomputable def isSafe (x : Int) : Bool := !(iEq x 27) && (!(iEq x 155) && !(iEq x 194))
noncomputable def isByte (x : Int) : Bool := iLe 0 x && iLt x 256
section
variable {a e A D : List Int} {x y : Int}
theorem no_safe (h : D.all isSafe = true) (hy : isSafe y = false) : y ∉ D := fun q => Bool.noConfusion (hy.symm.trans (List.all_eq_true.mp h y q))
theorem strip_no (h : ¬ cut a (some (-(e.length : Int))) none = e) : strip e a = a := cf (decide_eq_false h)
theorem strip_mem (he : y ∈ e) (h1 : 1 ≤ e.length) (ha : y ∉ a) : strip e a = a := by
  refine strip_no fun q => ha ?_
  rw [cut_neg _ _ h1] at q
  rw [← q] at he
  exact List.mem_of_mem_drop he
theorem strip_last (h1 : 1 ≤ e.length) (hl : e.getLast? = some 126) (hx : x ≠ 126) : strip e (a ++ [x]) = a ++ [x] := by
  refine strip_no fun q => hx ?_
  rw [cut_neg _ _ h1] at q
  have h2 : ((a ++ [x]).drop ((a ++ [x]).length - e.length)).getLast? = some x := by
    rw [List.getLast?_drop, if_neg (by rw [List.length_append]; show ¬ a.length + 1 ≤ a.length + 1 - e.length; omega), List.getLast?_concat]
  rw [q, hl] at h2
  exact (Option.some.inj h2).symm
theorem strip_cut (h1 : 1 ≤ e.length) : strip e (a ++ e) = a := by
  have h : cut (a ++ e) (some (-(e.length : Int))) none = e := by
    rw [cut_neg _ _ h1, List.length_append, Nat.add_sub_cancel, List.drop_left]
  have z : strip e (a ++ e) = (a ++ e).take (((a ++ e).length : Int) - e.length).toNat := ct (decide_eq_true h)
  rw [z, Int.toNat_sub, List.length_append, Nat.add_sub_cancel, List.take_left]
theorem clean_eq : cleanStep a x = strip end3 (strip end2 (strip end1 (a ++ [x]))) := by
  unfold cleanStep ends
  rw [List.foldl_cons, List.foldl_cons, List.foldl_cons, List.foldl_nil]
theorem fold_one : [x].foldl cleanStep a = cleanStep a x := by rw [List.foldl_cons, List.foldl_nil]
theorem clean_plain (hx : x ≠ 126) : cleanStep a x = a ++ [x] := by
  rw [clean_eq, strip_last (e := end1) (by decide +kernel) rfl hx, strip_last (e := end2) (by decide +kernel) rfl hx, strip_last (e := end3) (by decide +kernel) rfl hx]
theorem fold_plain : ∀ (L : List Int) (a : List Int), (L.all fun x => !iEq x 126) = true → L.foldl cleanStep a = a ++ L
  | [], a, _ => (List.append_nil a).symm
  | x :: L, a, h => by
    have h := Bool.and_eq_true_iff.mp h
    rw [List.foldl_cons, clean_plain (iEq_f (not_t h.1)), fold_plain L _ h.2, List.append_assoc]; rfl
noncomputable abbrev endH : List Int := [27, 91, 50, 48, 49]
theorem clean_end (h1 : (155 : Int) ∉ A) (h2 : (194 : Int) ∉ A) : cleanStep (A ++ endH) 126 = A := by
  rw [clean_eq, List.append_assoc]
  show strip end3 (strip end2 (strip end1 (A ++ end1))) = A
  rw [strip_cut (by decide +kernel), strip_mem (e := end2) (y := 155) (by unfold end2; simp) (by decide +kernel) h1, strip_mem (e := end3) (y := 194) (by unfold end3; simp) (by decide +kernel) h2]
end
noncomputable def lastI : Int → List Int → Int
  | p, [] => p
  | _, x :: r => lastI x r
theorem lines_app : ∀ (A B : List Int) (p : Int), linesGo p (A ++ B) = linesGo p A ++ linesGo (lastI p A) B
  | [], B, p => rfl
  | x :: A, B, p => by
    show lineS p x ++ linesGo x (A ++ B) = lineS p x ++ linesGo x A ++ _
    rw [lines_app A B x, List.append_assoc]; rfl
theorem last_app : ∀ (A B : List Int) (p : Int), lastI p (A ++ B) = lastI (lastI p A) B
  | [], _, _ => rfl
  | x :: A, B, _ => last_app A B x
theorem lines_p {p : Int} (h : iEq p 13 = false) : ∀ A : List Int, linesGo p A = linesGo 0 A
  | [] => rfl
  | x :: A => by
    show lineS p x ++ linesGo x A = lineS 0 x ++ linesGo x A
    unfold lineS
    rw [h]; rfl
structure Piece (pc lp dc : List Int) : Prop where
  lines : linesGo 0 pc = lp
  clean : ∀ D, D.all isSafe = true → lp.foldl cleanStep D = D ++ dc
  last : ∀ p, iEq p 13 = false → iEq (lastI p pc) 13 = false
  len : pc.length ≤ 12 ∧ dc.length ≤ 12
  bytes : pc.all isByte = true
  safe : dc.all isSafe = true
section
variable {D pc lp dc : List Int} {x : Int}
theorem piece_plain (h1 : linesGo 0 pc = dc) (h2 : (dc.all fun x => !iEq x 126) = true) (h3 : ∀ p, iEq p 13 = false → iEq (lastI p pc) 13 = false) (h4 : pc.length ≤ 12 ∧ dc.length ≤ 12) (h5 : pc.all isByte = true) (h6 : dc.all isSafe = true) : Piece pc dc dc :=
  ⟨h1, fun D _ => fold_plain dc D h2, h3, h4, h5, h6⟩
theorem piece_end : Piece (endH ++ [126]) (endH ++ [126]) [] where
  lines := rfl
  clean := fun D h => by
    rw [List.foldl_append, fold_plain endH D rfl, List.append_nil, fold_one]
    exact clean_end (no_safe h rfl) (no_safe h rfl)
  last := fun _ _ => rfl
  len := by decide
  bytes := rfl
  safe := rfl
theorem piece_nest : Piece ([27, 91, 50] ++ endH ++ [126] ++ [48, 49] ++ [126]) ([27, 91, 50] ++ endH ++ [126] ++ [48, 49] ++ [126]) [] where
  lines := rfl
  clean := fun D h => by
    have n1 := no_safe h (y := 155) rfl
    have n2 := no_safe h (y := 194) rfl
    have m1 : (155 : Int) ∉ D ++ [27, 91, 50] := fun q => (List.mem_append.mp q).elim n1 (by decide)
    have m2 : (194 : Int) ∉ D ++ [27, 91, 50] := fun q => (List.mem_append.mp q).elim n2 (by decide)
    have e1 : ([27, 91, 50] ++ endH).foldl cleanStep D = D ++ [27, 91, 50] ++ endH := (fold_plain _ D rfl).trans (List.append_assoc _ _ _).symm
    have e2 : D ++ [27, 91, 50] ++ [48, 49] = D ++ endH := List.append_assoc _ _ _
    rw [List.foldl_append, List.foldl_append, List.foldl_append, e1, fold_one, fold_one, clean_end m1 m2, fold_plain [48, 49] _ rfl, e2, clean_end n1 n2, List.append_nil]
  last := fun _ _ => rfl
  len := by decide
  bytes := rfl
  safe := rfl
theorem piece_bare : Piece ([91, 50, 48, 49] ++ [126]) ([91, 50, 48, 49] ++ [126]) ([91, 50, 48, 49] ++ [126]) where
  lines := rfl
  clean := fun D h => by
    have nn : ∀ {y : Int}, isSafe y = false → y ∉ ([91, 50, 48, 49] ++ [126] : List Int) → y ∉ D ++ [91, 50, 48, 49] ++ [126] := fun hy h' q => by
      rw [List.append_assoc] at q
      exact (List.mem_append.mp q).elim (no_safe h hy) h'
    rw [List.foldl_append, fold_plain [91, 50, 48, 49] D rfl, ← List.append_assoc, fold_one, clean_eq, strip_mem (e := end1) (y := 27) (by unfold end1; simp) (by decide +kernel) (nn rfl (by decide)), strip_mem (e := end2) (y := 155) (by unfold end2; simp) (by decide +kernel) (nn rfl (by decide)), strip_mem (e := end3) (y := 194) (by unfold end3; simp) (by decide +kernel) (nn rfl (by decide))]
  last := fun _ _ => rfl
  len := by decide
  bytes := rfl
  safe := rfl
structure Page (P D : List Int) : Prop where
  clean : (linesGo 0 P).foldl cleanStep [] = D
  last : iEq (lastI 0 P) 13 = false
  bytes : P.all isByte = true
  safe : D.all isSafe = true
theorem Page.nil : Page [] [] := ⟨rfl, rfl, rfl, rfl⟩
theorem Page.add {P : List Int} (h : Page P D) (q : Piece pc lp dc) : Page (P ++ pc) (D ++ dc) where
  clean := by rw [lines_app, lines_p h.last, q.lines, List.foldl_append, h.clean, q.clean D h.safe]
  last := by rw [last_app]; exact q.last _ h.last
  bytes := by rw [List.all_append, h.bytes, q.bytes]; rfl
  safe := by rw [List.all_append, h.safe, q.safe]; rfl
theorem byte_of {P : List Int} (h : P.all isByte = true) : ∀ x ∈ P, 0 ≤ x ∧ x < 256 := fun x hx =>
  have z := Bool.and_eq_true_iff.mp (List.all_eq_true.mp h x hx)
  ⟨iLe_t z.1, iLt_t z.2⟩
theorem lineS_byte {p x : Int} (hx : 0 ≤ x ∧ x < 256) : ∀ y ∈ lineS p x, 0 ≤ y ∧ y < 256 := by
  unfold lineS
  cases iEq x 10 <;> cases iEq p 13 <;> intro y hy <;> first | (obtain rfl := List.mem_singleton.mp hy; first | exact hx | exact ⟨by decide, by decide⟩) | exact nomatch hy
theorem lines_byte : ∀ (P : List Int) (p : Int), (∀ x ∈ P, 0 ≤ x ∧ x < 256) → ∀ x ∈ linesGo p P, 0 ≤ x ∧ x < 256
  | [], _, _, _, h => nomatch h
  | y :: r, p, hp, x, h => (List.mem_append.mp h).elim (lineS_byte (hp y List.mem_cons_self) x) (lines_byte r y (fun z hz => hp z (.tail _ hz)) x)
theorem find_at : ∀ (D R : List Int) (n : Nat), D.all isSafe = true → findFrom (endH ++ [126]) n (D ++ (endH ++ [126] ++ R)) = ((n + D.length : Nat) : Int)
  | [], R, n, _ => rfl
  | x :: D, R, n, h => by
    have h := Bool.and_eq_true_iff.mp h
    have e : ((27 : Int) == x) = false := beq_eq_false_iff_ne.mpr fun q => iEq_f (not_t (Bool.and_eq_true_iff.mp h.1).1) q.symm
    have z : (endH ++ [126]).isPrefixOf (x :: (D ++ (endH ++ [126] ++ R))) = false := and_f e
    show (if (endH ++ [126]).isPrefixOf (x :: (D ++ (endH ++ [126] ++ R))) = true then (n : Int) else findFrom (endH ++ [126]) (n + 1) (D ++ (endH ++ [126] ++ R))) = _
    rw [z, if_neg Bool.noConfusion, find_at D R (n + 1) h.2, Nat.add_right_comm]; rfl
end
noncomputable abbrev pB : List Int := [27, 91, 50, 48, 48, 126]
noncomputable abbrev pE : List Int := [27, 91, 50, 48, 49, 126]
noncomputable abbrev pasteW (D : List Int) : List Int := pB ++ D ++ pE
theorem cut_mid {X Y Z b : List Int} {p q : Int} (hb : b = X ++ (Y ++ Z)) (hp : p = (X.length : Int)) (hq : q = p + Y.length) : cut b (some p) (some q) = Y := by
  subst hq hp
  rw [cut_at (j := Y.length) hb rfl, List.take_left' rfl]
theorem at_tup2 {O : Ost} {i : Nat} {x y : List Int} {a b : Int} (h : O[i]? = some (.tuple [.bytes x, .int a])) (e : x = y) (e' : a = b) : O[i]? = some (.tuple [.bytes y, .int b]) := by rw [← e, ← e']; exact h
section
variable {D : List Int}
noncomputable abbrev rpB (D : List Int) : List Int := [122] ++ pasteW D ++ [121]
theorem rp_eq : rpB D = [122] ++ (pB ++ (D ++ (pE ++ [121]))) := by
  show [122] ++ (pB ++ D ++ pE) ++ [121] = _
  simp only [List.append_assoc]
theorem rp_len : (rpB D).length = 14 + D.length := by rw [rp_eq, List.length_append, List.length_append, List.length_append]; show 1 + (6 + (D.length + 7)) = _; omega
theorem read_paste (n : Nat) (O : Ost) (hD : D.all isSafe = true) (hl : D.length ≤ 1000) : CallJ (R (tabs a₀ ns₀) (n + 20)) 274 [.bytes (rpB D), .int 1] O fun t O' => Ext O O' ∧ O'[t]? = some (.tuple [.bytes D, .int (1 + ((pasteW D).length : Int))]) := by
  have bl := rp_len (D := D)
  have e : (rpB D).drop (1 + (pB.length : Int)).toNat = D ++ (endH ++ [126] ++ [121]) := by rw [rp_eq]; rfl
  have f2 : findFrom pE (1 + (pB.length : Int)).toNat ((rpB D).drop (1 + (pB.length : Int)).toNat) = ((7 + D.length : Nat) : Int) := (congrArg (findFrom pE 7) e).trans (find_at D [121] 7 hD)
  have f1 : (!bEq (cut (rpB D) (some 1) (some (1 + (pB.length : Int)))) pB) = false := nb_f (decide_eq_true (cut_mid rp_eq rfl rfl))
  have f3 : cut (rpB D) (some (1 + (pB.length : Int))) (some (findFrom pE (1 + (pB.length : Int)).toNat ((rpB D).drop (1 + (pB.length : Int)).toNat))) = D := by
    rw [f2]
    exact cut_mid (X := [122] ++ pB) (Y := D) (Z := pE ++ [121]) (rp_eq.trans (List.append_assoc _ _ _).symm) rfl (by show _ = (7 : Int) + D.length; omega)
  have f4 : iLt (findFrom pE (1 + (pB.length : Int)).toNat ((rpB D).drop (1 + (pB.length : Int)).toNat)) 0 = false := by rw [f2]; exact decide_eq_false (by omega)
  have f5 : findFrom pE (1 + (pB.length : Int)).toNat ((rpB D).drop (1 + (pB.length : Int)).toNat) + (pE.length : Int) = 1 + ((pasteW D).length : Int) := by
    rw [f2, List.length_append, List.length_append]
    show ((7 + D.length : Nat) : Int) + 6 = 1 + ((6 + D.length + 6 : Nat) : Int)
    omega
  have g1 : (rpB D).length ≤ 1000000 := by omega
  have g2 : 0 ≤ 1 + (pB.length : Int) ∧ 1 + (pB.length : Int) ≤ (rpB D).length ∧ (rpB D).length ≤ 1000000 := by
    show 0 ≤ (7 : Int) ∧ (7 : Int) ≤ _ ∧ _
    omega
  generalize rpB D = B at *
  clear bl f2 e hD hl
  refine .mk fun G sp => ?_
  (repeat' wtm_at "y")
  exact sp ⟨_, rfl, by wtm_at "p", at_tup2 at_last f3 f5⟩
end
section
variable {P D : List Int} {es : Es} {i mo sm : Nat} {w x : Int} {T : Locs}
theorem paste_octets (n : Nat) (i s : Nat) (O : Ost) (hm : MoAt O i s es) (e : dgetD es (Str.ofString "paste") (.bool false) = .bool true) (hp : Page P D) (hl : P.length ≤ 1000) (hd : D.length ≤ 1000) : CallX (R (tabs a₀ ns₀) (n + 35)) 266 [.bytes P, .obj i] O (.bytes (pasteW D)) := by
  have hOn : ∀ k Q, Ext O Q → (R (tabs a₀ ns₀) (k + 15)).C 59 [.obj i, .str (Str.ofString "paste")] Q (.bool true) Q := fun k Q p => e ▸ is_on a₀ ns₀ k i s es (Str.ofString "paste") Q (hm.ext p)
  have hL : ∀ k Q, CallX (R (tabs a₀ ns₀) (k + 25)) 252 [.bytes P] Q (.bytes (linesGo 0 P)) := fun k Q => paste_lines a₀ ns₀ k P Q (Nat.le_trans hl (by decide)) (byte_of hp.bytes)
  have hC : ∀ k Q, CallX (R (tabs a₀ ns₀) (k + 25)) 259 [.bytes (linesGo 0 P)] Q (.bytes D) := fun k Q => hp.clean ▸ paste_cleaned a₀ ns₀ k (linesGo 0 P) Q (Nat.le_trans (Nat.le_trans (lines_len P 0) hl) (by decide)) (lines_byte P 0 (byte_of hp.bytes))
  have g1 : pB.length + D.length ≤ 16777216 := by show 6 + D.length ≤ _; omega
  have g2 : (pB ++ D).length + pE.length ≤ 16777216 := by rw [List.length_append]; show 6 + D.length + 6 ≤ _; omega
  refine hm.out fun dd kp h1 h2 h3 h4 => ?_
  clear hm e hp hl hd
  (refine CallS.mk ?_; intro G sp)
  (repeat' (first | specialize sp (by first | (with_reducible apply Cx2.mk; (apply hOn; wtm_at "p")) | wtm_at "a") | (apply CallS.useP; rotate_left; intro O1 hc hk; specialize sp (cQ hc :); rotate_right; (first | exact hL _ _ | exact hC _ _); try (obtain ⟨hx, hk⟩ := hk)) | wtm_at "B" | fail))
  exact sp ⟨rfl, by wtm_at "p"⟩
noncomputable abbrev bL (xs : List UInt8) : List Int := List.map (fun c : UInt8 => ((c.toNat : Nat) : Int)) xs
theorem piece_pick {x : Int} (h : 0 ≤ x ∧ x < 7) : ∃ pc lp dc : List Int, Piece pc lp dc ∧
    [AV.bytes (bL [97]), .bytes (bL [10]), .bytes (bL [13, 10]), .bytes (bL [98]), .bytes (bL [27, 91, 50, 48, 49, 126]), .bytes (bL [27, 91, 50, 27, 91, 50, 48, 49, 126, 48, 49, 126]), .bytes (bL [91, 50, 48, 49, 126])][x.toNat]? = some (.bytes pc) ∧
    [AV.bytes (bL [97]), .bytes (bL [13]), .bytes (bL [13]), .bytes (bL [98]), .bytes (bL []), .bytes (bL []), .bytes (bL [91, 50, 48, 49, 126])][x.toNat]? = some (.bytes dc) := by
  have hl : x.toNat < 7 := by omega
  match x.toNat, hl with
  | 0, _ => exact ⟨[97], _, [97], piece_plain rfl rfl (fun _ _ => rfl) (by decide) rfl rfl, rfl, rfl⟩
  | 1, _ => exact ⟨[10], _, [13], ⟨rfl, fun D _ => fold_plain [13] D rfl, fun _ _ => rfl, by decide, rfl, rfl⟩, rfl, rfl⟩
  | 2, _ => exact ⟨[13, 10], _, [13], ⟨rfl, fun D _ => fold_plain [13] D rfl, fun _ _ => rfl, by decide, rfl, rfl⟩, rfl, rfl⟩
  | 3, _ => exact ⟨[98], _, [98], piece_plain rfl rfl (fun _ _ => rfl) (by decide) rfl rfl, rfl, rfl⟩
  | 4, _ => exact ⟨_, _, _, piece_end, rfl, rfl⟩
  | 5, _ => exact ⟨_, _, _, piece_nest, rfl, rfl⟩
  | 6, _ => exact ⟨_, _, _, piece_bare, rfl, rfl⟩
end
section
variable {P D : List Int} {es : Es} {i mo sm : Nat} {w x : Int} {T : Locs}
noncomputable abbrev pasL (i : Nat) (w : Int) (mo : Nat) (P D : List Int) (r : Locs) : Locs := (Str.ofString "cells", .obj i) :: (Str.ofString "whole", .int w) :: (Str.ofString "modes", .obj mo) :: (Str.ofString "page", .bytes P) :: (Str.ofString "due", .bytes D) :: r
theorem ps_0 (n : Nat) (O : Ost) (ss : List Stmt) (K : AF → Locs → Ost → Tr) (A : Rs → Prop) (G : Prop)
    (sp : (exs (R (tabs a₀ ns₀) (n + 94)) (gm 65) (stS 65 0 :: ss) [(Str.ofString "cells", .obj i), (Str.ofString "whole", .int w)] O K).Sp A G)
    (k : ∀ O' sm, Ext O O' → O.length ≤ sm → MoAt O' (O.length + 1) sm es0 → (exs (R (tabs a₀ ns₀) (n + 94)) (gm 65) ss (pasL i w (O.length + 1) [] [] []) O' K).Sp A G → G) : G := by
  (repeat' (first | specialize sp (by first | (with_reducible apply Cx2.mk; (with_reducible assumption)) | wtm_at "a") | (apply CallS.useP; rotate_left; intro O1 hc hk; specialize sp (cQ hc :); rotate_right; (exact modes_new _ _ _ _); try (obtain ⟨hx, hk⟩ := hk)) | wtm_at "B" | fail))
  have hl0 : O.length ≤ (newO 69 O).length := (ext_app (Y := [.dict [], .inst 69 O.length]) (Ext.refl O)).len
  exact k _ _ (ext_app hx) hl0 (hk.ext (ext_app (Ext.refl _))) sp
theorem ps_t (n : Nat) (O : Ost) (hP : P.length ≤ 1000) (hD : D.length ≤ 1000) (K : AF → Locs → Ost → Tr) (A : Rs → Prop) (G : Prop)
    (sp : (exs (R (tabs a₀ ns₀) (n + 93)) (gm 65) (wB (st 65 1)) (pasL i w mo P D [(Str.ofString "cell", .int x)]) O K).Sp A G)
    (k : ∀ O' pc lp dc, Ext O O' → Piece pc lp dc → (K .next (pasL i w mo (P ++ pc) (D ++ dc) [(Str.ofString "cell", .int x)]) O').Sp A G → G) : G := by
  have q := fmod_b x (m := 7) (by decide)
  obtain ⟨pc, lp, dc, hpc, e1, e2⟩ := piece_pick q
  have hl := hpc.len
  have g1 : P.length + pc.length ≤ 16777216 := by omega
  have g2 : D.length + dc.length ≤ 16777216 := by omega
  have g : 0 ≤ x.fmod 7 ∧ x.fmod 7 < 1000000 := ⟨q.1, by omega⟩
  clear q hl hP hD
  (repeat' (first | specialize sp (by first | (with_reducible apply Cx2.mk; (with_reducible assumption)) | wtm_at "a") | wtm_at "B" | fail))
  exact k _ pc lp dc (by wtm_at "p") hpc sp
noncomputable abbrev PsS := Ost × List Int × List Int × Option Int
noncomputable def psL (i : Nat) (w : Int) (mo : Nat) (s : PsS) : Locs := pasL i w mo s.2.1 s.2.2.1 (match s.2.2.2 with | none => [] | some x => [(Str.ofString "cell", .int x)])
noncomputable def PsI (O : Ost) (rest : List Int) (s : PsS) : Prop := Ext O s.1 ∧ Page s.2.1 s.2.2.1 ∧ s.2.1.length + 12 * rest.length ≤ 144 ∧ s.2.2.1.length + 12 * rest.length ≤ 144
theorem ps_loop (n : Nat) (O : Ost) (cs : List Int) (hi : O[i]? = some (.list (cs.map AV.int))) (hl : cs.length ≤ 12) :
    ForS (R (tabs a₀ ns₀) (n + 93)) (gm 65) (.one (Str.ofString "cell")) (wB (st 65 1)) (.led i (.list (cs.map AV.int)) (cs.map AV.int)) (psL i w mo (O, [], [], none)) O (kR (psL i w mo) (fun s => s.1) (PsI O []) fun _ _ => False) := by
  refine forR (f := AV.int) (L := psL i w mo) (Q := fun s : PsS => s.1) (fun _ x s => pasL i w mo s.2.1 s.2.2.1 [(Str.ofString "cell", .int x)]) (fun _ => PsI O) (fun _ x s => by obtain ⟨_, _, _, o⟩ := s; cases o <;> rfl) (fun _ _ h => h)
    (fun _ _ _ h => by exact h.1 _ _ hi) ?_ cs rfl (O, [], [], none) ⟨Ext.refl _, Page.nil, by show 0 + 12 * cs.length ≤ 144; omega, by show 0 + 12 * cs.length ≤ 144; omega⟩
  intro _ x rest s ih h G sp
  obtain ⟨hx, hp, l1, l2⟩ := h
  rw [List.length_cons] at l1 l2
  refine ps_t a₀ ns₀ n s.1 (by omega) (by omega) _ _ G sp fun O' pc lp dc hx' hpc sp => ?_
  have hl := hpc.len
  exact ih (O', _, _, some x) ⟨hx.trans hx', hp.add hpc, by show (_ ++ _ : List Int).length + _ ≤ 144; rw [List.length_append]; omega, by show (_ ++ _ : List Int).length + _ ≤ 144; rw [List.length_append]; omega⟩ G sp
theorem ps_2 (n : Nat) (O : Ost) (hF : ∀ k, (R (tabs a₀ ns₀) (k + 25)).C 245 [.bool (iEq (w.fmod 2) 0), .obj mo] O (.bytes []) O) : Leaves (R (tabs a₀ ns₀) (n + 94)) (gm 65) (stS 65 2) (pasL i w mo P D T) (pasL i w mo P D T) O O := by
  intro ss K A G sp k
  have hn : (!bEq [] (bL [])) = false := rfl
  (repeat' (first | specialize sp (by first | (with_reducible apply Cx2.mk; (first | (exact hF _) | (with_reducible assumption))) | wtm_at "a") | wtm_at "B" | fail))
  exact k sp
theorem ps_3 (n : Nat) (O : Ost) (hm : MoAt O mo sm es) (he : es.length ≤ 100) (ss : List Stmt) (K : AF → Locs → Ost → Tr) (A : Rs → Prop) (G : Prop)
    (sp : (exs (R (tabs a₀ ns₀) (n + 94)) (gm 65) (stS 65 3 :: ss) (pasL i w mo P D T) O K).Sp A G)
    (k : ∀ O', Keep sm O O' → MoAt O' mo sm (setOn .focus es) → (exs (R (tabs a₀ ns₀) (n + 94)) (gm 65) ss (pasL i w mo P D T) O' K).Sp A G → G) : G := by
  refine hm.out fun dd kp h1 h2 h3 h4 => ?_
  (repeat' (first | specialize sp (by first | (with_reducible apply Cx2.mk; (first | (exact hF _) | (with_reducible assumption))) | wtm_at "a") | (apply CallS.useP; rotate_left; intro O1 hc hk; specialize sp (cQ hc :); rotate_right; (first | exact modes_put _ _ _ _ _ _ .focus _ (by wtm_at "A") (by wtm_at "A") | exact modes_put _ _ _ _ _ _ .paste _ (by wtm_at "A") (by wtm_at "A")); try (obtain ⟨hx, hk⟩ := hk)) | wtm_at "B" | fail))
  exact k _ hx hk sp
theorem ps_4 (n : Nat) (O : Ost) (hm : MoAt O mo sm es) (he : es.length ≤ 100) (ss : List Stmt) (K : AF → Locs → Ost → Tr) (A : Rs → Prop) (G : Prop)
    (sp : (exs (R (tabs a₀ ns₀) (n + 94)) (gm 65) (stS 65 4 :: ss) (pasL i w mo P D T) O K).Sp A G)
    (k : ∀ O', Keep sm O O' → MoAt O' mo sm (setOn .paste es) → (exs (R (tabs a₀ ns₀) (n + 94)) (gm 65) ss (pasL i w mo P D T) O' K).Sp A G → G) : G := by
  refine hm.out fun dd kp h1 h2 h3 h4 => ?_
  (repeat' (first | specialize sp (by first | (with_reducible apply Cx2.mk; (first | (exact hF _) | (with_reducible assumption))) | wtm_at "a") | (apply CallS.useP; rotate_left; intro O1 hc hk; specialize sp (cQ hc :); rotate_right; (first | exact modes_put _ _ _ _ _ _ .focus _ (by wtm_at "A") (by wtm_at "A") | exact modes_put _ _ _ _ _ _ .paste _ (by wtm_at "A") (by wtm_at "A")); try (obtain ⟨hx, hk⟩ := hk)) | wtm_at "B" | fail))
  exact k _ hx hk sp
theorem ps_5 (n : Nat) (O : Ost) (hT : ∀ k, CallX (R (tabs a₀ ns₀) (k + 35)) 266 [.bytes P, .obj mo] O (.bytes (pasteW D))) (ss : List Stmt) (K : AF → Locs → Ost → Tr) (A : Rs → Prop) (G : Prop)
    (sp : (exs (R (tabs a₀ ns₀) (n + 94)) (gm 65) (stS 65 5 :: ss) (pasL i w mo P D T) O K).Sp A G)
    (k : ∀ O', Ext O O' → (exs (R (tabs a₀ ns₀) (n + 94)) (gm 65) ss (pasL i w mo P D (setL (Str.ofString "told") (.bytes (pasteW D)) T)) O' K).Sp A G → G) : G := by
  (repeat' (first | specialize sp (by first | (with_reducible apply Cx2.mk; (first | (exact hF _) | (with_reducible assumption))) | wtm_at "a") | (apply CallS.useP; rotate_left; intro O1 hc hk; specialize sp (cQ hc :); rotate_right; (exact hT _); try (obtain ⟨hx, hk⟩ := hk)) | wtm_at "B" | fail))
  exact k _ (by wtm_at "p") sp
theorem ps_7 (n : Nat) (O : Ost) (V : List Int) (hF : ∀ k, (R (tabs a₀ ns₀) (k + 25)).C 245 [.bool (iEq (w.fmod 2) 0), .obj mo] O (.bytes (cond (iEq (w.fmod 2) 0) [27, 91, 73] [27, 91, 79])) O) (K : AF → Locs → Ost → Tr) (A : Rs → Prop) (G : Prop)
    (sp : (exs (R (tabs a₀ ns₀) (n + 94)) (gm 65) [stS 65 7] (pasL i w mo P D T) O K).Sp A G) (k : ∀ l', (K (.ret (.bool true)) l' O).Sp A G → G) : G := by
  refine Bool.two (iEq (w.fmod 2) 0) (fun h => ?_) fun h => ?_
  · rw [ct (c := iEq (w.fmod 2) 0) h] at hF
    (repeat' (first | specialize sp (by first | (with_reducible apply Cx2.mk; (first | (exact hF _) | (exact hF _) | (with_reducible assumption))) | wtm_at "a") | wtm_at "B" | fail))
    exact k _ sp
  · rw [cf (c := iEq (w.fmod 2) 0) h] at hF
    (repeat' (first | specialize sp (by first | (with_reducible apply Cx2.mk; (first | (exact hF _) | (exact hF _) | (with_reducible assumption))) | wtm_at "a") | wtm_at "B" | fail))
    exact k _ sp
end
section
variable {P D : List Int} {es : Es} {i mo sm : Nat} {w x : Int} {T : Locs}
noncomputable def toL (o : Option Int) (v : AV) : Locs := match o with | none => [(Str.ofString "told", v)] | some x => [(Str.ofString "cell", .int x), (Str.ofString "told", v)]
theorem ps_6 (n : Nat) (O : Ost) (o : Option Int) (W : List Int) (q : Int) (hR : ∀ k Q, CallJ (R (tabs a₀ ns₀) (k + 20)) 274 [.bytes (bL [122] ++ W ++ bL [121]), .int 1] Q fun t O' => Ext Q O' ∧ O'[t]? = some (.tuple [.bytes D, .int (1 + (W.length : Int))]))
    (h1 : (!bEq W (bL [27, 91, 50, 48, 48, 126] ++ D ++ bL [27, 91, 50, 48, 49, 126])) = false) (hW : W.length = 12 + D.length) (hD : D.length ≤ 1000) (ss : List Stmt) (K : AF → Locs → Ost → Tr) (A : Rs → Prop) (G : Prop)
    (sp : (exs (R (tabs a₀ ns₀) (n + 94)) (gm 65) (stS 65 6 :: ss) (pasL i w mo P D (toL o (.bytes W))) O K).Sp A G)
    (k : ∀ O', Ext O O' → (exs (R (tabs a₀ ns₀) (n + 94)) (gm 65) ss (pasL i w mo P D (toL o (.bytes W))) O' K).Sp A G → G) : G := by
  have h2 : (!(bEq D D && (iEq (1 + (W.length : Int)) (1 + (W.length : Int)) && true))) = false := nb_f (by rw [show bEq D D = true from decide_eq_true rfl, show iEq (1 + (W.length : Int)) (1 + (W.length : Int)) = true from decide_eq_true rfl]; rfl)
  have g1 : (bL [27, 91, 50, 48, 48, 126]).length + D.length ≤ 16777216 := by show 6 + D.length ≤ _; omega
  have g2 : (bL [27, 91, 50, 48, 48, 126] ++ D).length + (bL [27, 91, 50, 48, 49, 126]).length ≤ 16777216 := by rw [List.length_append]; show 6 + D.length + 6 ≤ _; omega
  have g3 : (bL [122]).length + W.length ≤ 16777216 := by show 1 + W.length ≤ _; omega
  have g4 : (bL [122] ++ W).length + (bL [121]).length ≤ 16777216 := by rw [List.length_append]; show 1 + W.length + 1 ≤ _; omega
  have g5 : W.length ≤ 1000000 := by omega
  clear hW hD
  cases o
  all_goals
    (repeat' (first | specialize sp (by first | (with_reducible apply Cx2.mk; (with_reducible assumption)) | wtm_at "a") | (apply CallJ.use; rotate_left; intro t O1 hc hk; specialize sp (cQ hc :); rotate_right; exact hR _ _; obtain ⟨hx, ht⟩ := hk) | wtm_at "B" | fail))
    exact k _ (by wtm_at "p") sp
theorem fo_0 : dgetD es0 (Str.ofString "focus") (.bool false) = .bool false := rfl
theorem fo_1 : dgetD (setOn .paste (setOn .focus es0)) (Str.ofString "focus") (.bool false) = .bool true := rfl
theorem pa_1 : dgetD (setOn .paste (setOn .focus es0)) (Str.ofString "paste") (.bool false) = .bool true := rfl
theorem paste_right (n : Nat) (i : Nat) (cs : List Int) (w : Int) (O : Ost) (hi : O[i]? = some (.list (cs.map AV.int))) (hcs : cs.length ≤ 12) : CallX (R (tabs a₀ ns₀) (n + 95)) 354 [.obj i, .int w] O (.bool true) := by
  refine .mkB (gm 65) [stS 65 0, stS 65 1, stS 65 2, stS 65 3, stS 65 4, stS 65 5, stS 65 6, stS 65 7] [(Str.ofString "cells", .obj i), (Str.ofString "whole", .int w)] (fun _ => rfl) fun G sp => ?_
  refine ps_0 a₀ ns₀ n O _ _ _ G sp fun Q sm hx l1 hm sp => ?_
  generalize O.length + 1 = mo at hm sp
  have hi := hx _ _ hi
  refine (ps_loop a₀ ns₀ (w := w) (mo := mo) n Q cs hi hcs).out (fun s hc h => ?_) fun _ _ _ _ e => e.elim
  obtain ⟨hx1, hp, lP, lD⟩ := h
  have hm1 := hm.ext hx1
  have hx1 := hx.trans hx1
  clear hm hx
  (first | specialize sp (by first | (with_reducible apply Cx2.mk; (with_reducible assumption)) | wtm_at "a") | wtm_at "B" | fail)
  specialize sp (fQ hc :)
  have lP : s.2.1.length ≤ 144 := lP
  have lD : s.2.2.1.length ≤ 144 := lD
  refine ps_2 a₀ ns₀ n s.1 (fun k => focus_octets a₀ ns₀ k mo sm _ false s.1 hm1 fo_0) _ _ _ G sp fun sp => ?_
  refine ps_3 a₀ ns₀ n s.1 hm1 (by decide +kernel) _ _ _ G sp fun Q2 k2 hm2 sp => ?_
  refine ps_4 a₀ ns₀ n Q2 hm2 (es_b .focus) _ _ _ G sp fun Q3 k3 hm3 sp => ?_
  have hx3 := k3.ext (k2.ext hx1 l1) l1
  refine ps_5 a₀ ns₀ n Q3 (fun k => paste_octets a₀ ns₀ k mo sm Q3 hm3 pa_1 hp (by omega) (by omega)) _ _ _ G sp fun Q4 h4 sp => ?_
  have eT : setL (Str.ofString "told") (.bytes (pasteW s.2.2.1)) (match s.2.2.2 with | none => [] | some x => [(Str.ofString "cell", .int x)]) = toL s.2.2.2 (.bytes (pasteW s.2.2.1)) := by cases s.2.2.2 <;> rfl
  have sp := eT ▸ sp
  refine ps_6 a₀ ns₀ n Q4 s.2.2.2 (pasteW s.2.2.1) 0 (fun k Q => read_paste a₀ ns₀ k Q hp.safe (by omega)) (nb_f (decide_eq_true rfl)) (by rw [List.length_append, List.length_append]; show 6 + s.2.2.1.length + 6 = _; omega) (by omega) _ _ _ G sp fun Q5 h5 sp => ?_
  have hm5 := (hm3.ext h4).ext h5
  refine ps_7 a₀ ns₀ n Q5 [] (fun k => focus_octets a₀ ns₀ k mo sm (iEq (w.fmod 2) 0) true Q5 hm5 fo_1) _ _ G sp fun l' sp => ?_
  exact sp ⟨rfl, (hx3.trans h4).trans h5⟩
end
theorem cut_map {α β : Type} (f : α → β) (xs : List α) (lo hi : Option Int) : cut (xs.map f) lo hi = (cut xs lo hi).map f := by
  unfold cut
  rw [List.length_map, List.map_take, List.map_drop]
theorem at_list {O : Ost} {i : Nat} {es es' : List AV} (h : O[i]? = some (.list es)) (e : es = es') : O[i]? = some (.list es') := e ▸ h
noncomputable abbrev cut5 (cs : List Int) : List AV := cut (cs.map AV.int ++ [.int 0, .int 0, .int 0, .int 0, .int 0]) none (some 5)
theorem cut_5 (cs : List Int) : ∃ c0 c1 c2 c3 c4 : Int, cut5 cs = [.int c0, .int c1, .int c2, .int c3, .int c4] := by
  have e : cut5 cs = ((cs ++ [0, 0, 0, 0, 0]).take 5).map AV.int := by
    have z : (cs.map AV.int ++ [.int 0, .int 0, .int 0, .int 0, .int 0]) = (cs ++ [0, 0, 0, 0, 0]).map AV.int := (List.map_append (f := AV.int) (l₁ := cs) (l₂ := [0, 0, 0, 0, 0])).symm
    unfold cut5
    rw [z, cut_map]
    refine congrArg (List.map AV.int) (cut_to (by decide) ?_)
    rw [List.length_append]
    exact Int.ofNat_le.mpr (Nat.le_add_left 5 cs.length)
  rw [e]
  match cs with
  | [] => exact ⟨0, 0, 0, 0, 0, rfl⟩
  | [a] => exact ⟨a, 0, 0, 0, 0, rfl⟩
  | [a, b] => exact ⟨a, b, 0, 0, 0, rfl⟩
  | [a, b, c] => exact ⟨a, b, c, 0, 0, rfl⟩
  | [a, b, c, d] => exact ⟨a, b, c, d, 0, rfl⟩
  | a :: b :: c :: d :: e :: r => exact ⟨a, b, c, d, e, rfl⟩
theorem mode_pick {x : Int} (h : 0 ≤ x ∧ x < 5) : ∃ md : Md, [AV.str (Str.ofString "mouse_click"), .str (Str.ofString "mouse_all"), .str (Str.ofString "mouse_drag"), .str (Str.ofString "mouse_x10"), .none][x.toNat]? = some md.v := by
  have hl : x.toNat < 5 := by omega
  match x.toNat, hl with
  | 0, _ => exact ⟨.click, rfl⟩
  | 1, _ => exact ⟨.all, rfl⟩
  | 2, _ => exact ⟨.drag, rfl⟩
  | 3, _ => exact ⟨.x10, rfl⟩
  | 4, _ => exact ⟨.no, rfl⟩
theorem way_pick {x : Int} (h : 0 ≤ x ∧ x < 5) : ∃ wy : Wy, [AV.none, .str (Str.ofString "mouse_sgr"), .str (Str.ofString "mouse_utf8"), .str (Str.ofString "mouse_urxvt"), .str (Str.ofString "mouse_pixels")][x.toNat]? = some wy.v := by
  have hl : x.toNat < 5 := by omega
  match x.toNat, hl with
  | 0, _ => exact ⟨.no, rfl⟩
  | 1, _ => exact ⟨.sgr, rfl⟩
  | 2, _ => exact ⟨.utf8, rfl⟩
  | 3, _ => exact ⟨.urxvt, rfl⟩
  | 4, _ => exact ⟨.pixels, rfl⟩
noncomputable abbrev lwL (c : Nat) (r : Locs) : Locs := (Str.ofString "script", .val (.ref a₀)) :: (Str.ofString "cells", .obj c) :: r
noncomputable def absM (y : Int) : Int := (y.natAbs : Int).fmod (10 ^ (6 : Int).toNat)
section
variable {c s t : Nat} {w : Int} {cs : List Int} {c0 c1 c2 c3 c4 : Int}
theorem lw_comp (n : Nat) (sc : List Int) (es : List AV) (he : es = sc.map AV.int) (i : Nat) (O : Ost) (hi : O[i]? = some (.list es)) (hl : sc.length ≤ 1000000) :
    CompS (R (tabs a₀ ns₀) (n + 109)) (cG (wT (st 66 0)) (gm 66)) [(Str.ofString "script", .val (.ref a₀))] (Str.ofString "cell") (cI (wT (st 66 0))) (cE (wT (st 66 0))) (.led i (.list es) es) O
      fun v O' => v = sc.map (fun y => .int (absM y)) ∧ O' = O := by
  refine compR (f := AV.int) sc he hl hi ?_
  intro y _ T U D G k sp
  (repeat' wtm_at "y")
  exact k sp
theorem lw_1 (n : Nat) (O : Ost) (hc : O[c]? = some (.list (cs.map AV.int))) (hl : cs.length ≤ 12) (ss : List Stmt) (K : AF → Locs → Ost → Tr) (A : Rs → Prop) (G : Prop)
    (sp : (exs (R (tabs a₀ ns₀) (n + 110)) (gm 66) (stS 66 1 :: ss) (lwL a₀ c []) O K).Sp A G)
    (k : ∀ O' s w, Ext O O' → O'[s]? = some (.list (cut5 cs)) → (exs (R (tabs a₀ ns₀) (n + 110)) (gm 66) ss (lwL a₀ c [(Str.ofString "some", .obj s), (Str.ofString "whole", .int w)]) O' K).Sp A G → G) : G := by
  have g1 : (cs.map AV.int).length + [AV.int 0, .int 0, .int 0, .int 0, .int 0].length ≤ 16777216 := by rw [List.length_map]; show cs.length + 5 ≤ _; omega
  have g2 : (cs.map AV.int ++ [AV.int 0, .int 0, .int 0, .int 0, .int 0]).length ≤ 1000000 := by rw [List.length_append, List.length_map]; show cs.length + 5 ≤ _; omega
  clear hl
  (repeat' wtm_at "y")
  exact k _ _ _ (by wtm_at "p") (at_old at_last) sp
theorem lw_2 (n : Nat) (O : Ost) (hs : cells5 O s c0 c1 c2 c3 c4) (ss : List Stmt) (K : AF → Locs → Ost → Tr) (A : Rs → Prop) (G : Prop)
    (sp : (exs (R (tabs a₀ ns₀) (n + 110)) (gm 66) (stS 66 2 :: ss) (lwL a₀ c [(Str.ofString "some", .obj s), (Str.ofString "whole", .int w)]) O K).Sp A G)
    (k : ∀ O' t, Ext O O' → (∃ kd b row col mods, ItmAt O' t kd b row col mods ∧ EvOk kd b row col mods) → (exs (R (tabs a₀ ns₀) (n + 110)) (gm 66) ss (lwL a₀ c [(Str.ofString "some", .obj s), (Str.ofString "whole", .int w), (Str.ofString "it", .obj t)]) O' K).Sp A G → G) : G := by
  (repeat' (first | specialize sp (by first | (with_reducible apply Cx2.mk; (with_reducible assumption)) | wtm_at "a") | (apply CallJ.use; rotate_left; intro t O1 hc hk; specialize sp (cQ hc :); rotate_right; exact law_event _ _ _ _ _ hs; obtain ⟨hx, hit⟩ := hk) | wtm_at "B" | fail))
  exact k _ t hx hit sp
noncomputable abbrev lwI (c s : Nat) (w : Int) (t : Nat) (r : Locs) : Locs := lwL a₀ c ((Str.ofString "some", .obj s) :: (Str.ofString "whole", .int w) :: (Str.ofString "it", .obj t) :: r)
theorem lw_3 (n : Nat) (O : Ost) (hs : cells5 O s c0 c1 c2 c3 c4) (ss : List Stmt) (K : AF → Locs → Ost → Tr) (A : Rs → Prop) (G : Prop)
    (sp : (exs (R (tabs a₀ ns₀) (n + 110)) (gm 66) (stS 66 3 :: ss) (lwI a₀ c s w t []) O K).Sp A G)
    (k : ∀ O' md, Ext O O' → (exs (R (tabs a₀ ns₀) (n + 110)) (gm 66) ss (lwI a₀ c s w t [(Str.ofString "mode", Md.v md)]) O' K).Sp A G → G) : G := by
  unfold cells5 at hs
  have q := fmod_b (c0.fdiv 12) (m := 5) (by decide)
  have g : 0 ≤ (c0.fdiv 12).fmod 5 ∧ (c0.fdiv 12).fmod 5 < 1000000 := ⟨q.1, by omega⟩
  obtain ⟨md, em⟩ := mode_pick q
  clear q
  (repeat' (first | specialize sp (by first | (with_reducible apply Cx2.mk; (with_reducible assumption)) | wtm_at "a") | wtm_at "B" | fail))
  exact k _ md (by wtm_at "p") sp
theorem lw_4 (n : Nat) (md : Md) (O : Ost) (hs : cells5 O s c0 c1 c2 c3 c4) (ss : List Stmt) (K : AF → Locs → Ost → Tr) (A : Rs → Prop) (G : Prop)
    (sp : (exs (R (tabs a₀ ns₀) (n + 110)) (gm 66) (stS 66 4 :: ss) (lwI a₀ c s w t [(Str.ofString "mode", md.v)]) O K).Sp A G)
    (k : ∀ O' wy, Ext O O' → (exs (R (tabs a₀ ns₀) (n + 110)) (gm 66) ss (lwI a₀ c s w t [(Str.ofString "mode", md.v), (Str.ofString "way", Wy.v wy)]) O' K).Sp A G → G) : G := by
  unfold cells5 at hs
  have q := fmod_b (c4.fdiv 8) (m := 5) (by decide)
  have g : 0 ≤ (c4.fdiv 8).fmod 5 ∧ (c4.fdiv 8).fmod 5 < 1000000 := ⟨q.1, by omega⟩
  obtain ⟨wy, em⟩ := way_pick q
  clear q
  (repeat' (first | specialize sp (by first | (with_reducible apply Cx2.mk; (with_reducible assumption)) | wtm_at "a") | wtm_at "B" | fail))
  exact k _ wy (by wtm_at "p") sp
noncomputable abbrev lwM (c s : Nat) (w : Int) (t : Nat) (md : Md) (wy : Wy) : Locs := lwI a₀ c s w t [(Str.ofString "mode", md.v), (Str.ofString "way", wy.v)]
theorem lw_5 (n : Nat) (md : Md) (wy : Wy) (O : Ost) (hO : ∀ k P, Ext O P → CallX (R (tabs a₀ ns₀) (k + 95)) 340 [.obj t, md.v, wy.v, .int w] P (.bool true)) (hA : ∀ k P, Ext O P → CallX (R (tabs a₀ ns₀) (k + 95)) 340 [.obj t, .str (Str.ofString "mouse_all"), wy.v, .int w] P (.bool true)) (ss : List Stmt) (K : AF → Locs → Ost → Tr) (A : Rs → Prop) (G : Prop)
    (sp : (exs (R (tabs a₀ ns₀) (n + 110)) (gm 66) (stS 66 5 :: ss) (lwM a₀ c s w t md wy) O K).Sp A G)
    (k : ∀ O', Ext O O' → (exs (R (tabs a₀ ns₀) (n + 110)) (gm 66) ss (lwM a₀ c s w t md wy) O' K).Sp A G → G) : G := by
  (repeat' (first | specialize sp (by first | (with_reducible apply Cx2.mk; (with_reducible assumption)) | wtm_at "a") | (apply CallS.useP; rotate_left; intro O1 hc hk; specialize sp (cQ hc :); rotate_right; (first | (apply hO; wtm_at "p") | (apply hA; wtm_at "p")); try (obtain ⟨hx, hk⟩ := hk)) | wtm_at "B" | fail))
  exact k _ (by wtm_at "p") sp
theorem lw_6 (n : Nat) (md : Md) (wy : Wy) (O : Ost) (hc : O[c]? = some (.list (cs.map AV.int))) (hl : (cs.map AV.int).length ≤ 1000000)
    (hR : ∀ k P i, P[i]? = some (.list (cut (cs.map AV.int) none (some 8))) → CallX (R (tabs a₀ ns₀) (k + 95)) 347 [.obj i, .int w] P (.bool true))
    (hP : ∀ k P i, P[i]? = some (.list (cut (cs.map AV.int) (some 5) (some 10))) → CallX (R (tabs a₀ ns₀) (k + 95)) 354 [.obj i, .int w] P (.bool true)) (K : AF → Locs → Ost → Tr) (A : Rs → Prop) (G : Prop)
    (sp : (exs (R (tabs a₀ ns₀) (n + 110)) (gm 66) [stS 66 6] (lwM a₀ c s w t md wy) O K).Sp A G) (k : ∀ l' O', (K (.ret (.bool true)) l' O').Sp A G → G) : G := by
  (repeat' (first | specialize sp (by first | (with_reducible apply Cx2.mk; (with_reducible assumption)) | wtm_at "a") | (apply CallS.useP; rotate_left; intro O1 hc hk; specialize sp (cQ hc :); rotate_right; (first | (apply hR; wtm_at "l") | (apply hP; wtm_at "l")); try (obtain ⟨hx, hk⟩ := hk)) | wtm_at "B" | fail))
  exact k _ _ sp
end
theorem optT_sp {α : Type} {o : Option α} {x : α} {k : α → Tr} {D : Rs → Prop} {G : Prop} (e : o = some x) (h : (optT o k).Sp D G) : (k x).Sp D G := by rw [e] at h; exact h
theorem cut12 {α : Type} (xs : List α) : (cut xs none (some 12)).length ≤ 12 := by
  unfold cut
  rw [List.length_take]
  refine Nat.le_trans (Nat.min_le_left _ _) (Nat.le_trans (Nat.sub_le _ _) ?_)
  show clipAt xs.length 12 ≤ 12
  rw [show (12 : Int) = ((12 : Nat) : Int) from rfl, clipAt_nat]
  exact Nat.min_le_left _ _
theorem law_true (n : Nat) (hs : (tabs a₀ ns₀).seqs.lookup a₀ = some (true, ns₀.map AV.int)) (hl : ns₀.length ≤ 63) (G : Prop)
    (sp : (exs (R (tabs a₀ ns₀) (n + 110)) (gm 66) [stS 66 0, stS 66 1, stS 66 2, stS 66 3, stS 66 4, stS 66 5, stS 66 6] [(Str.ofString "script", .val (.ref a₀))] [] fun f l O => .done (.f f l O)).Sp (kF fun f _ _ => f = .ret (.bool true)) G) : G := by
  have l12 := cut12 ns₀
  have lN : (ns₀.map AV.int).length ≤ 1000000 := by rw [List.length_map]; exact Nat.le_trans hl (by decide)
  have sp := (optT_sp hs sp :)
  specialize sp lN
  refine CompS.use0 (lw_comp a₀ ns₀ n (cut ns₀ none (some 12)) (cut (ns₀.map AV.int) none (some 12)) (cut_map _ _ _ _) 0 (([] : Ost) ++ [AO.list (cut (ns₀.map AV.int) none (some 12))]) rfl (Nat.le_trans l12 (by decide))) fun hc => ?_
  specialize sp (Lx.mk (AO.list (cut (ns₀.map AV.int) none (some 12))) rfl)
  specialize sp (pQ hc :)
  have hcs : (((cut ns₀ none (some 12)).map absM).map AV.int).length ≤ 12 := by rw [List.length_map, List.length_map]; exact l12
  have hL : (([] : Ost) ++ [AO.list (cut (ns₀.map AV.int) none (some 12))] ++ [AO.list ((cut ns₀ none (some 12)).map fun y => AV.int (absM y))])[1]? = some (.list (((cut ns₀ none (some 12)).map absM).map AV.int)) := at_list rfl (List.map_map (f := absM) (g := AV.int) (l := cut ns₀ none (some 12))).symm
  refine lw_1 a₀ ns₀ n _ hL (by rw [List.length_map] at hcs; exact hcs) _ _ _ G sp fun P1 s w h1 hs5 sp => ?_
  generalize (cut ns₀ none (some 12)).map absM = cs at hcs hL hs5
  have hL := h1 _ _ hL
  obtain ⟨c0, c1, c2, c3, c4, e5⟩ := cut_5 cs
  have hs5 : cells5 P1 s c0 c1 c2 c3 c4 := at_list hs5 e5
  clear e5 h1
  refine lw_2 a₀ ns₀ n P1 hs5 _ _ _ G sp fun P2 t h2 hit sp => ?_
  have hL := h2 _ _ hL
  have hs5 : cells5 P2 s c0 c1 c2 c3 c4 := h2 _ _ hs5
  refine lw_3 a₀ ns₀ n P2 hs5 _ _ _ G sp fun P3 md h3 sp => ?_
  have hL := h3 _ _ hL
  have hs5 : cells5 P3 s c0 c1 c2 c3 c4 := h3 _ _ hs5
  refine lw_4 a₀ ns₀ n md P3 hs5 _ _ _ G sp fun P4 wy h4 sp => ?_
  have hL := h4 _ _ hL
  obtain ⟨kd, b, row, col, m, hit, hok⟩ := hit
  have hit := (hit.ext h3).ext h4
  refine lw_5 a₀ ns₀ n md wy P4 (fun k P p => one_right a₀ ns₀ k t md wy w P (hit.ext p) hok) (fun k P p => one_right a₀ ns₀ k t .all wy w P (hit.ext p) hok) _ _ _ G sp fun P5 h5 sp => ?_
  have hL := h5 _ _ hL
  refine lw_6 a₀ ns₀ n md wy P5 hL (Nat.le_trans hcs (by decide)) (fun k P i h => row_right a₀ ns₀ k i _ w P (at_list h (cut_map _ _ _ _))) (fun k P i h => paste_right a₀ ns₀ k i _ w P (at_list h (cut_map _ _ _ _)) (Nat.le_trans (cut_len _ _ _) (by rw [List.length_map] at hcs; exact hcs))) _ _ G sp fun l' O' sp => ?_
  exact sp rfl
end
end Vm
end
section
set_option maxHeartbeats 4000000
open PySem PySem.W PyProof.Rows PySem.Calls
namespace Vm
theorem room : Room callerA (110 + 1) := ⟨rfl, by decide +kernel, by decide +kernel⟩
theorem no_cells : ∀ p ∈ (fnOf (topS 66) []).scope.names, p.2 ≠ NameKind.cell := by
  have e : (fnOf (topS 66) []).scope.names.all (fun p => p.2 != .cell) = true := by kernel_rfl
  intro p hp q
  have := List.all_eq_true.mp e p hp
  rw [q] at this
  exact Bool.noConfusion this
theorem law_walk {prog : Program} {w : World} {s : Shared} {K : Frag} {p : Program} {loose : List Str} {mean : ExcName → Option Value} {mg mb : Str → Option Value} {fa a : Addr} {ns : List Int} {vs : List Value}
    (X : K.In s.heap) (T : Top p loose mean mg mb s.heap) (ok : TabsOk K) (hmg : mg (Str.ofString "law") = some (.ref fa)) (hlaw : nsIn K mainGlobals (Str.ofString "law") = some (some (.ref 359)))
    (hl : s.heap.IsList a vs.toArray) (hi : IntsAre vs ns) (hlen : ns.length ≤ 63) (hseq : ∀ q ∈ seqTab, ((K.lookup q.1).map fun o => o.cls == .type "tuple") = some true) :
    wpG (model prog w) callerA (PySem.call (.ref fa) [.ref a]) (fun v s' => v = .bool true ∧ (∀ b o, s.heap.get? b = some o → s'.heap.get? b = some o) ∧ s'.os = s.os ∧ s'.gens = s.gens) (fun _ _ => False) s := by
  have e : fa = 359 := by
    have := mg_of X T.g hlaw
    rw [hmg] at this
    injection this with q; injection q
  subst e
  have B : Tops prog w s.heap (tabs a ns) K := tops X T ok hl hi
  have hs : (tabs a ns).seqs.lookup a = some (true, ns.map AV.int) := by
    show (seqTab ++ [(a, (true, ns.map AV.int))]).lookup a = _
    rw [List.lookup_append]
    cases q : seqTab.lookup a with
    | none => simp
    | some r =>
      have := hseq _ (mem_lookup q)
      obtain ⟨o, ho, hc⟩ := Option.map_eq_some_iff.mp this
      have ho := X _ _ ho
      obtain ⟨o', ho', hc', _⟩ := hl
      rw [ho] at ho'
      cases ho'
      rw [hc'] at hc
      exact absurd hc (by decide)
  have hfn : (tabs a ns).fns.lookup 359 = some (fnOf (topS 66) []) := by rfl
  refine wpG_call (start_sound (k := fun v _ => v = .bool true) (vs := [.val (.ref a)]) B (sound B (extra prog w) 110) room rfl hfn no_cells rfl (law_true a ns 0 hs hlen _ (Tr.sp _ id)) (fun f l O e => ⟨_, e, rfl⟩) (.cons (.val _) .nil) fun v u O φ h' tk hv rv keep => ?_)
  subst hv
  cases rv
  exact ⟨rfl, keep, rfl, rfl⟩
end Vm
end
section
namespace Vm
open PySem PySem.W PyProof.Rows PySem.Calls
theorem caller_clean : Clean ⟨.builtin "claim.caller" {}, none, none, [], none⟩ := ⟨by show badIds.contains "claim.caller" = false; decide +kernel, fun _ h => nomatch h⟩
theorem thread_endsG {prog : Program} {w : World} {t : Sem Fin} {s : Shared} {R : Result → Shared → Prop} (hreg : s.asleep)
    (h : wpG (model prog w) callerA t (fun fin s' => ∃ f, fin = .done f ∧ (R (.ok f) s' ∧ AllBare s'.gens)) (fun e s' => R (.error e) s' ∧ AllBare s'.gens) s) :
    ∃ n r s' s'', runN (denote table) prog w n s ⟨t, .builtin "claim.caller" {}, default, []⟩ = .halted (outcomeOf r) s' ∧
      schedN (denote table) prog w n (.single s ⟨t, .builtin "claim.caller" {}, default, []⟩) = .halted (outcomeOf r) s' ∧ s'.forget = s''.forget ∧ R r s'' := by
  have z : Sem.wp (model prog w) ⟨.builtin "claim.caller" {}, none, none, [], none⟩ t (Sem.finPost (model prog w) ⟨.builtin "claim.caller" {}, none, none, [], none⟩ fun r s' => R r s' ∧ leftWithCleanup s'.gens = false)
      (fun e _ s' => R (.error e) s' ∧ leftWithCleanup s'.gens = false) default s :=
    Sem.wp_mono _ _ t (fun fin p' s' h' => by
      obtain ⟨f, rfl, hf⟩ := h'
      exact ⟨hf.1, leftWithCleanup_false_of_bare hf.2⟩) (fun _ _ _ h' => ⟨h'.1, leftWithCleanup_false_of_bare h'.2⟩) default s (h _ default caller_in caller_clean)
  obtain ⟨n, r, s₁, s₂, hs, hn, hfo, hR⟩ := wp_halts_full (M := model prog w) (R := R) hreg z
  exact ⟨n, r, s₂, s₁, hn, hs, hfo, hR⟩
noncomputable abbrev WalkR (q : Program) (loose : List Str) (XP : (Str → Option Value) → Heap → Prop) (YP : World → Heap → Prop) (r : RowW) (d : DefRec) (kwd : List (Str × Expr)) : Prop :=
  ∀ (w : World) (s₀ s₁ : Shared) (mg mb : Str → Option Value), Ground q loose r.records XP w s₀ mg mb s₁.heap → YP w s₁.heap → ∀ (a : Addr) (o : Obj) (pm cd doc dV kV : Value), s₁.heap.get? a = some o →
    o.data = .func { docDef d.name d.params d.body d.scope pm cd doc with defaults := dV, kwdefaults := kV } → s₁.heap.CodeRec cd d.name → Dflts mg s₁.heap d.params kwd dV kV → mg d.name = some (.ref a) → s₁.gens = #[] →
    ∀ (args : List WData) (vals : List Value) (as : List Addr), r.claim.pre args = true → WData.layableAll args = true → ReadsAllW r.records (classAt s₀.heap) s₁.heap vals args as → WellAll w.params s₁.heap vals args → (∀ a ∈ as, (a == sysModules) = false) →
      wpG (model r.prog w) callerA (PySem.call (.ref a) vals) (fun v s' => GoodWG r.claim (classAt s₀.heap) (ExcName.means s₀.heap) args s₁ (.ok (.ret v)) s')
        (fun e s' => GoodWG r.claim (classAt s₀.heap) (ExcName.means s₀.heap) args s₁ (.error e) s') s₁
theorem cps {P : Prop} (h : ∀ C : Prop, (P → C) → C) : P := h P id
theorem holds_openR {r : OpenRow} {q : Program} {loose : List Str} {Xt : Shared → Bool} {XP : (Str → Option Value) → Heap → Prop} {α : Type} {Yf : Shared → α} {Ya : World → α} {YP : World → Heap → Prop} {d : DefRec} {kwd : List (Str × Expr)} {N : Nat}
    (left : LeftO r.prog q loose Xt Yf Ya N) (hY : ∀ w s, Yf s = Ya w → YP w s.heap) (hYk : ∀ w h h', YP w h → (∀ b o, h.get? b = some o → h'.get? b = some o) → YP w h')
    (hX : ∀ s, Xt s = true → XP (s.heap.nsMap mainGlobals) s.heap) (hXk : ∀ mg h h', XP mg h → (∀ b o, h.get? b = some o → h'.get? b = some o) → XP mg h')
    (hdef : defOf q r.name = some (d, kwd)) (hp : r.prog.theDef r.name = some (d.params, d.body, d.scope)) (hk : kwWritten? d.params.kwonlyargs d.params.kw_defaults = some kwd) (hRf : ∀ s, Xt s = true → RecFacts r.records s.heap) (hwr : (!r.writes || r.records.isEmpty) = true)
    (k1 : r.wellSaid = true) (ok : (chainsOk q && opensWell r.prog && (frees r.toRowW && r.within.isEmpty)) = true) (hb : r.prog.bare) (hw : r.toRowW.promised)
    (call : WalkR q loose XP YP r.toRowW d kwd) : r.Holds := by
  obtain ⟨ok0, k5⟩ := Bool.and_eq_true_iff.mp ok
  obtain ⟨hch, o1⟩ := Bool.and_eq_true_iff.mp ok0
  obtain ⟨k5, k6⟩ := Bool.and_eq_true_iff.mp k5
  obtain ⟨hsame, hu, ha, hap, hm⟩ := frees_parts k5
  refine ⟨k1, hw, ⟨hb, o1, by show r.makers.map _ = []; rw [hm]; rfl⟩, hw.witness, fun w => ⟨(left.behind hX hch w).1, fun s' hs' => ?_⟩⟩
  refine cps fun C kC => ?_
  obtain ⟨s₀, hf, hg0, s, hT, hz, hgens, hg, G00, y⟩ := (left.behind (XP := fun mg h => XP mg h ∧ RecFacts r.records h) (fun s hs => ⟨hX s hs, hRf s hs⟩) hch w).2 s' hs'
  have G0 : Ground q loose [] XP w s (s.heap.nsMap mainGlobals) (s.heap.nsMap builtinsNs) s.heap := ⟨G00.T, G00.B, G00.D, G00.TE, G00.TD, G00.W, G00.X.1, G00.cls, G00.has, G00.apart, G00.once, G00.K⟩
  have RF := G00.X.2
  refine kC ⟨s₀, hf, hg0, s, hT, fun n hn => ?_, RF.1, RF.2.1, ?_⟩
  · obtain rfl : n = r.name := by split at hn <;> simp_all
    exact pinned_of_view hg G0 hdef hp hk
  have hgens : s.gens = #[] := Array.eq_empty_of_size_eq_zero (beq_iff_eq.mp hgens)
  have G : Ground q loose r.records XP w s _ _ s.heap := RF.ground G0
  intro args hpre hlay ord hord
  refine cps fun C kC => ?_
  obtain ⟨⟨vs, s₁⟩, hlaid⟩ := Option.isSome_iff_exists.mp (layAllW_isSome (P := w.params) (ord := ord) G.has args r.args s (pre_splitW (r := r.toRowW) hpre).1)
  have keeps := layAllW_keeps _ _ _ hlaid
  have hal := layAllW_rest _ _ _ hlaid
  obtain ⟨as, hrd, hin, hold⟩ := reads_layAllW hord _ _ _ hlaid hlay s₁.heap (fun _ _ e => e)
  have L : Laid r.records w s s₁ args vs as := ⟨⟨ord, hord, hlaid⟩, hrd, hin, hold, keeps, hal.1.trans hgens, hal.2.2.1⟩
  have G₁ := G.keeps hXk keeps
  have hi := ident_freeW hu ha hap
  have hwi : r.toRowW.claim.within = [] := List.isEmpty_iff.mp k6
  obtain ⟨a, o, pm, cd, doc, dV, kV, h1, h2, h3, h4, h5⟩ := G₁.fn hdef
  have walk := call w s s₁ _ _ G₁ (hYk _ _ _ (hY w s y) keeps) a o pm cd doc dV kV h2 h3 h4 h5 (defOf_name hdef ▸ h1) L.gens args vs as hpre hlay L.reads L.well (L.low G.low)
  have ends : ∀ res s', GoodWG r.toRowW.claim (classAt s.heap) (ExcName.means s.heap) args s₁ res s' → (r.toRowW.claim.Ends s args vs s₁ res s' ∧ s'.os = s.os ∧
      (r.writes = true → namesKept r.prog r.keeps s.heap s'.heap ∧ ∀ x ∈ r.records, ∀ a, classAt s.heap x.1 = some a → recordClass s'.heap a x.1 (x.2.map (·.1)) = true)) ∧ AllBare s'.gens := fun res s' g =>
    have z := g.laid (c := r.toRowW.claim) hsame hwi hi L
    ⟨⟨z.1, z.2.1, fun q => ⟨namesKept_of hT hg r.keeps keeps g.2.1.old, noTable hwr q⟩⟩, z.2.2⟩
  obtain ⟨k, res, s2, s3, hrun, hsched, hfo, hcase, hos, hkp⟩ := thread_endsG (prog := r.prog) (w := w) (s := s₁)
    (t := do match ← nsGet mainNs r.name with
      | some f => do ret (← PySem.call f vs)
      | none => unsupported "claim.caller:no-such-global")
    (R := fun res s' => r.toRowW.claim.Ends s args vs s₁ res s' ∧ s'.os = s.os ∧
      (r.writes = true → namesKept r.prog r.keeps s.heap s'.heap ∧ ∀ x ∈ r.records, ∀ a, classAt s.heap x.1 = some a → recordClass s'.heap a x.1 (x.2.map (·.1)) = true))
    (Shared.asleep_of_life hal.2.2.2 hz)
    (wpG_bind (wpG_of (wpAny_nsGet G₁.T.g (by
      rw [h1]
      exact wpG_bind (wpG_mono walk (fun v s' g => wpG_pure ⟨_, rfl, ends _ _ g⟩) fun e s' g => ends _ _ g)))))
  obtain ⟨eh, _, _, eo, _⟩ := Shared.forget_eq hfo
  have hcase := hcase.congr eh
  rw [← eh] at hkp
  rw [← eo] at hos
  have hlife : s2.heap.life = s.heap.life := (runN_life _ _ _ hrun).trans hal.2.2.2
  refine kC ⟨vs, s₁, hlaid, k, _, s2, hsched, ?_, (fun _ i x hx => by rw [hgens] at hx; simp at hx), hkp, by rw [hlife], Shared.rest_eq hos⟩
  rcases hcase with ⟨v, rfl, d1, d2, d3, d4, d5⟩ | ⟨e, ob, cls, rfl, d1, d2, d3, d4, d5⟩
  · exact .inl ⟨v, rfl, d1, d2, d3, fun b o y _ => d4 b o y, d5⟩
  · exact .inr ⟨e, ob, cls, rfl, d1, d2, d3, d4, fun b o y _ => d5 b o y⟩
end Vm
end
section
set_option maxHeartbeats 4000000
open PySem PySem.W PyProof.Rows
namespace Vm
theorem law_at {K : Frag} (h : (match nsIn K mainGlobals (Str.ofString "law") with | some (some (.ref a)) => a == 359 | _ => false) = true) : nsIn K mainGlobals (Str.ofString "law") = some (some (.ref 359)) := by
  split at h
  · rename_i e
    rw [e, beq_iff_eq.mp h]
  · cases h
end Vm
set_option maxHeartbeats 4000000 in
theorem PySem.Challenge.cw_og0261_01_holds : PySem.Challenge.rw_og0261_01.Holds := by
  refine holds_law Vm.said fun said => ?_
  refine Vm.holds_openR (r := Vm.lawRow) (q := Vm.qv) (loose := Vm.looseN) (Xt := fun _ => true) (XP := fun _ _ => True) (YP := fun _ h => Vm.TopSays h) Vm.left (fun w s e => of_eq_true e) (fun _ _ _ t k => t.keeps k) (fun _ _ => trivial) (fun _ _ _ _ _ => trivial) Vm.law_def0 Vm.law_def Vm.law_kw (fun _ _ => recFacts_nil rfl) rfl said Vm.law_ok Vm.law_bare Vm.law_promised ?_
  intro w s₀ s₁ mg mb G Y fa o pm cd doc dV kV ho hd hcd hD hmg hg args vals as hpre hlay hrd hwl hlo
  obtain ⟨K, KX, c, hsees⟩ := Y
  have TT := G.T
  wrow_args hpre hlay hrd hwl hlo
  have hm : mg (PySem.Str.ofString "law") = some (.ref fa) := hmg
  clear hmg ho hd hcd hD G
  obtain ⟨ca, c⟩ := c
  obtain ⟨c1, c2⟩ := Bool.and_eq_true_iff.mp ca
  obtain ⟨c3, c⟩ := Bool.and_eq_true_iff.mp c
  obtain ⟨c4, c⟩ := Bool.and_eq_true_iff.mp c
  obtain ⟨c5, c⟩ := Bool.and_eq_true_iff.mp c
  obtain ⟨c6, c⟩ := Bool.and_eq_true_iff.mp c
  obtain ⟨c7, c8⟩ := Bool.and_eq_true_iff.mp c
  refine Vm.wpG_mono (Vm.law_walk (mg := mg) KX TT ⟨c1, c2, c3, hsees, c4, c5, c6⟩ hm (Vm.law_at c7) (by assumption) (by assumption) (by omega) fun q hq => beq_iff_eq.mp (List.all_eq_true.mp c8 q hq)) (fun v s' hv => ?_) (fun _ _ f => f.elim)
  obtain ⟨rfl, k, os, gens⟩ := hv
  refine GoodW.toG ⟨.inl ⟨.bool true, .bool true, [], rfl, fun cls => by rfl, .bool _, ?_, fun _ => ⟨List.nodup_nil, fun _ h => nomatch h⟩⟩, k, os, gens.trans hg⟩
  wrow_post
end
